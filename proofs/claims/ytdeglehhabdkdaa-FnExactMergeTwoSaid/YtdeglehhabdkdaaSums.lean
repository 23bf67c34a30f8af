/-
  WHAT THE SMALL FUNCTIONS OF THIS SEAT COME TO, each a summary proved by a walk. Conditions: none.
-/
import Derived.Test.YtdeglehhabdkdaaSxC
import Derived.Test.YtdeglehhabdkdaaProg
set_option maxRecDepth 100000
namespace Go.Proofs.Ytdeglehhabdkdaa
open Go.Sx
def ext : List (Nat × Ext) := [(88, .f32bits), (100, .f64bits)]
theorem hN : NoNum Try.prog := noNum_of (by kernel_rfl)
theorem hX : ExtOk Try.prog ext := by
  intro p hp _
  rcases List.mem_cons.1 hp with rfl | hp
  · exact ⟨Try.f88, Try.func88, by kernel_rfl, by kernel_rfl, by kernel_rfl, by kernel_rfl⟩
  rcases List.mem_cons.1 hp with rfl | hp
  · exact ⟨Try.f100, Try.func100, by kernel_rfl, by kernel_rfl, by kernel_rfl, by kernel_rfl⟩
  cases hp
def sBits : Summ := ⟨114, [sF 0], [], .p (.one (.s (.i .u32) (.at 0)))⟩
def sBitss : List Summ := sBits :: []
theorem sBitsOk : AllOk Try.prog sBitss := .tree hN hX (.nil _) (n := 3) (T := tBits) (by kernel_rfl) hand_bits
def sSameS : Summ := ⟨85, [sF 0, sF 1], [], sB (.b (.ic .eq) (.at 0) (.at 1))⟩
def sSameSs : List Summ := sSameS :: sBitss
theorem sSameSOk : AllOk Try.prog sSameSs := .tree hN hX sBitsOk (n := 3) (T := tSame) (by kernel_rfl) hand_same
def sSameI : Summ := ⟨99, [sF 0, sF 1], [], sB (.b (.ic .eq) (.at 0) (.at 1))⟩
def sSameIs : List Summ := sSameI :: sSameSs
theorem sSameIOk : AllOk Try.prog sSameIs := .add hN hX sSameSOk (n := 3) (by kernel_rfl)
def sAmtS : Summ := ⟨59, [sF 0], [], sB (.u .amt (.at 0))⟩
def sAmtSs : List Summ := sAmtS :: sSameIs
theorem sAmtSOk : AllOk Try.prog sAmtSs := .tree hN hX sSameIOk (n := 3) (T := tAmtS) (by kernel_rfl) hand_amtS
def sAmtI : Summ := ⟨62, [sF 0], [], sB (.u .amt (.at 0))⟩
def sAmtIs : List Summ := sAmtI :: sAmtSs
theorem sAmtIOk : AllOk Try.prog sAmtIs := .tree hN hX sAmtSOk (n := 3) (T := tAmtI) (by kernel_rfl) hand_amtI
def sShrS : Summ := ⟨60, [sF 0], [], sB (.u .shr (.at 0))⟩
def sShrSs : List Summ := sShrS :: sAmtIs
theorem sShrSOk : AllOk Try.prog sShrSs := .add hN hX sAmtIOk (n := 3) (by kernel_rfl)
def sShrI : Summ := ⟨56, [sF 0], [], sB (.u .shr (.at 0))⟩
def sShrIs : List Summ := sShrI :: sShrSs
theorem sShrIOk : AllOk Try.prog sShrIs := .add hN hX sShrSOk (n := 3) (by kernel_rfl)
def sLessS : Summ := ⟨61, [sF 0, sF 1], [], .p (.one (.s (.f .f32) (.b .less (.at 0) (.at 1))))⟩
def sLessSs : List Summ := sLessS :: sShrIs
theorem sLessSOk : AllOk Try.prog sLessSs := .add hN hX sShrIOk (n := 3) (by kernel_rfl)
def sLessI : Summ := ⟨66, [sF 0, sF 1], [], .p (.one (.s (.f .f32) (.b .less (.at 0) (.at 1))))⟩
def sLessIs : List Summ := sLessI :: sLessSs
theorem sLessIOk : AllOk Try.prog sLessIs := .add hN hX sLessSOk (n := 3) (by kernel_rfl)
def sNoth : Summ := ⟨58, [sF 0], [], sB (eNothing (.at 0))⟩
def sNoths : List Summ := sNoth :: sLessIs
theorem sNothOk : AllOk Try.prog sNoths := .tree hN hX sLessIOk (n := 3) (T := tNothing) (by kernel_rfl) hand_nothing
def sFloat : Summ := ⟨31, [sD 0, sD 0], [], sB (.n 1)⟩
def sFloats : List Summ := sFloat :: sNoths
theorem sFloatOk : AllOk Try.prog sFloats := .add hN hX sNothOk (n := 3) (by kernel_rfl)
def sToJun : Summ := ⟨21, [.p (.agg (jun 0))], [], .p (.agg (jun 0))⟩
def sToJuns : List Summ := sToJun :: sFloats
theorem sToJunOk : AllOk Try.prog sToJuns := .add hN hX sFloatOk (n := 6) (by kernel_rfl)
def sEqJun : Summ := ⟨25, [.p (.agg (jun 0)), .p (.agg (jun 0))], [], sB (.n 1)⟩
def sEqJuns : List Summ := sEqJun :: sToJuns
theorem sEqJunOk : AllOk Try.prog sEqJuns := .add hN hX sToJunOk (n := 6) (by kernel_rfl)
def sSameJI : Summ := ⟨22, [.p (.agg (jun 0)), .p (.agg (jun 22))], [], sB (sameAll 22)⟩
def sSameJIs : List Summ := sSameJI :: sEqJuns
theorem sSameJIOk : AllOk Try.prog sSameJIs := .add hN hX sEqJunOk (n := 6) (by kernel_rfl)
def sSameJS : Summ := ⟨48, [.p (.one (.ptr 0 0)), .p (.one (.ptr 1 0))], [jun 0, jun 22], sB (sameAll 22)⟩
def sSameJSs : List Summ := sSameJS :: sSameJIs
theorem sSameJSOk : AllOk Try.prog sSameJSs := .add hN hX sSameJIOk (n := 6) (by kernel_rfl)
def baseS : List Summ := sSameJSs
theorem baseOk : AllOk Try.prog baseS := sSameJSOk
end Go.Proofs.Ytdeglehhabdkdaa
