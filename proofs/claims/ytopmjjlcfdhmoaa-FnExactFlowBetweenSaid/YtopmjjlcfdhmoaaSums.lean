/-
  WHAT THE SMALL FUNCTIONS OF THIS SEAT COME TO, each a summary proved by a walk. Conditions: none.
-/
import Derived.Test.YtopmjjlcfdhmoaaSxC
import Derived.Test.YtopmjjlcfdhmoaaProg
set_option maxRecDepth 100000
namespace Go.Proofs.Ytopmjjlcfdhmoaa
open Go.Sx
def ext : List (Nat × Ext) := [(82, .f32bits), (81, .f64bits)]
theorem hN : NoNum Try.prog := noNum_of (by kernel_rfl)
theorem hX : ExtOk Try.prog ext := by
  intro p hp
  rcases List.mem_cons.1 hp with rfl | hp
  · exact ⟨Try.f82, Try.func82, by kernel_rfl, by kernel_rfl, by kernel_rfl, by kernel_rfl⟩
  rcases List.mem_cons.1 hp with rfl | hp
  · exact ⟨Try.f81, Try.func81, by kernel_rfl, by kernel_rfl, by kernel_rfl, by kernel_rfl⟩
  cases hp
def sBits : Summ := ⟨74, [sF 0], [], .p (.one (.s (.i .u32) (.at 0)))⟩
def sBitss : List Summ := sBits :: []
theorem sBitsOk : AllOk Try.prog sBitss := .tree hN hX (.nil _) (n := 3) (T := tBits) (by kernel_rfl) hand_bits
def sSameS : Summ := ⟨72, [sF 0, sF 1], [], sB (.b (.ic .eq) (.at 0) (.at 1))⟩
def sSameSs : List Summ := sSameS :: sBitss
theorem sSameSOk : AllOk Try.prog sSameSs := .tree hN hX sBitsOk (n := 3) (T := tSame) (by kernel_rfl) hand_same
def sSameI : Summ := ⟨48, [sF 0, sF 1], [], sB (.b (.ic .eq) (.at 0) (.at 1))⟩
def sSameIs : List Summ := sSameI :: sSameSs
theorem sSameIOk : AllOk Try.prog sSameIs := .add hN hX sSameSOk (n := 3) (by kernel_rfl)
def sAmtS : Summ := ⟨75, [sF 0], [], sB (.u .amt (.at 0))⟩
def sAmtSs : List Summ := sAmtS :: sSameIs
theorem sAmtSOk : AllOk Try.prog sAmtSs := .tree hN hX sSameIOk (n := 3) (T := tAmtS) (by kernel_rfl) hand_amtS
def sAmtI : Summ := ⟨45, [sF 0], [], sB (.u .amt (.at 0))⟩
def sAmtIs : List Summ := sAmtI :: sAmtSs
theorem sAmtIOk : AllOk Try.prog sAmtIs := .tree hN hX sAmtSOk (n := 3) (T := tAmtI) (by kernel_rfl) hand_amtI
def sShrS : Summ := ⟨50, [sF 0], [], sB (.u .shr (.at 0))⟩
def sShrSs : List Summ := sShrS :: sAmtIs
theorem sShrSOk : AllOk Try.prog sShrSs := .add hN hX sAmtIOk (n := 3) (by kernel_rfl)
def sShrI : Summ := ⟨44, [sF 0], [], sB (.u .shr (.at 0))⟩
def sShrIs : List Summ := sShrI :: sShrSs
theorem sShrIOk : AllOk Try.prog sShrIs := .add hN hX sShrSOk (n := 3) (by kernel_rfl)
def sLessS : Summ := ⟨66, [sF 0, sF 1], [], .p (.one (.s (.f .f32) (.b .less (.at 0) (.at 1))))⟩
def sLessSs : List Summ := sLessS :: sShrIs
theorem sLessSOk : AllOk Try.prog sLessSs := .add hN hX sShrIOk (n := 3) (by kernel_rfl)
def sLessI : Summ := ⟨67, [sF 0, sF 1], [], .p (.one (.s (.f .f32) (.b .less (.at 0) (.at 1))))⟩
def sLessIs : List Summ := sLessI :: sLessSs
theorem sLessIOk : AllOk Try.prog sLessIs := .add hN hX sLessSOk (n := 3) (by kernel_rfl)
def sFloat : Summ := ⟨29, [sD 0, sD 0], [], sB (.n 1)⟩
def sFloats : List Summ := sFloat :: sLessIs
theorem sFloatOk : AllOk Try.prog sFloats := .add hN hX sLessIOk (n := 3) (by kernel_rfl)
def sSameRI : Summ := ⟨19, [fAgg 0 19, fAgg 19 19], [], sB (sameAll 19)⟩
def sSameRIs : List Summ := sSameRI :: sFloats
theorem sSameRIOk : AllOk Try.prog sSameRIs := .add hN hX sFloatOk (n := 6) (by kernel_rfl)
def sSameRS : Summ := ⟨46, [.p (.one (.ptr 0 0)), .p (.one (.ptr 1 0))], [fls 0 19, fls 19 19], sB (sameAll 19)⟩
def sSameRSs : List Summ := sSameRS :: sSameRIs
theorem sSameRSOk : AllOk Try.prog sSameRSs := .add hN hX sSameRIOk (n := 6) (by kernel_rfl)
def sRoadI : Summ := ⟨17, [fAgg 0 19], [], sB (okRoad 0)⟩
def sRoadIs : List Summ := sRoadI :: sSameRSs
theorem sRoadIOk : AllOk Try.prog sRoadIs := .add hN hX sSameRSOk (n := 5) (by kernel_rfl)
def sRoadS : Summ := ⟨42, [.p (.one (.ptr 0 0))], [fls 0 19], sB (okRoad 0)⟩
def sRoadSs : List Summ := sRoadS :: sRoadIs
theorem sRoadSOk : AllOk Try.prog sRoadSs := .add hN hX sRoadIOk (n := 5) (by kernel_rfl)
def allS : List Summ := sRoadSs
theorem allOk : AllOk Try.prog allS := sRoadSOk
end Go.Proofs.Ytopmjjlcfdhmoaa
