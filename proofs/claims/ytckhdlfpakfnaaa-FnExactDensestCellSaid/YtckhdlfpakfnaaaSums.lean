/-
  WHAT THE SMALL FUNCTIONS OF THIS SEAT COME TO, each a summary proved by a walk. Conditions: none.
-/
import Derived.Test.YtckhdlfpakfnaaaSxC
import Derived.Test.YtckhdlfpakfnaaaProg
set_option maxRecDepth 100000
namespace Go.Proofs.Ytckhdlfpakfnaaa
open Go.Sx
def ext : List (Nat × Ext) := [(93, .f32bits), (97, .f64bits)]
theorem hN : NoNum Try.prog := noNum_of (by kernel_rfl)
theorem hX : ExtOk Try.prog ext := by
  intro p hp _
  rcases List.mem_cons.1 hp with rfl | hp
  · exact ⟨Try.f93, Try.func93, by kernel_rfl, by kernel_rfl, by kernel_rfl, by kernel_rfl⟩
  rcases List.mem_cons.1 hp with rfl | hp
  · exact ⟨Try.f97, Try.func97, by kernel_rfl, by kernel_rfl, by kernel_rfl, by kernel_rfl⟩
  cases hp
def sAmtS : Summ := ⟨77, [sF 0], [], sB (.u .amt (.at 0))⟩
def sAmtSs : List Summ := sAmtS :: []
theorem sAmtSOk : AllOk Try.prog sAmtSs := .tree hN hX (.nil _) (n := 3) (T := tAmtS) (by kernel_rfl) hand_amtS
def sAmtI : Summ := ⟨83, [sF 0], [], sB (.u .amt (.at 0))⟩
def sAmtIs : List Summ := sAmtI :: sAmtSs
theorem sAmtIOk : AllOk Try.prog sAmtIs := .tree hN hX sAmtSOk (n := 3) (T := tAmtI) (by kernel_rfl) hand_amtI
def sShrS : Summ := ⟨54, [sF 0], [], sB (.u .shr (.at 0))⟩
def sShrSs : List Summ := sShrS :: sAmtIs
theorem sShrSOk : AllOk Try.prog sShrSs := .add hN hX sAmtIOk (n := 3) (by kernel_rfl)
def sShrI : Summ := ⟨58, [sF 0], [], sB (.u .shr (.at 0))⟩
def sShrIs : List Summ := sShrI :: sShrSs
theorem sShrIOk : AllOk Try.prog sShrIs := .add hN hX sShrSOk (n := 3) (by kernel_rfl)
def sLessS : Summ := ⟨55, [sF 0, sF 1], [], .p (.one (.s (.f .f32) (.b .less (.at 0) (.at 1))))⟩
def sLessSs : List Summ := sLessS :: sShrIs
theorem sLessSOk : AllOk Try.prog sLessSs := .add hN hX sShrIOk (n := 3) (by kernel_rfl)
def sLessI : Summ := ⟨59, [sF 0, sF 1], [], .p (.one (.s (.f .f32) (.b .less (.at 0) (.at 1))))⟩
def sLessIs : List Summ := sLessI :: sLessSs
theorem sLessIOk : AllOk Try.prog sLessIs := .add hN hX sLessSOk (n := 3) (by kernel_rfl)
def sHeldS : Summ := ⟨62, [sF 0], [], .p (.one (.s (.f .f32) (.u .held (.at 0))))⟩
def sHeldSs : List Summ := sHeldS :: sLessIs
theorem sHeldSOk : AllOk Try.prog sHeldSs := .add hN hX sLessIOk (n := 3) (by kernel_rfl)
def sHeldI : Summ := ⟨64, [sF 0], [], .p (.one (.s (.f .f32) (.u .held (.at 0))))⟩
def sHeldIs : List Summ := sHeldI :: sHeldSs
theorem sHeldIOk : AllOk Try.prog sHeldIs := .add hN hX sHeldSOk (n := 3) (by kernel_rfl)
def sGreatI : Summ := ⟨80, [sF 0, sF 1], [], .p (.one (.s (.f .f32) (.b .great (.at 0) (.at 1))))⟩
def sGreatIs : List Summ := sGreatI :: sHeldIs
theorem sGreatIOk : AllOk Try.prog sGreatIs := .add hN hX sHeldIOk (n := 3) (by kernel_rfl)
def sFloat : Summ := ⟨18, [sD 0, sD 0], [], sB (.n 1)⟩
def sFloats : List Summ := sFloat :: sGreatIs
theorem sFloatOk : AllOk Try.prog sFloats := .add hN hX sGreatIOk (n := 3) (by kernel_rfl)
def sRoadI : Summ := ⟨48, [fAgg 0 19], [], sB (okRoad 0)⟩
def sRoadIs : List Summ := sRoadI :: sFloats
theorem sRoadIOk : AllOk Try.prog sRoadIs := .add hN hX sFloatOk (n := 5) (by kernel_rfl)
def sRoadS : Summ := ⟨46, [.p (.one (.ptr 0 0))], [fls 0 19], sB (okRoad 0)⟩
def sRoadSs : List Summ := sRoadS :: sRoadIs
theorem sRoadSOk : AllOk Try.prog sRoadSs := .add hN hX sRoadIOk (n := 5) (by kernel_rfl)
def allS : List Summ := sRoadSs
theorem allOk : AllOk Try.prog allS := sRoadSOk
end Go.Proofs.Ytckhdlfpakfnaaa
