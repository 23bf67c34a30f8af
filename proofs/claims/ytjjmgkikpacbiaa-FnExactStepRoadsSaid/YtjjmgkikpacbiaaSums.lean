/-
  WHAT THE SMALL FUNCTIONS OF THIS SEAT COME TO, each a summary proved by a walk. Conditions: none.
-/
import Derived.Test.YtjjmgkikpacbiaaSxC
import Derived.Test.YtjjmgkikpacbiaaProg
set_option maxRecDepth 100000
namespace Go.Proofs.Ytjjmgkikpacbiaa
open Go.Sx
def ext : List (Nat × Ext) := [(61, .f32bits), (75, .f64bits)]
theorem hN : NoNum Try.prog := noNum_of (by kernel_rfl)
theorem hX : ExtOk Try.prog ext := by
  refine extOk_of ?_ rfl
  intro p hp _
  rcases List.mem_cons.1 hp with rfl | hp
  · exact ⟨Try.f61, Try.func61, by kernel_rfl, by kernel_rfl, by kernel_rfl, by kernel_rfl⟩
  rcases List.mem_cons.1 hp with rfl | hp
  · exact ⟨Try.f75, Try.func75, by kernel_rfl, by kernel_rfl, by kernel_rfl, by kernel_rfl⟩
  cases hp
def sAmtS : Summ := ⟨35, [sF 0], [], sB (.u .amt (.at 0))⟩
def sAmtSs : List Summ := sAmtS :: []
theorem sAmtSOk : AllOk Try.prog sAmtSs := .tree hN hX (.nil _) (n := 3) (T := tAmtS) (by kernel_rfl) hand_amtS
def sAmtI : Summ := ⟨41, [sF 0], [], sB (.u .amt (.at 0))⟩
def sAmtIs : List Summ := sAmtI :: sAmtSs
theorem sAmtIOk : AllOk Try.prog sAmtIs := .tree hN hX sAmtSOk (n := 3) (T := tAmtI) (by kernel_rfl) hand_amtI
def sShrS : Summ := ⟨60, [sF 0], [], sB (.u .shr (.at 0))⟩
def sShrSs : List Summ := sShrS :: sAmtIs
theorem sShrSOk : AllOk Try.prog sShrSs := .add hN hX sAmtIOk (n := 3) (by kernel_rfl)
def sShrI : Summ := ⟨71, [sF 0], [], sB (.u .shr (.at 0))⟩
def sShrIs : List Summ := sShrI :: sShrSs
theorem sShrIOk : AllOk Try.prog sShrIs := .add hN hX sShrSOk (n := 3) (by kernel_rfl)
def sLessS : Summ := ⟨47, [sF 0, sF 1], [], .p (.one (.s (.f .f32) (.b .less (.at 0) (.at 1))))⟩
def sLessSs : List Summ := sLessS :: sShrIs
theorem sLessSOk : AllOk Try.prog sLessSs := .add hN hX sShrIOk (n := 3) (by kernel_rfl)
def sLessI : Summ := ⟨66, [sF 0, sF 1], [], .p (.one (.s (.f .f32) (.b .less (.at 0) (.at 1))))⟩
def sLessIs : List Summ := sLessI :: sLessSs
theorem sLessIOk : AllOk Try.prog sLessIs := .add hN hX sLessSOk (n := 3) (by kernel_rfl)
def sHeldS : Summ := ⟨51, [sF 0], [], .p (.one (.s (.f .f32) (.u .held (.at 0))))⟩
def sHeldSs : List Summ := sHeldS :: sLessIs
theorem sHeldSOk : AllOk Try.prog sHeldSs := .add hN hX sLessIOk (n := 3) (by kernel_rfl)
def sHeldI : Summ := ⟨69, [sF 0], [], .p (.one (.s (.f .f32) (.u .held (.at 0))))⟩
def sHeldIs : List Summ := sHeldI :: sHeldSs
theorem sHeldIOk : AllOk Try.prog sHeldIs := .add hN hX sHeldSOk (n := 3) (by kernel_rfl)
def sFloat : Summ := ⟨12, [sD 0, sD 0], [], sB (.n 1)⟩
def sFloats : List Summ := sFloat :: sHeldIs
theorem sFloatOk : AllOk Try.prog sFloats := .add hN hX sHeldIOk (n := 3) (by kernel_rfl)
def sToRoad : Summ := ⟨9, [fAgg 0 19], [], fAgg 0 19⟩
def sToRoads : List Summ := sToRoad :: sFloats
theorem sToRoadOk : AllOk Try.prog sToRoads := .add hN hX sFloatOk (n := 6) (by kernel_rfl)
def sEqRoad : Summ := ⟨11, [fAgg 0 19, fAgg 0 19], [], sB (.n 1)⟩
def sEqRoads : List Summ := sEqRoad :: sToRoads
theorem sEqRoadOk : AllOk Try.prog sEqRoads := .add hN hX sToRoadOk (n := 6) (by kernel_rfl)
def sRoadI : Summ := ⟨54, [fAgg 0 19], [], sB (okRoad 0)⟩
def sRoadIs : List Summ := sRoadI :: sEqRoads
theorem sRoadIOk : AllOk Try.prog sRoadIs := .add hN hX sEqRoadOk (n := 5) (by kernel_rfl)
def sRoadS : Summ := ⟨34, [.p (.one (.ptr 0 0))], [fls 0 19], sB (okRoad 0)⟩
def sRoadSs : List Summ := sRoadS :: sRoadIs
theorem sRoadSOk : AllOk Try.prog sRoadSs := .add hN hX sRoadIOk (n := 5) (by kernel_rfl)
def sFullS : Summ := ⟨40, [.p (.one (.ptr 0 0))], [fls 0 19], sB fullE⟩
def sFullSs : List Summ := sFullS :: sRoadSs
theorem sFullSOk : AllOk Try.prog sFullSs := .add hN hX sRoadSOk (n := 6) (by kernel_rfl)
def sFullI : Summ := ⟨42, [fAgg 0 19], [], sB fullE⟩
def sFullIs : List Summ := sFullI :: sFullSs
theorem sFullIOk : AllOk Try.prog sFullIs := .add hN hX sFullSOk (n := 6) (by kernel_rfl)
def allS : List Summ := sFullIs
theorem allOk : AllOk Try.prog allS := sFullIOk
end Go.Proofs.Ytjjmgkikpacbiaa
