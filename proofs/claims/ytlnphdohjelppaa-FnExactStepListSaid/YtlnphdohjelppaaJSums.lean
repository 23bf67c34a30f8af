/-
  WHAT THE SMALL FUNCTIONS OF THIS SEAT COME TO, each a summary proved by a walk. Conditions: none.
-/
import Derived.Test.YtlnphdohjelppaaSxC
import Derived.Test.YtlnphdohjelppaaProg
set_option maxRecDepth 100000
namespace Go.Proofs.Ytlnphdohjelppaa
open Go.Sx
def ext : List (Nat × Ext) := [(23, .f32bits), (45, .f64bits)]
theorem hN : NoNum Try.prog := noNum_of (by kernel_rfl)
theorem hX : ExtOk Try.prog ext := by
  refine extOk_of ?_ rfl
  intro p hp _
  rcases List.mem_cons.1 hp with rfl | hp
  · exact ⟨Try.f23, Try.func23, by kernel_rfl, by kernel_rfl, by kernel_rfl, by kernel_rfl⟩
  rcases List.mem_cons.1 hp with rfl | hp
  · exact ⟨Try.f45, Try.func45, by kernel_rfl, by kernel_rfl, by kernel_rfl, by kernel_rfl⟩
  cases hp
def sAmtS : Summ := ⟨12, [sF 0], [], sB (.u .amt (.at 0))⟩
def sAmtSs : List Summ := sAmtS :: []
theorem sAmtSOk : AllOk Try.prog sAmtSs := .tree hN hX (.nil _) (n := 3) (T := tAmtS) (by kernel_rfl) hand_amtS
def sAmtI : Summ := ⟨35, [sF 0], [], sB (.u .amt (.at 0))⟩
def sAmtIs : List Summ := sAmtI :: sAmtSs
theorem sAmtIOk : AllOk Try.prog sAmtIs := .tree hN hX sAmtSOk (n := 3) (T := tAmtI) (by kernel_rfl) hand_amtI
def sShrS : Summ := ⟨21, [sF 0], [], sB (.u .shr (.at 0))⟩
def sShrSs : List Summ := sShrS :: sAmtIs
theorem sShrSOk : AllOk Try.prog sShrSs := .add hN hX sAmtIOk (n := 3) (by kernel_rfl)
def sShrI : Summ := ⟨38, [sF 0], [], sB (.u .shr (.at 0))⟩
def sShrIs : List Summ := sShrI :: sShrSs
theorem sShrIOk : AllOk Try.prog sShrIs := .add hN hX sShrSOk (n := 3) (by kernel_rfl)
def sLessS : Summ := ⟨24, [sF 0, sF 1], [], .p (.one (.s (.f .f32) (.b .less (.at 0) (.at 1))))⟩
def sLessSs : List Summ := sLessS :: sShrIs
theorem sLessSOk : AllOk Try.prog sLessSs := .add hN hX sShrIOk (n := 3) (by kernel_rfl)
def sLessI : Summ := ⟨46, [sF 0, sF 1], [], .p (.one (.s (.f .f32) (.b .less (.at 0) (.at 1))))⟩
def sLessIs : List Summ := sLessI :: sLessSs
theorem sLessIOk : AllOk Try.prog sLessIs := .add hN hX sLessSOk (n := 3) (by kernel_rfl)
def sHeldS : Summ := ⟨28, [sF 0], [], .p (.one (.s (.f .f32) (.u .held (.at 0))))⟩
def sHeldSs : List Summ := sHeldS :: sLessIs
theorem sHeldSOk : AllOk Try.prog sHeldSs := .add hN hX sLessIOk (n := 3) (by kernel_rfl)
def sHeldI : Summ := ⟨50, [sF 0], [], .p (.one (.s (.f .f32) (.u .held (.at 0))))⟩
def sHeldIs : List Summ := sHeldI :: sHeldSs
theorem sHeldIOk : AllOk Try.prog sHeldIs := .add hN hX sHeldSOk (n := 3) (by kernel_rfl)
def sFloat : Summ := ⟨9, [sD 0, sD 0], [], sB (.n 1)⟩
def sFloats : List Summ := sFloat :: sHeldIs
theorem sFloatOk : AllOk Try.prog sFloats := .add hN hX sHeldIOk (n := 3) (by kernel_rfl)
def sToRoad : Summ := ⟨5, [fAgg 0 19], [], fAgg 0 19⟩
def sToRoads : List Summ := sToRoad :: sFloats
theorem sToRoadOk : AllOk Try.prog sToRoads := .add hN hX sFloatOk (n := 6) (by kernel_rfl)
def sEqRoad : Summ := ⟨8, [fAgg 0 19, fAgg 0 19], [], sB (.n 1)⟩
def sEqRoads : List Summ := sEqRoad :: sToRoads
theorem sEqRoadOk : AllOk Try.prog sEqRoads := .add hN hX sToRoadOk (n := 6) (by kernel_rfl)
def sRoadI : Summ := ⟨31, [fAgg 0 19], [], sB (okRoad 0)⟩
def sRoadIs : List Summ := sRoadI :: sEqRoads
theorem sRoadIOk : AllOk Try.prog sRoadIs := .add hN hX sEqRoadOk (n := 5) (by kernel_rfl)
def sRoadS : Summ := ⟨11, [.p (.one (.ptr 0 0))], [fls 0 19], sB (okRoad 0)⟩
def sRoadSs : List Summ := sRoadS :: sRoadIs
theorem sRoadSOk : AllOk Try.prog sRoadSs := .add hN hX sRoadIOk (n := 5) (by kernel_rfl)
/-- The first way's outcome. -/
noncomputable def leafOf {α : Type} : Tree (SV × α) → SV
  | .leaf x => x.1
  | .br _ t _ => leafOf t
  | .fail _ => .p (.one .any)
noncomputable def sStepI : Summ := ⟨36, [fAgg 0 19, sF 19, sF 20], [], leafOf (callRun Try.prog (deep Try.prog ext sRoadSs 6) 40 36 [fAgg 0 19, sF 19, sF 20] (Summ.hp ⟨36, [fAgg 0 19, sF 19, sF 20], [], .p (.one .any)⟩) [])⟩
noncomputable def sStepIs : List Summ := sStepI :: sRoadSs
theorem sStepIOk : AllOk Try.prog sStepIs := .add hN hX sRoadSOk (n := 6) (by kernel_rfl)
noncomputable def sFlows : Summ := ⟨13, [.p (.one (.ptr 0 0)), sF 19, sF 20], [fls 0 19], leafOf (callRun Try.prog (deep Try.prog ext sStepIs 6) 40 13 [.p (.one (.ptr 0 0)), sF 19, sF 20] (Summ.hp ⟨13, [.p (.one (.ptr 0 0)), sF 19, sF 20], [fls 0 19], .p (.one .any)⟩) [])⟩
noncomputable def sFlowss : List Summ := sFlows :: sStepIs
theorem sFlowsOk : AllOk Try.prog sFlowss := .add hN hX sStepIOk (n := 6) (by kernel_rfl)
noncomputable def sStepS : Summ := ⟨14, [.p (.one (.ptr 0 0)), .p (.one (.ptr 1 0))], [fls 0 19, fls 19 17], leafOf (callRun Try.prog (deep Try.prog ext sFlowss 6) 40 14 [.p (.one (.ptr 0 0)), .p (.one (.ptr 1 0))] (Summ.hp ⟨14, [.p (.one (.ptr 0 0)), .p (.one (.ptr 1 0))], [fls 0 19, fls 19 17], .p (.one .any)⟩) [])⟩
noncomputable def sStepSs : List Summ := sStepS :: sFlowss
theorem sStepSOk : AllOk Try.prog sStepSs := .add hN hX sFlowsOk (n := 6) (by kernel_rfl)
noncomputable def allS : List Summ := sStepSs
theorem allOk : AllOk Try.prog allS := sStepSOk
end Go.Proofs.Ytlnphdohjelppaa
