/-
  WHAT THE SMALL FUNCTIONS OF THIS SEAT COME TO, each a summary proved by a walk. Conditions: none.
-/
import Derived.Test.YtodlofeddllpiaaSxC
import Derived.Test.YtodlofeddllpiaaProg
set_option maxRecDepth 100000
namespace Go.Proofs.Ytodlofeddllpiaa
open Go.Sx
def ext : List (Nat × Ext) := [(23, .f32bits), (24, .f64bits)]
theorem hN : NoNum Try.prog := noNum_of (by kernel_rfl)
theorem hX : ExtOk Try.prog ext := by
  refine extOk_of ?_ rfl
  intro p hp _
  rcases List.mem_cons.1 hp with rfl | hp
  · exact ⟨Try.f23, Try.func23, by kernel_rfl, by kernel_rfl, by kernel_rfl, by kernel_rfl⟩
  rcases List.mem_cons.1 hp with rfl | hp
  · exact ⟨Try.f24, Try.func24, by kernel_rfl, by kernel_rfl, by kernel_rfl, by kernel_rfl⟩
  cases hp
def sAmtS : Summ := ⟨19, [sF 0], [], sB (.u .amt (.at 0))⟩
def sAmtSs : List Summ := sAmtS :: []
theorem sAmtSOk : AllOk Try.prog sAmtSs := .tree hN hX (.nil _) (n := 3) (T := tAmtS) (by kernel_rfl) hand_amtS
def sAmtI : Summ := ⟨18, [sF 0], [], sB (.u .amt (.at 0))⟩
def sAmtIs : List Summ := sAmtI :: sAmtSs
theorem sAmtIOk : AllOk Try.prog sAmtIs := .tree hN hX sAmtSOk (n := 3) (T := tAmtI) (by kernel_rfl) hand_amtI
def sShrS : Summ := ⟨16, [sF 0], [], sB (.u .shr (.at 0))⟩
def sShrSs : List Summ := sShrS :: sAmtIs
theorem sShrSOk : AllOk Try.prog sShrSs := .add hN hX sAmtIOk (n := 3) (by kernel_rfl)
def sShrI : Summ := ⟨17, [sF 0], [], sB (.u .shr (.at 0))⟩
def sShrIs : List Summ := sShrI :: sShrSs
theorem sShrIOk : AllOk Try.prog sShrIs := .add hN hX sShrSOk (n := 3) (by kernel_rfl)
def sToRoad : Summ := ⟨5, [fAgg 0 19], [], fAgg 0 19⟩
def sToRoads : List Summ := sToRoad :: sShrIs
theorem sToRoadOk : AllOk Try.prog sToRoads := .add hN hX sShrIOk (n := 6) (by kernel_rfl)
def sRoadI : Summ := ⟨13, [fAgg 0 19], [], sB (okRoad 0)⟩
def sRoadIs : List Summ := sRoadI :: sToRoads
theorem sRoadIOk : AllOk Try.prog sRoadIs := .add hN hX sToRoadOk (n := 5) (by kernel_rfl)
def sRoadS : Summ := ⟨10, [.p (.one (.ptr 0 0))], [fls 0 19], sB (okRoad 0)⟩
def sRoadSs : List Summ := sRoadS :: sRoadIs
theorem sRoadSOk : AllOk Try.prog sRoadSs := .add hN hX sRoadIOk (n := 5) (by kernel_rfl)
def sBestI : Summ := ⟨14, [fAgg 0 19], [], .p (.one (.s (.f .f32) (.b (.fa .quo .f32) (.at 17) (.b (.fa .add .f32) (.at 16) (.at 17)))))⟩
def sBestIs : List Summ := sBestI :: sRoadSs
theorem sBestIOk : AllOk Try.prog sBestIs := .add hN hX sRoadSOk (n := 5) (by kernel_rfl)
def sBestS : Summ := ⟨11, [.p (.one (.ptr 0 0))], [fls 0 19], .p (.one (.s (.f .f32) (.b (.fa .quo .f32) (.at 17) (.b (.fa .add .f32) (.at 16) (.at 17)))))⟩
def sBestSs : List Summ := sBestS :: sBestIs
theorem sBestSOk : AllOk Try.prog sBestSs := .add hN hX sBestIOk (n := 5) (by kernel_rfl)
def sEq2 : Summ := ⟨15, [.p (.agg [.s (.i .i64) (.at 0), .s (.i .i64) (.at 1)]), .p (.agg [.s (.i .i64) (.at 0), .s (.i .i64) (.at 1)])], [], sB (.n 1)⟩
def sEq2s : List Summ := sEq2 :: sBestSs
theorem sEq2Ok : AllOk Try.prog sEq2s := .add hN hX sBestSOk (n := 5) (by kernel_rfl)
def allS : List Summ := sEq2s
theorem allOk : AllOk Try.prog allS := sEq2Ok
end Go.Proofs.Ytodlofeddllpiaa
