/-
  A PART OF A LAW'S INPUTS WALKED (FnExactSetPrior). Conditions: none.
-/
import Derived.Test.YtdeglehhabdkdaaJuns
set_option maxRecDepth 100000
namespace Go.Proofs.Ytdeglehhabdkdaa.lSetPrior
open Go.Sx
theorem c8 : CutOk Try.prog 12 (((((pats Try.prog 8 Try.f12.params.toList 0).getD [])).map (putSV 0 (1 + 0))).map (putSV 1 (1 + 1))) (below' 22 0 ([])) := cutOk_of hN hX allOk (n := 8) (fuel := 40) (.walk) (by kernel_rfl)
theorem c15 : CutOk Try.prog 12 ((((((pats Try.prog 8 Try.f12.params.toList 0).getD [])).map (putSV 0 (1 + 0))).map (putSV 1 (1 + 3))).map (putSV 22 (0 + 0))) ([]) := cutOk_of hN hX allOk (n := 8) (fuel := 40) (.walk) (by kernel_rfl)
theorem c22 : CutOk Try.prog 12 ((((((pats Try.prog 8 Try.f12.params.toList 0).getD [])).map (putSV 0 (1 + 1))).map (putSV 1 (1 + 0))).map (putSV 22 (0 + 0))) ([]) := cutOk_of hN hX allOk (n := 8) (fuel := 40) (.walk) (by kernel_rfl)
theorem c28 : CutOk Try.prog 12 ((((((pats Try.prog 8 Try.f12.params.toList 0).getD [])).map (putSV 0 (1 + 1))).map (putSV 1 (1 + 1))).map (putSV 22 (0 + 1))) ([]) := cutOk_of hN hX allOk (n := 8) (fuel := 40) (.walk) (by kernel_rfl)
theorem c34 : CutOk Try.prog 12 (((((pats Try.prog 8 Try.f12.params.toList 0).getD [])).map (putSV 0 (1 + 1))).map (putSV 1 (1 + 2))) (below' 22 0 ([])) := cutOk_of hN hX allOk (n := 8) (fuel := 40) (.walk) (by kernel_rfl)
theorem c40 : CutOk Try.prog 12 (((((pats Try.prog 8 Try.f12.params.toList 0).getD [])).map (putSV 0 (1 + 1))).map (putSV 1 (1 + 3))) (above' 22 0 2 ([])) := cutOk_of hN hX allOk (n := 8) (fuel := 40) (.walk) (by kernel_rfl)
theorem c47 : CutOk Try.prog 12 ((((((pats Try.prog 8 Try.f12.params.toList 0).getD [])).map (putSV 0 (1 + 2))).map (putSV 1 (1 + 0))).map (putSV 22 (0 + 2))) ([]) := cutOk_of hN hX allOk (n := 8) (fuel := 40) (.walk) (by kernel_rfl)
theorem c53 : CutOk Try.prog 12 ((((((pats Try.prog 8 Try.f12.params.toList 0).getD [])).map (putSV 0 (1 + 2))).map (putSV 1 (1 + 1))).map (putSV 22 (0 + 2))) ([]) := cutOk_of hN hX allOk (n := 8) (fuel := 40) (.walk) (by kernel_rfl)
theorem c59 : CutOk Try.prog 12 ((((((pats Try.prog 8 Try.f12.params.toList 0).getD [])).map (putSV 0 (1 + 2))).map (putSV 1 (1 + 2))).map (putSV 22 (0 + 2))) ([]) := cutOk_of hN hX allOk (n := 8) (fuel := 40) (.walk) (by kernel_rfl)
theorem c65 : CutOk Try.prog 12 ((((((pats Try.prog 8 Try.f12.params.toList 0).getD [])).map (putSV 0 (1 + 2))).map (putSV 1 (1 + 3))).map (putSV 22 (0 + 2))) ([]) := cutOk_of hN hX allOk (n := 8) (fuel := 40) (.walk) (by kernel_rfl)
theorem c72 : CutOk Try.prog 12 ((((((pats Try.prog 8 Try.f12.params.toList 0).getD [])).map (putSV 0 (1 + 3))).map (putSV 1 (1 + 0))).map (putSV 22 (0 + 0))) ([]) := cutOk_of hN hX allOk (n := 8) (fuel := 40) (.walk) (by kernel_rfl)
theorem c77 : CutOk Try.prog 12 (((((pats Try.prog 8 Try.f12.params.toList 0).getD [])).map (putSV 0 (1 + 3))).map (putSV 1 (1 + 0))) (above' 22 0 4 ([])) := cutOk_of hN hX allOk (n := 8) (fuel := 40) (.walk) (by kernel_rfl)
theorem c83 : CutOk Try.prog 12 (((((pats Try.prog 8 Try.f12.params.toList 0).getD [])).map (putSV 0 (1 + 3))).map (putSV 1 (1 + 1))) (below' 22 0 ([])) := cutOk_of hN hX allOk (n := 8) (fuel := 40) (.walk) (by kernel_rfl)
theorem c89 : CutOk Try.prog 12 ((((((pats Try.prog 8 Try.f12.params.toList 0).getD [])).map (putSV 0 (1 + 3))).map (putSV 1 (1 + 2))).map (putSV 22 (0 + 3))) ([]) := cutOk_of hN hX allOk (n := 8) (fuel := 40) (.walk) (by kernel_rfl)
theorem c95 : CutOk Try.prog 12 ((((((pats Try.prog 8 Try.f12.params.toList 0).getD [])).map (putSV 0 (1 + 3))).map (putSV 1 (1 + 3))).map (putSV 22 (0 + 2))) ([]) := cutOk_of hN hX allOk (n := 8) (fuel := 40) (.walk) (by kernel_rfl)
theorem c100 : CutOk Try.prog 12 ((((pats Try.prog 8 Try.f12.params.toList 0).getD [])).map (putSV 0 (1 + 3))) (above' 1 1 4 ([])) := cutOk_of hN hX allOk (n := 8) (fuel := 40) (.walk) (by kernel_rfl)
end Go.Proofs.Ytdeglehhabdkdaa.lSetPrior
