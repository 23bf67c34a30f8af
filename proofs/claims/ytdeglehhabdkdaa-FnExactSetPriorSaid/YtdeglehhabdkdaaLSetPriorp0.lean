/-
  A PART OF A LAW'S INPUTS WALKED (FnExactSetPrior). Conditions: none.
-/
import Derived.Test.YtdeglehhabdkdaaJuns
set_option maxRecDepth 100000
namespace Go.Proofs.Ytdeglehhabdkdaa.lSetPrior
open Go.Sx
theorem c3 : CutOk Try.prog 12 ((((((pats Try.prog 8 Try.f12.params.toList 0).getD [])).map (putSV 0 (1 + 0))).map (putSV 1 (1 + 0))).map (putSV 22 (0 + 0))) ([]) := cutOk_of hN hX allOk (n := 8) (fuel := 40) (.walk) (by kernel_rfl)
theorem c9 : CutOk Try.prog 12 (((((pats Try.prog 8 Try.f12.params.toList 0).getD [])).map (putSV 0 (1 + 0))).map (putSV 1 (1 + 1))) (above' 22 0 1 ([])) := cutOk_of hN hX allOk (n := 8) (fuel := 40) (.walk) (by kernel_rfl)
theorem c16 : CutOk Try.prog 12 (((((pats Try.prog 8 Try.f12.params.toList 0).getD [])).map (putSV 0 (1 + 0))).map (putSV 1 (1 + 3))) (below' 22 0 ([])) := cutOk_of hN hX allOk (n := 8) (fuel := 40) (.walk) (by kernel_rfl)
theorem c23 : CutOk Try.prog 12 ((((((pats Try.prog 8 Try.f12.params.toList 0).getD [])).map (putSV 0 (1 + 1))).map (putSV 1 (1 + 0))).map (putSV 22 (0 + 1))) ([]) := cutOk_of hN hX allOk (n := 8) (fuel := 40) (.walk) (by kernel_rfl)
theorem c29 : CutOk Try.prog 12 (((((pats Try.prog 8 Try.f12.params.toList 0).getD [])).map (putSV 0 (1 + 1))).map (putSV 1 (1 + 1))) (below' 22 0 ([])) := cutOk_of hN hX allOk (n := 8) (fuel := 40) (.walk) (by kernel_rfl)
theorem c35 : CutOk Try.prog 12 (((((pats Try.prog 8 Try.f12.params.toList 0).getD [])).map (putSV 0 (1 + 1))).map (putSV 1 (1 + 2))) (above' 22 0 2 ([])) := cutOk_of hN hX allOk (n := 8) (fuel := 40) (.walk) (by kernel_rfl)
theorem c41 : CutOk Try.prog 12 ((((pats Try.prog 8 Try.f12.params.toList 0).getD [])).map (putSV 0 (1 + 1))) (below' 1 1 ([])) := cutOk_of hN hX allOk (n := 8) (fuel := 40) (.walk) (by kernel_rfl)
theorem c48 : CutOk Try.prog 12 (((((pats Try.prog 8 Try.f12.params.toList 0).getD [])).map (putSV 0 (1 + 2))).map (putSV 1 (1 + 0))) (below' 22 0 ([])) := cutOk_of hN hX allOk (n := 8) (fuel := 40) (.walk) (by kernel_rfl)
theorem c54 : CutOk Try.prog 12 (((((pats Try.prog 8 Try.f12.params.toList 0).getD [])).map (putSV 0 (1 + 2))).map (putSV 1 (1 + 1))) (below' 22 0 ([])) := cutOk_of hN hX allOk (n := 8) (fuel := 40) (.walk) (by kernel_rfl)
theorem c60 : CutOk Try.prog 12 (((((pats Try.prog 8 Try.f12.params.toList 0).getD [])).map (putSV 0 (1 + 2))).map (putSV 1 (1 + 2))) (below' 22 0 ([])) := cutOk_of hN hX allOk (n := 8) (fuel := 40) (.walk) (by kernel_rfl)
theorem c66 : CutOk Try.prog 12 (((((pats Try.prog 8 Try.f12.params.toList 0).getD [])).map (putSV 0 (1 + 2))).map (putSV 1 (1 + 3))) (below' 22 0 ([])) := cutOk_of hN hX allOk (n := 8) (fuel := 40) (.walk) (by kernel_rfl)
theorem c73 : CutOk Try.prog 12 ((((((pats Try.prog 8 Try.f12.params.toList 0).getD [])).map (putSV 0 (1 + 3))).map (putSV 1 (1 + 0))).map (putSV 22 (0 + 1))) ([]) := cutOk_of hN hX allOk (n := 8) (fuel := 40) (.walk) (by kernel_rfl)
theorem c79 : CutOk Try.prog 12 ((((((pats Try.prog 8 Try.f12.params.toList 0).getD [])).map (putSV 0 (1 + 3))).map (putSV 1 (1 + 1))).map (putSV 22 (0 + 0))) ([]) := cutOk_of hN hX allOk (n := 8) (fuel := 40) (.walk) (by kernel_rfl)
theorem c84 : CutOk Try.prog 12 (((((pats Try.prog 8 Try.f12.params.toList 0).getD [])).map (putSV 0 (1 + 3))).map (putSV 1 (1 + 1))) (above' 22 0 4 ([])) := cutOk_of hN hX allOk (n := 8) (fuel := 40) (.walk) (by kernel_rfl)
theorem c90 : CutOk Try.prog 12 (((((pats Try.prog 8 Try.f12.params.toList 0).getD [])).map (putSV 0 (1 + 3))).map (putSV 1 (1 + 2))) (below' 22 0 ([])) := cutOk_of hN hX allOk (n := 8) (fuel := 40) (.walk) (by kernel_rfl)
theorem c96 : CutOk Try.prog 12 ((((((pats Try.prog 8 Try.f12.params.toList 0).getD [])).map (putSV 0 (1 + 3))).map (putSV 1 (1 + 3))).map (putSV 22 (0 + 3))) ([]) := cutOk_of hN hX allOk (n := 8) (fuel := 40) (.walk) (by kernel_rfl)
theorem c101 : CutOk Try.prog 12 (((pats Try.prog 8 Try.f12.params.toList 0).getD [])) (below' 0 1 ([])) := cutOk_of hN hX allOk (n := 8) (fuel := 40) (.walk) (by kernel_rfl)
end Go.Proofs.Ytdeglehhabdkdaa.lSetPrior
