/-
  A PART OF A LAW'S INPUTS WALKED (FnExactSetPrior). Conditions: none.
-/
import Derived.Test.YtdeglehhabdkdaaJuns
set_option maxRecDepth 100000
namespace Go.Proofs.Ytdeglehhabdkdaa.lSetPrior
open Go.Sx
theorem c4 : CutOk Try.prog 12 (((((pats Try.prog 8 Try.f12.params.toList 0).getD [])).map (putSV 0 (1 + 0))).map (putSV 1 (1 + 0))) (below' 22 0 ([])) := cutOk_of hN hX allOk (n := 8) (fuel := 40) (.walk) (by kernel_rfl)
theorem c11 : CutOk Try.prog 12 ((((((pats Try.prog 8 Try.f12.params.toList 0).getD [])).map (putSV 0 (1 + 0))).map (putSV 1 (1 + 2))).map (putSV 22 (0 + 0))) ([]) := cutOk_of hN hX allOk (n := 8) (fuel := 40) (.walk) (by kernel_rfl)
theorem c17 : CutOk Try.prog 12 (((((pats Try.prog 8 Try.f12.params.toList 0).getD [])).map (putSV 0 (1 + 0))).map (putSV 1 (1 + 3))) (above' 22 0 1 ([])) := cutOk_of hN hX allOk (n := 8) (fuel := 40) (.walk) (by kernel_rfl)
theorem c24 : CutOk Try.prog 12 (((((pats Try.prog 8 Try.f12.params.toList 0).getD [])).map (putSV 0 (1 + 1))).map (putSV 1 (1 + 0))) (below' 22 0 ([])) := cutOk_of hN hX allOk (n := 8) (fuel := 40) (.walk) (by kernel_rfl)
theorem c30 : CutOk Try.prog 12 (((((pats Try.prog 8 Try.f12.params.toList 0).getD [])).map (putSV 0 (1 + 1))).map (putSV 1 (1 + 1))) (above' 22 0 2 ([])) := cutOk_of hN hX allOk (n := 8) (fuel := 40) (.walk) (by kernel_rfl)
theorem c37 : CutOk Try.prog 12 ((((((pats Try.prog 8 Try.f12.params.toList 0).getD [])).map (putSV 0 (1 + 1))).map (putSV 1 (1 + 3))).map (putSV 22 (0 + 0))) ([]) := cutOk_of hN hX allOk (n := 8) (fuel := 40) (.walk) (by kernel_rfl)
theorem c42 : CutOk Try.prog 12 ((((pats Try.prog 8 Try.f12.params.toList 0).getD [])).map (putSV 0 (1 + 1))) (above' 1 1 4 ([])) := cutOk_of hN hX allOk (n := 8) (fuel := 40) (.walk) (by kernel_rfl)
theorem c49 : CutOk Try.prog 12 (((((pats Try.prog 8 Try.f12.params.toList 0).getD [])).map (putSV 0 (1 + 2))).map (putSV 1 (1 + 0))) (above' 22 0 3 ([])) := cutOk_of hN hX allOk (n := 8) (fuel := 40) (.walk) (by kernel_rfl)
theorem c55 : CutOk Try.prog 12 (((((pats Try.prog 8 Try.f12.params.toList 0).getD [])).map (putSV 0 (1 + 2))).map (putSV 1 (1 + 1))) (above' 22 0 3 ([])) := cutOk_of hN hX allOk (n := 8) (fuel := 40) (.walk) (by kernel_rfl)
theorem c61 : CutOk Try.prog 12 (((((pats Try.prog 8 Try.f12.params.toList 0).getD [])).map (putSV 0 (1 + 2))).map (putSV 1 (1 + 2))) (above' 22 0 3 ([])) := cutOk_of hN hX allOk (n := 8) (fuel := 40) (.walk) (by kernel_rfl)
theorem c67 : CutOk Try.prog 12 (((((pats Try.prog 8 Try.f12.params.toList 0).getD [])).map (putSV 0 (1 + 2))).map (putSV 1 (1 + 3))) (above' 22 0 3 ([])) := cutOk_of hN hX allOk (n := 8) (fuel := 40) (.walk) (by kernel_rfl)
theorem c74 : CutOk Try.prog 12 ((((((pats Try.prog 8 Try.f12.params.toList 0).getD [])).map (putSV 0 (1 + 3))).map (putSV 1 (1 + 0))).map (putSV 22 (0 + 2))) ([]) := cutOk_of hN hX allOk (n := 8) (fuel := 40) (.walk) (by kernel_rfl)
theorem c80 : CutOk Try.prog 12 ((((((pats Try.prog 8 Try.f12.params.toList 0).getD [])).map (putSV 0 (1 + 3))).map (putSV 1 (1 + 1))).map (putSV 22 (0 + 1))) ([]) := cutOk_of hN hX allOk (n := 8) (fuel := 40) (.walk) (by kernel_rfl)
theorem c86 : CutOk Try.prog 12 ((((((pats Try.prog 8 Try.f12.params.toList 0).getD [])).map (putSV 0 (1 + 3))).map (putSV 1 (1 + 2))).map (putSV 22 (0 + 0))) ([]) := cutOk_of hN hX allOk (n := 8) (fuel := 40) (.walk) (by kernel_rfl)
theorem c91 : CutOk Try.prog 12 (((((pats Try.prog 8 Try.f12.params.toList 0).getD [])).map (putSV 0 (1 + 3))).map (putSV 1 (1 + 2))) (above' 22 0 4 ([])) := cutOk_of hN hX allOk (n := 8) (fuel := 40) (.walk) (by kernel_rfl)
theorem c97 : CutOk Try.prog 12 (((((pats Try.prog 8 Try.f12.params.toList 0).getD [])).map (putSV 0 (1 + 3))).map (putSV 1 (1 + 3))) (below' 22 0 ([])) := cutOk_of hN hX allOk (n := 8) (fuel := 40) (.walk) (by kernel_rfl)
theorem c102 : CutOk Try.prog 12 (((pats Try.prog 8 Try.f12.params.toList 0).getD [])) (above' 0 1 4 ([])) := cutOk_of hN hX allOk (n := 8) (fuel := 40) (.walk) (by kernel_rfl)
end Go.Proofs.Ytdeglehhabdkdaa.lSetPrior
