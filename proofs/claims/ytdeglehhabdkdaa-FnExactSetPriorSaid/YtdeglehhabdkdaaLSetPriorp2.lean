/-
  A PART OF A LAW'S INPUTS WALKED (FnExactSetPrior). Conditions: none.
-/
import Derived.Test.YtdeglehhabdkdaaJuns
set_option maxRecDepth 100000
namespace Go.Proofs.Ytdeglehhabdkdaa.lSetPrior
open Go.Sx
theorem c5 : CutOk Try.prog 12 (((((pats Try.prog 8 Try.f12.params.toList 0).getD [])).map (putSV 0 (1 + 0))).map (putSV 1 (1 + 0))) (above' 22 0 1 ([])) := cutOk_of hN hX allOk (n := 8) (fuel := 40) (.walk) (by kernel_rfl)
theorem c12 : CutOk Try.prog 12 (((((pats Try.prog 8 Try.f12.params.toList 0).getD [])).map (putSV 0 (1 + 0))).map (putSV 1 (1 + 2))) (below' 22 0 ([])) := cutOk_of hN hX allOk (n := 8) (fuel := 40) (.walk) (by kernel_rfl)
theorem c18 : CutOk Try.prog 12 ((((pats Try.prog 8 Try.f12.params.toList 0).getD [])).map (putSV 0 (1 + 0))) (below' 1 1 ([])) := cutOk_of hN hX allOk (n := 8) (fuel := 40) (.walk) (by kernel_rfl)
theorem c25 : CutOk Try.prog 12 (((((pats Try.prog 8 Try.f12.params.toList 0).getD [])).map (putSV 0 (1 + 1))).map (putSV 1 (1 + 0))) (above' 22 0 2 ([])) := cutOk_of hN hX allOk (n := 8) (fuel := 40) (.walk) (by kernel_rfl)
theorem c32 : CutOk Try.prog 12 ((((((pats Try.prog 8 Try.f12.params.toList 0).getD [])).map (putSV 0 (1 + 1))).map (putSV 1 (1 + 2))).map (putSV 22 (0 + 0))) ([]) := cutOk_of hN hX allOk (n := 8) (fuel := 40) (.walk) (by kernel_rfl)
theorem c38 : CutOk Try.prog 12 ((((((pats Try.prog 8 Try.f12.params.toList 0).getD [])).map (putSV 0 (1 + 1))).map (putSV 1 (1 + 3))).map (putSV 22 (0 + 1))) ([]) := cutOk_of hN hX allOk (n := 8) (fuel := 40) (.walk) (by kernel_rfl)
theorem c45 : CutOk Try.prog 12 ((((((pats Try.prog 8 Try.f12.params.toList 0).getD [])).map (putSV 0 (1 + 2))).map (putSV 1 (1 + 0))).map (putSV 22 (0 + 0))) ([]) := cutOk_of hN hX allOk (n := 8) (fuel := 40) (.walk) (by kernel_rfl)
theorem c51 : CutOk Try.prog 12 ((((((pats Try.prog 8 Try.f12.params.toList 0).getD [])).map (putSV 0 (1 + 2))).map (putSV 1 (1 + 1))).map (putSV 22 (0 + 0))) ([]) := cutOk_of hN hX allOk (n := 8) (fuel := 40) (.walk) (by kernel_rfl)
theorem c57 : CutOk Try.prog 12 ((((((pats Try.prog 8 Try.f12.params.toList 0).getD [])).map (putSV 0 (1 + 2))).map (putSV 1 (1 + 2))).map (putSV 22 (0 + 0))) ([]) := cutOk_of hN hX allOk (n := 8) (fuel := 40) (.walk) (by kernel_rfl)
theorem c63 : CutOk Try.prog 12 ((((((pats Try.prog 8 Try.f12.params.toList 0).getD [])).map (putSV 0 (1 + 2))).map (putSV 1 (1 + 3))).map (putSV 22 (0 + 0))) ([]) := cutOk_of hN hX allOk (n := 8) (fuel := 40) (.walk) (by kernel_rfl)
theorem c68 : CutOk Try.prog 12 ((((pats Try.prog 8 Try.f12.params.toList 0).getD [])).map (putSV 0 (1 + 2))) (below' 1 1 ([])) := cutOk_of hN hX allOk (n := 8) (fuel := 40) (.walk) (by kernel_rfl)
theorem c75 : CutOk Try.prog 12 ((((((pats Try.prog 8 Try.f12.params.toList 0).getD [])).map (putSV 0 (1 + 3))).map (putSV 1 (1 + 0))).map (putSV 22 (0 + 3))) ([]) := cutOk_of hN hX allOk (n := 8) (fuel := 40) (.walk) (by kernel_rfl)
theorem c81 : CutOk Try.prog 12 ((((((pats Try.prog 8 Try.f12.params.toList 0).getD [])).map (putSV 0 (1 + 3))).map (putSV 1 (1 + 1))).map (putSV 22 (0 + 2))) ([]) := cutOk_of hN hX allOk (n := 8) (fuel := 40) (.walk) (by kernel_rfl)
theorem c87 : CutOk Try.prog 12 ((((((pats Try.prog 8 Try.f12.params.toList 0).getD [])).map (putSV 0 (1 + 3))).map (putSV 1 (1 + 2))).map (putSV 22 (0 + 1))) ([]) := cutOk_of hN hX allOk (n := 8) (fuel := 40) (.walk) (by kernel_rfl)
theorem c93 : CutOk Try.prog 12 ((((((pats Try.prog 8 Try.f12.params.toList 0).getD [])).map (putSV 0 (1 + 3))).map (putSV 1 (1 + 3))).map (putSV 22 (0 + 0))) ([]) := cutOk_of hN hX allOk (n := 8) (fuel := 40) (.walk) (by kernel_rfl)
theorem c98 : CutOk Try.prog 12 (((((pats Try.prog 8 Try.f12.params.toList 0).getD [])).map (putSV 0 (1 + 3))).map (putSV 1 (1 + 3))) (above' 22 0 4 ([])) := cutOk_of hN hX allOk (n := 8) (fuel := 40) (.walk) (by kernel_rfl)
end Go.Proofs.Ytdeglehhabdkdaa.lSetPrior
