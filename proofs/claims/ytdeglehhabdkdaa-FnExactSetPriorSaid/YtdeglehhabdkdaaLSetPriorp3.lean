/-
  A PART OF A LAW'S INPUTS WALKED (FnExactSetPrior). Conditions: none.
-/
import Derived.Test.YtdeglehhabdkdaaJuns
set_option maxRecDepth 100000
namespace Go.Proofs.Ytdeglehhabdkdaa.lSetPrior
open Go.Sx
theorem c7 : CutOk Try.prog 12 ((((((pats Try.prog 8 Try.f12.params.toList 0).getD [])).map (putSV 0 (1 + 0))).map (putSV 1 (1 + 1))).map (putSV 22 (0 + 0))) ([]) := cutOk_of hN hX allOk (n := 8) (fuel := 40) (.walk) (by kernel_rfl)
theorem c13 : CutOk Try.prog 12 (((((pats Try.prog 8 Try.f12.params.toList 0).getD [])).map (putSV 0 (1 + 0))).map (putSV 1 (1 + 2))) (above' 22 0 1 ([])) := cutOk_of hN hX allOk (n := 8) (fuel := 40) (.walk) (by kernel_rfl)
theorem c19 : CutOk Try.prog 12 ((((pats Try.prog 8 Try.f12.params.toList 0).getD [])).map (putSV 0 (1 + 0))) (above' 1 1 4 ([])) := cutOk_of hN hX allOk (n := 8) (fuel := 40) (.walk) (by kernel_rfl)
theorem c27 : CutOk Try.prog 12 ((((((pats Try.prog 8 Try.f12.params.toList 0).getD [])).map (putSV 0 (1 + 1))).map (putSV 1 (1 + 1))).map (putSV 22 (0 + 0))) ([]) := cutOk_of hN hX allOk (n := 8) (fuel := 40) (.walk) (by kernel_rfl)
theorem c33 : CutOk Try.prog 12 ((((((pats Try.prog 8 Try.f12.params.toList 0).getD [])).map (putSV 0 (1 + 1))).map (putSV 1 (1 + 2))).map (putSV 22 (0 + 1))) ([]) := cutOk_of hN hX allOk (n := 8) (fuel := 40) (.walk) (by kernel_rfl)
theorem c39 : CutOk Try.prog 12 (((((pats Try.prog 8 Try.f12.params.toList 0).getD [])).map (putSV 0 (1 + 1))).map (putSV 1 (1 + 3))) (below' 22 0 ([])) := cutOk_of hN hX allOk (n := 8) (fuel := 40) (.walk) (by kernel_rfl)
theorem c46 : CutOk Try.prog 12 ((((((pats Try.prog 8 Try.f12.params.toList 0).getD [])).map (putSV 0 (1 + 2))).map (putSV 1 (1 + 0))).map (putSV 22 (0 + 1))) ([]) := cutOk_of hN hX allOk (n := 8) (fuel := 40) (.walk) (by kernel_rfl)
theorem c52 : CutOk Try.prog 12 ((((((pats Try.prog 8 Try.f12.params.toList 0).getD [])).map (putSV 0 (1 + 2))).map (putSV 1 (1 + 1))).map (putSV 22 (0 + 1))) ([]) := cutOk_of hN hX allOk (n := 8) (fuel := 40) (.walk) (by kernel_rfl)
theorem c58 : CutOk Try.prog 12 ((((((pats Try.prog 8 Try.f12.params.toList 0).getD [])).map (putSV 0 (1 + 2))).map (putSV 1 (1 + 2))).map (putSV 22 (0 + 1))) ([]) := cutOk_of hN hX allOk (n := 8) (fuel := 40) (.walk) (by kernel_rfl)
theorem c64 : CutOk Try.prog 12 ((((((pats Try.prog 8 Try.f12.params.toList 0).getD [])).map (putSV 0 (1 + 2))).map (putSV 1 (1 + 3))).map (putSV 22 (0 + 1))) ([]) := cutOk_of hN hX allOk (n := 8) (fuel := 40) (.walk) (by kernel_rfl)
theorem c69 : CutOk Try.prog 12 ((((pats Try.prog 8 Try.f12.params.toList 0).getD [])).map (putSV 0 (1 + 2))) (above' 1 1 4 ([])) := cutOk_of hN hX allOk (n := 8) (fuel := 40) (.walk) (by kernel_rfl)
theorem c76 : CutOk Try.prog 12 (((((pats Try.prog 8 Try.f12.params.toList 0).getD [])).map (putSV 0 (1 + 3))).map (putSV 1 (1 + 0))) (below' 22 0 ([])) := cutOk_of hN hX allOk (n := 8) (fuel := 40) (.walk) (by kernel_rfl)
theorem c82 : CutOk Try.prog 12 ((((((pats Try.prog 8 Try.f12.params.toList 0).getD [])).map (putSV 0 (1 + 3))).map (putSV 1 (1 + 1))).map (putSV 22 (0 + 3))) ([]) := cutOk_of hN hX allOk (n := 8) (fuel := 40) (.walk) (by kernel_rfl)
theorem c88 : CutOk Try.prog 12 ((((((pats Try.prog 8 Try.f12.params.toList 0).getD [])).map (putSV 0 (1 + 3))).map (putSV 1 (1 + 2))).map (putSV 22 (0 + 2))) ([]) := cutOk_of hN hX allOk (n := 8) (fuel := 40) (.walk) (by kernel_rfl)
theorem c94 : CutOk Try.prog 12 ((((((pats Try.prog 8 Try.f12.params.toList 0).getD [])).map (putSV 0 (1 + 3))).map (putSV 1 (1 + 3))).map (putSV 22 (0 + 1))) ([]) := cutOk_of hN hX allOk (n := 8) (fuel := 40) (.walk) (by kernel_rfl)
theorem c99 : CutOk Try.prog 12 ((((pats Try.prog 8 Try.f12.params.toList 0).getD [])).map (putSV 0 (1 + 3))) (below' 1 1 ([])) := cutOk_of hN hX allOk (n := 8) (fuel := 40) (.walk) (by kernel_rfl)
end Go.Proofs.Ytdeglehhabdkdaa.lSetPrior
