/-
  A PART OF A LAW'S INPUTS WALKED (FnExactSetTurn). Conditions: none.
-/
import Derived.Test.YtdeglehhabdkdaaJuns
set_option maxRecDepth 100000
namespace Go.Proofs.Ytdeglehhabdkdaa.lSetTurn
open Go.Sx
theorem c5 : CutOk Try.prog 13 ((((((pats Try.prog 8 Try.f13.params.toList 0).getD [])).map (putSV 0 (1 + 0))).map (putSV 1 (1 + 0))).map (putSV 22 (0 + 0))) (below' 23 0 ([])) := cutOk_of hN hX allOk (n := 14) (fuel := 40) (.walk) (by kernel_rfl)
theorem c31 : CutOk Try.prog 13 (((((((pats Try.prog 8 Try.f13.params.toList 0).getD [])).map (putSV 0 (1 + 0))).map (putSV 1 (1 + 3))).map (putSV 22 (0 + 0))).map (putSV 23 (0 + 3))) ([]) := cutOk_of hN hX allOk (n := 14) (fuel := 40) (.walk) (by kernel_rfl)
theorem c58 : CutOk Try.prog 13 (((((((pats Try.prog 8 Try.f13.params.toList 0).getD [])).map (putSV 0 (1 + 1))).map (putSV 1 (1 + 1))).map (putSV 22 (0 + 1))).map (putSV 23 (0 + 1))) ([]) := cutOk_of hN hX allOk (n := 14) (fuel := 40) (.walk) (by kernel_rfl)
theorem c83 : CutOk Try.prog 13 (((((((pats Try.prog 8 Try.f13.params.toList 0).getD [])).map (putSV 0 (1 + 1))).map (putSV 1 (1 + 3))).map (putSV 22 (0 + 0))).map (putSV 23 (0 + 3))) ([]) := cutOk_of hN hX allOk (n := 14) (fuel := 40) (.walk) (by kernel_rfl)
theorem c109 : CutOk Try.prog 13 ((((((pats Try.prog 8 Try.f13.params.toList 0).getD [])).map (putSV 0 (1 + 2))).map (putSV 1 (1 + 0))).map (putSV 22 (0 + 2))) (below' 23 0 ([])) := cutOk_of hN hX allOk (n := 14) (fuel := 40) (.walk) (by kernel_rfl)
theorem c135 : CutOk Try.prog 13 (((((((pats Try.prog 8 Try.f13.params.toList 0).getD [])).map (putSV 0 (1 + 2))).map (putSV 1 (1 + 2))).map (putSV 22 (0 + 0))).map (putSV 23 (0 + 2))) ([]) := cutOk_of hN hX allOk (n := 14) (fuel := 40) (.walk) (by kernel_rfl)
theorem c159 : CutOk Try.prog 13 ((((((pats Try.prog 8 Try.f13.params.toList 0).getD [])).map (putSV 0 (1 + 2))).map (putSV 1 (1 + 3))).map (putSV 22 (0 + 0))) (above' 23 0 4 ([])) := cutOk_of hN hX allOk (n := 14) (fuel := 40) (.walk) (by kernel_rfl)
theorem c185 : CutOk Try.prog 13 (((((((pats Try.prog 8 Try.f13.params.toList 0).getD [])).map (putSV 0 (1 + 3))).map (putSV 1 (1 + 0))).map (putSV 22 (0 + 1))).map (putSV 23 (0 + 0))) ([]) := cutOk_of hN hX allOk (n := 14) (fuel := 40) (.walk) (by kernel_rfl)
theorem c211 : CutOk Try.prog 13 (((((((pats Try.prog 8 Try.f13.params.toList 0).getD [])).map (putSV 0 (1 + 3))).map (putSV 1 (1 + 1))).map (putSV 22 (0 + 2))).map (putSV 23 (0 + 1))) ([]) := cutOk_of hN hX allOk (n := 14) (fuel := 40) (.walk) (by kernel_rfl)
theorem c236 : CutOk Try.prog 13 (((((((pats Try.prog 8 Try.f13.params.toList 0).getD [])).map (putSV 0 (1 + 3))).map (putSV 1 (1 + 2))).map (putSV 22 (0 + 2))).map (putSV 23 (0 + 1))) ([]) := cutOk_of hN hX allOk (n := 14) (fuel := 40) (.walk) (by kernel_rfl)
theorem c260 : CutOk Try.prog 13 (((((((pats Try.prog 8 Try.f13.params.toList 0).getD [])).map (putSV 0 (1 + 3))).map (putSV 1 (1 + 3))).map (putSV 22 (0 + 1))).map (putSV 23 (0 + 3))) ([]) := cutOk_of hN hX allOk (n := 14) (fuel := 40) (.walk) (by kernel_rfl)
theorem c282 : CutOk Try.prog 13 (((pats Try.prog 8 Try.f13.params.toList 0).getD [])) (above' 0 1 4 ([])) := cutOk_of hN hX allOk (n := 14) (fuel := 40) (.walk) (by kernel_rfl)
end Go.Proofs.Ytdeglehhabdkdaa.lSetTurn
