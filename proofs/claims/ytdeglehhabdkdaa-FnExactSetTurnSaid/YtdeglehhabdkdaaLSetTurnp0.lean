/-
  A PART OF A LAW'S INPUTS WALKED (FnExactSetTurn). Conditions: none.
-/
import Derived.Test.YtdeglehhabdkdaaJuns
set_option maxRecDepth 100000
namespace Go.Proofs.Ytdeglehhabdkdaa.lSetTurn
open Go.Sx
theorem c4 : CutOk Try.prog 13 (((((((pats Try.prog 8 Try.f13.params.toList 0).getD [])).map (putSV 0 (1 + 0))).map (putSV 1 (1 + 0))).map (putSV 22 (0 + 0))).map (putSV 23 (0 + 0))) ([]) := cutOk_of hN hX allOk (n := 14) (fuel := 40) (.walk) (by kernel_rfl)
theorem c30 : CutOk Try.prog 13 (((((((pats Try.prog 8 Try.f13.params.toList 0).getD [])).map (putSV 0 (1 + 0))).map (putSV 1 (1 + 3))).map (putSV 22 (0 + 0))).map (putSV 23 (0 + 2))) ([]) := cutOk_of hN hX allOk (n := 14) (fuel := 40) (.walk) (by kernel_rfl)
theorem c57 : CutOk Try.prog 13 (((((((pats Try.prog 8 Try.f13.params.toList 0).getD [])).map (putSV 0 (1 + 1))).map (putSV 1 (1 + 1))).map (putSV 22 (0 + 1))).map (putSV 23 (0 + 0))) ([]) := cutOk_of hN hX allOk (n := 14) (fuel := 40) (.walk) (by kernel_rfl)
theorem c82 : CutOk Try.prog 13 (((((((pats Try.prog 8 Try.f13.params.toList 0).getD [])).map (putSV 0 (1 + 1))).map (putSV 1 (1 + 3))).map (putSV 22 (0 + 0))).map (putSV 23 (0 + 2))) ([]) := cutOk_of hN hX allOk (n := 14) (fuel := 40) (.walk) (by kernel_rfl)
theorem c108 : CutOk Try.prog 13 (((((((pats Try.prog 8 Try.f13.params.toList 0).getD [])).map (putSV 0 (1 + 2))).map (putSV 1 (1 + 0))).map (putSV 22 (0 + 2))).map (putSV 23 (0 + 0))) ([]) := cutOk_of hN hX allOk (n := 14) (fuel := 40) (.walk) (by kernel_rfl)
theorem c134 : CutOk Try.prog 13 (((((((pats Try.prog 8 Try.f13.params.toList 0).getD [])).map (putSV 0 (1 + 2))).map (putSV 1 (1 + 2))).map (putSV 22 (0 + 0))).map (putSV 23 (0 + 1))) ([]) := cutOk_of hN hX allOk (n := 14) (fuel := 40) (.walk) (by kernel_rfl)
theorem c158 : CutOk Try.prog 13 ((((((pats Try.prog 8 Try.f13.params.toList 0).getD [])).map (putSV 0 (1 + 2))).map (putSV 1 (1 + 3))).map (putSV 22 (0 + 0))) (below' 23 0 ([])) := cutOk_of hN hX allOk (n := 14) (fuel := 40) (.walk) (by kernel_rfl)
theorem c183 : CutOk Try.prog 13 ((((((pats Try.prog 8 Try.f13.params.toList 0).getD [])).map (putSV 0 (1 + 3))).map (putSV 1 (1 + 0))).map (putSV 22 (0 + 0))) (above' 23 0 1 ([])) := cutOk_of hN hX allOk (n := 14) (fuel := 40) (.walk) (by kernel_rfl)
theorem c210 : CutOk Try.prog 13 (((((((pats Try.prog 8 Try.f13.params.toList 0).getD [])).map (putSV 0 (1 + 3))).map (putSV 1 (1 + 1))).map (putSV 22 (0 + 2))).map (putSV 23 (0 + 0))) ([]) := cutOk_of hN hX allOk (n := 14) (fuel := 40) (.walk) (by kernel_rfl)
theorem c235 : CutOk Try.prog 13 (((((((pats Try.prog 8 Try.f13.params.toList 0).getD [])).map (putSV 0 (1 + 3))).map (putSV 1 (1 + 2))).map (putSV 22 (0 + 2))).map (putSV 23 (0 + 0))) ([]) := cutOk_of hN hX allOk (n := 14) (fuel := 40) (.walk) (by kernel_rfl)
theorem c259 : CutOk Try.prog 13 (((((((pats Try.prog 8 Try.f13.params.toList 0).getD [])).map (putSV 0 (1 + 3))).map (putSV 1 (1 + 3))).map (putSV 22 (0 + 1))).map (putSV 23 (0 + 2))) ([]) := cutOk_of hN hX allOk (n := 14) (fuel := 40) (.walk) (by kernel_rfl)
theorem c281 : CutOk Try.prog 13 (((pats Try.prog 8 Try.f13.params.toList 0).getD [])) (below' 0 1 ([])) := cutOk_of hN hX allOk (n := 14) (fuel := 40) (.walk) (by kernel_rfl)
end Go.Proofs.Ytdeglehhabdkdaa.lSetTurn
