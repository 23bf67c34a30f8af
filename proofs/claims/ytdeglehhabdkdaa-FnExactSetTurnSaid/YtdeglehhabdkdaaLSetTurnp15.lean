/-
  A PART OF A LAW'S INPUTS WALKED (FnExactSetTurn). Conditions: none.
-/
import Derived.Test.YtdeglehhabdkdaaJuns
set_option maxRecDepth 100000
namespace Go.Proofs.Ytdeglehhabdkdaa.lSetTurn
open Go.Sx
theorem c23 : CutOk Try.prog 13 ((((((pats Try.prog 8 Try.f13.params.toList 0).getD [])).map (putSV 0 (1 + 0))).map (putSV 1 (1 + 2))).map (putSV 22 (0 + 0))) (above' 23 0 3 ([])) := cutOk_of hN hX allOk (n := 14) (fuel := 40) (.walk) (by kernel_rfl)
theorem c49 : CutOk Try.prog 13 (((((pats Try.prog 8 Try.f13.params.toList 0).getD [])).map (putSV 0 (1 + 1))).map (putSV 1 (1 + 0))) (above' 22 0 2 ([])) := cutOk_of hN hX allOk (n := 14) (fuel := 40) (.walk) (by kernel_rfl)
theorem c75 : CutOk Try.prog 13 ((((((pats Try.prog 8 Try.f13.params.toList 0).getD [])).map (putSV 0 (1 + 1))).map (putSV 1 (1 + 2))).map (putSV 22 (0 + 1))) (above' 23 0 3 ([])) := cutOk_of hN hX allOk (n := 14) (fuel := 40) (.walk) (by kernel_rfl)
theorem c101 : CutOk Try.prog 13 ((((((pats Try.prog 8 Try.f13.params.toList 0).getD [])).map (putSV 0 (1 + 2))).map (putSV 1 (1 + 0))).map (putSV 22 (0 + 0))) (below' 23 0 ([])) := cutOk_of hN hX allOk (n := 14) (fuel := 40) (.walk) (by kernel_rfl)
theorem c127 : CutOk Try.prog 13 ((((((pats Try.prog 8 Try.f13.params.toList 0).getD [])).map (putSV 0 (1 + 2))).map (putSV 1 (1 + 1))).map (putSV 22 (0 + 2))) (below' 23 0 ([])) := cutOk_of hN hX allOk (n := 14) (fuel := 40) (.walk) (by kernel_rfl)
theorem c151 : CutOk Try.prog 13 (((((pats Try.prog 8 Try.f13.params.toList 0).getD [])).map (putSV 0 (1 + 2))).map (putSV 1 (1 + 2))) (above' 22 0 3 ([])) := cutOk_of hN hX allOk (n := 14) (fuel := 40) (.walk) (by kernel_rfl)
theorem c175 : CutOk Try.prog 13 (((((pats Try.prog 8 Try.f13.params.toList 0).getD [])).map (putSV 0 (1 + 2))).map (putSV 1 (1 + 3))) (above' 22 0 3 ([])) := cutOk_of hN hX allOk (n := 14) (fuel := 40) (.walk) (by kernel_rfl)
theorem c203 : CutOk Try.prog 13 ((((((pats Try.prog 8 Try.f13.params.toList 0).getD [])).map (putSV 0 (1 + 3))).map (putSV 1 (1 + 1))).map (putSV 22 (0 + 0))) (above' 23 0 2 ([])) := cutOk_of hN hX allOk (n := 14) (fuel := 40) (.walk) (by kernel_rfl)
theorem c229 : CutOk Try.prog 13 (((((((pats Try.prog 8 Try.f13.params.toList 0).getD [])).map (putSV 0 (1 + 3))).map (putSV 1 (1 + 2))).map (putSV 22 (0 + 1))).map (putSV 23 (0 + 0))) ([]) := cutOk_of hN hX allOk (n := 14) (fuel := 40) (.walk) (by kernel_rfl)
theorem c253 : CutOk Try.prog 13 (((((((pats Try.prog 8 Try.f13.params.toList 0).getD [])).map (putSV 0 (1 + 3))).map (putSV 1 (1 + 3))).map (putSV 22 (0 + 0))).map (putSV 23 (0 + 3))) ([]) := cutOk_of hN hX allOk (n := 14) (fuel := 40) (.walk) (by kernel_rfl)
theorem c276 : CutOk Try.prog 13 ((((((pats Try.prog 8 Try.f13.params.toList 0).getD [])).map (putSV 0 (1 + 3))).map (putSV 1 (1 + 3))).map (putSV 22 (0 + 3))) (above' 23 0 4 ([])) := cutOk_of hN hX allOk (n := 14) (fuel := 40) (.walk) (by kernel_rfl)
end Go.Proofs.Ytdeglehhabdkdaa.lSetTurn
