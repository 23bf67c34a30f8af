/-
  A PART OF A LAW'S INPUTS WALKED (FnExactSetTurn). Conditions: none.
-/
import Derived.Test.YtdeglehhabdkdaaJuns
set_option maxRecDepth 100000
namespace Go.Proofs.Ytdeglehhabdkdaa.lSetTurn
open Go.Sx
theorem c25 : CutOk Try.prog 13 (((((pats Try.prog 8 Try.f13.params.toList 0).getD [])).map (putSV 0 (1 + 0))).map (putSV 1 (1 + 2))) (above' 22 0 1 ([])) := cutOk_of hN hX allOk (n := 14) (fuel := 40) (.walk) (by kernel_rfl)
theorem c53 : CutOk Try.prog 13 (((((((pats Try.prog 8 Try.f13.params.toList 0).getD [])).map (putSV 0 (1 + 1))).map (putSV 1 (1 + 1))).map (putSV 22 (0 + 0))).map (putSV 23 (0 + 1))) ([]) := cutOk_of hN hX allOk (n := 14) (fuel := 40) (.walk) (by kernel_rfl)
theorem c77 : CutOk Try.prog 13 (((((pats Try.prog 8 Try.f13.params.toList 0).getD [])).map (putSV 0 (1 + 1))).map (putSV 1 (1 + 2))) (above' 22 0 2 ([])) := cutOk_of hN hX allOk (n := 14) (fuel := 40) (.walk) (by kernel_rfl)
theorem c104 : CutOk Try.prog 13 (((((((pats Try.prog 8 Try.f13.params.toList 0).getD [])).map (putSV 0 (1 + 2))).map (putSV 1 (1 + 0))).map (putSV 22 (0 + 1))).map (putSV 23 (0 + 0))) ([]) := cutOk_of hN hX allOk (n := 14) (fuel := 40) (.walk) (by kernel_rfl)
theorem c129 : CutOk Try.prog 13 (((((pats Try.prog 8 Try.f13.params.toList 0).getD [])).map (putSV 0 (1 + 2))).map (putSV 1 (1 + 1))) (below' 22 0 ([])) := cutOk_of hN hX allOk (n := 14) (fuel := 40) (.walk) (by kernel_rfl)
theorem c155 : CutOk Try.prog 13 (((((((pats Try.prog 8 Try.f13.params.toList 0).getD [])).map (putSV 0 (1 + 2))).map (putSV 1 (1 + 3))).map (putSV 22 (0 + 0))).map (putSV 23 (0 + 1))) ([]) := cutOk_of hN hX allOk (n := 14) (fuel := 40) (.walk) (by kernel_rfl)
theorem c177 : CutOk Try.prog 13 ((((pats Try.prog 8 Try.f13.params.toList 0).getD [])).map (putSV 0 (1 + 2))) (above' 1 1 4 ([])) := cutOk_of hN hX allOk (n := 14) (fuel := 40) (.walk) (by kernel_rfl)
theorem c206 : CutOk Try.prog 13 (((((((pats Try.prog 8 Try.f13.params.toList 0).getD [])).map (putSV 0 (1 + 3))).map (putSV 1 (1 + 1))).map (putSV 22 (0 + 1))).map (putSV 23 (0 + 1))) ([]) := cutOk_of hN hX allOk (n := 14) (fuel := 40) (.walk) (by kernel_rfl)
theorem c231 : CutOk Try.prog 13 (((((((pats Try.prog 8 Try.f13.params.toList 0).getD [])).map (putSV 0 (1 + 3))).map (putSV 1 (1 + 2))).map (putSV 22 (0 + 1))).map (putSV 23 (0 + 2))) ([]) := cutOk_of hN hX allOk (n := 14) (fuel := 40) (.walk) (by kernel_rfl)
theorem c255 : CutOk Try.prog 13 ((((((pats Try.prog 8 Try.f13.params.toList 0).getD [])).map (putSV 0 (1 + 3))).map (putSV 1 (1 + 3))).map (putSV 22 (0 + 0))) (above' 23 0 4 ([])) := cutOk_of hN hX allOk (n := 14) (fuel := 40) (.walk) (by kernel_rfl)
theorem c278 : CutOk Try.prog 13 (((((pats Try.prog 8 Try.f13.params.toList 0).getD [])).map (putSV 0 (1 + 3))).map (putSV 1 (1 + 3))) (above' 22 0 4 ([])) := cutOk_of hN hX allOk (n := 14) (fuel := 40) (.walk) (by kernel_rfl)
end Go.Proofs.Ytdeglehhabdkdaa.lSetTurn
