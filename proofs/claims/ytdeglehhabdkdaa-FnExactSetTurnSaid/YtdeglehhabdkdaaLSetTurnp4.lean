/-
  A PART OF A LAW'S INPUTS WALKED (FnExactSetTurn). Conditions: none.
-/
import Derived.Test.YtdeglehhabdkdaaJuns
set_option maxRecDepth 100000
namespace Go.Proofs.Ytdeglehhabdkdaa.lSetTurn
open Go.Sx
theorem c8 : CutOk Try.prog 13 (((((pats Try.prog 8 Try.f13.params.toList 0).getD [])).map (putSV 0 (1 + 0))).map (putSV 1 (1 + 0))) (above' 22 0 1 ([])) := cutOk_of hN hX allOk (n := 14) (fuel := 40) (.walk) (by kernel_rfl)
theorem c34 : CutOk Try.prog 13 (((((pats Try.prog 8 Try.f13.params.toList 0).getD [])).map (putSV 0 (1 + 0))).map (putSV 1 (1 + 3))) (below' 22 0 ([])) := cutOk_of hN hX allOk (n := 14) (fuel := 40) (.walk) (by kernel_rfl)
theorem c61 : CutOk Try.prog 13 (((((pats Try.prog 8 Try.f13.params.toList 0).getD [])).map (putSV 0 (1 + 1))).map (putSV 1 (1 + 1))) (below' 22 0 ([])) := cutOk_of hN hX allOk (n := 14) (fuel := 40) (.walk) (by kernel_rfl)
theorem c87 : CutOk Try.prog 13 (((((((pats Try.prog 8 Try.f13.params.toList 0).getD [])).map (putSV 0 (1 + 1))).map (putSV 1 (1 + 3))).map (putSV 22 (0 + 1))).map (putSV 23 (0 + 0))) ([]) := cutOk_of hN hX allOk (n := 14) (fuel := 40) (.walk) (by kernel_rfl)
theorem c112 : CutOk Try.prog 13 (((((pats Try.prog 8 Try.f13.params.toList 0).getD [])).map (putSV 0 (1 + 2))).map (putSV 1 (1 + 0))) (above' 22 0 3 ([])) := cutOk_of hN hX allOk (n := 14) (fuel := 40) (.walk) (by kernel_rfl)
theorem c139 : CutOk Try.prog 13 (((((((pats Try.prog 8 Try.f13.params.toList 0).getD [])).map (putSV 0 (1 + 2))).map (putSV 1 (1 + 2))).map (putSV 22 (0 + 1))).map (putSV 23 (0 + 0))) ([]) := cutOk_of hN hX allOk (n := 14) (fuel := 40) (.walk) (by kernel_rfl)
theorem c163 : CutOk Try.prog 13 (((((((pats Try.prog 8 Try.f13.params.toList 0).getD [])).map (putSV 0 (1 + 2))).map (putSV 1 (1 + 3))).map (putSV 22 (0 + 1))).map (putSV 23 (0 + 2))) ([]) := cutOk_of hN hX allOk (n := 14) (fuel := 40) (.walk) (by kernel_rfl)
theorem c189 : CutOk Try.prog 13 (((((((pats Try.prog 8 Try.f13.params.toList 0).getD [])).map (putSV 0 (1 + 3))).map (putSV 1 (1 + 0))).map (putSV 22 (0 + 2))).map (putSV 23 (0 + 0))) ([]) := cutOk_of hN hX allOk (n := 14) (fuel := 40) (.walk) (by kernel_rfl)
theorem c215 : CutOk Try.prog 13 (((((((pats Try.prog 8 Try.f13.params.toList 0).getD [])).map (putSV 0 (1 + 3))).map (putSV 1 (1 + 1))).map (putSV 22 (0 + 3))).map (putSV 23 (0 + 0))) ([]) := cutOk_of hN hX allOk (n := 14) (fuel := 40) (.walk) (by kernel_rfl)
theorem c239 : CutOk Try.prog 13 ((((((pats Try.prog 8 Try.f13.params.toList 0).getD [])).map (putSV 0 (1 + 3))).map (putSV 1 (1 + 2))).map (putSV 22 (0 + 2))) (above' 23 0 3 ([])) := cutOk_of hN hX allOk (n := 14) (fuel := 40) (.walk) (by kernel_rfl)
theorem c264 : CutOk Try.prog 13 (((((((pats Try.prog 8 Try.f13.params.toList 0).getD [])).map (putSV 0 (1 + 3))).map (putSV 1 (1 + 3))).map (putSV 22 (0 + 2))).map (putSV 23 (0 + 0))) ([]) := cutOk_of hN hX allOk (n := 14) (fuel := 40) (.walk) (by kernel_rfl)
end Go.Proofs.Ytdeglehhabdkdaa.lSetTurn
