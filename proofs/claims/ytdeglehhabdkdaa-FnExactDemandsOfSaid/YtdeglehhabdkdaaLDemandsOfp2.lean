/-
  A PART OF A LAW'S INPUTS WALKED (FnExactDemandsOf). Conditions: none.
-/
import Derived.Test.YtdeglehhabdkdaaJuns
set_option maxRecDepth 100000
namespace Go.Proofs.Ytdeglehhabdkdaa.lDemandsOf
open Go.Sx
theorem c4 : CutOk Try.prog 11 (((((pats Try.prog 8 Try.f11.params.toList 0).getD [])).map (putSV 0 (1 + 0))).map (putSV 1 (1 + 2))) ([]) := cutOk_of hN hX allOk (n := 14) (fuel := 40) (.walk) (by kernel_rfl)
theorem c10 : CutOk Try.prog 11 (((((pats Try.prog 8 Try.f11.params.toList 0).getD [])).map (putSV 0 (1 + 1))).map (putSV 1 (1 + 1))) ([]) := cutOk_of hN hX allOk (n := 14) (fuel := 40) (.walk) (by kernel_rfl)
theorem c16 : CutOk Try.prog 11 (((((pats Try.prog 8 Try.f11.params.toList 0).getD [])).map (putSV 0 (1 + 2))).map (putSV 1 (1 + 0))) ([]) := cutOk_of hN hX allOk (n := 14) (fuel := 40) (.walk) (by kernel_rfl)
theorem c21 : CutOk Try.prog 11 ((((pats Try.prog 8 Try.f11.params.toList 0).getD [])).map (putSV 0 (1 + 2))) (above' 1 1 4 ([])) := cutOk_of hN hX allOk (n := 14) (fuel := 40) (.walk) (by kernel_rfl)
theorem c27 : CutOk Try.prog 11 ((((pats Try.prog 8 Try.f11.params.toList 0).getD [])).map (putSV 0 (1 + 3))) (below' 1 1 ([])) := cutOk_of hN hX allOk (n := 14) (fuel := 40) (.walk) (by kernel_rfl)
end Go.Proofs.Ytdeglehhabdkdaa.lDemandsOf
