/-
  A PART OF A LAW'S INPUTS WALKED (FnExactRampStep). Conditions: none.
-/
import Derived.Test.YtckhdlfpakfnaaaSums
set_option maxRecDepth 100000
namespace Go.Proofs.Ytckhdlfpakfnaaa.lRampStep
open Go.Sx
theorem c3 : CutOk Try.prog 14 ((((pats Try.prog 8 Try.f14.params.toList 0).getD [])).map (putSV 19 (0 + 2))) ([]) := cutOk_of hN hX allOk (n := 8) (fuel := 40) (.walk) (by kernel_rfl)
theorem c8 : CutOk Try.prog 14 ((((pats Try.prog 8 Try.f14.params.toList 0).getD [])).map (putSV 19 (0 + 7))) ([]) := cutOk_of hN hX allOk (n := 8) (fuel := 40) (.walk) (by kernel_rfl)
theorem c13 : CutOk Try.prog 14 ((((pats Try.prog 8 Try.f14.params.toList 0).getD [])).map (putSV 19 (0 + 12))) ([]) := cutOk_of hN hX allOk (n := 8) (fuel := 40) (.walk) (by kernel_rfl)
theorem c18 : CutOk Try.prog 14 (((pats Try.prog 8 Try.f14.params.toList 0).getD [])) (above' 19 0 16 ([])) := cutOk_of hN hX allOk (n := 8) (fuel := 40) (.walk) (by kernel_rfl)
end Go.Proofs.Ytckhdlfpakfnaaa.lRampStep
