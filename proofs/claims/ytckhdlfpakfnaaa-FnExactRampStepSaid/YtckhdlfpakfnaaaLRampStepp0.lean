/-
  A PART OF A LAW'S INPUTS WALKED (FnExactRampStep). Conditions: none.
-/
import Derived.Test.YtckhdlfpakfnaaaSums
set_option maxRecDepth 100000
namespace Go.Proofs.Ytckhdlfpakfnaaa.lRampStep
open Go.Sx
theorem c1 : CutOk Try.prog 14 ((((pats Try.prog 8 Try.f14.params.toList 0).getD [])).map (putSV 19 (0 + 0))) ([]) := cutOk_of hN hX allOk (n := 8) (fuel := 40) (.walk) (by kernel_rfl)
theorem c6 : CutOk Try.prog 14 ((((pats Try.prog 8 Try.f14.params.toList 0).getD [])).map (putSV 19 (0 + 5))) ([]) := cutOk_of hN hX allOk (n := 8) (fuel := 40) (.walk) (by kernel_rfl)
theorem c11 : CutOk Try.prog 14 ((((pats Try.prog 8 Try.f14.params.toList 0).getD [])).map (putSV 19 (0 + 10))) ([]) := cutOk_of hN hX allOk (n := 8) (fuel := 40) (.walk) (by kernel_rfl)
theorem c16 : CutOk Try.prog 14 ((((pats Try.prog 8 Try.f14.params.toList 0).getD [])).map (putSV 19 (0 + 15))) ([]) := cutOk_of hN hX allOk (n := 8) (fuel := 40) (.walk) (by kernel_rfl)
end Go.Proofs.Ytckhdlfpakfnaaa.lRampStep
