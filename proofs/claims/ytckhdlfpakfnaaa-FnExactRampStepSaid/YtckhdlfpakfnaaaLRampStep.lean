/-
  PROVED: the given statement of the law FnExactRampStep: at every input the law answers true and its arguments read as they did.
  Conditions: those of the given row alone.
-/
import Derived.Test.YtckhdlfpakfnaaaRows
import Derived.Test.YtckhdlfpakfnaaaLRampStepp0
import Derived.Test.YtckhdlfpakfnaaaLRampStepp1
import Derived.Test.YtckhdlfpakfnaaaLRampStepp2
import Derived.Test.YtckhdlfpakfnaaaLRampStepp3
import Derived.Test.YtckhdlfpakfnaaaLRampStepp4
import Derived.Test.YtckhdlfpakfnaaaSums
set_option maxRecDepth 100000
namespace Go.Proofs.Ytckhdlfpakfnaaa.lRampStep
open Go.Sx
theorem own : ownKnob Try.prog.godebug = none := by kernel_rfl
theorem c0 : CutOk Try.prog 14 (((pats Try.prog 8 Try.f14.params.toList 0).getD [])) ([]) := cutOk_num 19 0 16 (fun j hj => match j, hj with
  | 0, _ => c1
  | 1, _ => c2
  | 2, _ => c3
  | 3, _ => c4
  | 4, _ => c5
  | 5, _ => c6
  | 6, _ => c7
  | 7, _ => c8
  | 8, _ => c9
  | 9, _ => c10
  | 10, _ => c11
  | 11, _ => c12
  | 12, _ => c13
  | 13, _ => c14
  | 14, _ => c15
  | 15, _ => c16
  | k + 16, h => absurd h (by omega)) c17 c18
theorem walked : LawOk Try.prog 14 ((pats Try.prog 8 Try.f14.params.toList 0).getD []) := lawOk_of c0
theorem lifted (os : Os) (started : os.Started) (H : Type) (enc : TypeId × Value → H) :
    ReturnsInHanded {} Try.checked os 14 .any (Rows.fnExactRampStepSpec.pre6 enc Try.prog Try.f14 Rows.fnExactRampStepRow.domain false) (Rows.fnExactRampStepSpec.post enc Try.prog Try.f14 false true false false) :=
  lifted_law (C := Try.checked) (tb := 4) (n := 8) own started (by kernel_rfl) Try.func14 rfl (by kernel_rfl) (by kernel_rfl) (args := (pats Try.prog 8 Try.f14.params.toList 0).getD []) (by kernel_rfl)
    (fun ds h => by
      have h' : ds.length = 5 := h
      match ds, h' with
      | [_, _, _, _, _], _ => rfl)
    walked
    (ChangeSpec.witness6 (enc := enc) (C := Try.checked) false ⟨#[], (Try.f14.params.toList.map (zeroV Try.prog 8)).toArray, []⟩ 8 (by kernel_rfl) (by kernel_rfl) (by kernel_rfl) (by kernel_rfl))
theorem proved : Rows.FnExactRampStepSaid :=
  OpenClaim.holds_of_wide 14 Try.f14 rfl rfl rfl rfl rfl rfl rfl ⟨rfl, rfl, rfl, rfl, rfl⟩ rfl rfl rfl rfl rfl (by kernel_rfl) Try.func14 (by kernel_rfl)
    (of_decide_eq_true (by kernel_rfl)) (by unfold Func.isWrapper; first | (rw [if_pos (by decide +kernel)]; kernel_rfl) | (rw [if_neg (by decide +kernel)]; exact ⟨rfl, rfl⟩))
    (fun os started H enc _ => lifted os started H enc)
end Go.Proofs.Ytckhdlfpakfnaaa.lRampStep
