/-
  PROVED: the given statement of the law FnExactDemandsOf: at every input the law answers true and its arguments read as they did.
  Conditions: those of the given row alone.
-/
import Derived.Test.YtdeglehhabdkdaaRows
import Derived.Test.YtdeglehhabdkdaaLDemandsOfp0
import Derived.Test.YtdeglehhabdkdaaLDemandsOfp1
import Derived.Test.YtdeglehhabdkdaaLDemandsOfp2
import Derived.Test.YtdeglehhabdkdaaLDemandsOfp3
import Derived.Test.YtdeglehhabdkdaaLDemandsOfp4
import Derived.Test.YtdeglehhabdkdaaJuns
set_option maxRecDepth 100000
namespace Go.Proofs.Ytdeglehhabdkdaa.lDemandsOf
open Go.Sx
theorem own : ownKnob Try.prog.godebug = none := by kernel_rfl
theorem c1 : CutOk Try.prog 11 ((((pats Try.prog 8 Try.f11.params.toList 0).getD [])).map (putSV 0 (1 + 0))) ([]) := cutOk_num 1 1 4 (fun j hj => match j, hj with
  | 0, _ => c2
  | 1, _ => c3
  | 2, _ => c4
  | 3, _ => c5
  | k + 4, h => absurd h (by omega)) c6 c7
theorem c8 : CutOk Try.prog 11 ((((pats Try.prog 8 Try.f11.params.toList 0).getD [])).map (putSV 0 (1 + 1))) ([]) := cutOk_num 1 1 4 (fun j hj => match j, hj with
  | 0, _ => c9
  | 1, _ => c10
  | 2, _ => c11
  | 3, _ => c12
  | k + 4, h => absurd h (by omega)) c13 c14
theorem c15 : CutOk Try.prog 11 ((((pats Try.prog 8 Try.f11.params.toList 0).getD [])).map (putSV 0 (1 + 2))) ([]) := cutOk_num 1 1 4 (fun j hj => match j, hj with
  | 0, _ => c16
  | 1, _ => c17
  | 2, _ => c18
  | 3, _ => c19
  | k + 4, h => absurd h (by omega)) c20 c21
theorem c22 : CutOk Try.prog 11 ((((pats Try.prog 8 Try.f11.params.toList 0).getD [])).map (putSV 0 (1 + 3))) ([]) := cutOk_num 1 1 4 (fun j hj => match j, hj with
  | 0, _ => c23
  | 1, _ => c24
  | 2, _ => c25
  | 3, _ => c26
  | k + 4, h => absurd h (by omega)) c27 c28
theorem c0 : CutOk Try.prog 11 (((pats Try.prog 8 Try.f11.params.toList 0).getD [])) ([]) := cutOk_num 0 1 4 (fun j hj => match j, hj with
  | 0, _ => c1
  | 1, _ => c8
  | 2, _ => c15
  | 3, _ => c22
  | k + 4, h => absurd h (by omega)) c29 c30
theorem walked : LawOk Try.prog 11 ((pats Try.prog 8 Try.f11.params.toList 0).getD []) := lawOk_of c0
theorem lifted (os : Os) (started : os.Started) (H : Type) (enc : TypeId × Value → H) :
    ReturnsInHanded {} Try.checked os 11 .any (Rows.fnExactDemandsOfSpec.pre6 enc Try.prog Try.f11 Rows.fnExactDemandsOfRow.domain false) (Rows.fnExactDemandsOfSpec.post enc Try.prog Try.f11 false true false false) :=
  lifted_law (C := Try.checked) (tb := 4) (n := 8) own started (by kernel_rfl) Try.func11 rfl (by kernel_rfl) (by kernel_rfl) (args := (pats Try.prog 8 Try.f11.params.toList 0).getD []) (by kernel_rfl)
    (fun ds h => by
      have h' : ds.length = 2 := h
      match ds, h' with
      | [_, _], _ => rfl)
    walked
    (ChangeSpec.witness6 (enc := enc) (C := Try.checked) false ⟨#[], (Try.f11.params.toList.map (zeroV Try.prog 8)).toArray, []⟩ 8 (by kernel_rfl) (by kernel_rfl) (by kernel_rfl) (by kernel_rfl))
theorem proved : Rows.FnExactDemandsOfSaid :=
  OpenClaim.holds_of_wide 11 Try.f11 rfl rfl rfl rfl rfl rfl rfl ⟨rfl, rfl, rfl, rfl, rfl⟩ rfl rfl rfl rfl rfl (by kernel_rfl) Try.func11 (by kernel_rfl)
    (of_decide_eq_true (by kernel_rfl)) (by unfold Func.isWrapper; first | (rw [if_pos (by decide +kernel)]; kernel_rfl) | (rw [if_neg (by decide +kernel)]; exact ⟨rfl, rfl⟩))
    (fun os started H enc _ => lifted os started H enc)
end Go.Proofs.Ytdeglehhabdkdaa.lDemandsOf
