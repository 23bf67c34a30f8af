/-
  PROVED: the given statement of the law FnExactMergeTwo: at every input the law answers true and its arguments read as they did.
  Conditions: those of the given row alone.
-/
import Derived.Test.YtdeglehhabdkdaaRows
import Derived.Test.YtdeglehhabdkdaaSums
set_option maxRecDepth 100000
namespace Go.Proofs.Ytdeglehhabdkdaa.lMergeTwo
open Go.Sx
theorem own : ownKnob Try.prog.godebug = none := by kernel_rfl
def hints : List (Nat × Ext) := [(69, .inl),
  (92, .inl),
  (101, .inl)]
theorem walked : LawOk Try.prog 9 ((pats Try.prog 8 Try.f9.params.toList 0).getD []) := lawOk_cut hN (hX.hints (l := hints) rfl) baseOk (n := 8) (fuel := 40) (.walk) (by kernel_rfl)
theorem lifted (os : Os) (started : os.Started) (H : Type) (enc : TypeId × Value → H) :
    ReturnsInHanded {} Try.checked os 9 .any (Rows.fnExactMergeTwoSpec.pre6 enc Try.prog Try.f9 Rows.fnExactMergeTwoRow.domain false) (Rows.fnExactMergeTwoSpec.post enc Try.prog Try.f9 false true false false) :=
  lifted_law (C := Try.checked) (tb := 4) (n := 8) own started (by kernel_rfl) Try.func9 rfl (by kernel_rfl) (by kernel_rfl) (args := (pats Try.prog 8 Try.f9.params.toList 0).getD []) (by kernel_rfl)
    (fun ds h => by
      have h' : ds.length = 4 := h
      match ds, h' with
      | [_, _, _, _], _ => rfl)
    walked
    (ChangeSpec.witness6 (enc := enc) (C := Try.checked) false ⟨#[], (Try.f9.params.toList.map (zeroV Try.prog 8)).toArray, []⟩ 8 (by kernel_rfl) (by kernel_rfl) (by kernel_rfl) (by kernel_rfl))
theorem proved : Rows.FnExactMergeTwoSaid :=
  OpenClaim.holds_of_wide 9 Try.f9 rfl rfl rfl rfl rfl rfl rfl ⟨rfl, rfl, rfl, rfl, rfl⟩ rfl rfl rfl rfl rfl (by kernel_rfl) Try.func9 (by kernel_rfl)
    (of_decide_eq_true (by kernel_rfl)) (by unfold Func.isWrapper; first | (rw [if_pos (by decide +kernel)]; kernel_rfl) | (rw [if_neg (by decide +kernel)]; exact ⟨rfl, rfl⟩))
    (fun os started H enc _ => lifted os started H enc)
end Go.Proofs.Ytdeglehhabdkdaa.lMergeTwo
