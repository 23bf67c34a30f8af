/-
  PROVED: the given statement of the law FnExactJamsOf: at every input the law answers true and its arguments read as they did.
  Conditions: those of the given row alone.
-/
import Derived.Test.YtodlofeddllpiaaRows
import Derived.Test.YtodlofeddllpiaaJG
set_option maxRecDepth 100000
namespace Go.Proofs.Ytodlofeddllpiaa.lJamsOf
open Go.Sx
theorem own : ownKnob Try.prog.godebug = none := by kernel_rfl
theorem hpat : (pats Try.prog 8 Try.f3.params.toList 0).getD [] = [Sx.fAgg 0 19] := by kernel_rfl
theorem walked : LawOk Try.prog 3 ((pats Try.prog 8 Try.f3.params.toList 0).getD []) := by
  rw [hpat]
  intro ρ vals w hr
  obtain ⟨l⟩ := vals
  match l, hr with
  | [v], ⟨⟨vs, hv, hs⟩, _⟩ =>
    subst hv
    obtain ⟨bs, h1, h2, h3, _⟩ := fls_back 19 0 _ hs
    obtain rfl : vs = (fl bs).toArray := by rw [← h1]
    exact jamsLaw ⟨h2, h3⟩ w
theorem lifted (os : Os) (started : os.Started) (H : Type) (enc : TypeId × Value → H) :
    ReturnsInHanded {} Try.checked os 3 .any (Rows.fnExactJamsOfSpec.pre6 enc Try.prog Try.f3 Rows.fnExactJamsOfRow.domain false) (Rows.fnExactJamsOfSpec.post enc Try.prog Try.f3 false true false false) :=
  lifted_law (C := Try.checked) (tb := 4) (n := 8) own started (by kernel_rfl) Try.func3 rfl (by kernel_rfl) (by kernel_rfl) (args := (pats Try.prog 8 Try.f3.params.toList 0).getD []) (by kernel_rfl)
    (fun ds h => by
      have h' : ds.length = 1 := h
      match ds, h' with
      | [_], _ => rfl)
    walked
    (ChangeSpec.witness6 (enc := enc) (C := Try.checked) false ⟨#[], (Try.f3.params.toList.map (zeroV Try.prog 8)).toArray, []⟩ 8 (by kernel_rfl) (by kernel_rfl) (by kernel_rfl) (by kernel_rfl))
theorem proved : Rows.FnExactJamsOfSaid :=
  OpenClaim.holds_of_wide 3 Try.f3 rfl rfl rfl rfl rfl rfl rfl ⟨rfl, rfl, rfl, rfl, rfl⟩ rfl rfl rfl rfl rfl (by kernel_rfl) Try.func3 (by kernel_rfl)
    (of_decide_eq_true (by kernel_rfl)) (by unfold Func.isWrapper; first | (rw [if_pos (by decide +kernel)]; kernel_rfl) | (rw [if_neg (by decide +kernel)]; exact ⟨rfl, rfl⟩))
    (fun os started H enc _ => lifted os started H enc)
end Go.Proofs.Ytodlofeddllpiaa.lJamsOf
