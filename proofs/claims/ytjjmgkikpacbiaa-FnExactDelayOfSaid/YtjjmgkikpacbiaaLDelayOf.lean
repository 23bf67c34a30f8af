/-
  PROVED: the given statement of the law FnExactDelayOf: at every input the law answers true and its arguments read as they did.
  Conditions: those of the given row alone.
-/
import Derived.Test.YtjjmgkikpacbiaaRows
import Derived.Test.YtjjmgkikpacbiaaSums
set_option maxRecDepth 100000
namespace Go.Proofs.Ytjjmgkikpacbiaa.lDelayOf
open Go.Sx
theorem own : ownKnob Try.prog.godebug = none := by kernel_rfl
def hints : List (Nat × Ext) := [(21, .hint 8 ⟨22, cellsAt 1 (List.range 16) ++ [(.tm 12, .i .i64)] ++ [(.tm 11, .f .f32)], [13, 14, 15] ++ [30, 31, 32, 33, 34, 35, 36, 37, 38, 39, 40, 41, 42, 43, 44, 45, 46, 47, 48, 49, 50, 51, 52, 53, 54, 55, 56, 57, 58, 59, 60, 61, 62, 63, 64, 65, 66, 67, 68], 16, (.at 21), true, false, none, [], 16, (some (17, 2064))⟩),
  (22, .hint 6 ⟨22, cellsAt 1 (List.range 16) ++ [(.tm 27, .i .i64)] ++ [(.tm 11, .f .f32)], [12] ++ [28, 29, 30, 31, 32, 33, 34, 35, 36, 37, 38, 39, 40, 41], 16, (.at 21), true, false, none, [], 0, none⟩)]
theorem walked : LawOk Try.prog 7 ((pats Try.prog 8 Try.f7.params.toList 0).getD []) := lawOk_cut hN (hX.hints (l := hints) rfl) allOk (n := 8) (fuel := 40) (.walk) (by kernel_rfl)
theorem lifted (os : Os) (started : os.Started) (H : Type) (enc : TypeId × Value → H) :
    ReturnsInHanded {} Try.checked os 7 .any (Rows.fnExactDelayOfSpec.pre6 enc Try.prog Try.f7 Rows.fnExactDelayOfRow.domain false) (Rows.fnExactDelayOfSpec.post enc Try.prog Try.f7 false true false false) :=
  lifted_law (C := Try.checked) (tb := 4) (n := 8) own started (by kernel_rfl) Try.func7 rfl (by kernel_rfl) (by kernel_rfl) (args := (pats Try.prog 8 Try.f7.params.toList 0).getD []) (by kernel_rfl)
    (fun ds h => by
      have h' : ds.length = 4 := h
      match ds, h' with
      | [_, _, _, _], _ => rfl)
    walked
    (ChangeSpec.witness6 (enc := enc) (C := Try.checked) false ⟨#[], (Try.f7.params.toList.map (zeroV Try.prog 8)).toArray, []⟩ 8 (by kernel_rfl) (by kernel_rfl) (by kernel_rfl) (by kernel_rfl))
theorem proved : Rows.FnExactDelayOfSaid :=
  OpenClaim.holds_of_wide 7 Try.f7 rfl rfl rfl rfl rfl rfl rfl ⟨rfl, rfl, rfl, rfl, rfl⟩ rfl rfl rfl rfl rfl (by kernel_rfl) Try.func7 (by kernel_rfl)
    (of_decide_eq_true (by kernel_rfl)) (by unfold Func.isWrapper; first | (rw [if_pos (by decide +kernel)]; kernel_rfl) | (rw [if_neg (by decide +kernel)]; exact ⟨rfl, rfl⟩))
    (fun os started H enc _ => lifted os started H enc)
end Go.Proofs.Ytjjmgkikpacbiaa.lDelayOf
