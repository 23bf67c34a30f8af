/-
  PROVED: the given statement of the law FnExactStepsToFull: at every input the law answers true and its arguments read as they did.
  Conditions: those of the given row alone.
-/
import Derived.Test.YtjjmgkikpacbiaaRows
import Derived.Test.YtjjmgkikpacbiaaSums
set_option maxRecDepth 100000
namespace Go.Proofs.Ytjjmgkikpacbiaa.lStepsToFull
open Go.Sx
theorem own : ownKnob Try.prog.godebug = none := by kernel_rfl
def hints : List (Nat × Ext) := [(19, .hint 7 ⟨21, cellsAt 1 (List.range 16) ++ [(.tm 8, .i .i64)], [9] ++ [20, 21, 22, 23, 24, 25, 26, 27, 28, 29], 16, (.at 20), false, true, none, [0, 2, 1, 3]⟩),
  (37, .hint 2 ⟨21, cellsAt 2 (List.range 16) ++ [(.tm 15, .i .i64)], [12] ++ [16,17,18,19,20,21,22,23,24,25,26,27,28,29,30], 16, (.b (.ia .add .i64) (.at 20) (.n 1)), true, false, (some (.u .not (.b (.ic .eq) (.at 37) (.at 20)))), [1, 0, 2, 3]⟩)]
theorem walked : LawOk Try.prog 6 ((pats Try.prog 8 Try.f6.params.toList 0).getD []) := lawOk_cut hN (hX.hints (l := hints) rfl) allOk (n := 8) (fuel := 40) (.walk) (by kernel_rfl)
theorem lifted (os : Os) (started : os.Started) (H : Type) (enc : TypeId × Value → H) :
    ReturnsInHanded {} Try.checked os 6 .any (Rows.fnExactStepsToFullSpec.pre6 enc Try.prog Try.f6 Rows.fnExactStepsToFullRow.domain false) (Rows.fnExactStepsToFullSpec.post enc Try.prog Try.f6 false true false false) :=
  lifted_law (C := Try.checked) (tb := 4) (n := 8) own started (by kernel_rfl) Try.func6 rfl (by kernel_rfl) (by kernel_rfl) (args := (pats Try.prog 8 Try.f6.params.toList 0).getD []) (by kernel_rfl)
    (fun ds h => by
      have h' : ds.length = 3 := h
      match ds, h' with
      | [_, _, _], _ => rfl)
    walked
    (ChangeSpec.witness6 (enc := enc) (C := Try.checked) false ⟨#[], (Try.f6.params.toList.map (zeroV Try.prog 8)).toArray, []⟩ 8 (by kernel_rfl) (by kernel_rfl) (by kernel_rfl) (by kernel_rfl))
theorem proved : Rows.FnExactStepsToFullSaid :=
  OpenClaim.holds_of_wide 6 Try.f6 rfl rfl rfl rfl rfl rfl rfl ⟨rfl, rfl, rfl, rfl, rfl⟩ rfl rfl rfl rfl rfl (by kernel_rfl) Try.func6 (by kernel_rfl)
    (of_decide_eq_true (by kernel_rfl)) (by unfold Func.isWrapper; first | (rw [if_pos (by decide +kernel)]; kernel_rfl) | (rw [if_neg (by decide +kernel)]; exact ⟨rfl, rfl⟩))
    (fun os started H enc _ => lifted os started H enc)
end Go.Proofs.Ytjjmgkikpacbiaa.lStepsToFull
