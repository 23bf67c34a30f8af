/-
  PROVED: the given statement of the law FnExactStepRoads: at every input the law answers true and its arguments read as they did.
  Conditions: those of the given row alone.
-/
import Derived.Test.YtjjmgkikpacbiaaRows
import Derived.Test.YtjjmgkikpacbiaaLStepRoadsp0
import Derived.Test.YtjjmgkikpacbiaaSums
set_option maxRecDepth 100000
namespace Go.Proofs.Ytjjmgkikpacbiaa.lStepRoads
open Go.Sx
theorem own : ownKnob Try.prog.godebug = none := by kernel_rfl
def hints : List (Nat × Ext) := [(8, .hint 9 ⟨22, cellsAt 1 (List.range 16) ++ [(.tm 15, .i .i64)] ++ [(.tm 13, .f .f32), (.tm 14, .f .f32)], [16] ++ [31, 32, 33, 34, 35, 36, 37, 38, 39, 40, 41, 42, 43, 44, 45, 46, 47], 16, (.at 21), true, false, none, [], 0, none⟩),
  (31, .hint 3 ⟨22, cellsAt 13 (List.range 16) ++ [(.tm 17, .i .i64)] ++ [(.tm 10, .f .f32), (.tm 11, .f .f32)], [12, 13, 14] ++ [18, 19, 20, 21, 22, 23, 24, 25, 26, 27, 28, 29, 30, 31, 32, 33, 34, 35, 36, 37, 38, 39, 40], 16, (.at 21), true, false, none, [], 0, none⟩)]
theorem walked : LawOk Try.prog 3 ((pats Try.prog 8 Try.f3.params.toList 0).getD []) := lawOk_cut hN ((hX.hints (l := hints) rfl).rept reptOk) allOk (n := 8) (fuel := 40) (.walk) (by kernel_rfl)
theorem lifted (os : Os) (started : os.Started) (H : Type) (enc : TypeId × Value → H) :
    ReturnsInHanded {} Try.checked os 3 .any (Rows.fnExactStepRoadsSpec.pre6 enc Try.prog Try.f3 Rows.fnExactStepRoadsRow.domain false) (Rows.fnExactStepRoadsSpec.post enc Try.prog Try.f3 false true false false) :=
  lifted_law (C := Try.checked) (tb := 4) (n := 8) own started (by kernel_rfl) Try.func3 rfl (by kernel_rfl) (by kernel_rfl) (args := (pats Try.prog 8 Try.f3.params.toList 0).getD []) (by kernel_rfl)
    (fun ds h => by
      have h' : ds.length = 4 := h
      match ds, h' with
      | [_, _, _, _], _ => rfl)
    walked
    (ChangeSpec.witness6 (enc := enc) (C := Try.checked) false ⟨#[], (Try.f3.params.toList.map (zeroV Try.prog 8)).toArray, []⟩ 8 (by kernel_rfl) (by kernel_rfl) (by kernel_rfl) (by kernel_rfl))
theorem proved : Rows.FnExactStepRoadsSaid :=
  OpenClaim.holds_of_wide 3 Try.f3 rfl rfl rfl rfl rfl rfl rfl ⟨rfl, rfl, rfl, rfl, rfl⟩ rfl rfl rfl rfl rfl (by kernel_rfl) Try.func3 (by kernel_rfl)
    (of_decide_eq_true (by kernel_rfl)) (by unfold Func.isWrapper; first | (rw [if_pos (by decide +kernel)]; kernel_rfl) | (rw [if_neg (by decide +kernel)]; exact ⟨rfl, rfl⟩))
    (fun os started H enc _ => lifted os started H enc)
end Go.Proofs.Ytjjmgkikpacbiaa.lStepRoads
