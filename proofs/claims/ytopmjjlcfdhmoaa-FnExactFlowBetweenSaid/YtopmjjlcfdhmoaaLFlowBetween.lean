/-
  PROVED: the given statement of the law FnExactFlowBetween: at every input the law answers true and its arguments read as they did.
  Conditions: those of the given row alone.
-/
import Derived.Test.YtopmjjlcfdhmoaaRows
import Derived.Test.YtopmjjlcfdhmoaaSums
set_option maxRecDepth 100000
namespace Go.Proofs.Ytopmjjlcfdhmoaa.lFlowBetween
open Go.Sx
theorem own : ownKnob Try.prog.godebug = none := by kernel_rfl
theorem c1 : CutOk Try.prog 12 ((((pats Try.prog 8 Try.f12.params.toList 0).getD [])).map (putSV 19 (0 + 0))) ([]) := cutOk_of hN hX allOk (n := 8) (fuel := 40) (.walk) (by kernel_rfl)
theorem c2 : CutOk Try.prog 12 ((((pats Try.prog 8 Try.f12.params.toList 0).getD [])).map (putSV 19 (0 + 1))) ([]) := cutOk_of hN hX allOk (n := 8) (fuel := 40) (.walk) (by kernel_rfl)
theorem c3 : CutOk Try.prog 12 ((((pats Try.prog 8 Try.f12.params.toList 0).getD [])).map (putSV 19 (0 + 2))) ([]) := cutOk_of hN hX allOk (n := 8) (fuel := 40) (.walk) (by kernel_rfl)
theorem c4 : CutOk Try.prog 12 ((((pats Try.prog 8 Try.f12.params.toList 0).getD [])).map (putSV 19 (0 + 3))) ([]) := cutOk_of hN hX allOk (n := 8) (fuel := 40) (.walk) (by kernel_rfl)
theorem c5 : CutOk Try.prog 12 ((((pats Try.prog 8 Try.f12.params.toList 0).getD [])).map (putSV 19 (0 + 4))) ([]) := cutOk_of hN hX allOk (n := 8) (fuel := 40) (.walk) (by kernel_rfl)
theorem c6 : CutOk Try.prog 12 ((((pats Try.prog 8 Try.f12.params.toList 0).getD [])).map (putSV 19 (0 + 5))) ([]) := cutOk_of hN hX allOk (n := 8) (fuel := 40) (.walk) (by kernel_rfl)
theorem c7 : CutOk Try.prog 12 ((((pats Try.prog 8 Try.f12.params.toList 0).getD [])).map (putSV 19 (0 + 6))) ([]) := cutOk_of hN hX allOk (n := 8) (fuel := 40) (.walk) (by kernel_rfl)
theorem c8 : CutOk Try.prog 12 ((((pats Try.prog 8 Try.f12.params.toList 0).getD [])).map (putSV 19 (0 + 7))) ([]) := cutOk_of hN hX allOk (n := 8) (fuel := 40) (.walk) (by kernel_rfl)
theorem c9 : CutOk Try.prog 12 ((((pats Try.prog 8 Try.f12.params.toList 0).getD [])).map (putSV 19 (0 + 8))) ([]) := cutOk_of hN hX allOk (n := 8) (fuel := 40) (.walk) (by kernel_rfl)
theorem c10 : CutOk Try.prog 12 ((((pats Try.prog 8 Try.f12.params.toList 0).getD [])).map (putSV 19 (0 + 9))) ([]) := cutOk_of hN hX allOk (n := 8) (fuel := 40) (.walk) (by kernel_rfl)
theorem c11 : CutOk Try.prog 12 ((((pats Try.prog 8 Try.f12.params.toList 0).getD [])).map (putSV 19 (0 + 10))) ([]) := cutOk_of hN hX allOk (n := 8) (fuel := 40) (.walk) (by kernel_rfl)
theorem c12 : CutOk Try.prog 12 ((((pats Try.prog 8 Try.f12.params.toList 0).getD [])).map (putSV 19 (0 + 11))) ([]) := cutOk_of hN hX allOk (n := 8) (fuel := 40) (.walk) (by kernel_rfl)
theorem c13 : CutOk Try.prog 12 ((((pats Try.prog 8 Try.f12.params.toList 0).getD [])).map (putSV 19 (0 + 12))) ([]) := cutOk_of hN hX allOk (n := 8) (fuel := 40) (.walk) (by kernel_rfl)
theorem c14 : CutOk Try.prog 12 ((((pats Try.prog 8 Try.f12.params.toList 0).getD [])).map (putSV 19 (0 + 13))) ([]) := cutOk_of hN hX allOk (n := 8) (fuel := 40) (.walk) (by kernel_rfl)
theorem c15 : CutOk Try.prog 12 ((((pats Try.prog 8 Try.f12.params.toList 0).getD [])).map (putSV 19 (0 + 14))) ([]) := cutOk_of hN hX allOk (n := 8) (fuel := 40) (.walk) (by kernel_rfl)
theorem c16 : CutOk Try.prog 12 (((pats Try.prog 8 Try.f12.params.toList 0).getD [])) (below' 19 0 ([])) := cutOk_of hN hX allOk (n := 8) (fuel := 40) (.walk) (by kernel_rfl)
theorem c17 : CutOk Try.prog 12 (((pats Try.prog 8 Try.f12.params.toList 0).getD [])) (above' 19 0 15 ([])) := cutOk_of hN hX allOk (n := 8) (fuel := 40) (.walk) (by kernel_rfl)
theorem c0 : CutOk Try.prog 12 (((pats Try.prog 8 Try.f12.params.toList 0).getD [])) ([]) := cutOk_num 19 0 15 (fun j hj => match j, hj with
  | 0, _ => c1
  | 1, _ => c2
  | 2, _ => c3
  | 3, _ => c4
  | 4, _ => c5
  | 5, _ => c6
  | 6, _ => c7
  | 7, _ => c8
  | 8, _ => c9
  | 9, _ => c10
  | 10, _ => c11
  | 11, _ => c12
  | 12, _ => c13
  | 13, _ => c14
  | 14, _ => c15
  | k + 15, h => absurd h (by omega)) c16 c17
theorem walked : LawOk Try.prog 12 ((pats Try.prog 8 Try.f12.params.toList 0).getD []) := lawOk_of c0
theorem lifted (os : Os) (started : os.Started) (H : Type) (enc : TypeId × Value → H) :
    ReturnsInHanded {} Try.checked os 12 .any (Rows.fnExactFlowBetweenSpec.pre6 enc Try.prog Try.f12 Rows.fnExactFlowBetweenRow.domain false) (Rows.fnExactFlowBetweenSpec.post enc Try.prog Try.f12 false true false false) :=
  lifted_law (C := Try.checked) (tb := 4) (n := 8) own started (by kernel_rfl) Try.func12 rfl (by kernel_rfl) (by kernel_rfl) (args := (pats Try.prog 8 Try.f12.params.toList 0).getD []) (by kernel_rfl)
    (fun ds h => by
      have h' : ds.length = 2 := h
      match ds, h' with
      | [_, _], _ => rfl)
    walked
    (ChangeSpec.witness6 (enc := enc) (C := Try.checked) false ⟨#[], (Try.f12.params.toList.map (zeroV Try.prog 8)).toArray, []⟩ 8 (by kernel_rfl) (by kernel_rfl) (by kernel_rfl) (by kernel_rfl))
theorem proved : Rows.FnExactFlowBetweenSaid :=
  OpenClaim.holds_of_wide 12 Try.f12 rfl rfl rfl rfl rfl rfl rfl ⟨rfl, rfl, rfl, rfl, rfl⟩ rfl rfl rfl rfl rfl (by kernel_rfl) Try.func12 (by kernel_rfl)
    (of_decide_eq_true (by kernel_rfl)) (by unfold Func.isWrapper; first | (rw [if_pos (by decide +kernel)]; kernel_rfl) | (rw [if_neg (by decide +kernel)]; exact ⟨rfl, rfl⟩))
    (fun os started H enc _ => lifted os started H enc)
end Go.Proofs.Ytopmjjlcfdhmoaa.lFlowBetween
