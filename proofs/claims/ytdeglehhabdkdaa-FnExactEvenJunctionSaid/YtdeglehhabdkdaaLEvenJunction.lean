/-
  PROVED: the given statement of the law FnExactEvenJunction: at every input the law answers true and its arguments read as they did.
  Conditions: those of the given row alone.
-/
import Derived.Test.YtdeglehhabdkdaaRows
import Derived.Test.YtdeglehhabdkdaaJuns
set_option maxRecDepth 100000
namespace Go.Proofs.Ytdeglehhabdkdaa.lEvenJunction
open Go.Sx
theorem own : ownKnob Try.prog.godebug = none := by kernel_rfl
theorem c2 : CutOk Try.prog 6 (((((pats Try.prog 8 Try.f6.params.toList 0).getD [])).map (putSV 0 (1 + 0))).map (putSV 1 (1 + 0))) ([]) := cutOk_of hN hX allOk (n := 8) (fuel := 40) (.walk) (by kernel_rfl)
theorem c3 : CutOk Try.prog 6 (((((pats Try.prog 8 Try.f6.params.toList 0).getD [])).map (putSV 0 (1 + 0))).map (putSV 1 (1 + 1))) ([]) := cutOk_of hN hX allOk (n := 8) (fuel := 40) (.walk) (by kernel_rfl)
theorem c4 : CutOk Try.prog 6 (((((pats Try.prog 8 Try.f6.params.toList 0).getD [])).map (putSV 0 (1 + 0))).map (putSV 1 (1 + 2))) ([]) := cutOk_of hN hX allOk (n := 8) (fuel := 40) (.walk) (by kernel_rfl)
theorem c5 : CutOk Try.prog 6 (((((pats Try.prog 8 Try.f6.params.toList 0).getD [])).map (putSV 0 (1 + 0))).map (putSV 1 (1 + 3))) ([]) := cutOk_of hN hX allOk (n := 8) (fuel := 40) (.walk) (by kernel_rfl)
theorem c6 : CutOk Try.prog 6 ((((pats Try.prog 8 Try.f6.params.toList 0).getD [])).map (putSV 0 (1 + 0))) (below' 1 1 ([])) := cutOk_of hN hX allOk (n := 8) (fuel := 40) (.walk) (by kernel_rfl)
theorem c7 : CutOk Try.prog 6 ((((pats Try.prog 8 Try.f6.params.toList 0).getD [])).map (putSV 0 (1 + 0))) (above' 1 1 4 ([])) := cutOk_of hN hX allOk (n := 8) (fuel := 40) (.walk) (by kernel_rfl)
theorem c1 : CutOk Try.prog 6 ((((pats Try.prog 8 Try.f6.params.toList 0).getD [])).map (putSV 0 (1 + 0))) ([]) := cutOk_num 1 1 4 (fun j hj => match j, hj with
  | 0, _ => c2
  | 1, _ => c3
  | 2, _ => c4
  | 3, _ => c5
  | k + 4, h => absurd h (by omega)) c6 c7
theorem c9 : CutOk Try.prog 6 (((((pats Try.prog 8 Try.f6.params.toList 0).getD [])).map (putSV 0 (1 + 1))).map (putSV 1 (1 + 0))) ([]) := cutOk_of hN hX allOk (n := 8) (fuel := 40) (.walk) (by kernel_rfl)
theorem c10 : CutOk Try.prog 6 (((((pats Try.prog 8 Try.f6.params.toList 0).getD [])).map (putSV 0 (1 + 1))).map (putSV 1 (1 + 1))) ([]) := cutOk_of hN hX allOk (n := 8) (fuel := 40) (.walk) (by kernel_rfl)
theorem c11 : CutOk Try.prog 6 (((((pats Try.prog 8 Try.f6.params.toList 0).getD [])).map (putSV 0 (1 + 1))).map (putSV 1 (1 + 2))) ([]) := cutOk_of hN hX allOk (n := 8) (fuel := 40) (.walk) (by kernel_rfl)
theorem c12 : CutOk Try.prog 6 (((((pats Try.prog 8 Try.f6.params.toList 0).getD [])).map (putSV 0 (1 + 1))).map (putSV 1 (1 + 3))) ([]) := cutOk_of hN hX allOk (n := 8) (fuel := 40) (.walk) (by kernel_rfl)
theorem c13 : CutOk Try.prog 6 ((((pats Try.prog 8 Try.f6.params.toList 0).getD [])).map (putSV 0 (1 + 1))) (below' 1 1 ([])) := cutOk_of hN hX allOk (n := 8) (fuel := 40) (.walk) (by kernel_rfl)
theorem c14 : CutOk Try.prog 6 ((((pats Try.prog 8 Try.f6.params.toList 0).getD [])).map (putSV 0 (1 + 1))) (above' 1 1 4 ([])) := cutOk_of hN hX allOk (n := 8) (fuel := 40) (.walk) (by kernel_rfl)
theorem c8 : CutOk Try.prog 6 ((((pats Try.prog 8 Try.f6.params.toList 0).getD [])).map (putSV 0 (1 + 1))) ([]) := cutOk_num 1 1 4 (fun j hj => match j, hj with
  | 0, _ => c9
  | 1, _ => c10
  | 2, _ => c11
  | 3, _ => c12
  | k + 4, h => absurd h (by omega)) c13 c14
theorem c16 : CutOk Try.prog 6 (((((pats Try.prog 8 Try.f6.params.toList 0).getD [])).map (putSV 0 (1 + 2))).map (putSV 1 (1 + 0))) ([]) := cutOk_of hN hX allOk (n := 8) (fuel := 40) (.walk) (by kernel_rfl)
theorem c17 : CutOk Try.prog 6 (((((pats Try.prog 8 Try.f6.params.toList 0).getD [])).map (putSV 0 (1 + 2))).map (putSV 1 (1 + 1))) ([]) := cutOk_of hN hX allOk (n := 8) (fuel := 40) (.walk) (by kernel_rfl)
theorem c18 : CutOk Try.prog 6 (((((pats Try.prog 8 Try.f6.params.toList 0).getD [])).map (putSV 0 (1 + 2))).map (putSV 1 (1 + 2))) ([]) := cutOk_of hN hX allOk (n := 8) (fuel := 40) (.walk) (by kernel_rfl)
theorem c19 : CutOk Try.prog 6 (((((pats Try.prog 8 Try.f6.params.toList 0).getD [])).map (putSV 0 (1 + 2))).map (putSV 1 (1 + 3))) ([]) := cutOk_of hN hX allOk (n := 8) (fuel := 40) (.walk) (by kernel_rfl)
theorem c20 : CutOk Try.prog 6 ((((pats Try.prog 8 Try.f6.params.toList 0).getD [])).map (putSV 0 (1 + 2))) (below' 1 1 ([])) := cutOk_of hN hX allOk (n := 8) (fuel := 40) (.walk) (by kernel_rfl)
theorem c21 : CutOk Try.prog 6 ((((pats Try.prog 8 Try.f6.params.toList 0).getD [])).map (putSV 0 (1 + 2))) (above' 1 1 4 ([])) := cutOk_of hN hX allOk (n := 8) (fuel := 40) (.walk) (by kernel_rfl)
theorem c15 : CutOk Try.prog 6 ((((pats Try.prog 8 Try.f6.params.toList 0).getD [])).map (putSV 0 (1 + 2))) ([]) := cutOk_num 1 1 4 (fun j hj => match j, hj with
  | 0, _ => c16
  | 1, _ => c17
  | 2, _ => c18
  | 3, _ => c19
  | k + 4, h => absurd h (by omega)) c20 c21
theorem c23 : CutOk Try.prog 6 (((((pats Try.prog 8 Try.f6.params.toList 0).getD [])).map (putSV 0 (1 + 3))).map (putSV 1 (1 + 0))) ([]) := cutOk_of hN hX allOk (n := 8) (fuel := 40) (.walk) (by kernel_rfl)
theorem c24 : CutOk Try.prog 6 (((((pats Try.prog 8 Try.f6.params.toList 0).getD [])).map (putSV 0 (1 + 3))).map (putSV 1 (1 + 1))) ([]) := cutOk_of hN hX allOk (n := 8) (fuel := 40) (.walk) (by kernel_rfl)
theorem c25 : CutOk Try.prog 6 (((((pats Try.prog 8 Try.f6.params.toList 0).getD [])).map (putSV 0 (1 + 3))).map (putSV 1 (1 + 2))) ([]) := cutOk_of hN hX allOk (n := 8) (fuel := 40) (.walk) (by kernel_rfl)
theorem c26 : CutOk Try.prog 6 (((((pats Try.prog 8 Try.f6.params.toList 0).getD [])).map (putSV 0 (1 + 3))).map (putSV 1 (1 + 3))) ([]) := cutOk_of hN hX allOk (n := 8) (fuel := 40) (.walk) (by kernel_rfl)
theorem c27 : CutOk Try.prog 6 ((((pats Try.prog 8 Try.f6.params.toList 0).getD [])).map (putSV 0 (1 + 3))) (below' 1 1 ([])) := cutOk_of hN hX allOk (n := 8) (fuel := 40) (.walk) (by kernel_rfl)
theorem c28 : CutOk Try.prog 6 ((((pats Try.prog 8 Try.f6.params.toList 0).getD [])).map (putSV 0 (1 + 3))) (above' 1 1 4 ([])) := cutOk_of hN hX allOk (n := 8) (fuel := 40) (.walk) (by kernel_rfl)
theorem c22 : CutOk Try.prog 6 ((((pats Try.prog 8 Try.f6.params.toList 0).getD [])).map (putSV 0 (1 + 3))) ([]) := cutOk_num 1 1 4 (fun j hj => match j, hj with
  | 0, _ => c23
  | 1, _ => c24
  | 2, _ => c25
  | 3, _ => c26
  | k + 4, h => absurd h (by omega)) c27 c28
theorem c29 : CutOk Try.prog 6 (((pats Try.prog 8 Try.f6.params.toList 0).getD [])) (below' 0 1 ([])) := cutOk_of hN hX allOk (n := 8) (fuel := 40) (.walk) (by kernel_rfl)
theorem c30 : CutOk Try.prog 6 (((pats Try.prog 8 Try.f6.params.toList 0).getD [])) (above' 0 1 4 ([])) := cutOk_of hN hX allOk (n := 8) (fuel := 40) (.walk) (by kernel_rfl)
theorem c0 : CutOk Try.prog 6 (((pats Try.prog 8 Try.f6.params.toList 0).getD [])) ([]) := cutOk_num 0 1 4 (fun j hj => match j, hj with
  | 0, _ => c1
  | 1, _ => c8
  | 2, _ => c15
  | 3, _ => c22
  | k + 4, h => absurd h (by omega)) c29 c30
theorem walked : LawOk Try.prog 6 ((pats Try.prog 8 Try.f6.params.toList 0).getD []) := lawOk_of c0
theorem lifted (os : Os) (started : os.Started) (H : Type) (enc : TypeId × Value → H) :
    ReturnsInHanded {} Try.checked os 6 .any (Rows.fnExactEvenJunctionSpec.pre6 enc Try.prog Try.f6 Rows.fnExactEvenJunctionRow.domain false) (Rows.fnExactEvenJunctionSpec.post enc Try.prog Try.f6 false true false false) :=
  lifted_law (C := Try.checked) (tb := 4) (n := 8) own started (by kernel_rfl) Try.func6 rfl (by kernel_rfl) (by kernel_rfl) (args := (pats Try.prog 8 Try.f6.params.toList 0).getD []) (by kernel_rfl)
    (fun ds h => by
      have h' : ds.length = 2 := h
      match ds, h' with
      | [_, _], _ => rfl)
    walked
    (ChangeSpec.witness6 (enc := enc) (C := Try.checked) false ⟨#[], (Try.f6.params.toList.map (zeroV Try.prog 8)).toArray, []⟩ 8 (by kernel_rfl) (by kernel_rfl) (by kernel_rfl) (by kernel_rfl))
theorem proved : Rows.FnExactEvenJunctionSaid :=
  OpenClaim.holds_of_wide 6 Try.f6 rfl rfl rfl rfl rfl rfl rfl ⟨rfl, rfl, rfl, rfl, rfl⟩ rfl rfl rfl rfl rfl (by kernel_rfl) Try.func6 (by kernel_rfl)
    (of_decide_eq_true (by kernel_rfl)) (by unfold Func.isWrapper; first | (rw [if_pos (by decide +kernel)]; kernel_rfl) | (rw [if_neg (by decide +kernel)]; exact ⟨rfl, rfl⟩))
    (fun os started H enc _ => lifted os started H enc)
end Go.Proofs.Ytdeglehhabdkdaa.lEvenJunction
