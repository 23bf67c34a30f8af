/-
  PROVED: the given statement of the law FnExactSetPrior: at every input the law answers true and its arguments read as they did.
  Conditions: those of the given row alone.
-/
import Derived.Test.YtdeglehhabdkdaaRows
import Derived.Test.YtdeglehhabdkdaaLSetPriorp0
import Derived.Test.YtdeglehhabdkdaaLSetPriorp1
import Derived.Test.YtdeglehhabdkdaaLSetPriorp2
import Derived.Test.YtdeglehhabdkdaaLSetPriorp3
import Derived.Test.YtdeglehhabdkdaaLSetPriorp4
import Derived.Test.YtdeglehhabdkdaaJuns
set_option maxRecDepth 100000
namespace Go.Proofs.Ytdeglehhabdkdaa.lSetPrior
open Go.Sx
theorem own : ownKnob Try.prog.godebug = none := by kernel_rfl
theorem c2 : CutOk Try.prog 12 (((((pats Try.prog 8 Try.f12.params.toList 0).getD [])).map (putSV 0 (1 + 0))).map (putSV 1 (1 + 0))) ([]) := cutOk_num 22 0 1 (fun j hj => match j, hj with
  | 0, _ => c3
  | k + 1, h => absurd h (by omega)) c4 c5
theorem c6 : CutOk Try.prog 12 (((((pats Try.prog 8 Try.f12.params.toList 0).getD [])).map (putSV 0 (1 + 0))).map (putSV 1 (1 + 1))) ([]) := cutOk_num 22 0 1 (fun j hj => match j, hj with
  | 0, _ => c7
  | k + 1, h => absurd h (by omega)) c8 c9
theorem c10 : CutOk Try.prog 12 (((((pats Try.prog 8 Try.f12.params.toList 0).getD [])).map (putSV 0 (1 + 0))).map (putSV 1 (1 + 2))) ([]) := cutOk_num 22 0 1 (fun j hj => match j, hj with
  | 0, _ => c11
  | k + 1, h => absurd h (by omega)) c12 c13
theorem c14 : CutOk Try.prog 12 (((((pats Try.prog 8 Try.f12.params.toList 0).getD [])).map (putSV 0 (1 + 0))).map (putSV 1 (1 + 3))) ([]) := cutOk_num 22 0 1 (fun j hj => match j, hj with
  | 0, _ => c15
  | k + 1, h => absurd h (by omega)) c16 c17
theorem c1 : CutOk Try.prog 12 ((((pats Try.prog 8 Try.f12.params.toList 0).getD [])).map (putSV 0 (1 + 0))) ([]) := cutOk_num 1 1 4 (fun j hj => match j, hj with
  | 0, _ => c2
  | 1, _ => c6
  | 2, _ => c10
  | 3, _ => c14
  | k + 4, h => absurd h (by omega)) c18 c19
theorem c21 : CutOk Try.prog 12 (((((pats Try.prog 8 Try.f12.params.toList 0).getD [])).map (putSV 0 (1 + 1))).map (putSV 1 (1 + 0))) ([]) := cutOk_num 22 0 2 (fun j hj => match j, hj with
  | 0, _ => c22
  | 1, _ => c23
  | k + 2, h => absurd h (by omega)) c24 c25
theorem c26 : CutOk Try.prog 12 (((((pats Try.prog 8 Try.f12.params.toList 0).getD [])).map (putSV 0 (1 + 1))).map (putSV 1 (1 + 1))) ([]) := cutOk_num 22 0 2 (fun j hj => match j, hj with
  | 0, _ => c27
  | 1, _ => c28
  | k + 2, h => absurd h (by omega)) c29 c30
theorem c31 : CutOk Try.prog 12 (((((pats Try.prog 8 Try.f12.params.toList 0).getD [])).map (putSV 0 (1 + 1))).map (putSV 1 (1 + 2))) ([]) := cutOk_num 22 0 2 (fun j hj => match j, hj with
  | 0, _ => c32
  | 1, _ => c33
  | k + 2, h => absurd h (by omega)) c34 c35
theorem c36 : CutOk Try.prog 12 (((((pats Try.prog 8 Try.f12.params.toList 0).getD [])).map (putSV 0 (1 + 1))).map (putSV 1 (1 + 3))) ([]) := cutOk_num 22 0 2 (fun j hj => match j, hj with
  | 0, _ => c37
  | 1, _ => c38
  | k + 2, h => absurd h (by omega)) c39 c40
theorem c20 : CutOk Try.prog 12 ((((pats Try.prog 8 Try.f12.params.toList 0).getD [])).map (putSV 0 (1 + 1))) ([]) := cutOk_num 1 1 4 (fun j hj => match j, hj with
  | 0, _ => c21
  | 1, _ => c26
  | 2, _ => c31
  | 3, _ => c36
  | k + 4, h => absurd h (by omega)) c41 c42
theorem c44 : CutOk Try.prog 12 (((((pats Try.prog 8 Try.f12.params.toList 0).getD [])).map (putSV 0 (1 + 2))).map (putSV 1 (1 + 0))) ([]) := cutOk_num 22 0 3 (fun j hj => match j, hj with
  | 0, _ => c45
  | 1, _ => c46
  | 2, _ => c47
  | k + 3, h => absurd h (by omega)) c48 c49
theorem c50 : CutOk Try.prog 12 (((((pats Try.prog 8 Try.f12.params.toList 0).getD [])).map (putSV 0 (1 + 2))).map (putSV 1 (1 + 1))) ([]) := cutOk_num 22 0 3 (fun j hj => match j, hj with
  | 0, _ => c51
  | 1, _ => c52
  | 2, _ => c53
  | k + 3, h => absurd h (by omega)) c54 c55
theorem c56 : CutOk Try.prog 12 (((((pats Try.prog 8 Try.f12.params.toList 0).getD [])).map (putSV 0 (1 + 2))).map (putSV 1 (1 + 2))) ([]) := cutOk_num 22 0 3 (fun j hj => match j, hj with
  | 0, _ => c57
  | 1, _ => c58
  | 2, _ => c59
  | k + 3, h => absurd h (by omega)) c60 c61
theorem c62 : CutOk Try.prog 12 (((((pats Try.prog 8 Try.f12.params.toList 0).getD [])).map (putSV 0 (1 + 2))).map (putSV 1 (1 + 3))) ([]) := cutOk_num 22 0 3 (fun j hj => match j, hj with
  | 0, _ => c63
  | 1, _ => c64
  | 2, _ => c65
  | k + 3, h => absurd h (by omega)) c66 c67
theorem c43 : CutOk Try.prog 12 ((((pats Try.prog 8 Try.f12.params.toList 0).getD [])).map (putSV 0 (1 + 2))) ([]) := cutOk_num 1 1 4 (fun j hj => match j, hj with
  | 0, _ => c44
  | 1, _ => c50
  | 2, _ => c56
  | 3, _ => c62
  | k + 4, h => absurd h (by omega)) c68 c69
theorem c71 : CutOk Try.prog 12 (((((pats Try.prog 8 Try.f12.params.toList 0).getD [])).map (putSV 0 (1 + 3))).map (putSV 1 (1 + 0))) ([]) := cutOk_num 22 0 4 (fun j hj => match j, hj with
  | 0, _ => c72
  | 1, _ => c73
  | 2, _ => c74
  | 3, _ => c75
  | k + 4, h => absurd h (by omega)) c76 c77
theorem c78 : CutOk Try.prog 12 (((((pats Try.prog 8 Try.f12.params.toList 0).getD [])).map (putSV 0 (1 + 3))).map (putSV 1 (1 + 1))) ([]) := cutOk_num 22 0 4 (fun j hj => match j, hj with
  | 0, _ => c79
  | 1, _ => c80
  | 2, _ => c81
  | 3, _ => c82
  | k + 4, h => absurd h (by omega)) c83 c84
theorem c85 : CutOk Try.prog 12 (((((pats Try.prog 8 Try.f12.params.toList 0).getD [])).map (putSV 0 (1 + 3))).map (putSV 1 (1 + 2))) ([]) := cutOk_num 22 0 4 (fun j hj => match j, hj with
  | 0, _ => c86
  | 1, _ => c87
  | 2, _ => c88
  | 3, _ => c89
  | k + 4, h => absurd h (by omega)) c90 c91
theorem c92 : CutOk Try.prog 12 (((((pats Try.prog 8 Try.f12.params.toList 0).getD [])).map (putSV 0 (1 + 3))).map (putSV 1 (1 + 3))) ([]) := cutOk_num 22 0 4 (fun j hj => match j, hj with
  | 0, _ => c93
  | 1, _ => c94
  | 2, _ => c95
  | 3, _ => c96
  | k + 4, h => absurd h (by omega)) c97 c98
theorem c70 : CutOk Try.prog 12 ((((pats Try.prog 8 Try.f12.params.toList 0).getD [])).map (putSV 0 (1 + 3))) ([]) := cutOk_num 1 1 4 (fun j hj => match j, hj with
  | 0, _ => c71
  | 1, _ => c78
  | 2, _ => c85
  | 3, _ => c92
  | k + 4, h => absurd h (by omega)) c99 c100
theorem c0 : CutOk Try.prog 12 (((pats Try.prog 8 Try.f12.params.toList 0).getD [])) ([]) := cutOk_num 0 1 4 (fun j hj => match j, hj with
  | 0, _ => c1
  | 1, _ => c20
  | 2, _ => c43
  | 3, _ => c70
  | k + 4, h => absurd h (by omega)) c101 c102
theorem walked : LawOk Try.prog 12 ((pats Try.prog 8 Try.f12.params.toList 0).getD []) := lawOk_of c0
theorem lifted (os : Os) (started : os.Started) (H : Type) (enc : TypeId × Value → H) :
    ReturnsInHanded {} Try.checked os 12 .any (Rows.fnExactSetPriorSpec.pre6 enc Try.prog Try.f12 Rows.fnExactSetPriorRow.domain false) (Rows.fnExactSetPriorSpec.post enc Try.prog Try.f12 false true false false) :=
  lifted_law (C := Try.checked) (tb := 4) (n := 8) own started (by kernel_rfl) Try.func12 rfl (by kernel_rfl) (by kernel_rfl) (args := (pats Try.prog 8 Try.f12.params.toList 0).getD []) (by kernel_rfl)
    (fun ds h => by
      have h' : ds.length = 3 := h
      match ds, h' with
      | [_, _, _], _ => rfl)
    walked
    (ChangeSpec.witness6 (enc := enc) (C := Try.checked) false ⟨#[], (Try.f12.params.toList.map (zeroV Try.prog 8)).toArray, []⟩ 8 (by kernel_rfl) (by kernel_rfl) (by kernel_rfl) (by kernel_rfl))
theorem proved : Rows.FnExactSetPriorSaid :=
  OpenClaim.holds_of_wide 12 Try.f12 rfl rfl rfl rfl rfl rfl rfl ⟨rfl, rfl, rfl, rfl, rfl⟩ rfl rfl rfl rfl rfl (by kernel_rfl) Try.func12 (by kernel_rfl)
    (of_decide_eq_true (by kernel_rfl)) (by unfold Func.isWrapper; first | (rw [if_pos (by decide +kernel)]; kernel_rfl) | (rw [if_neg (by decide +kernel)]; exact ⟨rfl, rfl⟩))
    (fun os started H enc _ => lifted os started H enc)
end Go.Proofs.Ytdeglehhabdkdaa.lSetPrior
