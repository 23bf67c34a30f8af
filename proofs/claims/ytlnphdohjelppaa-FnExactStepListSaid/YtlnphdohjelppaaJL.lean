/-
  PROVED: the given statement of the law FnExactStepList: at every input the law answers true and its arguments read as they did.
  Conditions: those of the given row alone.
-/
import Derived.Test.YtlnphdohjelppaaRows
import Derived.Test.YtlnphdohjelppaaJK
import Derived.Deep.Slices
import Derived.Carry
set_option maxRecDepth 100000
namespace Go.Proofs.Ytlnphdohjelppaa.lStepList
open Go.Sx Go.RowKit Go.ChangeShapes Go.WideShapes
theorem own : ownKnob Try.prog.godebug = none := by kernel_rfl
theorem laidOut : laidOutB Try.prog = true := by kernel_rfl
theorem params : Try.f3.params.toList = [25, 26, 26] := by kernel_rfl
theorem und26 : Try.prog.underlying 26 = some (.slice 22) := by kernel_rfl
theorem und4 : Try.prog.underlying 4 = some .bool := by kernel_rfl
theorem cells22 : Try.prog.cellsOf 22 = 1 := by kernel_rfl
theorem flat22 : flat Try.prog 3 22 = some [.f .f32] := by kernel_rfl
/-- Cells that are floats. -/
theorem leaf_fl : ∀ (n : Nat) (vs : List Value), All2 leafOk (List.replicate n (.f .f32)) vs → ∃ bs : List Nat, vs = fl bs ∧ bs.length = n ∧ ∀ b ∈ bs, b < Sx.bits .f32
  | 0, [], _ => ⟨[], rfl, rfl, by simp⟩
  | 0, _ :: _, h => h.elim
  | n + 1, [], h => h.elim
  | n + 1, v :: vs, h => by
    obtain ⟨⟨b, rfl, hb⟩, h⟩ := h
    obtain ⟨bs, rfl, rfl, h3⟩ := leaf_fl n vs h
    refine ⟨b :: bs, rfl, rfl, fun c hc => ?_⟩
    rcases List.mem_cons.1 hc with rfl | hc
    · exact hb
    · exact h3 c hc
def patternOf : Value → Nat | .float _ b => b | _ => 0
/-- What a slice of numbers holds that came in. -/
theorem argF_of {H : Type} {enc : TypeId × Value → H} {W : World} {r : Go.Reach} {base : Nat} {v : Value} {d : DataW H} {p : List MemPlace} (hok : Value.okWide Try.prog W r base 26 v)
    (h : DataW.Trod enc Try.prog W 0 (fun _ => true) true 26 v d p) : ∃ xs : List Nat, ArgF W v xs ∧ ∀ b ∈ xs, b < Sx.bits .f32 := by
  obtain ⟨sa, len, cap, rfl⟩ := okWide_slice und26 hok
  obtain ⟨fuel, hf⟩ := h
  rcases Go.Deep.open_slice1 und26 cells22 hf with ⟨hcs, _⟩ | ⟨a, len', cap', m, n, V, D, Pl, hcs, _, hl, _, hm, _, hx⟩
  · simp [Value.cells] at hcs
    obtain ⟨rfl, rfl, rfl⟩ := hcs
    exact ⟨[], ⟨none, 0, rfl, fun h => absurd h (by simp)⟩, by simp⟩
  · simp [Value.cells] at hcs
    obtain ⟨rfl, rfl, rfl⟩ := hcs
    have hlm : len ≤ m := by
      rw [hm]
      simpa using hl
    have hV : ∀ i, i < len → ∃ b, V i = .float .f32 b ∧ b < Sx.bits .f32 := fun i hi => by
      obtain ⟨_, e2, _⟩ := flat_trod flat22 (hx i (by omega)).2
      exact e2.1
    refine ⟨(List.range len).map fun i => patternOf (V i), ⟨some a, cap, by rw [List.length_map, List.length_range], fun h0 => ?_⟩, fun b hb => ?_⟩
    · rw [List.length_map, List.length_range] at h0
      refine ⟨a, rfl, ?_, fun k hk => ?_⟩
      · have := block_lt_of_cell (hx 0 (by omega)).1
        rw [add_block] at this
        exact this
      · rw [List.length_map, List.length_range] at hk
        obtain ⟨b, e, _⟩ := hV k hk
        rw [(hx k (by omega)).1, List.getD_eq_getElem?_getD, List.getElem?_map, List.getElem?_range hk]
        show some (V k) = some (Value.float .f32 (patternOf (V k)))
        rw [e]
        rfl
    · obtain ⟨i, hi, rfl⟩ := List.mem_map.1 hb
      obtain ⟨b, e, hb'⟩ := hV i (List.mem_range.1 hi)
      rw [e]
      exact hb'
theorem lifted (os : Os) (started : os.Started) (H : Type) (enc : TypeId × Value → H) :
    ReturnsInHanded {} Try.checked os 3 .any (Rows.fnExactStepListSpec.pre6 enc Try.prog Try.f3 Rows.fnExactStepListRow.domain false) (Rows.fnExactStepListSpec.post enc Try.prog Try.f3 false true false false) := by
  refine returnsInHanded_of_change (C := Try.checked) own started (by kernel_rfl) Try.func3
    (ChangeSpec.witness6 (enc := enc) (C := Try.checked) false ⟨#[], #[.agg (Array.replicate 19 (.float .f32 0)), .slice none 0 0, .slice none 0 0], []⟩ 8 (by kernel_rfl) (by kernel_rfl) (by kernel_rfl) (by kernel_rfl)) ?_
  intro W base vals ds gs before hval0 hW _ _
  have hval : ∀ (j : Nat) t v, Try.f3.params.toList[j]? = some t → vals[j]? = some v → Value.okWide Try.prog W .any base t v := fun j t v h1 h2 => hval0 j t v (by simpa using h1) h2
  have hW' := hW
  obtain ⟨p, q, hA0, hV, rfl, _, _⟩ := hW
  have hA : DataW.TrodAll enc Try.prog W 0 (fun _ => true) true Try.f3.params.toList vals.toList ds p := hA0
  rw [params] at hA hval
  obtain ⟨v0, v1, v2, d0, d1, d2, p0, p1, p2, rfl, rfl, rfl, h0, h1, h2⟩ := trodAll_three hA
  obtain ⟨rfl, rfl⟩ := trodVars_none hV
  have hlt : ∀ x ∈ (p0 ++ p1 ++ p2) ++ [], x.block < W.heap.size := fun x hx => hW'.lt x hx
  have hlt1 : ∀ x ∈ p1, x.block < W.heap.size := fun x hx => hlt x (by simp [hx])
  have hlt2 : ∀ x ∈ p2, x.block < W.heap.size := fun x hx => hlt x (by simp [hx])
  obtain ⟨xs, hx1, hx2⟩ := argF_of (hval 1 26 v1 rfl rfl) h1
  obtain ⟨ys, hy1, hy2⟩ := argF_of (hval 2 26 v2 rfl rfl) h2
  obtain ⟨fu, hf⟩ := h0
  obtain ⟨e1, e2, e3⟩ := flat_trod (show flat Try.prog 4 25 = some (List.replicate 19 (.f .f32)) by kernel_rfl) hf
  obtain ⟨cs0, rfl⟩ := okWide_agg (show Go.Sx.isAgg Try.prog 25 = true by kernel_rfl) (hval 0 25 v0 rfl rfl)
  obtain ⟨bs, b1, b2, b3⟩ := leaf_fl _ _ e2
  have b1' : cs0.toList = fl bs := b1
  obtain rfl : cs0 = (fl bs).toArray := by rw [← b1']
  simp only at e1
  subst e1
  refine (lawOk ⟨b2, b3⟩ xs ys hx2 hy2 v1 v2 W hx1 hy1).mono fun e W' ⟨he, hle⟩ => ⟨.bool true, he, ?_⟩
  refine ⟨[d0, d1, d2], [], _, [], [] ++ (p1 ++ p2), [], hW', ?_, ?_, rfl, Below.frame hle _, fun h => by cases h⟩
  · exact trodAll_cons_mk (shut_bool und4 _) trodAll_mk0
  · show DataW.TrodAll enc Try.prog W' 0 _ true Try.f3.params.toList [_, v1, v2] [d0, d1, d2] _
    rw [params]
    exact trodAll_mk3 (p := []) ⟨fu, e3 _ _ _ _⟩ (Below.trod laidOut (by kernel_rfl) (of_decide_eq_true (by kernel_rfl)) h1 hle hlt1) (Below.trod laidOut (by kernel_rfl) (of_decide_eq_true (by kernel_rfl)) h2 hle hlt2)
theorem proved : Rows.FnExactStepListSaid :=
  OpenClaim.holds_of_wide 3 Try.f3 rfl rfl rfl rfl rfl rfl rfl ⟨rfl, rfl, rfl, rfl, rfl⟩ rfl rfl rfl rfl rfl (by kernel_rfl) Try.func3 (by kernel_rfl)
    (of_decide_eq_true (by kernel_rfl)) (by unfold Func.isWrapper; first | (rw [if_pos (by decide +kernel)]; kernel_rfl) | (rw [if_neg (by decide +kernel)]; exact ⟨rfl, rfl⟩))
    (fun os started H enc _ => lifted os started H enc)
end Go.Proofs.Ytlnphdohjelppaa.lStepList
