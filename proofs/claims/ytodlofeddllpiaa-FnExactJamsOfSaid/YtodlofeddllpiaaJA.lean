/-
  RUNS OF FULL CELLS: plain facts on lists, no program; a row of the call's own when one cell of it is written. Conditions: those that stand in each.
-/
import Derived.Maps.AppendAt
import Derived.Deep.AppendLies
import Derived.Below
import Derived.Laws.Rows
import Derived.WalkKit
namespace Go.Jm
open Go Go.RowKit
set_option maxRecDepth 100000
/-- Was the cell before full? -/
def prv (fb : Nat → Bool) : Nat → Bool
  | 0 => false
  | k + 1 => fb k
def setLast (l : List (Nat × Nat)) (k : Nat) : List (Nat × Nat) :=
  match l.getLast? with
  | some p => l.dropLast ++ [(p.1, k)]
  | none => []
/-- The runs among the first k cells. -/
def jam (fb : Nat → Bool) : Nat → List (Nat × Nat)
  | 0 => []
  | k + 1 => if fb k then (if prv fb k then setLast (jam fb k) k else jam fb k ++ [(k, k)]) else jam fb k
theorem setLast_snoc (m : List (Nat × Nat)) (a b k : Nat) : setLast (m ++ [(a, b)]) k = m ++ [(a, k)] := by simp [setLast]
theorem snoc_of {α : Type} : ∀ {l : List α}, l ≠ [] → ∃ m a, l = m ++ [a]
  | l, h => ⟨l.dropLast, l.getLast h, (List.dropLast_concat_getLast h).symm⟩
/-- What stands last. -/
def lastOk (fb : Nat → Bool) (k : Nat) (l : List (Nat × Nat)) : Prop :=
  (prv fb k = true ∧ ∃ m a, l = m ++ [(a, k - 1)]) ∨ (prv fb k = false ∧ (l = [] ∨ ∃ m a b, l = m ++ [(a, b)] ∧ b + 1 < k))
theorem jam_last (fb : Nat → Bool) : ∀ k, lastOk fb k (jam fb k)
  | 0 => .inr ⟨rfl, .inl rfl⟩
  | k + 1 => by
    have ih := jam_last fb k
    unfold jam
    cases hk : fb k with
    | true =>
      refine .inl ⟨hk, ?_⟩
      rcases ih with ⟨hp, m, a, e⟩ | ⟨hp, _⟩
      · rw [hp, e, if_pos rfl, if_pos rfl, setLast_snoc]
        exact ⟨m, a, rfl⟩
      · rw [hp, if_pos rfl, if_neg (by simp)]
        exact ⟨_, _, rfl⟩
    | false =>
      refine .inr ⟨hk, ?_⟩
      rw [if_neg (by simp)]
      rcases ih with ⟨hp, m, a, e⟩ | ⟨hp, e | ⟨m, a, b, e, hb⟩⟩
      · refine .inr ⟨m, a, k - 1, e, ?_⟩
        cases k with
        | zero => cases hp
        | succ k => omega
      · exact .inl e
      · exact .inr ⟨m, a, b, e, by omega⟩
theorem jam_length (fb : Nat → Bool) : ∀ k, (jam fb k).length ≤ k
  | 0 => Nat.le_refl _
  | k + 1 => by
    have ih := jam_length fb k
    unfold jam
    split
    · split
      · rcases jam_last fb k with ⟨_, m, a, e⟩ | ⟨hp, _⟩
        · rw [e, setLast_snoc]
          rw [e] at ih
          simp only [List.length_append, List.length_cons, List.length_nil] at ih ⊢
          omega
        · simp_all
      · simp only [List.length_append, List.length_cons, List.length_nil]
        omega
    · omega
theorem jam_lt (fb : Nat → Bool) : ∀ k, ∀ p ∈ jam fb k, p.1 < k ∧ p.2 < k
  | 0, p, h => by cases h
  | k + 1, p, h => by
    have ih := jam_lt fb k
    unfold jam at h
    split at h
    · split at h
      · rcases jam_last fb k with ⟨_, m, a, e⟩ | ⟨hp, _⟩
        · rw [e, setLast_snoc] at h
          rw [e] at ih
          rcases List.mem_append.1 h with h | h
          · have := ih p (List.mem_append_left _ h)
            omega
          · rw [List.mem_singleton] at h
            have := ih (a, k - 1) (List.mem_append_right _ (List.mem_singleton.2 rfl))
            rw [h]
            exact ⟨by omega, by omega⟩
        · simp_all
      · rcases List.mem_append.1 h with h | h
        · have := ih p h
          omega
        · rw [List.mem_singleton] at h
          rw [h]
          exact ⟨by omega, by omega⟩
    · have := ih p h
      omega
/-- A row's cells. -/
def cells2 (l : List (Nat × Nat)) : List Value := l.flatMap fun p => [.int .i64 p.1, .int .i64 p.2]
theorem cells2_length (l : List (Nat × Nat)) : (cells2 l).length = l.length * 2 := by
  induction l with
  | nil => rfl
  | cons a l ih =>
    show (cells2 l).length + 2 = (l.length + 1) * 2
    omega
theorem cells2_snoc (m : List (Nat × Nat)) (a b : Nat) : cells2 (m ++ [(a, b)]) = cells2 m ++ [.int .i64 a, .int .i64 b] := by
  simp [cells2]
theorem cells2_set (m : List (Nat × Nat)) (a b k : Nat) : (cells2 (m ++ [(a, b)])).set (m.length * 2 + 1) (.int .i64 k) = cells2 (m ++ [(a, k)]) := by
  rw [cells2_snoc, cells2_snoc, ← cells2_length, List.set_append_right _ _ (by omega)]
  have : (cells2 m).length + 1 - (cells2 m).length = 1 := by omega
  rw [this]
  rfl
/-- One cell of a row of the call's own, written. -/
theorem ownsSet {w : World} {base : Nat} {e : TypeId} {size n g cap : Nat} {xs : List Value} (h : w.ownsRow base e size (.slice (some ⟨g, 0, none⟩) n cap) n xs) (i : Nat) (u : Value) :
    (w.setCell ⟨g, i, none⟩ u).ownsRow base e size (.slice (some ⟨g, 0, none⟩) n cap) n (xs.set i u) := by
  refine ⟨by rw [List.length_set]; exact h.1, ?_⟩
  rcases h.2 with ⟨h0, _⟩ | ⟨g', cap', cur, hv, h1, h2, h3, h4, h5, h6⟩
  · cases h0
  · injection hv with e1 e2 e3
    injection e1 with e1
    injection e1 with e1
    subst e1
    subst e3
    refine .inr ⟨g, cap, cur.setIfInBounds i u, rfl, h1, heap_setCell_same w g i cur e u h2, h3, h4, by rw [Array.size_setIfInBounds]; exact h5, ?_⟩
    rw [Array.toList_setIfInBounds, List.take_set, h6]
theorem ownsCell {w : World} {base : Nat} {e : TypeId} {size n g cap : Nat} {xs : List Value} (h : w.ownsRow base e size (.slice (some ⟨g, 0, none⟩) n cap) n xs) (i : Nat) {u : Value} (hu : xs[i]? = some u) : w.cell? ⟨g, i, none⟩ = some u := by
  have := h.cells (g := g) rfl i u hu
  rw [Addr.add_lit, Nat.zero_add] at this
  exact this
theorem ownsFrozen {w : World} {base : Nat} {e : TypeId} {size n g cap : Nat} {xs : List Value} (h : w.ownsRow base e size (.slice (some ⟨g, 0, none⟩) n cap) n xs) (i : Nat) : w.frozen? ⟨g, i, none⟩ = false := by
  rcases h.2 with ⟨h0, _⟩ | ⟨g', cap', cur, hv, h1, h2, _⟩
  · cases h0
  · injection hv with e1 e2 e3
    injection e1 with e1
    injection e1 with e1
    subst e1
    exact frozen_of_row w g i cur e h2
theorem ownsLt {w : World} {base : Nat} {e : TypeId} {size n g cap : Nat} {xs : List Value} (h : w.ownsRow base e size (.slice (some ⟨g, 0, none⟩) n cap) n xs) : base ≤ g ∧ g < w.heap.size := by
  rcases h.2 with ⟨h0, _⟩ | ⟨g', cap', cur, hv, h1, h2, _⟩
  · cases h0
  · injection hv with e1 e2 e3
    injection e1 with e1
    injection e1 with e1
    subst e1
    refine ⟨h1, ?_⟩
    rcases Nat.lt_or_ge g w.heap.size with q | q
    · exact q
    · rw [Array.getElem?_eq_none q] at h2; cases h2
end Go.Jm
