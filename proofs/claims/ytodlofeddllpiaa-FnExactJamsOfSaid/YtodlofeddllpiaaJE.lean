/-
  THE LAW'S HELPERS ON A LIST OF PAIRS: the test that two lists are the same, walked. Conditions: those that stand in each.
-/
import Derived.Test.YtodlofeddllpiaaJD
import Derived.Deep.RegionHeld3
namespace Go.Proofs.Ytodlofeddllpiaa
open Go.RowKit Go.Jm
set_option maxRecDepth 100000
theorem cells2_get : ∀ {l : List (Nat × Nat)} {i : Nat} {p : Nat × Nat}, l[i]? = some p → (cells2 l)[i * 2]? = some (.int .i64 p.1) ∧ (cells2 l)[i * 2 + 1]? = some (.int .i64 p.2)
  | [], i, p, h => by simp at h
  | a :: l, 0, p, h => by
    obtain rfl : a = p := by simpa using h
    exact ⟨rfl, rfl⟩
  | a :: l, i + 1, p, h => by
    have ih := cells2_get (l := l) (i := i) (p := p) (by simpa using h)
    have e : (i + 1) * 2 = i * 2 + 1 + 1 := by omega
    rw [e]
    exact ih
theorem rowForm {w : World} {B : Nat} {e : TypeId} {size n : Nat} {v : Value} {xs : List Value} (h : w.ownsRow B e size v n xs) : ∃ sa cap, v = .slice sa n cap ∧ (0 < n → ∃ g, sa = some ⟨g, 0, none⟩ ∧ B ≤ g ∧ g < w.heap.size) := by
  rcases h.2 with ⟨rfl, rfl⟩ | ⟨g, cap, cur, rfl, h1, h2, _⟩
  · exact ⟨none, 0, rfl, fun h => by omega⟩
  · refine ⟨_, cap, rfl, fun _ => ⟨g, rfl, h1, ?_⟩⟩
    rcases Nat.lt_or_ge g w.heap.size with q | q
    · exact q
    · rw [Array.getElem?_eq_none q] at h2; cases h2
theorem eqS4 (x y : Int) (w0 w : World) (hb : Hid (Below w0.heap.size w0 w)) {g1 g2 a b c d : Nat} {u1 u2 u3 u4 : Value} (hg1 : g1 < w0.heap.size) (hg2 : g2 < w0.heap.size)
    (c1 : w.cell? ⟨g1, a, none⟩ = some u1) (c2 : w.cell? ⟨g1, b, none⟩ = some u2) (c3 : w.cell? ⟨g2, c, none⟩ = some u3) (c4 : w.cell? ⟨g2, d, none⟩ = some u4) :
    Calls Try.prog 15 #[.agg #[.int .i64 x, .int .i64 y], .agg #[.int .i64 x, .int .i64 y]] w (fun e w' => e = .returned (.bool true) ∧ w'.cell? ⟨g1, a, none⟩ = some u1 ∧ w'.cell? ⟨g1, b, none⟩ = some u2 ∧ w'.cell? ⟨g2, c, none⟩ = some u3 ∧ w'.cell? ⟨g2, d, none⟩ = some u4 ∧ Hid (Below w0.heap.size w0 w')) := by
  refine (eq2 x y w).mono ?_
  rintro e w' ⟨rfl, hb1⟩
  have h1 : g1 < w.heap.size := Nat.lt_of_lt_of_le hg1 hb.out.size
  have h2 : g2 < w.heap.size := Nat.lt_of_lt_of_le hg2 hb.out.size
  refine ⟨rfl, ?_, ?_, ?_, ?_, hb.out.trans (hb1.mono hb.out.size)⟩
  · rw [hb1.cell (p := ⟨g1, a, none⟩) h1]; exact c1
  · rw [hb1.cell (p := ⟨g1, b, none⟩) h1]; exact c2
  · rw [hb1.cell (p := ⟨g2, c, none⟩) h2]; exact c3
  · rw [hb1.cell (p := ⟨g2, d, none⟩) h2]; exact c4
set_option maxHeartbeats 800000
theorem eqRows (l : List (Nat × Nat)) (hl16 : l.length ≤ 16) (B1 B2 : Nat) (v1 v2 : Value) (w : World) (h1 : w.ownsRow B1 39 2 v1 l.length (cells2 l)) (h2 : w.ownsRow B2 39 2 v2 l.length (cells2 l)) :
    Calls Try.prog 7 #[v1, v2] w (fun e w' => e = .returned (.bool true) ∧ Below w.heap.size w w') := by
  obtain ⟨sa1, cap1, rfl, hs1⟩ := rowForm h1
  obtain ⟨sa2, cap2, rfl, hs2⟩ := rowForm h2
  have H1 : Hid (w.ownsRow B1 39 2 (.slice sa1 l.length cap1) l.length (cells2 l)) := h1
  have H2 : Hid (w.ownsRow B2 39 2 (.slice sa2 l.length cap2) l.length (cells2 l)) := h2
  obtain ⟨n, hn⟩ : ∃ n, n = l.length := ⟨_, rfl⟩
  rw [← hn] at H1 H2 hs1 hs2 hl16 ⊢
  have HN : Hid (n = l.length) := hn
  clear h1 h2 hn
  go_enter Try.func7, Try.ntmps7
  go_wp2
  go_loopw [5] (fun vi wr => ∃ (k : Nat), vi = .int .i64 k ∧ k ≤ n ∧ Hid (Below w.heap.size w wr))
    (fun vi _ => n - (intOf vi).toNat)
  case atStart => exact ⟨0, rfl, by omega, Below.refl _ _⟩
  case round =>
    obtain ⟨k, rfl, hk, hbw⟩ := hrel
    by_cases hkn : k < n
    · have hki : (k : Int) < (n : Int) := by omega
      obtain ⟨g1, rfl, _, hg1⟩ := hs1 (by omega)
      obtain ⟨g2, rfl, _, hg2⟩ := hs2 (by omega)
      obtain ⟨p, hp⟩ : ∃ p, l[k]? = some p := ⟨_, List.getElem?_eq_getElem (show k < l.length by have := HN.out; omega)⟩
      obtain ⟨e1, e2⟩ := cells2_get hp
      have c1 := ownsCell H1.out _ e1
      have c2 := ownsCell H1.out _ e2
      have c3 := ownsCell H2.out _ e1
      have c4 := ownsCell H2.out _ e2
      rw [← hbw.out.cell (p := ⟨g1, k * 2, none⟩) hg1] at c1
      rw [← hbw.out.cell (p := ⟨g1, k * 2 + 1, none⟩) hg1] at c2
      rw [← hbw.out.cell (p := ⟨g2, k * 2, none⟩) hg2] at c3
      rw [← hbw.out.cell (p := ⟨g2, k * 2 + 1, none⟩) hg2] at c4
      obtain ⟨x, y⟩ := p
      have hbd : Hid (Below w.heap.size w wr.drew) := hbw.out.drew
      clear e1 e2 hp hs1 hs2
      go_wp2
      go_region_held3 (fun w' => w'.cell? ⟨g1, k * 2, none⟩ = some (.int .i64 (x : Int)) ∧ w'.cell? ⟨g1, k * 2 + 1, none⟩ = some (.int .i64 (y : Int)) ∧ w'.cell? ⟨g2, k * 2, none⟩ = some (.int .i64 (x : Int)) ∧ w'.cell? ⟨g2, k * 2 + 1, none⟩ = some (.int .i64 (y : Int)) ∧ Hid (Below w.heap.size w w'))
        (first | assumption | (go_keep; done))
        (first
          | (go_at_call 15; refine (eqS4 _ _ w _ (by go_split_ands; assumption) (a := k * 2) (b := k * 2 + 1) (c := k * 2) (d := k * 2 + 1) hg1 hg2 (by go_split_ands; assumption) (by go_split_ands; assumption) (by go_split_ands; assumption) (by go_split_ands; assumption)).mono ?_; rintro e w' ⟨rfl, k1, k2, k3, k4, k5⟩))
      have HB : Hid (Below w.heap.size w w') := by assumption
      go_wp2
      refine ⟨⟨k + 1, (by first | rfl | (congr 1; omega)), by omega, HB⟩, by simp only [intOf]; omega⟩
    · have hki : (n : Int) ≤ (k : Int) := by omega
      go_wp2
      go_ret
      exact ⟨rfl, hbw.out⟩
end Go.Proofs.Ytodlofeddllpiaa
