/-
  THE TEXT OF A ROAD BY THE REFERENCE: the test, then the text. Conditions: those that stand in each.
-/
import Derived.Test.YtfeaddbehmodmaaDoorJ
namespace Go.Proofs.YtfeaddbehmodmaaDoor
open Go.RowKit
set_option maxRecDepth 100000
/-- A road's text, none if the tests fail. -/
def outT (bs : List Nat) : List UInt8 := if okR bs then roadT bs else []
theorem cell_fl {w : World} {g : Nat} {T : TypeId} {bs : List Nat} (hg : w.heap[g]? = some (.cells (fl bs).toArray T (0, 0))) {k : Nat} (hk : k < bs.length) : w.cell? ⟨g, k, none⟩ = some (.float .f32 (bs.getD k 0)) := by
  simp only [World.cell?, hg]
  simp [fl, List.getD_eq_getElem?_getD, List.getElem?_eq_getElem hk]
theorem specRoadText {bs : List Nat} (h : Road19 bs) (w : World) :
    Calls Tryd.prog 12 #[.agg (fl bs).toArray] w (fun e w' => e = .returned (.string ⟨(outT bs).toArray⟩) ∧ Below w.heap.size w w') := by
  have hg := heap_alloc_new w (.cells (fl bs).toArray 36)
  have hbA : Below w.heap.size w (w.alloc (.cells (fl bs).toArray 36)) := (Below.refl _ _).alloc (Nat.le_refl _) _
  have hsz : w.heap.size < (w.alloc (.cells (fl bs).toArray 36)).heap.size := by
    show _ < (w.heap.push _).size
    rw [Array.size_push]
    exact Nat.lt_succ_self _
  obtain ⟨W1, hW⟩ : ∃ W1, W1 = w.alloc (.cells (fl bs).toArray 36) := ⟨_, rfl⟩
  rw [← hW] at hg hbA hsz
  cases hk : okR bs with
  | false =>
    have ho : outT bs = [] := by unfold outT; rw [hk]; rfl
    go_enter Tryd.func12, Tryd.ntmps12
    go_wp2_with (first
      | (go_at_call 25; rw [← hW]; refine (specOk h _ w.heap.size 36 hg).mono ?_; rintro e w1 ⟨rfl, hb1⟩; rw [hk]))
    go_ret
    exact ⟨by rw [ho]; rfl, hbA.trans (hb1.mono hbA.size)⟩
  | true =>
    have ho : outT bs = roadT bs := by unfold outT; rw [hk]; rfl
    go_enter Tryd.func12, Tryd.ntmps12
    go_wp2_with (first
      | (go_at_call 25; rw [← hW]; refine (specOk h _ w.heap.size 36 hg).mono ?_; rintro e w1 ⟨rfl, hb1⟩; rw [hk])
      | (go_at_call 26; refine (specText h w.heap.size w1 (Nat.lt_of_lt_of_le hsz hb1.size) (fun k hk => by rw [hb1.cell (p := ⟨w.heap.size, k, none⟩) hsz]; exact cell_fl hg (by have := h.1; omega))).mono ?_; rintro e w2 ⟨rfl, hb2⟩))
    go_ret
    exact ⟨by rw [ho]; rfl, (hbA.trans (hb1.mono hbA.size)).trans (hb2.mono (Nat.le_trans hbA.size hb1.size))⟩
end Go.Proofs.YtfeaddbehmodmaaDoor
