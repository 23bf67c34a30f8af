/-
  THE LAW FnExactRoadText, walked: it answers true. Conditions: one cell of the library's table; the argument is nineteen floats.
-/
import Derived.Test.YtfeaddbehmodmaaDoorN
namespace Go.Proofs.YtfeaddbehmodmaaDoor
open Go.RowKit
set_option maxRecDepth 100000
theorem outT_eq {bs cs : List Nat} (h : Road19 bs) (h' : Road19 cs) (hr : rho cs = rho bs) : outT cs = outT bs := by
  have hnb : ∀ k, nb (cs.getD k 0) = nb (bs.getD k 0) := fun k => by
    rw [nb_nz, nb_nz]
    exact Int.ofNat.inj (congrFun hr k)
  have htx : txs cs = txs bs := by
    refine List.ext_getElem? fun k => ?_
    rcases Nat.lt_or_ge k 19 with q | q
    · rw [txs_get (by rw [h'.1]; exact q), txs_get (by rw [h.1]; exact q), hnb]
    · rw [List.getElem?_eq_none (by unfold txs; rw [List.length_map, h'.1]; exact q), List.getElem?_eq_none (by unfold txs; rw [List.length_map, h.1]; exact q)]
  unfold outT roadT rowT hx
  rw [okR_eq hr, htx, hnb, hnb, hnb]
theorem size32 {bs : List Nat} (h : Road19 bs) : (Tryd.prog.info? 32).map (·.size) = some (fl bs).length := by rw [fl_length, h.1]; kernel_rfl
set_option maxHeartbeats 800000
theorem roadTextLaw {bs : List Nat} (h : Road19 bs) (w : World) (ht : TabOk w) :
    Calls Tryd.prog 5 #[.agg (fl bs).toArray] w (fun e w' => e = .returned (.bool true) ∧ Below w.heap.size w w') := by
  have hg := heap_alloc_new w (.cells (fl bs).toArray 32)
  have hbA : Below w.heap.size w (w.alloc (.cells (fl bs).toArray 32)) := (Below.refl _ _).alloc (Nat.le_refl _) _
  have hsz : w.heap.size < (w.alloc (.cells (fl bs).toArray 32)).heap.size := by
    show _ < (w.heap.push _).size
    rw [Array.size_push]
    exact Nat.lt_succ_self _
  have hra := range36 (w := w.alloc (.cells (fl bs).toArray 32)) (g := w.heap.size) h (fun k hk => cell_fl hg (by have := h.1; omega))
  have hs32 := size32 h
  obtain ⟨wA, hwA⟩ : ∃ wA, w.alloc (.cells (fl bs).toArray 32) = wA := ⟨_, rfl⟩
  rw [hwA] at hra hbA hsz
  clear hg
  have hra2 : ∀ w2, Below wA.heap.size wA w2 → w2.rangeAt w.heap.size 0 (fl bs) := fun w2 hb j v hj => by
    rw [hb.cell (p := ⟨w.heap.size, 0 + j, none⟩) hsz]
    exact hra j v hj
  go_enter Tryd.func5, Tryd.ntmps5
  go_wp2_with (first
    | (with_reducible show Go.wpList _ _ _ (Go.Oper.mk _ (Go.Op.load 32 _) _ _ _ _ :: _) _ _; refine wpList_load_mid rfl 32 (.tmp 1) rfl _ _ rfl (fl bs) _ hra Tryd.underlying32 rfl hs32 ?_)
    | (with_reducible show Go.wpList _ _ _ (Go.Oper.mk _ (Go.Op.load 32 _) _ _ _ _ :: _) _ _; refine wpList_load_mid rfl 32 (.tmp 1) rfl _ _ rfl (fl bs) _ (hra2 _ (hb1.trans (hb2.mono hb1.size))) Tryd.underlying32 rfl hs32 ?_)
    | (go_at_call 13; refine (toRoad h wA).mono ?_; rintro e w1 ⟨cs, rfl, hR, hr, hb1⟩)
    | (go_at_call 12; refine (specRoadText hR w1).mono ?_; rintro e w2 ⟨rfl, hb2⟩)
    | (go_at_call 13; refine (toRoad h w2).mono ?_; rintro e w3 ⟨cs', rfl, hR', hr', hb3⟩)
    | (go_at_call 14; refine (implRoadText hR' w3 (tab_below ht (((hbA.trans (hb1.mono hbA.size)).trans (hb2.mono (Nat.le_trans hbA.size hb1.size))).trans (hb3.mono (Nat.le_trans (Nat.le_trans hbA.size hb1.size) hb2.size))))).mono ?_; rintro e w4 ⟨rfl, hb4⟩; rw [outT_eq h hR' hr', ← outT_eq h hR hr]))
  go_ret
  have hA1 := Nat.le_trans hbA.size hb1.size
  have hA2 := Nat.le_trans hA1 hb2.size
  exact ⟨rfl, (((hbA.trans (hb1.mono hbA.size)).trans (hb2.mono hA1)).trans (hb3.mono hA2)).trans (hb4.mono (Nat.le_trans hA2 hb3.size))⟩
end Go.Proofs.YtfeaddbehmodmaaDoor
