/-
  WORDS READ AS NUMBERS BY THE PROGRAM, walked. Conditions: the words' lengths, the cells of the library's two errors and one cell of its table.
-/
import Derived.Test.YtfeaddbehmodmaaDoorS2
namespace Go.Proofs.YtfeaddbehmodmaaDoor
open Go.RowKit
set_option maxRecDepth 100000
theorem map_snoc {ws : List (List UInt8)} {k : Nat} {x : List UInt8} (h : ws[k]? = some x) : (ws.take (k + 1)).map numX = (ws.take k).map numX ++ [numX x] := by
  rw [List.take_add_one, h]
  simp
set_option maxHeartbeats 800000
theorem implWords (ws : List (List UInt8)) (hmax : ws.length ≤ 1000000) (hlen : ∀ x ∈ ws, x.length ≤ 1048576) (g o c : Nat) (w : World) (hg : g < w.heap.size)
    (hc : ∀ (k : Nat) x, ws[k]? = some x → w.cell? ⟨g, o + k, none⟩ = some (.string (ba x))) (he : ErrOk w) (ht : TabOk w) :
    Calls Tryd.prog 32 #[.slice (some ⟨g, o, none⟩) ws.length c] w (RetRow w 22 (fl (ws.map numX))) := by
  obtain ⟨i0, hi, hz0, hz1, hz2⟩ := info_parts info22
  have h3 : 3 < w.heap.size := by have := tab_size ht; omega
  obtain ⟨N, hN⟩ : ∃ N, N = ws.length := ⟨_, rfl⟩
  rw [← hN] at hmax ⊢
  have HN : Hid (N = ws.length) := hN
  clear hN
  go_enter Tryd.func32, Tryd.ntmps32
  go_wp2
  have hE := rowEmpty w w (Nat.le_refl _) 22
  have hA : Below w.heap.size w (w.alloc (.cells #[] 22)) := (Below.refl _ _).alloc (Nat.le_refl _) _
  go_loopw [3, 11] (fun v3 vi wr => ∃ (k : Nat), vi = .int .i64 k ∧ k ≤ N ∧ Hid (wr.ownsRow w.heap.size 22 1 v3 k (fl ((ws.take k).map numX))) ∧ Hid (Below w.heap.size w wr))
    (fun _ vi _ => N - (intOf vi).toNat)
  case atStart => exact ⟨0, rfl, by omega, hE, hA⟩
  case round =>
    obtain ⟨k, rfl, hk, hown, hbw⟩ := hrel
    clear hE hA
    by_cases hkn : k < N
    · have hki : (k : Int) < (N : Int) := by omega
      have hkw : k < ws.length := by have := HN.out; omega
      obtain ⟨x, hx⟩ : ∃ x, ws[k]? = some x := ⟨_, List.getElem?_eq_getElem hkw⟩
      have hck : wr.cell? ⟨g, o + k, none⟩ = some (.string (ba x)) := by rw [hbw.out.cell (p := ⟨g, o + k, none⟩) hg]; exact hc k x hx
      have hxl : (ba x).size ≤ 1048576 := hlen x (by
        rw [List.getElem?_eq_getElem hkw] at hx
        rw [← Option.some.inj hx]
        exact List.getElem_mem hkw)
      have hM : Hid (fl ((ws.take (k + 1)).map numX) = fl ((ws.take k).map numX) ++ [.float .f32 (numX x)]) := by
        show fl _ = _
        rw [map_snoc hx, fl_snoc]
      have hwle := hbw.out.size
      have hE1 : ErrOk wr := err_below he h3 hbw.out
      have hT1 : TabOk wr := tab_below ht hbw.out
      have hP := implNum (ba x) hxl wr hE1 hT1
      have hR : ∀ e, RetNum (ba x).data.toList e → e = .returned (.tuple #[.float .f32 (numX x), .int .i64 (numC x)]) := fun e h => ret_num h
      clear hx hc hxl hlen hE1 hT1
      go_wp2_with (first
        | (go_at_call 10; refine hP.mono ?_; rintro e w2 ⟨hr, hb2⟩; obtain rfl := hR e hr; clear hr)
        | (at_builtin
           refine wpList_append_own_at _ rfl (.tmp 20) (.tmp 22) _ rfl w.heap.size 22 i0 _ 1 4 Tryd.underlying64 hi hz0 hz1 hz2 rfl (by omega) _ k _ rfl ((ownsBelow hown.out hb2).alloc _)
             ⟨w2.heap.size, 0, none⟩ 1 1 [.float .f32 (numX x)] rfl rfl (cell_one_new _ _ _) (oneFl _) (by unfold maxLen; omega) (by omega) (by have := hb2.size; simp; omega) ?_
           intro v' w3 hown3 hgrow3 hnil3 hloc3))
      have hB3 : Hid (Below w.heap.size w w3) := ((hbw.out.trans (hb2.mono hwle)).alloc (Nat.le_trans hwle hb2.size) _).grown hgrow3 (by have := hb2.size; simp; omega) (ownBlock_ge hown.out)
      have hO3 : Hid (w3.ownsRow w.heap.size 22 1 v' (k + 1) (fl ((ws.take (k + 1)).map numX))) := by
        rw [hM.out]
        exact hown3
      refine ⟨⟨k + 1, (by first | rfl | (congr 1; omega)), by omega, hO3, hB3⟩, by simp only [intOf]; omega⟩
    · have hki : (N : Int) ≤ (k : Int) := by omega
      have hO : Hid (wr.ownsRow w.heap.size 22 1 u3 (fl (ws.map numX)).length (fl (ws.map numX))) := by
        have h1 := hown.out
        have h2 := HN.out
        rw [List.take_of_length_le (by omega)] at h1
        rw [fl_length, List.length_map]
        have : k = ws.length := by omega
        rw [this] at h1
        exact h1
      clear hc hown hlen
      go_wp2
      go_ret
      exact ⟨_, rfl, hO.out, hbw.out⟩
end Go.Proofs.YtfeaddbehmodmaaDoor
