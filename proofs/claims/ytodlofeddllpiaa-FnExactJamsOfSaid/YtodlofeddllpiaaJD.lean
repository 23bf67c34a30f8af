/-
  THE REFERENCE'S LIST OF JAMS, walked. Conditions: the argument is nineteen floats.
-/
import Derived.Test.YtodlofeddllpiaaJC
namespace Go.Proofs.Ytodlofeddllpiaa
open Go.RowKit Go.Jm
set_option maxRecDepth 100000
theorem wrapJ {x : Int} (h0 : -9223372036854775808 ≤ x) (h1 : x ≤ 9223372036854775807) : IntKind.i64.wrap x = x := by rw [IntKind.wrap_i64]; omega
theorem rowMono {w : World} {base base' : Nat} {e : TypeId} {size : Nat} {v : Value} {n : Nat} {xs : List Value} (h : w.ownsRow base e size v n xs) (hb : base' ≤ base) : w.ownsRow base' e size v n xs :=
  ⟨h.1, h.2.imp id fun ⟨g, cap, cur, hv, h1, h2⟩ => ⟨g, cap, cur, hv, Nat.le_trans hb h1, h2⟩⟩
set_option maxHeartbeats 800000
theorem specJams {bs : List Nat} (h : Road19 bs) (w : World) : Calls Try.prog 4 #[.agg (fl bs).toArray] w (RetJ w (rho bs)) := by
  have hg := heap_alloc_new w (.cells (fl bs).toArray 31)
  have hbA : Below w.heap.size w (w.alloc (.cells (fl bs).toArray 31)) := (Below.refl _ _).alloc (Nat.le_refl _) _
  have hsz : w.heap.size < (w.alloc (.cells (fl bs).toArray 31)).heap.size := by
    show _ < (w.heap.push _).size
    rw [Array.size_push]
    exact Nat.lt_succ_self _
  obtain ⟨wA, hwA⟩ : ∃ wA, w.alloc (.cells (fl bs).toArray 31) = wA := ⟨_, rfl⟩
  rw [hwA] at hg hbA hsz
  have HG : Hid (wA.heap[w.heap.size]? = some (.cells (fl bs).toArray 31 (0, 0))) := hg
  clear hg
  cases hok : okR bs with
  | false =>
    have hR : Hid (runs (rho bs) = [] ∧ code (rho bs) = 1) := by
      unfold runs code
      have : Sx.tru ((Sx.okRoad 0).den (rho bs)) = false := hok
      rw [this]
      exact ⟨rfl, rfl⟩
    go_enter Try.func4, Try.ntmps4
    go_wp2_with (first
      | (go_at_call 10; refine (specOk h wA w.heap.size 31 HG.out).mono ?_; rintro e w1 ⟨rfl, hb1⟩; rw [hok]))
    go_ret2
    refine ⟨_, by rw [hR.out.2]; rfl, ?_, (hbA.trans (hb1.mono hbA.size)).alloc (Nat.le_trans hbA.size hb1.size) _⟩
    rw [hR.out.1]
    exact rowEmpty w w1 (Nat.le_trans hbA.size hb1.size)
  | true =>
    have hR : Hid (runs (rho bs) = jam (fbR (rho bs)) 16 ∧ code (rho bs) = 0) := by
      unfold runs code
      have : Sx.tru ((Sx.okRoad 0).den (rho bs)) = true := hok
      rw [this]
      exact ⟨rfl, rfl⟩
    go_enter Try.func4, Try.ntmps4
    go_wp2_with (first
      | (go_at_call 10; refine (specOk h wA w.heap.size 31 HG.out).mono ?_; rintro e w1 ⟨rfl, hb1⟩; rw [hok])
      | (go_at_call 11; refine (bestS h w1 w.heap.size 31 (by rw [hb1.block w.heap.size hsz]; exact HG.out)).mono ?_; rintro e w2 ⟨b, rfl, hbb, hb2⟩; have hb2' : Below wA.heap.size wA w2 := hb1.trans (hb2.mono hb1.size)))
    have hc0 : Hid (∀ wr, Below w2.heap.size w2 wr → ∀ k, k < 16 → wr.cell? ⟨w.heap.size, k, none⟩ = some (.float .f32 (bs.getD k 0))) := fun wr hb k hk => by
      rw [hb.cell (p := ⟨w.heap.size, k, none⟩) (Nat.lt_of_lt_of_le hsz hb2'.size), hb2'.cell (p := ⟨w.heap.size, k, none⟩) hsz]
      exact cell_fl HG.out (by have := h.1; omega)
    have hwle : w.heap.size ≤ w2.heap.size := Nat.le_trans hbA.size hb2'.size
    have hB2 : Hid (Below w.heap.size w w2) := hbA.trans (hb2'.mono hbA.size)
    have hO2 : Hid ((w2.alloc (.cells #[] 39)).ownsRow w2.heap.size 39 2 (.slice (some ⟨w2.heap.size, 0, none⟩) 0 0) 0 []) := rowEmpty w2 w2 (Nat.le_refl _)
    have hB0 : Hid (Below w2.heap.size w2 (w2.alloc (.cells #[] 39))) := (Below.refl _ _).alloc (Nat.le_refl _) _
    obtain ⟨i0, hi, hz0, hz1, hz2⟩ := info_parts info39
    have hfb := full_eq hbb
    obtain ⟨fb, hfbd⟩ : ∃ fb, fb = fbR (rho bs) := ⟨_, rfl⟩
    rw [← hfbd] at hfb hR
    have hH : Hid (Road19 bs) := h
    clear hbb hb2 hb2' hb1 hbA hsz hok h hfbd HG hwA
    go_loopw [5, 6] (fun v5 vi wr => ∃ (k : Nat), vi = .int .i64 k ∧ k ≤ 16 ∧ Hid (wr.ownsRow w2.heap.size 39 2 v5 (jam fb k).length (cells2 (jam fb k))) ∧ Hid (Below w2.heap.size w2 wr))
      (fun _ vi _ => 16 - (intOf vi).toNat)
    case atStart => exact ⟨0, rfl, by omega, hO2, hB0⟩
    case round =>
      obtain ⟨k, rfl, hk, hown, hbw⟩ := hrel
      clear hO2 hB0
      by_cases hk16 : k < 16
      · have hki : (k : Int) < 16 := by omega
        have hck := hc0.out wr hbw.out k hk16
        have hf := hfb k
        generalize bs.getD k 0 = c at hck hf
        have hll := jam_length fb k
        cases hfk : fb k with
        | false =>
          rw [hfk] at hf
          have hJ : Hid (jam fb (k + 1) = jam fb k) := by show jam fb (k + 1) = _; rw [jam, if_neg (by rw [hfk]; simp)]
          clear hfb hfk
          go_wp2
          refine ⟨⟨k + 1, (by first | rfl | (congr 1; omega)), by omega, by rw [hJ.out]; exact hown, hbw⟩, by simp only [intOf]; omega⟩
        | true =>
          rw [hfk] at hf
          have hL := jam_last fb k
          have hwr := hbw.out.size
          rcases hL with ⟨hpv, m, a, hm⟩ | ⟨hpv, hm | ⟨m, a, b', hm, hb'⟩⟩
          · have hJ : Hid (jam fb (k + 1) = m ++ [(a, k)]) := by
              show jam fb (k + 1) = _
              rw [jam, if_pos hfk, if_pos hpv, hm, setLast_snoc]
            have hk1 : 1 ≤ k := by
              cases k with
              | zero => cases hpv
              | succ k => omega
            have ho := hown.out
            rw [hm] at ho hll
            obtain ⟨M, hM⟩ : ∃ M, M = m.length := ⟨_, rfl⟩
            have hl1 : (m ++ [(a, k - 1)]).length = M + 1 := by rw [hM]; simp
            rw [hl1] at ho hll
            obtain ⟨g, cap, rfl, hBg, hgl⟩ := ho.form (by omega)
            have hset := ownsSet ho (M * 2 + 1) (.int .i64 (k : Int))
            rw [hM, cells2_set, ← hM] at hset
            have hcell : wr.cell? ⟨g, M * 2 + 1, none⟩ = some (.int .i64 ((k - 1 : Nat) : Int)) := ownsCell ho (M * 2 + 1) (by
              rw [cells2_snoc, hM, ← cells2_length, List.getElem?_append_right (by omega)]
              have : (cells2 m).length + 1 - (cells2 m).length = 1 := by omega
              rw [this]
              rfl)
            have hfz := ownsFrozen ho (M * 2 + 1)
            have hki1 : (((k - 1 : Nat) : Int)) = (k : Int) - 1 := by omega
            rw [hki1] at hcell
            have HN : Hid ((wr.setCell ⟨g, M * 2 + 1, none⟩ (.int .i64 (k : Int))).ownsRow w2.heap.size 39 2 (.slice (some ⟨g, 0, none⟩) (M + 1) cap) (jam fb (k + 1)).length (cells2 (jam fb (k + 1)))) := by
              rw [hJ.out]
              have hl2 : (m ++ [(a, k)]).length = M + 1 := by rw [hM]; simp
              rw [hl2]
              exact hset
            have HB : Hid (Below w2.heap.size w2 (wr.setCell ⟨g, M * 2 + 1, none⟩ (.int .i64 (k : Int)))) := hbw.out.setCell (p := ⟨g, M * 2 + 1, none⟩) hBg _
            have hwk : IntKind.i64.wrap ((k : Int) - 1) = (k : Int) - 1 := wrapJ (by omega) (by omega)
            clear hset ho hm hM hfb hfk hl1 hown hpv hki1
            go_wp2
            refine ⟨⟨k + 1, (by first | rfl | (congr 1; omega)), by omega, HN, HB⟩, by simp only [intOf]; omega⟩
          · have hJ : Hid (jam fb (k + 1) = [] ++ [(k, k)]) := by
              show jam fb (k + 1) = _
              rw [jam, if_pos hfk, if_neg (by rw [hpv]; simp), hm]
            have ho := hown.out
            rw [hm] at ho
            obtain ⟨sa, cap, rfl⟩ : ∃ sa cap, u5 = .slice sa 0 cap := by
              rcases ho.2 with ⟨e, _⟩ | ⟨g, cap, cur, e, _⟩
              · exact ⟨_, _, e⟩
              · exact ⟨_, _, e⟩
            have HO : Hid (wr.ownsRow w2.heap.size 39 2 (.slice sa 0 cap) 0 []) := ho
            clear ho hm hfb hfk hown
            go_wp2_with (first
              | (at_builtin
                 refine wpList_append_own_at _ rfl (.tmp 44) (.tmp 48) _ rfl w2.heap.size 39 i0 _ 2 16 Try.underlying26 hi hz0 hz1 hz2 rfl (by omega) _ 0 _ rfl (HO.out.alloc _)
                   ⟨wr.heap.size, 0, none⟩ 1 1 [.int .i64 k, .int .i64 k] rfl rfl (cell_two_new _ _ _ _) (oneInt2 _ _) (by unfold maxLen; omega) (by omega) (by simp; omega) ?_
                 intro v' w3 hown3 hgrow3 hnil3 hloc3))
            have hB3 : Hid (Below w2.heap.size w2 w3) := (hbw.out.alloc hwr _).grown hgrow3 (by simp; omega) (ownBlock_ge HO.out)
            have hO3 : Hid (w3.ownsRow w2.heap.size 39 2 v' (jam fb (k + 1)).length (cells2 (jam fb (k + 1)))) := by
              rw [hJ.out]
              exact hown3
            refine ⟨⟨k + 1, (by first | rfl | (congr 1; omega)), by omega, hO3, hB3⟩, by simp only [intOf]; omega⟩
          · have hJ : Hid (jam fb (k + 1) = jam fb k ++ [(k, k)]) := by
              show jam fb (k + 1) = _
              rw [jam, if_pos hfk, if_neg (by rw [hpv]; simp)]
            have ho := hown.out
            rw [hm] at ho hll
            obtain ⟨M, hM⟩ : ∃ M, M = m.length := ⟨_, rfl⟩
            have hl1 : (m ++ [(a, b')]).length = M + 1 := by rw [hM]; simp
            rw [hl1] at ho hll
            obtain ⟨g, cap, rfl, hBg, hgl⟩ := ho.form (by omega)
            have hcell : wr.cell? ⟨g, M * 2 + 1, none⟩ = some (.int .i64 (b' : Int)) := ownsCell ho (M * 2 + 1) (by
              rw [cells2_snoc, hM, ← cells2_length, List.getElem?_append_right (by omega)]
              have : (cells2 m).length + 1 - (cells2 m).length = 1 := by omega
              rw [this]
              rfl)
            have hne : ¬ ((b' : Int) = (k : Int) - 1) := by omega
            have hwk : IntKind.i64.wrap ((k : Int) - 1) = (k : Int) - 1 := wrapJ (by omega) (by omega)
            have HO : Hid (wr.ownsRow w2.heap.size 39 2 (.slice (some ⟨g, 0, none⟩) (M + 1) cap) (M + 1) (cells2 (m ++ [(a, b')]))) := ho
            have HM : Hid (jam fb k = m ++ [(a, b')] ∧ (m ++ [(a, b')]).length = M + 1) := ⟨hm, hl1⟩
            clear ho hm hM hl1 hfb hfk hown hpv
            go_wp2_with (first
              | (at_builtin
                 refine wpList_append_own_at _ rfl (.tmp 44) (.tmp 48) _ rfl w2.heap.size 39 i0 _ 2 16 Try.underlying26 hi hz0 hz1 hz2 rfl (by omega) _ (M + 1) _ rfl (HO.out.alloc _)
                   ⟨wr.heap.size, 0, none⟩ 1 1 [.int .i64 k, .int .i64 k] rfl rfl (cell_two_new _ _ _ _) (oneInt2 _ _) (by unfold maxLen; omega) (by omega) (by simp; omega) ?_
                 intro v' w3 hown3 hgrow3 hnil3 hloc3))
            have hB3 : Hid (Below w2.heap.size w2 w3) := (hbw.out.alloc hwr _).grown hgrow3 (by simp; omega) (ownBlock_ge HO.out)
            have hO3 : Hid (w3.ownsRow w2.heap.size 39 2 v' (jam fb (k + 1)).length (cells2 (jam fb (k + 1)))) := by
              rw [hJ.out, cells2_snoc, List.length_append, HM.out.1, HM.out.2]
              exact hown3
            refine ⟨⟨k + 1, (by first | rfl | (congr 1; omega)), by omega, hO3, hB3⟩, by simp only [intOf]; omega⟩
      · have hki : (16 : Int) ≤ (k : Int) := by omega
        have hkk : k = 16 := by omega
        have HO : Hid (wr.ownsRow w.heap.size 39 2 u5 (runs (rho bs)).length (cells2 (runs (rho bs)))) := by
          rw [hR.out.1, ← hkk]
          exact rowMono hown.out hwle
        clear hfb hown
        go_wp2
        go_ret2
        exact ⟨u5, by rw [hR.out.2]; rfl, HO.out, hB2.out.trans (hbw.out.mono hwle)⟩
end Go.Proofs.Ytodlofeddllpiaa
