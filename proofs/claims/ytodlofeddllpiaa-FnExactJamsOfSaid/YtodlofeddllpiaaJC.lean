/-
  THE PROGRAM'S LIST OF JAMS, walked. Conditions: the argument is nineteen floats.
-/
import Derived.Test.YtodlofeddllpiaaJB
namespace Go.Proofs.Ytodlofeddllpiaa
open Go.RowKit Go.Jm
set_option maxRecDepth 100000
theorem info39 : (Try.prog.info? 39).map (fun i => (i.zero, i.size, i.bytes)) = some (some (.agg #[.int .i64 0, .int .i64 0]), 2, 16) := by kernel_rfl
theorem cell_two_new (w : World) (x y : Value) (t : TypeId) : ∀ j u, [x, y][j]? = some u → (w.alloc (.cells #[x, y] t)).cell? ((⟨w.heap.size, 0, none⟩ : Addr).add j) = some u := by
  intro j u hj
  rw [Addr.add_lit, Nat.zero_add, cell_of_row _ w.heap.size j _ t (0, 0) (heap_alloc_new _ _)]
  simpa using hj
theorem oneInt2 (x y : Int) : ∀ u ∈ [Value.int .i64 x, Value.int .i64 y], u.oneCell' = true := by
  intro u hu
  rcases List.mem_cons.1 hu with rfl | hu
  · rfl
  · obtain rfl : u = Value.int .i64 y := by simpa using hu
    rfl
theorem ownBlock_ge {w : World} {base : Nat} {e : TypeId} {size n : Nat} {v : Value} {xs : List Value} (h : w.ownsRow base e size v n xs) : ∀ k, v.ownBlock = some k → base ≤ k := by
  intro k hk
  rcases h.2 with ⟨rfl, _⟩ | ⟨g, cap, cur, rfl, h1, _⟩
  · cases hk
  · obtain rfl : g = k := Option.some.inj hk
    exact h1
theorem ownsBelow {w w' : World} {base : Nat} {e : TypeId} {size n : Nat} {v : Value} {xs : List Value} (h : w.ownsRow base e size v n xs) (hb : Below w.heap.size w w') : w'.ownsRow base e size v n xs := by
  refine ⟨h.1, ?_⟩
  rcases h.2 with h0 | ⟨g, cap, cur, hv, h1, h2, h3, h4, h5, h6⟩
  · exact .inl h0
  · have hlt : g < w.heap.size := by
      rcases Nat.lt_or_ge g w.heap.size with q | q
      · exact q
      · rw [Array.getElem?_eq_none q] at h2; cases h2
    exact .inr ⟨g, cap, cur, hv, h1, by rw [hb.block g hlt]; exact h2, h3, h4, h5, h6⟩
theorem rowEmpty (w0 w : World) (hb : w0.heap.size ≤ w.heap.size) : (w.alloc (.cells #[] 39)).ownsRow w0.heap.size 39 2 (.slice (some ⟨w.heap.size, 0, none⟩) 0 0) 0 [] :=
  ⟨rfl, .inr ⟨w.heap.size, 0, #[], rfl, hb, heap_alloc_new _ _, Nat.le_refl _, Nat.zero_le _, rfl, rfl⟩⟩
set_option maxHeartbeats 800000
theorem implJams {bs : List Nat} (h : Road19 bs) (w : World) : Calls Try.prog 6 #[.agg (fl bs).toArray] w (RetJ w (rho bs)) := by
  have hg := heap_alloc_new w (.cells (fl bs).toArray 31)
  have hbA : Below w.heap.size w (w.alloc (.cells (fl bs).toArray 31)) := (Below.refl _ _).alloc (Nat.le_refl _) _
  have hsz : w.heap.size < (w.alloc (.cells (fl bs).toArray 31)).heap.size := by
    show _ < (w.heap.push _).size
    rw [Array.size_push]
    exact Nat.lt_succ_self _
  obtain ⟨wA, hwA⟩ : ∃ wA, w.alloc (.cells (fl bs).toArray 31) = wA := ⟨_, rfl⟩
  rw [hwA] at hg hbA hsz
  have hcA : ∀ k, k < 19 → wA.cell? ⟨w.heap.size, k, none⟩ = some (.float .f32 (bs.getD k 0)) := fun k hk => cell_fl hg (by have := h.1; omega)
  have hra : ∀ w2, Below wA.heap.size wA w2 → w2.rangeAt w.heap.size 0 (fl bs) := fun w2 hb => range31 h fun k hk => by
    rw [hb.cell (p := ⟨w.heap.size, k, none⟩) hsz]
    exact hcA k hk
  have hra16 : ∀ w2, Below wA.heap.size wA w2 → w2.rangeAt w.heap.size 0 (fl (bs.take 16)) := fun w2 hb => range_fl (n := 16) (by have := h.1; omega) fun k hk => by
    rw [hb.cell (p := ⟨w.heap.size, k, none⟩) hsz]
    exact hcA k (by omega)
  have hs31 := size31 h
  have hs29 := size29 h
  have hr0 := hra wA (Below.refl _ _)
  clear hcA hg
  cases hok : okR bs with
  | false =>
    have hR : Hid (runs (rho bs) = [] ∧ code (rho bs) = 1) := by
      unfold runs code
      have : Sx.tru ((Sx.okRoad 0).den (rho bs)) = false := hok
      rw [this]
      exact ⟨rfl, rfl⟩
    go_enter Try.func6, Try.ntmps6
    go_wp2_with (first
      | ((with_reducible show Go.wpList _ _ _ (Go.Oper.mk _ (Go.Op.load 31 _) _ _ _ _ :: _) _ _); refine wpList_load_mid rfl 31 (.tmp 1) rfl _ _ rfl (fl bs) _ hr0 Try.underlying31 rfl hs31 ?_)
      | (go_at_call 13; refine (validRoad h wA).mono ?_; rintro e w1 ⟨rfl, hb1⟩; rw [hok]))
    go_ret2
    refine ⟨.slice none 0 0, by rw [hR.out.2]; rfl, ?_, hbA.trans (hb1.mono hbA.size)⟩
    rw [hR.out.1]
    exact ⟨rfl, .inl ⟨rfl, rfl⟩⟩
  | true =>
    have hR : Hid (runs (rho bs) = jam (fbR (rho bs)) 16 ∧ code (rho bs) = 0) := by
      unfold runs code
      have : Sx.tru ((Sx.okRoad 0).den (rho bs)) = true := hok
      rw [this]
      exact ⟨rfl, rfl⟩
    go_enter Try.func6, Try.ntmps6
    go_wp2_with (first
      | ((with_reducible show Go.wpList _ _ _ (Go.Oper.mk _ (Go.Op.load 31 _) _ _ _ _ :: _) _ _); refine wpList_load_mid rfl 31 (.tmp 1) rfl _ _ rfl (fl bs) _ hr0 Try.underlying31 rfl hs31 ?_)
      | (go_at_call 13; refine (validRoad h wA).mono ?_; rintro e w1 ⟨rfl, hb1⟩; rw [hok])
      | ((with_reducible show Go.wpList _ _ _ (Go.Oper.mk _ (Go.Op.load 31 _) _ _ _ _ :: _) _ _); refine wpList_load_mid rfl 31 (.tmp 1) rfl _ _ rfl (fl bs) _ (hra _ (hb1.alloc hb1.size (.cells #[] 39))) Try.underlying31 rfl hs31 ?_)
      | (go_at_call 14; refine (bestI h (w1.alloc (.cells #[] 39))).mono ?_; rintro e w2 ⟨b, rfl, hbb, hb2⟩; have hb2' : Below wA.heap.size wA w2 := (hb1.alloc hb1.size (.cells #[] 39)).trans (hb2.mono (Nat.le_trans hb1.size (by simp))))
      | ((with_reducible show Go.wpList _ _ _ (Go.Oper.mk _ (Go.Op.load 29 _) _ _ _ _ :: _) _ _); refine wpList_load_mid rfl 29 (.tmp 17) rfl _ _ rfl (fl (bs.take 16)) _ (hra16 _ hb2') Try.underlying29 rfl hs29 ?_))
    have hB2 : Hid (Below w.heap.size w w2) := hbA.trans (hb2'.mono hbA.size)
    have hO2 : Hid (w2.ownsRow w.heap.size 39 2 (.slice (some ⟨w1.heap.size, 0, none⟩) 0 0) 0 []) := ownsBelow (rowEmpty w w1 (Nat.le_trans hbA.size hb1.size)) hb2
    obtain ⟨i0, hi, hz0, hz1, hz2⟩ := info_parts info39
    have hfb := full_eq hbb
    obtain ⟨fb, hfbd⟩ : ∃ fb, fb = fbR (rho bs) := ⟨_, rfl⟩
    rw [← hfbd] at hfb hR
    have hH : Hid (Road19 bs) := h
    clear hbb hb2 hb2' hb1 hra hra16 hs31 hs29 hr0 hbA hsz hok h hfbd
    go_loopw [4, 6, 19] (fun v4 vin vi wr => ∃ (k : Nat), vin = .bool (prv fb k) ∧ vi = .int .i64 k ∧ k ≤ 16 ∧ Hid (wr.ownsRow w.heap.size 39 2 v4 (jam fb k).length (cells2 (jam fb k))) ∧ Hid (Below w.heap.size w wr))
      (fun _ _ vi _ => 16 - (intOf vi).toNat)
    case atStart => exact ⟨0, rfl, rfl, by omega, hO2, hB2⟩
    case round =>
      obtain ⟨k, rfl, rfl, hk, hown, hbw⟩ := hrel
      clear hO2 hB2
      by_cases hk16 : k < 16
      · have hki : (k : Int) < 16 := by omega
        have hix := fun w => index29 hH.out hk16 w
        have hf := hfb k
        generalize bs.getD k 0 = c at hix hf
        have hll := jam_length fb k
        cases hfk : fb k with
        | false =>
          rw [hfk] at hf
          have hJ : Hid (jam fb (k + 1) = jam fb k) := by show jam fb (k + 1) = _; rw [jam, if_neg (by rw [hfk]; simp)]
          have hp : Hid (prv fb (k + 1) = false) := hfk
          clear hfb hfk
          go_wp2
          refine ⟨⟨k + 1, by rw [hp.out], (by first | rfl | (congr 1; omega)), by omega, by rw [hJ.out]; exact hown, hbw⟩, by simp only [intOf]; omega⟩
        | true =>
          rw [hfk] at hf
          have hp : Hid (prv fb (k + 1) = true) := hfk
          have hL := jam_last fb k
          cases hpv : prv fb k with
          | true =>
            obtain ⟨m, a, hm⟩ : ∃ m a, jam fb k = m ++ [(a, k - 1)] := by
              rcases hL with ⟨_, h⟩ | ⟨h, _⟩
              · exact h
              · rw [hpv] at h; cases h
            have hJ : Hid (jam fb (k + 1) = m ++ [(a, k)]) := by
              show jam fb (k + 1) = _
              rw [jam, if_pos hfk, if_pos hpv, hm, setLast_snoc]
            have ho := hown.out
            rw [hm] at ho hll
            obtain ⟨M, hM⟩ : ∃ M, M = m.length := ⟨_, rfl⟩
            have hl1 : (m ++ [(a, k - 1)]).length = M + 1 := by rw [hM]; simp
            rw [hl1] at ho hll
            obtain ⟨g, cap, rfl, hBg, hgl⟩ := ho.form (by omega)
            have hset := ownsSet ho (M * 2 + 1) (.int .i64 (k : Int))
            rw [hM, cells2_set, ← hM] at hset
            have hcell : wr.cell? ⟨g, M * 2 + 1, none⟩ = some (.int .i64 ((k - 1 : Nat) : Int)) := ownsCell ho (M * 2 + 1) (by
              rw [cells2_snoc, hM, ← cells2_length, List.getElem?_append_right (by omega)]
              have : (cells2 m).length + 1 - (cells2 m).length = 1 := by omega
              rw [this]
              rfl)
            have hfz := ownsFrozen ho (M * 2 + 1)
            have HN : Hid ((wr.setCell ⟨g, M * 2 + 1, none⟩ (.int .i64 (k : Int))).ownsRow w.heap.size 39 2 (.slice (some ⟨g, 0, none⟩) (M + 1) cap) (jam fb (k + 1)).length (cells2 (jam fb (k + 1)))) := by
              rw [hJ.out]
              have hl2 : (m ++ [(a, k)]).length = M + 1 := by rw [hM]; simp
              rw [hl2]
              exact hset
            have HB : Hid (Below w.heap.size w (wr.setCell ⟨g, M * 2 + 1, none⟩ (.int .i64 (k : Int)))) := hbw.out.setCell (p := ⟨g, M * 2 + 1, none⟩) hBg _
            clear hset ho hm hM hL hfb hfk hl1 hown
            go_wp2
            refine ⟨⟨k + 1, by rw [hp.out], (by first | rfl | (congr 1; omega)), by omega, HN, HB⟩, by simp only [intOf]; omega⟩
          | false =>
            have hJ : Hid (jam fb (k + 1) = jam fb k ++ [(k, k)]) := by
              show jam fb (k + 1) = _
              rw [jam, if_pos hfk, if_neg (by rw [hpv]; simp)]
            have hwle := hbw.out.size
            obtain ⟨n, hn⟩ : ∃ n, n = (jam fb k).length := ⟨_, rfl⟩
            have ho := hown.out
            rw [← hn] at ho hll
            have HO : Hid (wr.ownsRow w.heap.size 39 2 u4 n (cells2 (jam fb k))) := ho
            have HN : Hid (n = (jam fb k).length) := hn
            clear ho hn hfb hfk hL hown
            go_wp2_with (first
              | (at_builtin
                 refine wpList_append_own_at _ rfl (.tmp 41) (.tmp 45) _ rfl w.heap.size 39 i0 _ 2 16 Try.underlying26 hi hz0 hz1 hz2 rfl (by omega) _ n _ rfl (HO.out.alloc _)
                   ⟨wr.heap.size, 0, none⟩ 1 1 [.int .i64 k, .int .i64 k] rfl rfl (cell_two_new _ _ _ _) (oneInt2 _ _) (by unfold maxLen; omega) (by omega) (by simp; omega) ?_
                 intro v' w3 hown3 hgrow3 hnil3 hloc3))
            have hB3 : Hid (Below w.heap.size w w3) := (hbw.out.alloc hwle _).grown hgrow3 (by simp; omega) (ownBlock_ge HO.out)
            have hO3 : Hid (w3.ownsRow w.heap.size 39 2 v' (jam fb (k + 1)).length (cells2 (jam fb (k + 1)))) := by
              rw [hJ.out, cells2_snoc, List.length_append, ← HN.out]
              exact hown3
            refine ⟨⟨k + 1, by rw [hp.out], (by first | rfl | (congr 1; omega)), by omega, hO3, hB3⟩, by simp only [intOf]; omega⟩
      · have hki : (16 : Int) ≤ (k : Int) := by omega
        have hkk : k = 16 := by omega
        have HO : Hid (wr.ownsRow w.heap.size 39 2 u4 (runs (rho bs)).length (cells2 (runs (rho bs)))) := by
          rw [hR.out.1, ← hkk]
          exact hown
        clear hfb hown
        go_wp2
        go_ret2
        exact ⟨u4, by rw [hR.out.2]; rfl, HO.out, hbw.out⟩
end Go.Proofs.Ytodlofeddllpiaa
