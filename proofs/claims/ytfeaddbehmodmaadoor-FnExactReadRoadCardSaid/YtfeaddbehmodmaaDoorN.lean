/-
  THE TEXT OF A ROAD BY THE PROGRAM, walked. Conditions: those that stand in each (one cell of the library's table).
-/
import Derived.Test.YtfeaddbehmodmaaDoorM
import Derived.Deep.AppendLies
import Derived.OwnWalk
namespace Go.Proofs.YtfeaddbehmodmaaDoor
open Go.RowKit
set_option maxRecDepth 100000
theorem range_fl {w : World} {g : Nat} {bs : List Nat} {n : Nat} (hn : n ≤ bs.length) (h : ∀ k, k < n → w.cell? ⟨g, k, none⟩ = some (.float .f32 (bs.getD k 0))) : w.rangeAt g 0 (fl (bs.take n)) := by
  intro j v hj
  have hjn : j < n := by
    rcases Nat.lt_or_ge j n with q | q
    · exact q
    · rw [List.getElem?_eq_none (by rw [fl_length, List.length_take]; omega)] at hj
      cases hj
  rw [Nat.zero_add, h j hjn]
  simp only [fl, List.getElem?_map, List.getElem?_take, if_pos hjn] at hj
  rw [List.getElem?_eq_getElem (by omega)] at hj
  rw [← hj, List.getD_eq_getElem?_getD, List.getElem?_eq_getElem (by omega)]
  rfl
theorem size36 {bs : List Nat} (h : Road19 bs) : (Tryd.prog.info? 36).map (·.size) = some (fl bs).length := by rw [fl_length, h.1]; kernel_rfl
theorem size34 {bs : List Nat} (h : Road19 bs) : (Tryd.prog.info? 34).map (·.size) = some (fl (bs.take 16)).length := by rw [fl_length, List.length_take, h.1]; kernel_rfl
theorem range36 {w : World} {g : Nat} {bs : List Nat} (h : Road19 bs) (hc : ∀ k, k < 19 → w.cell? ⟨g, k, none⟩ = some (.float .f32 (bs.getD k 0))) : w.rangeAt g 0 (fl bs) := by
  have hr := range_fl (n := 19) (by have := h.1; omega) hc
  rw [List.take_of_length_le (by have := h.1; omega)] at hr
  exact hr
theorem fl_get {bs : List Nat} (h : Road19 bs) {k : Nat} (hk : k < 16) : (fl (bs.take 16))[k]? = some (.float .f32 (bs.getD k 0)) := by
  have hl := h.1
  rw [List.getD_eq_getElem?_getD, List.getElem?_eq_getElem (show k < bs.length by omega)]
  simp [fl, hk, List.getElem?_eq_getElem (show k < bs.length by omega)]
theorem index34 {bs : List Nat} (h : Road19 bs) {k : Nat} (hk : k < 16) (w : World) :
    (Instr.index 34 (.agg (fl (bs.take 16)).toArray) (.int .i64 k)).run Tryd.prog w = .ok (.float .f32 (bs.getD k 0)) w := by
  have hg := fl_get h hk
  generalize bs.getD k 0 = x at hg ⊢
  have hn : 0 ≤ (k : Int) ∧ (k : Int) < ((16 : Nat) : Int) := by omega
  have hcs : Tryd.prog.cellsOf 22 = 1 := by kernel_rfl
  simp [Instr.index, run_underlying Tryd.underlying34, asIntOf, hn, go_sem, hg, hk]
theorem hidAlloc {w0 w : World} (h : Hid (Below w0.heap.size w0 w)) (o : Obj) : Hid (Below w0.heap.size w0 (w.alloc o)) := h.out.alloc h.out.size o
theorem numS (x : Nat) (hx : nb x < 4294967296) (w0 w : World) (ht : TabOk w0) (g : Nat) (hg : g < w0.heap.size) {a b c : Value} (h1 : w.cell? ⟨g, 16, none⟩ = some a) (h2 : w.cell? ⟨g, 17, none⟩ = some b) (h3 : w.cell? ⟨g, 18, none⟩ = some c) (hb : Hid (Below w0.heap.size w0 w)) :
    Calls Tryd.prog 8 #[.float .f32 x] w (fun e w' => e = .returned (.string ⟨(hexk 8 (nb x)).toArray⟩) ∧ w'.cell? ⟨g, 16, none⟩ = some a ∧ w'.cell? ⟨g, 17, none⟩ = some b ∧ w'.cell? ⟨g, 18, none⟩ = some c ∧ Hid (Below w0.heap.size w0 w')) := by
  refine (numText x hx w (tab_below ht hb.out)).mono ?_
  rintro e w' ⟨rfl, hb1⟩
  have hgw : g < w.heap.size := Nat.lt_of_lt_of_le hg hb.out.size
  refine ⟨rfl, ?_, ?_, ?_, hb.out.trans (hb1.mono hb.out.size)⟩
  · rw [hb1.cell (p := ⟨g, 16, none⟩) hgw]; exact h1
  · rw [hb1.cell (p := ⟨g, 17, none⟩) hgw]; exact h2
  · rw [hb1.cell (p := ⟨g, 18, none⟩) hgw]; exact h3
/-- A text out of bytes. -/
def ba (l : List UInt8) : ByteArray := ⟨l.toArray⟩
/-- The words so far. -/
def wordsV (bs : List Nat) (k : Nat) : List Value := ([114, 111, 97, 100] :: hx bs 16 :: hx bs 17 :: hx bs 18 :: (txs bs).take k).map fun l => Value.string (ba l)
theorem wordsV_succ {bs : List Nat} {k : Nat} (h : k < bs.length) : wordsV bs (k + 1) = wordsV bs k ++ [.string ⟨(hexk 8 (nb (bs.getD k 0))).toArray⟩] := by
  unfold wordsV
  rw [List.take_add_one, txs_get h]
  simp [ba]
theorem ownsBelow {w w' : World} {base : Nat} {e : TypeId} {size n : Nat} {v : Value} {xs : List Value} (h : w.ownsRow base e size v n xs) (hb : Below w.heap.size w w') : w'.ownsRow base e size v n xs := by
  refine ⟨h.1, ?_⟩
  rcases h.2 with h0 | ⟨g, cap, cur, hv, h1, h2, h3, h4, h5, h6⟩
  · exact .inl h0
  · have hlt : g < w.heap.size := by
      rcases Nat.lt_or_ge g w.heap.size with q | q
      · exact q
      · rw [Array.getElem?_eq_none q] at h2; cases h2
    exact .inr ⟨g, cap, cur, hv, h1, by rw [hb.block g hlt]; exact h2, h3, h4, h5, h6⟩
theorem ownBlock_ge {w : World} {base : Nat} {e : TypeId} {size n : Nat} {v : Value} {xs : List Value} (h : w.ownsRow base e size v n xs) : ∀ k, v.ownBlock = some k → base ≤ k := by
  intro k hk
  rcases h.2 with ⟨rfl, _⟩ | ⟨g, cap, cur, rfl, h1, _⟩
  · cases hk
  · obtain rfl : g = k := Option.some.inj hk
    exact h1
theorem oneStr (s : ByteArray) : ∀ u ∈ [Value.string s], u.oneCell' = true := by
  intro u hu
  obtain rfl : u = Value.string s := by simpa using hu
  rfl
theorem info9 : (Tryd.prog.info? 9).map (fun i => (i.zero, i.size, i.bytes)) = some (some (.string ⟨#[]⟩), 1, 16) := by kernel_rfl
theorem hidRow {w w1 w' : World} (h : Hid (Below w.heap.size w w1)) (h1 : Hid (Below w1.heap.size w1 w')) (cur : Array Value) {n : Nat} (hn : cur.size = n) (hm : n ≤ maxLen) :
    Hid ((w'.alloc (.cells cur 9)).ownsRow w.heap.size 9 1 (.slice (some ⟨w'.heap.size, 0, none⟩) n n) n cur.toList) := by
  refine Lib.hid ⟨by rw [Array.length_toList, hn, Nat.mul_one], .inr ⟨w'.heap.size, n, cur, rfl, Nat.le_trans h.out.size h1.out.size, heap_alloc_new _ _, Nat.le_refl _, hm, by omega, ?_⟩⟩
  rw [List.take_of_length_le (by rw [Array.length_toList]; omega)]
theorem txs16 {bs : List Nat} (h : Road19 bs) : ((txs bs).take 16).length = 16 := by
  rw [List.length_take]
  unfold txs
  rw [List.length_map, h.1]
  rfl
/-- The words, put together, are the road's text. -/
theorem join_words {bs : List Nat} (h : Road19 bs) : Lib.join ([114, 111, 97, 100] :: hx bs 16 :: hx bs 17 :: hx bs 18 :: (txs bs).take 16) [32] = roadT bs := by
  have h16 := txs16 h
  unfold roadT rowT
  rw [Lib.join_cons]
  generalize (txs bs).take 16 = r at *
  cases r with
  | nil => simp at h16
  | cons a r => simp [Lib.joinTail, Lib.join_cons]
theorem joinW {bs : List Nat} (h : Road19 bs) {B g cap : Nat} {w : World} (hown : w.ownsRow B 9 1 (.slice (some ⟨g, 0, none⟩) (4 + 16) cap) (4 + 16) (wordsV bs 16)) :
    Calls Tryd.prog 29 #[.slice (some ⟨g, 0, none⟩) 20 cap, .string ⟨#[32]⟩] w (fun e w' => e = .returned (.string ⟨(roadT bs).toArray⟩) ∧ Below w.heap.size w w') := by
  have hl16 := txs16 h
  obtain ⟨xs, hxs⟩ : ∃ xs, xs = ([114, 111, 97, 100] :: hx bs 16 :: hx bs 17 :: hx bs 18 :: (txs bs).take 16).map ba := ⟨_, rfl⟩
  have hlen : xs.length = 20 := by rw [hxs, List.length_map]; simp only [List.length_cons, hl16]
  have hmap : xs.map (fun x => x.data.toList) = [114, 111, 97, 100] :: hx bs 16 :: hx bs 17 :: hx bs 18 :: (txs bs).take 16 := by
    rw [hxs, List.map_map]
    exact (List.map_congr_left (fun _ _ => rfl)).trans (List.map_id _)
  have hj : Lib.join (xs.map (fun x => x.data.toList)) (ByteArray.mk #[32]).data.toList = roadT bs := by rw [hmap]; exact join_words h
  have hT : (roadT bs).length ≤ 1000 := by
    have := rowT_len (bs := bs) (k := 16) (by have := h.1; omega)
    unfold roadT hx
    simp only [List.length_append, hexk_length, List.length_cons, List.length_nil]
    omega
  have hcap : xs.length ≤ cap ∧ g < w.heap.size := by
    rcases hown.2 with ⟨h0, _⟩ | ⟨g', cap', cur, hv, h1, h2, h3, _⟩
    · cases h0
    · injection hv with h4 h5 h6
      subst h6
      refine ⟨by omega, ?_⟩
      rcases Nat.lt_or_ge g' w.heap.size with q | q
      · have : g = g' := by
          injection h4 with h4
          injection h4
        omega
      · rw [Array.getElem?_eq_none q] at h2; cases h2
  have hc := Tryd.strings_Join g 0 cap xs ⟨#[32]⟩ w (fun j x hx => by
    rw [Nat.zero_add]
    have := hown.cells (g := g) rfl j (.string x) (by
      unfold wordsV
      rw [List.getElem?_map]
      rw [hxs, List.getElem?_map] at hx
      simp only [Option.map_eq_some_iff] at hx ⊢
      obtain ⟨a, h1, h2⟩ := hx
      exact ⟨a, h1, by rw [h2]⟩)
    rw [Addr.add_lit, Nat.zero_add] at this
    exact this) hcap.2 (by omega) hcap.1 (by rw [hj]; omega)
  rw [hj, hlen] at hc
  exact hc
set_option maxHeartbeats 800000
theorem implRoadText {bs : List Nat} (h : Road19 bs) (w : World) (ht : TabOk w) :
    Calls Tryd.prog 14 #[.agg (fl bs).toArray] w (fun e w' => e = .returned (.string ⟨(outT bs).toArray⟩) ∧ Below w.heap.size w w') := by
  have hg := heap_alloc_new w (.cells (fl bs).toArray 36)
  have hbA : Below w.heap.size w (w.alloc (.cells (fl bs).toArray 36)) := (Below.refl _ _).alloc (Nat.le_refl _) _
  have hsz : w.heap.size < (w.alloc (.cells (fl bs).toArray 36)).heap.size := by
    show _ < (w.heap.push _).size
    rw [Array.size_push]
    exact Nat.lt_succ_self _
  have hra := range36 (w := w.alloc (.cells (fl bs).toArray 36)) (g := w.heap.size) h (fun k hk => cell_fl hg (by have := h.1; omega))
  have hs36 := size36 h
  cases hk : okR bs with
  | false =>
    have ho : outT bs = [] := by unfold outT; rw [hk]; rfl
    go_enter Tryd.func14, Tryd.ntmps14
    go_wp2_with (first
      | (with_reducible show Go.wpList _ _ _ (Go.Oper.mk _ (Go.Op.load 36 _) _ _ _ _ :: _) _ _; refine wpList_load_mid rfl 36 (.tmp 1) rfl _ _ rfl (fl bs) _ hra Tryd.underlying36 rfl hs36 ?_)
      | (go_at_call 28; refine (validRoad h _).mono ?_; rintro e w1 ⟨rfl, hb1⟩; rw [hk]))
    go_ret
    exact ⟨by rw [ho]; rfl, hbA.trans (hb1.mono hbA.size)⟩
  | true =>
    have ho : outT bs = roadT bs := by unfold outT; rw [hk]; rfl
    go_enter Tryd.func14, Tryd.ntmps14
    go_wp2_with (first
      | (with_reducible show Go.wpList _ _ _ (Go.Oper.mk _ (Go.Op.load 36 _) _ _ _ _ :: _) _ _; refine wpList_load_mid rfl 36 (.tmp 1) rfl _ _ rfl (fl bs) _ hra Tryd.underlying36 rfl hs36 ?_)
      | (go_at_call 28; refine (validRoad h _).mono ?_; rintro e w1 ⟨rfl, hb1⟩; rw [hk]))
    have hB1 : Below w.heap.size w w1 := hbA.trans (hb1.mono hbA.size)
    have hg1 : w.heap.size < w1.heap.size := Nat.lt_of_lt_of_le hsz hb1.size
    have ht1 := tab_below ht hB1
    have hc1 : ∀ k, k < 19 → w1.cell? ⟨w.heap.size, k, none⟩ = some (.float .f32 (bs.getD k 0)) := fun k hk => by
      rw [hb1.cell (p := ⟨w.heap.size, k, none⟩) hsz]
      exact cell_fl hg (by have := h.1; omega)
    have c16 := hc1 16 (by omega)
    have c17 := hc1 17 (by omega)
    have c18 := hc1 18 (by omega)
    have n16 := nbLt h 16 (by omega)
    have n17 := nbLt h 17 (by omega)
    have n18 := nbLt h 18 (by omega)
    have HC : Hid (∀ k, k < 19 → w1.cell? ⟨w.heap.size, k, none⟩ = some (.float .f32 (bs.getD k 0))) := hc1
    have HB : Hid (Below w.heap.size w w1) := hB1
    have HO : Hid (outT bs = roadT bs) := ho
    obtain ⟨p, hp⟩ : ∃ p, p = bs.getD 16 0 := ⟨_, rfl⟩
    obtain ⟨q, hq⟩ : ∃ q, q = bs.getD 17 0 := ⟨_, rfl⟩
    obtain ⟨l, hl⟩ : ∃ l, l = bs.getD 18 0 := ⟨_, rfl⟩
    rw [← hp] at c16 n16
    rw [← hq] at c17 n17
    rw [← hl] at c18 n18
    have HP : Hid (p = bs.getD 16 0 ∧ q = bs.getD 17 0 ∧ l = bs.getD 18 0) := ⟨hp, hq, hl⟩
    have hb0 : Hid (Below w1.heap.size w1 w1.drew) := (Below.refl _ _).drew
    have hh : Hid (Road19 bs) := h
    clear hc1 hB1 hra hs36 hbA hsz hg hb1 ho h hk hp hq hl
    obtain ⟨g, hgE⟩ : ∃ g, g = w.heap.size := ⟨_, rfl⟩
    rw [← hgE] at c16 c17 c18 hg1 HC ⊢
    have HG : Hid (g = w.heap.size) := hgE
    clear hgE
    go_region_held3 (fun w' => w'.cell? ⟨g, 16, none⟩ = some (.float .f32 p) ∧ w'.cell? ⟨g, 17, none⟩ = some (.float .f32 q) ∧ w'.cell? ⟨g, 18, none⟩ = some (.float .f32 l) ∧ Hid (Below w1.heap.size w1 w'))
      (first | assumption | (go_keep; done) | (refine ⟨?_, ?_, ?_, hidAlloc (by go_split_ands; assumption) _⟩ <;> (go_keep; done)))
      (first
        | (go_at_call 8; refine (numS _ (by assumption) w1 _ ht1 g hg1 (by go_split_ands; assumption) (by go_split_ands; assumption) (by go_split_ands; assumption) (by go_split_ands; assumption)).mono ?_; rintro e w' ⟨rfl, k1, k2, k3, k4⟩))
    obtain ⟨i0, hi, hz0, hz1, hz2⟩ := info_parts info9
    have hRow := hidRow HB (show Hid (Below w1.heap.size w1 w') by assumption) #[Value.string { data := #[114, 111, 97, 100] }, Value.string { data := (hexk 8 (nb p)).toArray },
          Value.string { data := (hexk 8 (nb q)).toArray }, Value.string { data := (hexk 8 (nb l)).toArray }] (n := 4) rfl (by unfold maxLen; omega)
    have hBw := hidAlloc (show Hid (Below w1.heap.size w1 w') by assumption) (.cells #[Value.string { data := #[114, 111, 97, 100] }, Value.string { data := (hexk 8 (nb p)).toArray },
          Value.string { data := (hexk 8 (nb q)).toArray }, Value.string { data := (hexk 8 (nb l)).toArray }] 9)
    obtain ⟨w4, hw4⟩ : ∃ w4, w4 = w'.alloc (.cells #[Value.string { data := #[114, 111, 97, 100] }, Value.string { data := (hexk 8 (nb p)).toArray },
          Value.string { data := (hexk 8 (nb q)).toArray }, Value.string { data := (hexk 8 (nb l)).toArray }] 9) := ⟨_, rfl⟩
    rw [← hw4] at hRow hBw ⊢
    clear hw4
    generalize w'.heap.size = gN at *
    have hr34 := range_fl (w := w4) (g := g) (bs := bs) (n := 16) (by have := hh.out.1; omega) (fun k hk => by rw [hBw.out.cell (p := ⟨g, k, none⟩) hg1]; exact HC.out k (by omega))
    have hs34 := size34 hh.out
    go_wp2_with (first
      | (with_reducible show Go.wpList _ _ _ (Go.Oper.mk _ (Go.Op.load 34 _) _ _ _ _ :: _) _ _; refine wpList_load_mid rfl 34 (.tmp 19) rfl _ _ rfl (fl (bs.take 16)) _ hr34 Tryd.underlying34 rfl hs34 ?_))
    have hB4 : Hid (Below w.heap.size w w4) := HB.out.trans (hBw.out.mono HB.out.size)
    have hRow' : Hid (w4.ownsRow w.heap.size 9 1 (.slice (some ⟨gN, 0, none⟩) 4 4) (4 + 0) (wordsV bs 0)) := by
      have := hRow.out
      obtain ⟨h1, h2, h3⟩ := HP.out
      rw [h1, h2, h3] at this
      exact this
    clear hr34 hs34 hRow hBw c16 c17 c18 n16 n17 n18 HC
    go_loopw [3, 21] (fun v3 vi wr => ∃ (k : Nat), vi = .int .i64 k ∧ k ≤ 16 ∧ Hid (wr.ownsRow w.heap.size 9 1 v3 (4 + k) (wordsV bs k)) ∧ Hid (Below w.heap.size w wr))
      (fun _ vi _ => 16 - (intOf vi).toNat)
    case atStart => exact ⟨0, rfl, by omega, hRow', hB4⟩
    case round =>
      obtain ⟨k, rfl, hk, hown, hbw⟩ := hrel
      clear hRow' hB4
      by_cases hk16 : k < 16
      · have hcell := fun w => index34 hh.out hk16 w
        have hki : (k : Int) < 16 := by omega
        have hnl := nbLt hh.out k (by omega)
        have hstep := wordsV_succ (bs := bs) (k := k) (by have := hh.out.1; omega)
        have HS : Hid (wordsV bs (k + 1) = _) := hstep
        clear hstep
        obtain ⟨b, hb⟩ : ∃ b, b = bs.getD k 0 := ⟨_, rfl⟩
        rw [← hb] at hcell hnl HS
        clear hb
        have hwle := hbw.out.size
        go_wp2_with (first
          | (go_at_call 8; refine (numText b hnl _ (tab_below ht hbw.out)).mono ?_; rintro e w2 ⟨rfl, hb2⟩)
          | (at_builtin
             refine wpList_append_own_at _ rfl (.tmp 24) (.tmp 27) _ rfl w.heap.size 9 i0 _ 1 16 Tryd.underlying59 hi hz0 hz1 hz2 rfl (by omega) _ (4 + k) _ rfl ((ownsBelow hown.out hb2).alloc _)
               ⟨w2.heap.size, 0, none⟩ 1 1 [.string ⟨(hexk 8 (nb b)).toArray⟩] rfl rfl (cell_one_new _ _ _) (oneStr _) (by unfold maxLen; omega) (by omega) (by have := hb2.size; simp; omega) ?_
             intro v' w3 hown3 hgrow3 hnil3 hloc3))
        have hB3 : Below w.heap.size w w3 := (((hbw.out.trans (hb2.mono hwle)).alloc (Nat.le_trans hwle hb2.size) _)).grown hgrow3 (by have := hb2.size; simp; omega) (ownBlock_ge (hown.out))
        refine ⟨⟨k + 1, (by first | rfl | (congr 1; omega)), by omega, ?_, hB3⟩, by simp only [intOf]; omega⟩
        have h4k : 4 + (k + 1) = 4 + k + 1 := by omega
        rw [h4k, HS.out]
        exact hown3
      · have hkk : k = 16 := by omega
        have h16 : (16 : Int) ≤ (k : Int) := by omega
        have hown' := hown.out
        rw [hkk] at hown'
        obtain ⟨g5, cap5, rfl, hg5, hlt5⟩ := hown'.form (by omega)
        have hJ := joinW hh.out hown'
        clear hown' hown
        go_wp2_with (first
          | (go_at_call 29; refine hJ.mono ?_; rintro e w5 ⟨rfl, hb5⟩))
        go_ret
        exact ⟨by rw [HO.out]; rfl, hbw.out.trans (hb5.mono hbw.out.size)⟩
end Go.Proofs.YtfeaddbehmodmaaDoor
