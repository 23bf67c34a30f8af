/-
  THE PROGRAM'S READING OF A ROAD, walked. Conditions: the text's length, the cells of the library's two errors, one cell of its table, and that one variable of the library holds a number.
-/
import Derived.Test.YtfeaddbehmodmaaDoorS5
import Derived.Test.YtfeaddbehmodmaaDoorRI
namespace Go.Proofs.YtfeaddbehmodmaaDoor
open Go.RowKit
set_option maxRecDepth 100000
theorem splitImpl (t : ByteArray) (hmax : t.size ≤ 1048576) {x : List UInt8} {ws : List (List UInt8)} (hsp : sp t.data.toList = x :: ws) (m : Int) (w : World) (hm : w.cell? ⟨4, 0, none⟩ = some (.int .i64 m)) :
    Calls Tryd.prog 31 #[.string t, .string ⟨#[32]⟩] w (RetAt w (x :: ws) ws.length) := by
  refine (Tryd.strings_Split t ⟨#[32]⟩ m w (by omega) hm (by decide)).mono ?_
  rintro e w1 ⟨rfl, rfl⟩
  have hl : Lib.countB t ⟨#[32]⟩ + 1 = ws.length + 1 := by rw [← sp_length, hsp]; rfl
  have hs := splitB_sp t
  rw [hsp] at hs
  generalize Lib.splitB ⟨#[32]⟩ 0 (Lib.countB t ⟨#[32]⟩) t = bs at *
  refine ⟨w.heap.size, ws.length + 1, by rw [hl], Nat.le_refl _, ?_, Nat.le_refl _, fun j y hy => ?_, (Below.refl _ _).alloc (Nat.le_refl _) _⟩
  · show _ < (w.heap.push _).size
    rw [Array.size_push]
    exact Nat.lt_succ_self _
  · rw [cell_of_row _ w.heap.size j _ 9 (0, 0) (heap_alloc_new _ _), List.getElem?_toArray, List.getElem?_map]
    rw [← hs, List.getElem?_map] at hy
    simp only [Option.map_eq_some_iff] at hy ⊢
    obtain ⟨b, h1, h2⟩ := hy
    refine ⟨b, h1, ?_⟩
    rw [← h2]
    rfl
theorem list19 : ∀ {ns : List Nat}, ns.length = 19 → ∃ p q l r0 r1 r2 r3 r4 r5 r6 r7 r8 r9 r10 r11 r12 r13 r14 r15, ns = [p, q, l, r0, r1, r2, r3, r4, r5, r6, r7, r8, r9, r10, r11, r12, r13, r14, r15]
  | [p, q, l, r0, r1, r2, r3, r4, r5, r6, r7, r8, r9, r10, r11, r12, r13, r14, r15], _ => ⟨p, q, l, r0, r1, r2, r3, r4, r5, r6, r7, r8, r9, r10, r11, r12, r13, r14, r15, rfl⟩
theorem range19 {w : World} {g : Nat} {ns : List Nat} {p q l r0 r1 r2 r3 r4 r5 r6 r7 r8 r9 r10 r11 r12 r13 r14 r15 : Nat} (h : ns = [p, q, l, r0, r1, r2, r3, r4, r5, r6, r7, r8, r9, r10, r11, r12, r13, r14, r15])
    (hc : ∀ k, k < 19 → w.cell? ⟨g, k, none⟩ = some (.float .f32 (ns.getD k 0))) :
    w.cell? ⟨g, 0, none⟩ = some (.float .f32 p) ∧ w.cell? ⟨g, 1, none⟩ = some (.float .f32 q) ∧ w.cell? ⟨g, 2, none⟩ = some (.float .f32 l) ∧ w.rangeAt g 3 [Value.float .f32 r0, Value.float .f32 r1, Value.float .f32 r2, Value.float .f32 r3, Value.float .f32 r4, Value.float .f32 r5, Value.float .f32 r6, Value.float .f32 r7, Value.float .f32 r8, Value.float .f32 r9, Value.float .f32 r10, Value.float .f32 r11, Value.float .f32 r12, Value.float .f32 r13, Value.float .f32 r14, Value.float .f32 r15] := by
  subst h
  refine ⟨hc 0 (by omega), hc 1 (by omega), hc 2 (by omega), fun j v hj => ?_⟩
  have hj16 : j < 16 := by
    rcases Nat.lt_or_ge j 16 with g | g
    · exact g
    · rw [List.getElem?_eq_none (by simpa using g)] at hj
      cases hj
  rw [hc (3 + j) (by omega)]
  match j, hj16 with
  | 0, _ | 1, _ | 2, _ | 3, _ | 4, _ | 5, _ | 6, _ | 7, _ | 8, _ | 9, _ | 10, _ | 11, _ | 12, _ | 13, _ | 14, _ | 15, _ => exact hj
  | n + 16, g => exact absurd g (by omega)
theorem wpList_load_want {P : Program} {ops : Array Oper} {rest : List Oper} {op : Oper} {a : Act} {w : World} {Q : Exit → Act → World → Prop} (hw : Region.wanted op (yielded ops a.tmps) = true) (ty : TypeId) (x : Operand) (ho : op.op = .load ty x)
    (b o : Nat) (hx : a.eval x = .pointer (some ⟨b, o, none⟩)) (cs : List Value) (d : TypeDesc) (hc : w.rangeAt b o cs)
    (hu : P.underlying ty = some d) (hd : d.isRow = true) (hi : (P.info? ty).map (·.size) = some cs.length)
    (h : wpList P ops Q rest (a.put op.dst (.agg cs.toArray)) w) : wpList P ops Q (op :: rest) a w :=
  wpList_step fun K hK => by
    rw [if_pos hw]
    exact wp_load_mid ty x ho b o hx cs d hc hu hd hi (hK _ _ h)
theorem sp_small : ∀ (l cur : List UInt8), ∀ x ∈ spA cur l, x.length ≤ cur.length + l.length
  | [], cur, x, h => by
    rw [spA, List.mem_singleton] at h
    rw [h]
    simp
  | c :: r, cur, x, h => by
    rw [spA] at h
    split at h
    · rcases List.mem_cons.1 h with h | h
      · rw [h]
        simp
      · have := sp_small r [] x h
        simp only [List.length_nil, List.length_cons] at this ⊢
        omega
    · have := sp_small r _ x h
      simp only [List.length_append, List.length_cons, List.length_nil] at this ⊢
      omega
set_option maxHeartbeats 800000
theorem implReadRoad (t : ByteArray) (hmax : t.size ≤ 1048576) (w : World) (he : ErrOk w) (ht : TabOk w) (m : Int) (hm : w.cell? ⟨4, 0, none⟩ = some (.int .i64 m)) :
    Calls Tryd.prog 16 #[.string t] w (RetF w (implR t.data.toList)) := by
  obtain ⟨x, ws, hsp⟩ : ∃ x ws, sp t.data.toList = x :: ws := List.exists_cons_of_ne_nil (spA_ne [] _)
  have himp : implR t.data.toList = if ws.length = 19 then (if okR (arr (ws.map numX)) = true ∧ roadT (arr (ws.map numX)) = t.data.toList then some (ws.map numX) else none) else none := by
    unfold implR
    rw [hsp]
  have hsz6 := tab_size ht
  have hs0 : Slot (w.alloc (.cells #[Value.float .f32 0, Value.float .f32 0, Value.float .f32 0, Value.float .f32 0, Value.float .f32 0, Value.float .f32 0, Value.float .f32 0, Value.float .f32 0, Value.float .f32 0, Value.float .f32 0, Value.float .f32 0, Value.float .f32 0, Value.float .f32 0, Value.float .f32 0, Value.float .f32 0, Value.float .f32 0, Value.float .f32 0, Value.float .f32 0, Value.float .f32 0] 36)) w.heap.size z19 := slot_new w z19
  have hbA : Below w.heap.size w (w.alloc (.cells #[Value.float .f32 0, Value.float .f32 0, Value.float .f32 0, Value.float .f32 0, Value.float .f32 0, Value.float .f32 0, Value.float .f32 0, Value.float .f32 0, Value.float .f32 0, Value.float .f32 0, Value.float .f32 0, Value.float .f32 0, Value.float .f32 0, Value.float .f32 0, Value.float .f32 0, Value.float .f32 0, Value.float .f32 0, Value.float .f32 0, Value.float .f32 0] 36)) := (Below.refl _ _).alloc (Nat.le_refl _) _
  obtain ⟨wA, hwA⟩ : ∃ wA, w.alloc (.cells #[Value.float .f32 0, Value.float .f32 0, Value.float .f32 0, Value.float .f32 0, Value.float .f32 0, Value.float .f32 0, Value.float .f32 0, Value.float .f32 0, Value.float .f32 0, Value.float .f32 0, Value.float .f32 0, Value.float .f32 0, Value.float .f32 0, Value.float .f32 0, Value.float .f32 0, Value.float .f32 0, Value.float .f32 0, Value.float .f32 0, Value.float .f32 0] 36) = wA := ⟨_, rfl⟩
  rw [hwA] at hs0 hbA
  have hP := splitImpl t hmax hsp m wA (by rw [hbA.cell (p := ⟨4, 0, none⟩) (by show 4 < _; omega)]; exact hm)
  have hlen : ∀ y ∈ ws, y.length ≤ 1048576 := fun y hy => by
    have := sp_small t.data.toList [] y (by show y ∈ sp _; rw [hsp]; exact List.mem_cons_of_mem _ hy)
    rw [← Lib.size_eq] at this
    simp only [List.length_nil] at this
    omega
  have hP32 := fun (g o c : Nat) (w1 : World) (hb : Below wA.heap.size wA w1) hg hc h1 => implWords ws h1 hlen g o c w1 hg hc (err_below (err_below he (by omega) hbA) (by have := hbA.size; omega) hb) (tab_below (tab_below ht hbA) hb)
  obtain ⟨N, hN⟩ : ∃ N, N = ws.length := ⟨_, rfl⟩
  rw [← hN] at hP himp hP32
  have HN : Hid (N = ws.length) := hN
  clear hN hlen
  by_cases h19 : N = 19
  · subst h19
    rw [if_pos rfl] at himp
    have hnl : (ws.map numX).length = 19 := by rw [List.length_map]; exact HN.out.symm
    have HNS : Hid ((ws.map numX).length = 19 ∧ ∀ b ∈ ws.map numX, b < Sx.bits .f32) := ⟨hnl, map_numX_lt ws⟩
    obtain ⟨p, q, l, r0, r1, r2, r3, r4, r5, r6, r7, r8, r9, r10, r11, r12, r13, r14, r15, hns⟩ : ∃ p q l r0 r1 r2 r3 r4 r5 r6 r7 r8 r9 r10 r11 r12 r13 r14 r15, ws.map numX = [p, q, l, r0, r1, r2, r3, r4, r5, r6, r7, r8, r9, r10, r11, r12, r13, r14, r15] := list19 hnl
    have harr : arr (ws.map numX) = [r0, r1, r2, r3, r4, r5, r6, r7, r8, r9, r10, r11, r12, r13, r14, r15, p, q, l] := by rw [hns]; rfl
    have HR : Hid (Road19 (arr (ws.map numX))) := (roadT_arr HNS.out.1 HNS.out.2).1
    have hAt : ∀ {w0 w' : World} {v : Value}, w'.ownsRow w0.heap.size 22 1 v (fl (ws.map numX)).length (fl (ws.map numX)) → Row19 w0 w' (ws.map numX) v := fun h => row19 HNS.out.1 (by rw [fl_length] at h; exact h)
    go_enter Tryd.func16, Tryd.ntmps16
    go_wp2_with (first
      | (go_at_call 31; refine hP.mono ?_; rintro e w1 ⟨g, cap, rfl, hBg, hg, hcap, hcells, hb1⟩; have HC : Hid (∀ (j : Nat) y, (x :: ws)[j]? = some y → w1.cell? ⟨g, j, none⟩ = some (.string (ba y))) := hcells; clear hcells)
      | (go_at_call 32; refine (hP32 g 1 _ w1 hb1 hg (fun k y hy => by rw [Nat.add_comm]; exact HC.out (k + 1) y hy) (by omega)).mono ?_; rintro e w3 ⟨v, rfl, hown, hb3⟩; obtain ⟨g2, cap2, rfl, hg2B, hg2, hcap2, hc2⟩ := hAt hown; clear hown))
    obtain ⟨d0, d1, d2, d3⟩ := range19 hns hc2
    have HB3 : Hid (Below wA.heap.size wA w3) := hb1.trans (hb3.mono hb1.size)
    have hlt3 : w.heap.size < w3.heap.size := Nat.lt_of_lt_of_le hs0.lt HB3.out.size
    clear hc2
    refine wp_region_noPanic ?_
    refine regI5 hg2 hcap2 d0 d1 d2 d3 (fun _ _ _ _ _ h => h) (fun w9 hs9 hb9 => ?_)
    refine NoPanic.normal ?_
    rw [← harr] at hs9
    have hsB := (hs0.below HB3.out hs0.lt).below hb9 hlt3
    have hbW : Below w.heap.size w w9 := (hbA.trans (HB3.out.mono hbA.size)).trans (hb9.mono (Nat.le_of_lt hlt3))
    have HX : Hid (Slot w9 w3.heap.size (arr (ws.map numX)) ∧ Slot w9 w.heap.size z19 ∧ Below w.heap.size w w9) := ⟨hs9, hsB, hbW⟩
    clear hsB hbW hs9 hb9 d0 d1 d2 d3 harr
    clear hns
    have hX10 : ∀ w10, Below w9.heap.size w9 w10 → Slot w10 w3.heap.size (arr (ws.map numX)) ∧ Slot w10 w.heap.size z19 ∧ Below w.heap.size w w10 := fun w10 hb =>
      ⟨HX.out.1.below hb HX.out.1.lt, HX.out.2.1.below hb HX.out.2.1.lt, HX.out.2.2.trans (hb.mono HX.out.2.2.size)⟩
    cases hok : okR (arr (ws.map numX)) with
    | false =>
      rw [if_neg fun h => by rw [hok] at h; cases h.1] at himp
      have HS : Hid (implR t.data.toList = none) := himp
      clear himp hsp hP hP32
      go_wp2_with (first
        | ((with_reducible show Go.wpList _ _ _ (Go.Oper.mk _ (Go.Op.load 36 _) _ _ _ Option.none :: _) _ _); refine wpList_load_mid rfl 36 (.tmp 6) rfl w3.heap.size 0 rfl (fl (arr (ws.map numX))) _ HX.out.1.range Tryd.underlying36 rfl (flsize HR.out.1) ?_)
        | (go_at_call 28; refine (validRoad HR.out w9).mono ?_; rintro e w10 ⟨rfl, hb⟩; rw [hok]; have hb10 := hX10 w10 hb; clear hb)
        | ((with_reducible show Go.wpList _ _ _ (Go.Oper.mk _ (Go.Op.store 36 (Go.Operand.tmp 2) _) _ _ _ _ :: _) _ _); refine wpList_store_mid rfl 36 (.tmp 2) (.tmp 39) rfl w.heap.size 0 _ rfl rfl (zthere (hb10.2.1.there rfl)) zsize zone ?_; generalize hW : World.setCells _ _ _ _ = w13; have hs13 : Slot w13 w.heap.size z19 := (by rw [← hW]; exact zstore hb10.2.1 rfl); have hb13 : Below w.heap.size w w13 := (by rw [← hW]; exact below_cells hb10.2.2 (Nat.le_refl _) 0 _)))
      refine bodyPost_ret (results_cell rfl _ (p := ⟨w.heap.size, 0, none⟩) rfl (hs13.load rfl)) rfl ?_
      rw [HS.out]
      exact ⟨rfl, hb13⟩
    | true =>
      have hO : outT (arr (ws.map numX)) = roadT (arr (ws.map numX)) := by unfold outT; rw [hok]; rfl
      by_cases htx : roadT (arr (ws.map numX)) = t.data.toList
      · rw [if_pos ⟨hok, htx⟩] at himp
        have HS : Hid (implR t.data.toList = some (ws.map numX)) := himp
        have htt : (⟨(outT (arr (ws.map numX))).toArray⟩ : ByteArray) = t := by rw [hO, htx]
        clear himp hsp hP hP32 htx hO
        go_wp2_with (first
          | ((with_reducible show Go.wpList _ _ _ (Go.Oper.mk _ (Go.Op.load 36 _) _ _ _ Option.none :: _) _ _); refine wpList_load_mid rfl 36 (.tmp 6) rfl w3.heap.size 0 rfl (fl (arr (ws.map numX))) _ HX.out.1.range Tryd.underlying36 rfl (flsize HR.out.1) ?_)
          | ((with_reducible show Go.wpList _ _ _ (Go.Oper.mk _ (Go.Op.load 36 _) _ _ _ (some _) :: _) _ _); refine wpList_load_want (by rfl) 36 (.tmp 6) rfl w3.heap.size 0 rfl (fl (arr (ws.map numX))) _ (hb10.1.range) Tryd.underlying36 rfl (flsize HR.out.1) ?_)
          | (go_at_call 28; refine (validRoad HR.out w9).mono ?_; rintro e w10 ⟨rfl, hb⟩; rw [hok]; have hb10 := hX10 w10 hb; clear hb)
          | (go_at_call 14; refine (implRoadText HR.out w10 (tab_below ht hb10.2.2)).mono ?_; rintro e w11 ⟨rfl, hb11⟩; rw [htt]; have hb12 : Slot w11 w3.heap.size (arr (ws.map numX)) ∧ Slot w11 w.heap.size z19 ∧ Below w.heap.size w w11 := ⟨hb10.1.below hb11 hb10.1.lt, hb10.2.1.below hb11 hb10.2.1.lt, hb10.2.2.trans (hb11.mono hb10.2.2.size)⟩; clear hb11)
          | ((with_reducible show Go.wpList _ _ _ (Go.Oper.mk _ (Go.Op.load 36 _) _ _ _ Option.none :: _) _ _); refine wpList_load_mid rfl 36 (.tmp 6) rfl w3.heap.size 0 rfl (fl (arr (ws.map numX))) _ hb12.1.range Tryd.underlying36 rfl (flsize HR.out.1) ?_)
          | ((with_reducible show Go.wpList _ _ _ (Go.Oper.mk _ (Go.Op.store 36 (Go.Operand.tmp 2) _) _ _ _ _ :: _) _ _); refine wpList_store_mid rfl 36 (.tmp 2) (.tmp 40) rfl w.heap.size 0 (fl (arr (ws.map numX))).toArray rfl rfl (flthere (hb12.2.1.there rfl) HR.out.1) (flsize HR.out.1) (fl_one _) ?_; generalize hW : World.setCells _ _ _ _ = w13; have hs13 : Slot w13 w.heap.size (arr (ws.map numX)) := by rw [← hW]; exact hb12.2.1.store HR.out.1.symm
             have hb13 : Below w.heap.size w w13 := by rw [← hW]; exact below_cells hb12.2.2 (Nat.le_refl _) 0 _))
        refine bodyPost_ret (results_cell rfl _ (p := ⟨w.heap.size, 0, none⟩) rfl (hs13.load HR.out.1)) rfl ?_
        rw [HS.out]
        exact ⟨rfl, hb13⟩
      · rw [if_neg fun h => htx h.2] at himp
        have HS : Hid (implR t.data.toList = none) := himp
        have hne : (outT (arr (ws.map numX)) == t.toList) = false := by
          rw [ByteArray.toList_eq, hO]
          exact beq_eq_false_iff_ne.2 htx
        clear himp hsp hP hP32 htx hO
        go_wp2_with (first
          | ((with_reducible show Go.wpList _ _ _ (Go.Oper.mk _ (Go.Op.load 36 _) _ _ _ Option.none :: _) _ _); refine wpList_load_mid rfl 36 (.tmp 6) rfl w3.heap.size 0 rfl (fl (arr (ws.map numX))) _ HX.out.1.range Tryd.underlying36 rfl (flsize HR.out.1) ?_)
          | ((with_reducible show Go.wpList _ _ _ (Go.Oper.mk _ (Go.Op.load 36 _) _ _ _ (some _) :: _) _ _); refine wpList_load_want (by rfl) 36 (.tmp 6) rfl w3.heap.size 0 rfl (fl (arr (ws.map numX))) _ (hb10.1.range) Tryd.underlying36 rfl (flsize HR.out.1) ?_)
          | (go_at_call 28; refine (validRoad HR.out w9).mono ?_; rintro e w10 ⟨rfl, hb⟩; rw [hok]; have hb10 := hX10 w10 hb; clear hb)
          | (go_at_call 14; refine (implRoadText HR.out w10 (tab_below ht hb10.2.2)).mono ?_; rintro e w11 ⟨rfl, hb11⟩; have hb12 : Slot w11 w.heap.size z19 ∧ Below w.heap.size w w11 := ⟨hb10.2.1.below hb11 hb10.2.1.lt, hb10.2.2.trans (hb11.mono hb10.2.2.size)⟩; clear hb11)
          | ((with_reducible show Go.wpList _ _ _ (Go.Oper.mk _ (Go.Op.store 36 (Go.Operand.tmp 2) _) _ _ _ _ :: _) _ _); refine wpList_store_mid rfl 36 (.tmp 2) (.tmp 39) rfl w.heap.size 0 _ rfl rfl (zthere (hb12.1.there rfl)) zsize zone ?_; generalize hW : World.setCells _ _ _ _ = w13; have hs13 : Slot w13 w.heap.size z19 := (by rw [← hW]; exact zstore hb12.1 rfl); have hb13 : Below w.heap.size w w13 := (by rw [← hW]; exact below_cells hb12.2 (Nat.le_refl _) 0 _)))
        refine bodyPost_ret (results_cell rfl _ (p := ⟨w.heap.size, 0, none⟩) rfl (hs13.load rfl)) rfl ?_
        rw [HS.out]
        exact ⟨rfl, hb13⟩
  · rw [if_neg h19] at himp
    have HS : Hid (implR t.data.toList = none) := himp
    have hn20 : ¬ ((N : Int) + 1 = 20) := by omega
    clear himp hsp hP32 h19
    go_enter Tryd.func16, Tryd.ntmps16
    go_wp2_with (first
      | (go_at_call 31; refine hP.mono ?_; rintro e w1 ⟨g, cap, rfl, hBg, hg, hcap, hcells, hb1⟩; have hb12 : Slot w1 w.heap.size z19 ∧ Below w.heap.size w w1 := ⟨hs0.below hb1 hs0.lt, hbA.trans (hb1.mono hbA.size)⟩; clear hcells)
      | ((with_reducible show Go.wpList _ _ _ (Go.Oper.mk _ (Go.Op.store 36 (Go.Operand.tmp 2) _) _ _ _ _ :: _) _ _); refine wpList_store_mid rfl 36 (.tmp 2) (.tmp 12) rfl w.heap.size 0 _ rfl rfl (zthere (hb12.1.there rfl)) zsize zone ?_; generalize hW : World.setCells _ _ _ _ = w13; have hs13 : Slot w13 w.heap.size z19 := (by rw [← hW]; exact zstore hb12.1 rfl); have hb13 : Below w.heap.size w w13 := (by rw [← hW]; exact below_cells hb12.2 (Nat.le_refl _) 0 _)))
    refine bodyPost_ret (results_cell rfl _ (p := ⟨w.heap.size, 0, none⟩) rfl (hs13.load rfl)) rfl ?_
    rw [HS.out]
    exact ⟨rfl, hb13⟩
end Go.Proofs.YtfeaddbehmodmaaDoor
