/-
  THE REFERENCE'S StepList, walked. Conditions: those that stand in each.
-/
import Derived.Test.YtlnphdohjelppaaJRN
namespace Go.Proofs.Ytlnphdohjelppaa
open Go.RowKit
set_option maxRecDepth 100000
set_option maxHeartbeats 1600000
theorem allAmt_of {xs : List Nat} (h : ∀ j, j < xs.length → amtB (xs.getD j 0) = true) : allAmt xs = true := by
  unfold allAmt
  refine List.all_eq_true.2 fun x hx => ?_
  obtain ⟨j, hj, e⟩ := List.mem_iff_getElem.1 hx
  have := h j hj
  rw [List.getD_eq_getElem?_getD, List.getElem?_eq_getElem hj, Option.getD_some, e] at this
  exact this
theorem allAmt_no {xs : List Nat} {k : Nat} (hk : k < xs.length) (h : amtB (xs.getD k 0) = false) : allAmt xs = false := by
  unfold allAmt
  refine List.all_eq_false.2 ⟨_, getD_mem hk, ?_⟩
  rw [h]
  simp
theorem fl_at {fs : List Nat} {k : Nat} (h : k < fs.length) : (fl fs)[k]? = some (.float .f32 (fs.getD k 0)) := by
  unfold fl
  rw [List.getElem?_map, List.getElem?_eq_getElem h, List.getD_eq_getElem?_getD, List.getElem?_eq_getElem h]
  rfl
theorem laid {cs cs' fs : List Nat} {w w1 w2 : World} {B A G : Nat} (h1 : Road19 cs) (hs : Slot w1 B cs) (hz : Slot w1 A z19) (hf : Floc w1 G fs) (hb : Below B w w1) (hne : B ≠ G) (hne' : A ≠ B) (h2 : Road19 cs') (h12 : Below w1.heap.size w1 w2) :
    Slot (w2.setCells B 0 (fl cs')) B cs' ∧ Slot (w2.setCells B 0 (fl cs')) A z19 ∧ Floc (w2.setCells B 0 (fl cs')) G fs ∧ Below B w (w2.setCells B 0 (fl cs')) :=
  ⟨(hs.below h12 hs.lt).store (h1.1.trans h2.1.symm), (hz.below h12 hz.lt).apart hne' 0 _, (hf.below h12 hf.lt).apart hne.symm 0 _, below_cells (hb.trans (h12.mono (Nat.le_of_lt hs.lt))) (Nat.le_refl _) 0 _⟩
theorem stepListS {bs : List Nat} (h : Road19 bs) (xs ys : List Nat) (hxl : xs.length ≤ 1048576) (hyl : ys.length ≤ 1048576) (hx : ∀ b ∈ xs, b < Sx.bits .f32) (hy : ∀ b ∈ ys, b < Sx.bits .f32) (g1 g2 : Nat) (w : World) (h1 : RowF w g1 xs) (h2 : RowF w g2 ys) :
    Calls Try.prog 4 #[.agg (fl bs).toArray, .slice (some ⟨g1, 0, none⟩) xs.length xs.length, .slice (some ⟨g2, 0, none⟩) ys.length ys.length] w (RetSL w (rho bs) xs ys (okR bs) (inB xs ys)) := by
  have hH : Hid (Road19 bs ∧ RowF w g1 xs ∧ RowF w g2 ys ∧ (∀ b ∈ xs, b < Sx.bits .f32) ∧ (∀ b ∈ ys, b < Sx.bits .f32)) := ⟨h, h1, h2, hx, hy⟩
  have hs0 : Slot (w.alloc (.cells (fl bs).toArray 29)) w.heap.size bs := slot_new w bs
  have hbA : Below w.heap.size w (w.alloc (.cells (fl bs).toArray 29)) := (Below.refl _ _).alloc (Nat.le_refl _) _
  obtain ⟨wA, hwA⟩ : ∃ wA, w.alloc (.cells (fl bs).toArray 29) = wA := ⟨_, rfl⟩
  rw [hwA] at hs0 hbA
  have hlt := hs0.lt
  have hS0 : Hid (Slot (wA.alloc (.cells #[Value.float .f32 0, Value.float .f32 0, Value.float .f32 0, Value.float .f32 0, Value.float .f32 0, Value.float .f32 0, Value.float .f32 0, Value.float .f32 0, Value.float .f32 0, Value.float .f32 0, Value.float .f32 0, Value.float .f32 0, Value.float .f32 0, Value.float .f32 0, Value.float .f32 0, Value.float .f32 0, Value.float .f32 0, Value.float .f32 0, Value.float .f32 0] 29)) w.heap.size bs ∧ Slot (wA.alloc (.cells #[Value.float .f32 0, Value.float .f32 0, Value.float .f32 0, Value.float .f32 0, Value.float .f32 0, Value.float .f32 0, Value.float .f32 0, Value.float .f32 0, Value.float .f32 0, Value.float .f32 0, Value.float .f32 0, Value.float .f32 0, Value.float .f32 0, Value.float .f32 0, Value.float .f32 0, Value.float .f32 0, Value.float .f32 0, Value.float .f32 0, Value.float .f32 0] 29)) wA.heap.size z19 ∧ Below w.heap.size w (wA.alloc (.cells #[Value.float .f32 0, Value.float .f32 0, Value.float .f32 0, Value.float .f32 0, Value.float .f32 0, Value.float .f32 0, Value.float .f32 0, Value.float .f32 0, Value.float .f32 0, Value.float .f32 0, Value.float .f32 0, Value.float .f32 0, Value.float .f32 0, Value.float .f32 0, Value.float .f32 0, Value.float .f32 0, Value.float .f32 0, Value.float .f32 0, Value.float .f32 0] 29))) := ⟨hs0.alloc _, slot_new wA z19, hbA.alloc hbA.size _⟩
  obtain ⟨inb, hin⟩ : ∃ inb, inb = inB xs ys := ⟨_, rfl⟩
  rw [← hin]
  have hBadOf : ∀ ok t, (ok && t) = false → Hid (∀ w13, Below w.heap.size w w13 → RetSL w (rho bs) xs ys ok t (.returned (.tuple #[.agg (fl z19).toArray, .float .f32 0, .float .f32 0, .int .i64 (codeR ok t)])) w13) := fun ok t ht w13 hb => ret_bad ht hb
  obtain ⟨n1, hn1⟩ : ∃ n1, n1 = xs.length := ⟨_, rfl⟩
  obtain ⟨n2, hn2⟩ : ∃ n2, n2 = ys.length := ⟨_, rfl⟩
  unfold inB at hin
  rw [← hn1] at hin hxl ⊢
  rw [← hn2] at hin hyl ⊢
  have HN : Hid (n1 = xs.length ∧ n2 = ys.length) := ⟨hn1, hn2⟩
  clear h h1 h2 hx hy hs0 hbA hn1 hn2
  cases hok : okR bs with
  | false =>
    have hBad := hBadOf false inb rfl
    have e : codeR false inb = 1 := rfl
    rw [e] at hBad
    clear hBadOf hin
    go_enter Try.func4, Try.ntmps4
    go_wp2_with (first
      | (go_at_call 11; refine (specOk hH.out.1 (wA.alloc (.cells #[Value.float .f32 0, Value.float .f32 0, Value.float .f32 0, Value.float .f32 0, Value.float .f32 0, Value.float .f32 0, Value.float .f32 0, Value.float .f32 0, Value.float .f32 0, Value.float .f32 0, Value.float .f32 0, Value.float .f32 0, Value.float .f32 0, Value.float .f32 0, Value.float .f32 0, Value.float .f32 0, Value.float .f32 0, Value.float .f32 0, Value.float .f32 0] 29)) w.heap.size 29 hS0.out.1).mono ?_; rintro e w1 ⟨rfl, hw1⟩; rw [hok]; have HS1 : Hid (Slot w1 w.heap.size bs ∧ Slot w1 wA.heap.size z19 ∧ Below w.heap.size w w1) := ⟨hS0.out.1.below hw1 hS0.out.1.lt, hS0.out.2.1.below hw1 hS0.out.2.1.lt, hS0.out.2.2.trans (hw1.mono hS0.out.2.2.size)⟩; clear hw1)
      | ((with_reducible show Go.wpList _ _ _ (Go.Oper.mk _ (Go.Op.store 29 (Go.Operand.tmp 6) _) _ _ _ _ :: _) _ _); refine wpList_store_mid rfl 29 (.tmp 6) (.tmp 17) rfl wA.heap.size 0 _ rfl rfl (zthere (HS1.out.2.1.there rfl)) zsize zone ?_; generalize hW : World.setCells _ _ _ _ = w13))
    have hs13 : Slot w13 wA.heap.size z19 := by rw [← hW]; exact zstore HS1.out.2.1 rfl
    have hb13 : Below w.heap.size w w13 := by rw [← hW]; exact below_cells HS1.out.2.2 (Nat.le_of_lt hlt) 0 _
    refine bodyPost_ret (results_cell4 rfl _ (p := ⟨wA.heap.size, 0, none⟩) rfl (hs13.load rfl)) rfl ?_
    exact hBad.out w13 hb13
  | true =>
    by_cases e1 : n1 = n2
    · subst e1
      by_cases e2 : n1 ≤ 400
      · have hi4 : ¬ (400 : Int) < (n1 : Int) := by omega
        go_enter Try.func4, Try.ntmps4
        go_wp2_with (first
          | (go_at_call 11; refine (specOk hH.out.1 (wA.alloc (.cells #[Value.float .f32 0, Value.float .f32 0, Value.float .f32 0, Value.float .f32 0, Value.float .f32 0, Value.float .f32 0, Value.float .f32 0, Value.float .f32 0, Value.float .f32 0, Value.float .f32 0, Value.float .f32 0, Value.float .f32 0, Value.float .f32 0, Value.float .f32 0, Value.float .f32 0, Value.float .f32 0, Value.float .f32 0, Value.float .f32 0, Value.float .f32 0] 29)) w.heap.size 29 hS0.out.1).mono ?_; rintro e w1 ⟨rfl, hw1⟩; rw [hok]; have HS1 : Hid (Slot w1 w.heap.size bs ∧ Slot w1 wA.heap.size z19 ∧ Below w.heap.size w w1) := ⟨hS0.out.1.below hw1 hS0.out.1.lt, hS0.out.2.1.below hw1 hS0.out.2.1.lt, hS0.out.2.2.trans (hw1.mono hS0.out.2.2.size)⟩; clear hw1))
        go_loopw [10] (fun vi wr => ∃ (k : Nat), vi = .int .i64 k ∧ k ≤ n1 ∧ Hid (∀ j, j < k → amtB (xs.getD j 0) = true ∧ amtB (ys.getD j 0) = true) ∧ Hid (Slot wr w.heap.size bs ∧ Slot wr wA.heap.size z19 ∧ Below w.heap.size w wr))
          (fun vi _ => n1 - (intOf vi).toNat)
        case atStart => exact ⟨0, rfl, by omega, (by intro j hj; omega), HS1⟩
        case round =>
          obtain ⟨k, rfl, hk, hal, hsl⟩ := hrel
          clear HS1
          by_cases hkn : k < n1
          · have hki : (k : Int) < (n1 : Int) := by omega
            have hkx : k < xs.length := by have := HN.out.1; omega
            have hky : k < ys.length := by have := HN.out.2; omega
            have HC : Hid ((∀ w', Below w.heap.size w w' → w'.cell? ⟨g1, k, none⟩ = some (.float .f32 (xs.getD k 0))) ∧ ∀ w', Below w.heap.size w w' → w'.cell? ⟨g2, k, none⟩ = some (.float .f32 (ys.getD k 0))) :=
              ⟨fun w' hb => by rw [hb.cell (p := ⟨g1, k, none⟩) hH.out.2.1.lt]; exact hH.out.2.1.cell hkx, fun w' hb => by rw [hb.cell (p := ⟨g2, k, none⟩) hH.out.2.2.1.lt]; exact hH.out.2.2.1.cell hky⟩
            have HL : Hid (xs.getD k 0 < Sx.bits .f32 ∧ ys.getD k 0 < Sx.bits .f32) := ⟨hH.out.2.2.2.1 _ (getD_mem hkx), hH.out.2.2.2.2 _ (getD_mem hky)⟩
            have c1 := HC.out.1 wr hsl.out.2.2
            have hup : Hid (∀ w', Below wr.heap.size wr w' → Slot w' w.heap.size bs ∧ Slot w' wA.heap.size z19 ∧ Below w.heap.size w w') := fun w' hb => ⟨hsl.out.1.below hb hsl.out.1.lt, hsl.out.2.1.below hb hsl.out.2.1.lt, hsl.out.2.2.trans (hb.mono hsl.out.2.2.size)⟩
            obtain ⟨cx, hcx⟩ : ∃ c, c = xs.getD k 0 := ⟨_, rfl⟩
            obtain ⟨cy, hcy⟩ : ∃ c, c = ys.getD k 0 := ⟨_, rfl⟩
            rw [← hcx] at HC HL c1
            rw [← hcy] at HC HL
            have hAx : amtB cx = false → allAmt xs = false := fun h => allAmt_no hkx (by rw [← hcx]; exact h)
            have hAy : amtB cy = false → allAmt ys = false := fun h => allAmt_no hky (by rw [← hcy]; exact h)
            have HA0 : Hid (amtB cx = true → amtB cy = true → ∀ j, j < k + 1 → amtB (xs.getD j 0) = true ∧ amtB (ys.getD j 0) = true) := fun ha hd j hj => by
              rcases Nat.lt_or_ge j k with q | q
              · exact hal.out j q
              · have e : j = k := by omega
                rw [e, ← hcx, ← hcy]
                exact ⟨ha, hd⟩
            clear hcx hcy hal
            cases ha : amtB cx with
            | false =>
              obtain rfl : inb = false := by rw [hin, hAx ha]; simp
              have hBad := hBadOf true false rfl
              have e : codeR true false = 2 := rfl
              rw [e] at hBad
              clear hin hBadOf hAx hAy HA0
              go_wp2_with (first
                | (go_at_call 12; (with_reducible show Calls _ _ _ wr _); refine (amtS HL.out.1 wr).mono ?_; rintro e w1 ⟨rfl, hb1⟩; rw [ha]; have HT := hup.out w1 hb1)
                | ((with_reducible show Go.wpList _ _ _ (Go.Oper.mk _ (Go.Op.store 29 (Go.Operand.tmp 6) _) _ _ _ _ :: _) _ _); refine wpList_store_mid rfl 29 (.tmp 6) (.tmp 49) rfl wA.heap.size 0 _ rfl rfl (zthere (HT.2.1.there rfl)) zsize zone ?_; generalize hW : World.setCells _ _ _ _ = w13))
              have hs13 : Slot w13 wA.heap.size z19 := by rw [← hW]; exact zstore HT.2.1 rfl
              have hb13 : Below w.heap.size w w13 := by rw [← hW]; exact below_cells HT.2.2 (Nat.le_of_lt hlt) 0 _
              refine bodyPost_ret (results_cell4 rfl _ (p := ⟨wA.heap.size, 0, none⟩) rfl (hs13.load rfl)) rfl ?_
              exact hBad.out w13 hb13
            | true =>
              cases hd : amtB cy with
              | false =>
                obtain rfl : inb = false := by rw [hin, hAy hd]; simp
                have hBad := hBadOf true false rfl
                have e : codeR true false = 2 := rfl
                rw [e] at hBad
                clear hin hBadOf hAx hAy HA0
                go_wp2_with (first
                  | (go_at_call 12; (with_reducible show Calls _ _ _ wr _); refine (amtS HL.out.1 wr).mono ?_; rintro e w1 ⟨rfl, hb1⟩; rw [ha]; have HT := hup.out w1 hb1; have c2 := HC.out.2 w1 HT.2.2)
                  | (go_at_call 12; (with_reducible show Calls _ _ _ w1 _); refine (amtS HL.out.2 w1).mono ?_; rintro e w2 ⟨rfl, hb2⟩; rw [hd]; have HU := hup.out w2 (hb1.trans (hb2.mono hb1.size)))
                  | ((with_reducible show Go.wpList _ _ _ (Go.Oper.mk _ (Go.Op.store 29 (Go.Operand.tmp 6) _) _ _ _ _ :: _) _ _); refine wpList_store_mid rfl 29 (.tmp 6) (.tmp 49) rfl wA.heap.size 0 _ rfl rfl (zthere (HU.2.1.there rfl)) zsize zone ?_; generalize hW : World.setCells _ _ _ _ = w13))
                have hs13 : Slot w13 wA.heap.size z19 := by rw [← hW]; exact zstore HU.2.1 rfl
                have hb13 : Below w.heap.size w w13 := by rw [← hW]; exact below_cells HU.2.2 (Nat.le_of_lt hlt) 0 _
                refine bodyPost_ret (results_cell4 rfl _ (p := ⟨wA.heap.size, 0, none⟩) rfl (hs13.load rfl)) rfl ?_
                exact hBad.out w13 hb13
              | true =>
                have HA : Hid (∀ j, j < k + 1 → amtB (xs.getD j 0) = true ∧ amtB (ys.getD j 0) = true) := HA0.out ha hd
                clear hin hBadOf hAx hAy HA0
                go_wp2_with (first
                  | (go_at_call 12; (with_reducible show Calls _ _ _ wr _); refine (amtS HL.out.1 wr).mono ?_; rintro e w1 ⟨rfl, hb1⟩; rw [ha]; have HT := hup.out w1 hb1; have c2 := HC.out.2 w1 HT.2.2)
                  | (go_at_call 12; (with_reducible show Calls _ _ _ w1 _); refine (amtS HL.out.2 w1).mono ?_; rintro e w2 ⟨rfl, hb2⟩; rw [hd]; have HU : Hid (Slot w2 w.heap.size bs ∧ Slot w2 wA.heap.size z19 ∧ Below w.heap.size w w2) := hup.out w2 (hb1.trans (hb2.mono hb1.size))))
                refine ⟨⟨k + 1, (by first | rfl | (congr 1; omega)), by omega, HA, HU⟩, by simp only [intOf]; omega⟩
          · have hki : (n1 : Int) ≤ (k : Int) := by omega
            have hkk : k = n1 := by omega
            have hall : inb = true := by
              have q1 : allAmt xs = true := allAmt_of fun j hj => (hal.out j (by have := HN.out.1; omega)).1
              have q2 : allAmt ys = true := allAmt_of fun j hj => (hal.out j (by have := HN.out.2; omega)).2
              rw [hin, q1, q2]
              simp [e2]
            subst hall
            have H0 : Hid (Road19 bs ∧ rho bs = stR (rho bs) xs ys 0 ∧ (0 : Nat) < Sx.bits .f32 ∧ (0 : Nat) < Sx.bits .f32 ∧ ((Sx.nz .f32 0 : Nat) : Int) = inS (rho bs) xs ys 0 ∧ ((Sx.nz .f32 0 : Nat) : Int) = outS (rho bs) xs ys 0) := ⟨hH.out.1, rfl, by decide, by decide, rfl, rfl⟩
            clear hal hin hBadOf hkk e2
            go_wp2
            go_loopw [11, 12, 13] (fun va vb vi wr => ∃ (k a b : Nat) (cs : List Nat), va = .float .f32 a ∧ vb = .float .f32 b ∧ vi = .int .i64 k ∧ k ≤ n1 ∧ Hid (Road19 cs ∧ rho cs = stR (rho bs) xs ys k ∧ a < Sx.bits .f32 ∧ b < Sx.bits .f32 ∧ ((Sx.nz .f32 a : Nat) : Int) = inS (rho bs) xs ys k ∧ ((Sx.nz .f32 b : Nat) : Int) = outS (rho bs) xs ys k) ∧ Hid (Slot wr w.heap.size cs ∧ Slot wr wA.heap.size z19 ∧ Below w.heap.size w wr))
              (fun _ _ vi _ => n1 - (intOf vi).toNat)
            case atStart => exact ⟨0, 0, 0, bs, rfl, rfl, rfl, by omega, H0, hsl⟩
            case round =>
              obtain ⟨k', a, b, cs, rfl, rfl, rfl, hk', hv, hsl'⟩ := hrel
              clear H0 hsl
              by_cases hkn' : k' < n1
              · have hki' : (k' : Int) < (n1 : Int) := by omega
                have hkx : k' < xs.length := by have := HN.out.1; omega
                have hky : k' < ys.length := by have := HN.out.2; omega
                have HC : Hid ((∀ w', Below w.heap.size w w' → w'.cell? ⟨g1, k', none⟩ = some (.float .f32 (xs.getD k' 0))) ∧ ∀ w', Below w.heap.size w w' → w'.cell? ⟨g2, k', none⟩ = some (.float .f32 (ys.getD k' 0))) :=
                  ⟨fun w' hb => by rw [hb.cell (p := ⟨g1, k', none⟩) hH.out.2.1.lt]; exact hH.out.2.1.cell hkx, fun w' hb => by rw [hb.cell (p := ⟨g2, k', none⟩) hH.out.2.2.1.lt]; exact hH.out.2.2.1.cell hky⟩
                have HL : Hid (xs.getD k' 0 < Sx.bits .f32 ∧ ys.getD k' 0 < Sx.bits .f32) := ⟨hH.out.2.2.2.1 _ (getD_mem hkx), hH.out.2.2.2.2 _ (getD_mem hky)⟩
                clear hkx hky
                go_wp2
                refine wp_region_noPanic ?_
                refine regN (cs := cs) hv.out.1 HL.out.1 HL.out.2 hki' hsl'.out.1 HC.out.1 HC.out.2 hsl'.out.2.2 (fun _ _ _ _ _ h => h) (fun fs G w1 hF hG hf1 hw1 => ?_)
                refine NoPanic.normal ?_
                obtain ⟨hvR, hrc, ha0, hb0, hva0, hvb0⟩ := hv.out
                have hs1 : Slot w1 w.heap.size cs := hsl'.out.1.below hw1 hsl'.out.1.lt
                have hz1 : Slot w1 wA.heap.size z19 := hsl'.out.2.1.below hw1 hsl'.out.2.1.lt
                have hbw1 : Below w.heap.size w w1 := hsl'.out.2.2.trans (hw1.mono hsl'.out.2.2.size)
                have hne : w.heap.size ≠ G := by have := hsl'.out.1.lt; omega
                have hne' : wA.heap.size ≠ w.heap.size := Nat.ne_of_gt hlt
                have HX : Hid (Road19 cs ∧ FlowsOk (rho cs) ((Sx.nz .f32 (xs.getD k' 0) : Nat) : Int) ((Sx.nz .f32 (ys.getD k' 0) : Nat) : Int) fs ∧ Slot w1 w.heap.size cs ∧ Slot w1 wA.heap.size z19 ∧ Floc w1 G fs ∧ Below w.heap.size w w1 ∧ w.heap.size ≠ G ∧ wA.heap.size ≠ w.heap.size) :=
                  ⟨hvR, hF, hs1, hz1, hf1, hbw1, hne, hne'⟩
                have hc0 : ((Sx.nz .f32 (fs.getD 0 0) : Nat) : Int) = cameV (rho cs) ((Sx.nz .f32 (xs.getD k' 0) : Nat) : Int) ((Sx.nz .f32 (ys.getD k' 0) : Nat) : Int) := by
                  rw [hF.2.2 0 (by decide), flow_came]
                  rfl
                have hc16 : ((Sx.nz .f32 (fs.getD 16 0) : Nat) : Int) = wentV (rho cs) ((Sx.nz .f32 (xs.getD k' 0) : Nat) : Int) ((Sx.nz .f32 (ys.getD k' 0) : Nat) : Int) := by
                  rw [hF.2.2 16 (by decide), flow_went]
                  rfl
                have hm0 : fs.getD 0 0 < Sx.bits .f32 := hF.2.1 _ (getD_mem (by rw [hF.1]; decide))
                have hm16 : fs.getD 16 0 < Sx.bits .f32 := hF.2.1 _ (getD_mem (by rw [hF.1]; decide))
                have hg0 : (fl fs)[0]? = some (.float .f32 (fs.getD 0 0)) := fl_at (by rw [hF.1]; decide)
                have hg16 : (fl fs)[16]? = some (.float .f32 (fs.getD 16 0)) := fl_at (by rw [hF.1]; decide)
                obtain ⟨f0, hf0⟩ : ∃ f, f = fs.getD 0 0 := ⟨_, rfl⟩
                obtain ⟨f16, hf16⟩ : ∃ f, f = fs.getD 16 0 := ⟨_, rfl⟩
                rw [← hf0] at hc0 hm0 hg0
                rw [← hf16] at hc16 hm16 hg16
                have HV : Hid (a < Sx.bits .f32 ∧ b < Sx.bits .f32 ∧ f0 < Sx.bits .f32 ∧ f16 < Sx.bits .f32 ∧
                    sumV ((Sx.nz .f32 a : Nat) : Int) ((Sx.nz .f32 f0 : Nat) : Int) = inS (rho bs) xs ys (k' + 1) ∧ sumV ((Sx.nz .f32 b : Nat) : Int) ((Sx.nz .f32 f16 : Nat) : Int) = outS (rho bs) xs ys (k' + 1)) := by
                  refine ⟨ha0, hb0, hm0, hm16, ?_, ?_⟩
                  · rw [hva0, hc0, hrc]
                    rfl
                  · rw [hvb0, hc16, hrc]
                    rfl
                have HG : Hid ((fl fs)[0]? = some (.float .f32 f0) ∧ (fl fs)[16]? = some (.float .f32 f16)) := ⟨hg0, hg16⟩
                have HR : Hid (rho cs = stR (rho bs) xs ys k') := hrc
                clear hF hG hf1 hw1 hvR hrc ha0 hb0 hva0 hvb0 hs1 hz1 hbw1 hne hne' hc0 hc16 hm0 hm16 hg0 hg16 hf0 hf16 hv hsl' HC HL
                go_wp2_with (first
                  | (go_at_call 14; (with_reducible show Calls _ _ _ w1 _); refine (stepS HX.out.1 HX.out.2.1 w1 w.heap.size G 29 42 HX.out.2.2.2.2.2.2.1 HX.out.2.2.1 HX.out.2.2.2.2.1).mono ?_; rintro e w2 ⟨cs', rfl, hR', hr', hb2⟩; have HY : Hid (Road19 cs' ∧ rho cs' = stepR (rho cs) ((Sx.nz .f32 (xs.getD k' 0) : Nat) : Int) ((Sx.nz .f32 (ys.getD k' 0) : Nat) : Int) ∧ Below w1.heap.size w1 w2) := ⟨hR', hr', hb2⟩; clear hR' hr' hb2)
                  | ((with_reducible show Go.wpList _ _ _ (Go.Oper.mk _ (Go.Op.store 29 (Go.Operand.tmp 3) _) _ _ _ _ :: _) _ _); refine wpList_store_mid rfl 29 (.tmp 3) (.tmp 65) rfl w.heap.size 0 (fl cs').toArray rfl rfl (flthere ((HX.out.2.2.1.below HY.out.2.2 HX.out.2.2.1.lt).there HX.out.1.1) HY.out.1.1) (flsize HY.out.1.1) (fl_one _) ?_; generalize hW : World.setCells _ _ _ _ = w3; have HT : Hid (Slot w3 w.heap.size cs' ∧ Slot w3 wA.heap.size z19 ∧ Floc w3 G fs ∧ Below w.heap.size w w3) := (by rw [← hW]; exact laid HX.out.1 HX.out.2.2.1 HX.out.2.2.2.1 HX.out.2.2.2.2.1 HX.out.2.2.2.2.2.1 HX.out.2.2.2.2.2.2.1 HX.out.2.2.2.2.2.2.2 HY.out.1 HY.out.2.2); have d0 : w3.cell? ⟨G, 0, none⟩ = some (.float .f32 f0) := (by rw [HT.out.2.2.1.cell]; exact HG.out.1); clear hW))
                obtain ⟨q1, v1, k1, hz1, hn1, hb1⟩ := addF HV.out.1 HV.out.2.2.1 w3
                rw [k1]
                have d16 : v1.cell? ⟨G, 16, none⟩ = some (.float .f32 f16) := by
                  rw [(HT.out.2.2.1.below hb1 HT.out.2.2.1.lt).cell]
                  exact HG.out.2
                go_wp2
                obtain ⟨q2, v2, k2, hz2, hn2, hb2⟩ := addF HV.out.2.1 HV.out.2.2.2.1 v1
                rw [k2]
                have HE : Hid (Road19 cs' ∧ rho cs' = stR (rho bs) xs ys (k' + 1) ∧ q1 < Sx.bits .f32 ∧ q2 < Sx.bits .f32 ∧ ((Sx.nz .f32 q1 : Nat) : Int) = inS (rho bs) xs ys (k' + 1) ∧ ((Sx.nz .f32 q2 : Nat) : Int) = outS (rho bs) xs ys (k' + 1)) :=
                  ⟨HY.out.1, (by rw [HY.out.2.1, HR.out]; rfl), hz1, hz2, hn1.trans HV.out.2.2.2.2.1, hn2.trans HV.out.2.2.2.2.2⟩
                have hbv : Below w3.heap.size w3 v2 := hb1.trans (hb2.mono hb1.size)
                have HU : Hid (Slot v2 w.heap.size cs' ∧ Slot v2 wA.heap.size z19 ∧ Below w.heap.size w v2) := ⟨HT.out.1.below hbv HT.out.1.lt, HT.out.2.1.below hbv HT.out.2.1.lt, HT.out.2.2.2.trans (hbv.mono HT.out.2.2.2.size)⟩
                clear hz1 hn1 hb1 hz2 hn2 hb2 hbv k1 k2 d0 d16 HX HY HT HV HG HR
                go_wp2
                refine ⟨⟨k' + 1, q1, q2, cs', rfl, rfl, (by first | rfl | (congr 1; omega)), by omega, HE, HU⟩, by simp only [intOf]; omega⟩
              · have hki' : (n1 : Int) ≤ (k' : Int) := by omega
                have hkk' : k' = n1 := by omega
                have hsl := hsl'.out
                have HR : Hid (Road19 cs) := hv.out.1
                go_wp2_with (first
                  | ((with_reducible show Go.wpList _ _ _ (Go.Oper.mk _ (Go.Op.load 29 _) _ _ _ _ :: _) _ _); refine wpList_load_mid rfl 29 (.tmp 3) rfl _ _ rfl (fl cs) _ hsl.1.range Try.underlying29 rfl (flsize HR.out.1) ?_)
                  | ((with_reducible show Go.wpList _ _ _ (Go.Oper.mk _ (Go.Op.store 29 (Go.Operand.tmp 6) _) _ _ _ _ :: _) _ _); refine wpList_store_mid rfl 29 (.tmp 6) (.tmp 74) rfl wA.heap.size 0 (fl cs).toArray rfl rfl (flthere (hsl.2.1.there rfl) HR.out.1) (flsize HR.out.1) (fl_one _) ?_; generalize hW : World.setCells _ _ _ _ = w13))
                have hs13 : Slot w13 wA.heap.size cs := by rw [← hW]; exact hsl.2.1.store HR.out.1.symm
                have hb13 : Below w.heap.size w w13 := by rw [← hW]; exact below_cells hsl.2.2 (Nat.le_of_lt hlt) 0 _
                refine bodyPost_ret (results_cell4 rfl _ (p := ⟨wA.heap.size, 0, none⟩) rfl (hs13.load HR.out.1)) rfl ?_
                have hvo := hv.out
                rw [hkk', HN.out.1] at hvo
                exact ⟨cs, a, b, rfl, hvo.1, hvo.2.2.1, hvo.2.2.2.1, hvo.2.1, hvo.2.2.2.2.1, hvo.2.2.2.2.2, hb13⟩
      · have hi4 : (400 : Int) < (n1 : Int) := by omega
        obtain rfl : inb = false := by rw [hin, decide_eq_false e2]; simp
        have hBad := hBadOf true false rfl
        have e : codeR true false = 2 := rfl
        rw [e] at hBad
        clear hin hBadOf e2
        go_enter Try.func4, Try.ntmps4
        go_wp2_with (first
          | (go_at_call 11; refine (specOk hH.out.1 (wA.alloc (.cells #[Value.float .f32 0, Value.float .f32 0, Value.float .f32 0, Value.float .f32 0, Value.float .f32 0, Value.float .f32 0, Value.float .f32 0, Value.float .f32 0, Value.float .f32 0, Value.float .f32 0, Value.float .f32 0, Value.float .f32 0, Value.float .f32 0, Value.float .f32 0, Value.float .f32 0, Value.float .f32 0, Value.float .f32 0, Value.float .f32 0, Value.float .f32 0] 29)) w.heap.size 29 hS0.out.1).mono ?_; rintro e w1 ⟨rfl, hw1⟩; rw [hok]; have HS1 : Hid (Slot w1 w.heap.size bs ∧ Slot w1 wA.heap.size z19 ∧ Below w.heap.size w w1) := ⟨hS0.out.1.below hw1 hS0.out.1.lt, hS0.out.2.1.below hw1 hS0.out.2.1.lt, hS0.out.2.2.trans (hw1.mono hS0.out.2.2.size)⟩; clear hw1)
          | ((with_reducible show Go.wpList _ _ _ (Go.Oper.mk _ (Go.Op.store 29 (Go.Operand.tmp 6) _) _ _ _ _ :: _) _ _); refine wpList_store_mid rfl 29 (.tmp 6) (.tmp 28) rfl wA.heap.size 0 _ rfl rfl (zthere (HS1.out.2.1.there rfl)) zsize zone ?_; generalize hW : World.setCells _ _ _ _ = w13))
        have hs13 : Slot w13 wA.heap.size z19 := by rw [← hW]; exact zstore HS1.out.2.1 rfl
        have hb13 : Below w.heap.size w w13 := by rw [← hW]; exact below_cells HS1.out.2.2 (Nat.le_of_lt hlt) 0 _
        refine bodyPost_ret (results_cell4 rfl _ (p := ⟨wA.heap.size, 0, none⟩) rfl (hs13.load rfl)) rfl ?_
        exact hBad.out w13 hb13
    · have hnn : ¬ ((n1 : Int) = (n2 : Int)) := by omega
      obtain rfl : inb = false := by rw [hin, decide_eq_false e1]; rfl
      have hBad := hBadOf true false rfl
      have e : codeR true false = 2 := rfl
      rw [e] at hBad
      clear hin hBadOf e1
      go_enter Try.func4, Try.ntmps4
      go_wp2_with (first
        | (go_at_call 11; refine (specOk hH.out.1 (wA.alloc (.cells #[Value.float .f32 0, Value.float .f32 0, Value.float .f32 0, Value.float .f32 0, Value.float .f32 0, Value.float .f32 0, Value.float .f32 0, Value.float .f32 0, Value.float .f32 0, Value.float .f32 0, Value.float .f32 0, Value.float .f32 0, Value.float .f32 0, Value.float .f32 0, Value.float .f32 0, Value.float .f32 0, Value.float .f32 0, Value.float .f32 0, Value.float .f32 0] 29)) w.heap.size 29 hS0.out.1).mono ?_; rintro e w1 ⟨rfl, hw1⟩; rw [hok]; have HS1 : Hid (Slot w1 w.heap.size bs ∧ Slot w1 wA.heap.size z19 ∧ Below w.heap.size w w1) := ⟨hS0.out.1.below hw1 hS0.out.1.lt, hS0.out.2.1.below hw1 hS0.out.2.1.lt, hS0.out.2.2.trans (hw1.mono hS0.out.2.2.size)⟩; clear hw1)
        | ((with_reducible show Go.wpList _ _ _ (Go.Oper.mk _ (Go.Op.store 29 (Go.Operand.tmp 6) _) _ _ _ _ :: _) _ _); refine wpList_store_mid rfl 29 (.tmp 6) (.tmp 28) rfl wA.heap.size 0 _ rfl rfl (zthere (HS1.out.2.1.there rfl)) zsize zone ?_; generalize hW : World.setCells _ _ _ _ = w13))
      have hs13 : Slot w13 wA.heap.size z19 := by rw [← hW]; exact zstore HS1.out.2.1 rfl
      have hb13 : Below w.heap.size w w13 := by rw [← hW]; exact below_cells HS1.out.2.2 (Nat.le_of_lt hlt) 0 _
      refine bodyPost_ret (results_cell4 rfl _ (p := ⟨wA.heap.size, 0, none⟩) rfl (hs13.load rfl)) rfl ?_
      exact hBad.out w13 hb13
end Go.Proofs.Ytlnphdohjelppaa
