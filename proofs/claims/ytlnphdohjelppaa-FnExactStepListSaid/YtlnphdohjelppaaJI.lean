/-
  THE PROGRAM'S StepList, walked. Conditions: those that stand in each.
-/
import Derived.Test.YtlnphdohjelppaaJRM
namespace Go.Proofs.Ytlnphdohjelppaa
open Go.RowKit
set_option maxRecDepth 100000
set_option maxHeartbeats 1600000
/-- The test on the two slices. -/
def inB (xs ys : List Nat) : Bool := decide (xs.length = ys.length) && (decide (xs.length ≤ 400) && (allAmt xs && allAmt ys))
noncomputable def finR (ρ : Nat → Int) (xs ys : List Nat) (t : Bool) : Nat → Int := if t then stR ρ xs ys xs.length else rho z19
noncomputable def finI (ρ : Nat → Int) (xs ys : List Nat) (t : Bool) : Int := if t then inS ρ xs ys xs.length else ((Sx.nz .f32 0 : Nat) : Int)
noncomputable def finO (ρ : Nat → Int) (xs ys : List Nat) (t : Bool) : Int := if t then outS ρ xs ys xs.length else ((Sx.nz .f32 0 : Nat) : Int)
/-- What StepList hands back. -/
def RetSL (w0 : World) (ρ : Nat → Int) (xs ys : List Nat) (ok inb : Bool) (r : Ending) (w' : World) : Prop :=
  ∃ (cs : List Nat) (a b : Nat), r = .returned (.tuple #[.agg (fl cs).toArray, .float .f32 a, .float .f32 b, .int .i64 (codeR ok inb)]) ∧ Road19 cs ∧ a < Sx.bits .f32 ∧ b < Sx.bits .f32 ∧
    rho cs = finR ρ xs ys (ok && inb) ∧ ((Sx.nz .f32 a : Nat) : Int) = finI ρ xs ys (ok && inb) ∧ ((Sx.nz .f32 b : Nat) : Int) = finO ρ xs ys (ok && inb) ∧ Below w0.heap.size w0 w'
theorem ret_bad {w0 w' : World} {ρ : Nat → Int} {xs ys : List Nat} {ok inb : Bool} (h : (ok && inb) = false) (hb : Below w0.heap.size w0 w') :
    RetSL w0 ρ xs ys ok inb (.returned (.tuple #[.agg (fl z19).toArray, .float .f32 0, .float .f32 0, .int .i64 (codeR ok inb)])) w' :=
  ⟨z19, 0, 0, rfl, z19_road, by decide, by decide, by rw [h]; rfl, by rw [h]; rfl, by rw [h]; rfl, hb⟩
theorem code_bad {ok inb : Bool} (h : (ok && inb) = false) : ¬ (codeR ok inb = 0) := by
  cases ok <;> cases inb <;> simp_all [codeR]
theorem stepListI {bs : List Nat} (h : Road19 bs) (xs ys : List Nat) (hxl : xs.length ≤ 1048576) (hyl : ys.length ≤ 1048576) (hx : ∀ b ∈ xs, b < Sx.bits .f32) (hy : ∀ b ∈ ys, b < Sx.bits .f32) (g1 g2 : Nat) (w : World) (h1 : RowF w g1 xs) (h2 : RowF w g2 ys) :
    Calls Try.prog 7 #[.agg (fl bs).toArray, .slice (some ⟨g1, 0, none⟩) xs.length xs.length, .slice (some ⟨g2, 0, none⟩) ys.length ys.length] w (RetSL w (rho bs) xs ys (okR bs) (inB xs ys)) := by
  have hH : Hid (Road19 bs ∧ RowF w g1 xs ∧ RowF w g2 ys ∧ (∀ b ∈ xs, b < Sx.bits .f32) ∧ (∀ b ∈ ys, b < Sx.bits .f32)) := ⟨h, h1, h2, hx, hy⟩
  have hs0 : Slot (w.alloc (.cells (fl bs).toArray 29)) w.heap.size bs := slot_new w bs
  have hbA : Below w.heap.size w (w.alloc (.cells (fl bs).toArray 29)) := (Below.refl _ _).alloc (Nat.le_refl _) _
  obtain ⟨wA, hwA⟩ : ∃ wA, w.alloc (.cells (fl bs).toArray 29) = wA := ⟨_, rfl⟩
  rw [hwA] at hs0 hbA
  have hlt := hs0.lt
  have hS0 : Hid (Slot (wA.alloc (.cells #[Value.float .f32 0, Value.float .f32 0, Value.float .f32 0, Value.float .f32 0, Value.float .f32 0, Value.float .f32 0, Value.float .f32 0, Value.float .f32 0, Value.float .f32 0, Value.float .f32 0, Value.float .f32 0, Value.float .f32 0, Value.float .f32 0, Value.float .f32 0, Value.float .f32 0, Value.float .f32 0, Value.float .f32 0, Value.float .f32 0, Value.float .f32 0] 29)) w.heap.size bs ∧ Slot (wA.alloc (.cells #[Value.float .f32 0, Value.float .f32 0, Value.float .f32 0, Value.float .f32 0, Value.float .f32 0, Value.float .f32 0, Value.float .f32 0, Value.float .f32 0, Value.float .f32 0, Value.float .f32 0, Value.float .f32 0, Value.float .f32 0, Value.float .f32 0, Value.float .f32 0, Value.float .f32 0, Value.float .f32 0, Value.float .f32 0, Value.float .f32 0, Value.float .f32 0] 29)) wA.heap.size z19 ∧ Below w.heap.size w (wA.alloc (.cells #[Value.float .f32 0, Value.float .f32 0, Value.float .f32 0, Value.float .f32 0, Value.float .f32 0, Value.float .f32 0, Value.float .f32 0, Value.float .f32 0, Value.float .f32 0, Value.float .f32 0, Value.float .f32 0, Value.float .f32 0, Value.float .f32 0, Value.float .f32 0, Value.float .f32 0, Value.float .f32 0, Value.float .f32 0, Value.float .f32 0, Value.float .f32 0] 29))) := ⟨hs0.alloc _, slot_new wA z19, hbA.alloc hbA.size _⟩
  have hA1 : Hid (∀ w', Below w.heap.size w w' → Calls Try.prog 18 #[.slice (some ⟨g1, 0, none⟩) xs.length xs.length] w' (fun e w'' => e = .returned (.bool (allAmt xs)) ∧ Below w'.heap.size w' w'')) := fun w' hb => areAmts xs hxl hx g1 w' (h1.below hb h1.lt)
  have hA2 : Hid (∀ w', Below w.heap.size w w' → Calls Try.prog 18 #[.slice (some ⟨g2, 0, none⟩) ys.length ys.length] w' (fun e w'' => e = .returned (.bool (allAmt ys)) ∧ Below w'.heap.size w' w'')) := fun w' hb => areAmts ys hyl hy g2 w' (h2.below hb h2.lt)
  have hCo := fun inb w' => roadCodeC h inb w'
  have hL : Hid (∀ w', Below w.heap.size w w' → ys.length = xs.length → Calls Try.prog 19 #[.agg (fl bs).toArray, .slice (some ⟨g1, 0, none⟩) xs.length xs.length, .slice (some ⟨g2, 0, none⟩) xs.length xs.length] w' (RetL w' (rho bs) xs ys xs.length)) := fun w' hb he => listI h xs ys hxl he hx hy g1 g2 w' (h1.below hb h1.lt) (h2.below hb h2.lt)
  obtain ⟨inb, hin⟩ : ∃ inb, inb = inB xs ys := ⟨_, rfl⟩
  rw [← hin]
  have hBadOf : ∀ t, (okR bs && t) = false → Hid (∀ w13, Below w.heap.size w w13 → RetSL w (rho bs) xs ys (okR bs) t (.returned (.tuple #[.agg (fl z19).toArray, .float .f32 0, .float .f32 0, .int .i64 (codeR (okR bs) t)])) w13) := fun t ht w13 hb => ret_bad ht hb
  obtain ⟨n1, hn1⟩ : ∃ n1, n1 = xs.length := ⟨_, rfl⟩
  obtain ⟨n2, hn2⟩ : ∃ n2, n2 = ys.length := ⟨_, rfl⟩
  unfold inB at hin
  rw [← hn1] at hA1 hL hin hxl ⊢
  rw [← hn2] at hA2 hL hin hyl ⊢
  have HN : Hid (n1 = xs.length) := hn1
  clear h h1 h2 hx hy hs0 hbA hn1 hn2
  by_cases e1 : n1 = n2
  · subst e1
    by_cases e2 : n1 ≤ 400
    · have hst : ∀ w', Calls Try.prog 17 #[.int .i64 n1] w' (fun e w'' => e = .returned (.bool true) ∧ w' = w'') := fun w' => by
        have := isStepsC n1 w'
        rw [decide_eq_true e2] at this
        exact this
      cases ha1 : allAmt xs with
      | true =>
        rw [ha1] at hA1
        cases ha2 : allAmt ys with
        | true =>
          rw [ha2] at hA2
          obtain rfl : inb = true := by rw [hin, ha1, ha2]; simp [e2]
          cases hok : okR bs with
          | true =>
            rw [hok] at hCo
            have hCb := fun w' => hCo true w'
            clear hin ha1 ha2 e2 hCo hBadOf
            go_enter Try.func7, Try.ntmps7
            go_wp2
            refine wp_region_noPanic ?_
            refine regM5 hH.out.1 hS0.out.1 hS0.out.2.2 hst hA1.out hA2.out hCb (fun _ _ _ _ _ h => h) (fun w1 hw1 => ?_)
            refine NoPanic.normal ?_
            have hs1 := hS0.out.2.1.below hw1 hS0.out.2.1.lt
            have hr1 := hS0.out.1.below hw1 hS0.out.1.lt
            have hb1 := hS0.out.2.2.trans (hw1.mono hS0.out.2.2.size)
            have hLL := hL.out w1 hb1 (by first | rfl | trivial)
            have hsize := flsize hH.out.1.1
            clear hw1 hCb hst hA1 hA2
            go_wp2_with (first
              | ((with_reducible show Go.wpList _ _ _ (Go.Oper.mk _ (Go.Op.load 29 _) _ _ _ _ :: _) _ _); refine wpList_load_mid rfl 29 (.tmp 3) rfl _ _ rfl (fl bs) _ hr1.range Try.underlying29 rfl hsize ?_)
              | (go_at_call 19; refine hLL.mono ?_; rintro e w2 ⟨cs, a, b, rfl, hR, hr, ha, hb, hva, hvb, hb2⟩; have HV : Hid (Road19 cs ∧ rho cs = stR (rho bs) xs ys n1 ∧ a < Sx.bits .f32 ∧ b < Sx.bits .f32 ∧ ((Sx.nz .f32 a : Nat) : Int) = inS (rho bs) xs ys n1 ∧ ((Sx.nz .f32 b : Nat) : Int) = outS (rho bs) xs ys n1) := ⟨hR, hr, ha, hb, hva, hvb⟩; have hs2 := hs1.below hb2 hs1.lt; have hb2' := hb1.trans (hb2.mono hb1.size); clear hR hr ha hb hva hvb hb2)
              | ((with_reducible show Go.wpList _ _ _ (Go.Oper.mk _ (Go.Op.store 29 (Go.Operand.tmp 6) _) _ _ _ _ :: _) _ _); refine wpList_store_mid rfl 29 (.tmp 6) (.tmp 39) rfl wA.heap.size 0 (fl cs).toArray rfl rfl (flthere (hs2.there rfl) HV.out.1.1) (flsize HV.out.1.1) (fl_one _) ?_; generalize hW : World.setCells _ _ _ _ = w13))
            have hs13 : Slot w13 wA.heap.size cs := by rw [← hW]; exact hs2.store HV.out.1.1.symm
            have hb13 : Below w.heap.size w w13 := by rw [← hW]; exact below_cells hb2' (Nat.le_of_lt hlt) 0 _
            refine bodyPost_ret (results_cell4 rfl _ (p := ⟨wA.heap.size, 0, none⟩) rfl (hs13.load HV.out.1.1)) rfl ?_
            obtain ⟨k1, k2, k3, k4, k5, k6⟩ := HV.out
            rw [HN.out] at k2 k5 k6
            exact ⟨cs, a, b, rfl, k1, k3, k4, k2, k5, k6, hb13⟩
          | false =>
            rw [hok] at hCo
            have hCb := fun w' => hCo true w'
            have hBad := hBadOf true (by rw [hok]; rfl)
            rw [hok] at hBad
            clear hin ha1 ha2 e2 hCo hBadOf hL
            go_enter Try.func7, Try.ntmps7
            go_wp2
            refine wp_region_noPanic ?_
            refine regM5 hH.out.1 hS0.out.1 hS0.out.2.2 hst hA1.out hA2.out hCb (fun _ _ _ _ _ h => h) (fun w1 hw1 => ?_)
            refine NoPanic.normal ?_
            have hs1 := hS0.out.2.1.below hw1 hS0.out.2.1.lt
            have hb1 := hS0.out.2.2.trans (hw1.mono hS0.out.2.2.size)
            clear hw1
            go_wp2_with (first
              | ((with_reducible show Go.wpList _ _ _ (Go.Oper.mk _ (Go.Op.store 29 (Go.Operand.tmp 6) _) _ _ _ _ :: _) _ _); refine wpList_store_mid rfl 29 (.tmp 6) (.tmp 33) rfl wA.heap.size 0 _ rfl rfl (zthere (hs1.there rfl)) zsize zone ?_; generalize hW : World.setCells _ _ _ _ = w13))
            have hs13 : Slot w13 wA.heap.size z19 := by rw [← hW]; exact zstore hs1 rfl
            have hb13 : Below w.heap.size w w13 := by rw [← hW]; exact below_cells hb1 (Nat.le_of_lt hlt) 0 _
            refine bodyPost_ret (results_cell4 rfl _ (p := ⟨wA.heap.size, 0, none⟩) rfl (hs13.load rfl)) rfl ?_
            exact hBad.out w13 hb13
        | false =>
          rw [ha2] at hA2
          obtain rfl : inb = false := by rw [hin, ha1, ha2]; simp
          have hCb := fun w' => hCo false w'
          have hBad := hBadOf false (by simp)
          have hne := code_bad (ok := okR bs) (inb := false) (by simp)
          clear hin ha1 ha2 e2 hCo hBadOf hL
          generalize codeR (okR bs) false = c at *
          go_enter Try.func7, Try.ntmps7
          go_wp2
          refine wp_region_noPanic ?_
          refine regM4 hH.out.1 hS0.out.1 hS0.out.2.2 hst hA1.out hA2.out hCb (fun _ _ _ _ _ h => h) (fun w1 hw1 => ?_)
          refine NoPanic.normal ?_
          have hs1 := hS0.out.2.1.below hw1 hS0.out.2.1.lt
          have hb1 := hS0.out.2.2.trans (hw1.mono hS0.out.2.2.size)
          clear hw1
          go_wp2_with (first
            | ((with_reducible show Go.wpList _ _ _ (Go.Oper.mk _ (Go.Op.store 29 (Go.Operand.tmp 6) _) _ _ _ _ :: _) _ _); refine wpList_store_mid rfl 29 (.tmp 6) (.tmp 33) rfl wA.heap.size 0 _ rfl rfl (zthere (hs1.there rfl)) zsize zone ?_; generalize hW : World.setCells _ _ _ _ = w13))
          have hs13 : Slot w13 wA.heap.size z19 := by rw [← hW]; exact zstore hs1 rfl
          have hb13 : Below w.heap.size w w13 := by rw [← hW]; exact below_cells hb1 (Nat.le_of_lt hlt) 0 _
          refine bodyPost_ret (results_cell4 rfl _ (p := ⟨wA.heap.size, 0, none⟩) rfl (hs13.load rfl)) rfl ?_
          exact hBad.out w13 hb13
      | false =>
        rw [ha1] at hA1
        obtain rfl : inb = false := by rw [hin, ha1]; simp
        have hCb := fun w' => hCo false w'
        have hBad := hBadOf false (by simp)
        have hne := code_bad (ok := okR bs) (inb := false) (by simp)
        clear hin ha1 e2 hCo hBadOf hL hA2
        generalize codeR (okR bs) false = c at *
        go_enter Try.func7, Try.ntmps7
        go_wp2
        refine wp_region_noPanic ?_
        refine regM3 hH.out.1 hS0.out.1 hS0.out.2.2 hst hA1.out hCb (fun _ _ _ _ _ h => h) (fun w1 hw1 => ?_)
        refine NoPanic.normal ?_
        have hs1 := hS0.out.2.1.below hw1 hS0.out.2.1.lt
        have hb1 := hS0.out.2.2.trans (hw1.mono hS0.out.2.2.size)
        clear hw1
        go_wp2_with (first
          | ((with_reducible show Go.wpList _ _ _ (Go.Oper.mk _ (Go.Op.store 29 (Go.Operand.tmp 6) _) _ _ _ _ :: _) _ _); refine wpList_store_mid rfl 29 (.tmp 6) (.tmp 33) rfl wA.heap.size 0 _ rfl rfl (zthere (hs1.there rfl)) zsize zone ?_; generalize hW : World.setCells _ _ _ _ = w13))
        have hs13 : Slot w13 wA.heap.size z19 := by rw [← hW]; exact zstore hs1 rfl
        have hb13 : Below w.heap.size w w13 := by rw [← hW]; exact below_cells hb1 (Nat.le_of_lt hlt) 0 _
        refine bodyPost_ret (results_cell4 rfl _ (p := ⟨wA.heap.size, 0, none⟩) rfl (hs13.load rfl)) rfl ?_
        exact hBad.out w13 hb13
    · have hst : ∀ w', Calls Try.prog 17 #[.int .i64 n1] w' (fun e w'' => e = .returned (.bool false) ∧ w' = w'') := fun w' => by
        have := isStepsC n1 w'
        rw [decide_eq_false e2] at this
        exact this
      obtain rfl : inb = false := by rw [hin, decide_eq_false e2]; simp
      have hCb := fun w' => hCo false w'
      have hBad := hBadOf false (by simp)
      have hne := code_bad (ok := okR bs) (inb := false) (by simp)
      clear hin e2 hCo hBadOf hL hA1 hA2
      generalize codeR (okR bs) false = c at *
      go_enter Try.func7, Try.ntmps7
      go_wp2
      refine wp_region_noPanic ?_
      refine regM2 hH.out.1 hS0.out.1 hS0.out.2.2 hst hCb (fun _ _ _ _ _ h => h) (fun w1 hw1 => ?_)
      refine NoPanic.normal ?_
      have hs1 := hS0.out.2.1.below hw1 hS0.out.2.1.lt
      have hb1 := hS0.out.2.2.trans (hw1.mono hS0.out.2.2.size)
      clear hw1
      go_wp2_with (first
        | ((with_reducible show Go.wpList _ _ _ (Go.Oper.mk _ (Go.Op.store 29 (Go.Operand.tmp 6) _) _ _ _ _ :: _) _ _); refine wpList_store_mid rfl 29 (.tmp 6) (.tmp 33) rfl wA.heap.size 0 _ rfl rfl (zthere (hs1.there rfl)) zsize zone ?_; generalize hW : World.setCells _ _ _ _ = w13))
      have hs13 : Slot w13 wA.heap.size z19 := by rw [← hW]; exact zstore hs1 rfl
      have hb13 : Below w.heap.size w w13 := by rw [← hW]; exact below_cells hb1 (Nat.le_of_lt hlt) 0 _
      refine bodyPost_ret (results_cell4 rfl _ (p := ⟨wA.heap.size, 0, none⟩) rfl (hs13.load rfl)) rfl ?_
      exact hBad.out w13 hb13
  · have hnn : ¬ ((n1 : Int) = (n2 : Int)) := by omega
    obtain rfl : inb = false := by rw [hin, decide_eq_false e1]; rfl
    have hCb := fun w' => hCo false w'
    have hBad := hBadOf false (by simp)
    have hne := code_bad (ok := okR bs) (inb := false) (by simp)
    clear hin e1 hCo hBadOf hL hA1 hA2
    generalize codeR (okR bs) false = c at *
    go_enter Try.func7, Try.ntmps7
    go_wp2
    refine wp_region_noPanic ?_
    refine regM1 hH.out.1 hS0.out.1 hS0.out.2.2 hnn hCb (fun _ _ _ _ _ h => h) (fun w1 hw1 => ?_)
    refine NoPanic.normal ?_
    have hs1 := hS0.out.2.1.below hw1 hS0.out.2.1.lt
    have hb1 := hS0.out.2.2.trans (hw1.mono hS0.out.2.2.size)
    clear hw1
    go_wp2_with (first
      | ((with_reducible show Go.wpList _ _ _ (Go.Oper.mk _ (Go.Op.store 29 (Go.Operand.tmp 6) _) _ _ _ _ :: _) _ _); refine wpList_store_mid rfl 29 (.tmp 6) (.tmp 33) rfl wA.heap.size 0 _ rfl rfl (zthere (hs1.there rfl)) zsize zone ?_; generalize hW : World.setCells _ _ _ _ = w13))
    have hs13 : Slot w13 wA.heap.size z19 := by rw [← hW]; exact zstore hs1 rfl
    have hb13 : Below w.heap.size w w13 := by rw [← hW]; exact below_cells hb1 (Nat.le_of_lt hlt) 0 _
    refine bodyPost_ret (results_cell4 rfl _ (p := ⟨wA.heap.size, 0, none⟩) rfl (hs13.load rfl)) rfl ?_
    exact hBad.out w13 hb13
end Go.Proofs.Ytlnphdohjelppaa
