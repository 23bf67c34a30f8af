/-
  THE LAW, walked: what the reference and the program hand back is the same. Conditions: those that stand in each.
-/
import Derived.Test.YtlnphdohjelppaaJJ
import Derived.Test.YtlnphdohjelppaaJF
namespace Go.Proofs.Ytlnphdohjelppaa
open Go.RowKit
set_option maxRecDepth 100000
set_option maxHeartbeats 1600000
/-- A later world. -/
def Fut (a b : World) : Prop := Below a.heap.size a b
theorem Fut.trans {a b c : World} (h1 : Fut a b) (h2 : Fut b c) : Fut a c := Below.trans h1 (h2.mono h1.size)
theorem Slot.fut {a b : World} {g : Nat} {cs : List Nat} (h : Slot a g cs) (h2 : Fut a b) : Slot b g cs := h.below h2 h.lt
theorem RowF.fut {a b : World} {g : Nat} {xs : List Nat} (h : RowF a g xs) (h2 : Fut a b) : RowF b g xs := h.below h2 h.lt
/-- The law's own copy of the road. -/
def BoxR (w : World) (b : Nat) (cs : List Nat) : Prop := w.heap[b]? = some (.cells (fl cs).toArray 25 (0, 0))
theorem BoxR.lt {w : World} {b : Nat} {cs : List Nat} (h : BoxR w b cs) : b < w.heap.size := by
  rcases Nat.lt_or_ge b w.heap.size with q | q
  · exact q
  · unfold BoxR at h
    rw [Array.getElem?_eq_none q] at h
    cases h
theorem BoxR.fut {w w' : World} {b : Nat} {cs : List Nat} (h : BoxR w b cs) (hb : Fut w w') : BoxR w' b cs := by
  unfold BoxR
  rw [hb.block b h.lt]
  exact h
theorem BoxR.range {w : World} {b : Nat} {cs : List Nat} (h : BoxR w b cs) : w.rangeAt b 0 (fl cs) := fun j v hv => by
  rw [Nat.zero_add, cell_of_row w b j _ 25 (0, 0) h, List.getElem?_toArray]
  exact hv
theorem box_size {cs : List Nat} (hl : cs.length = 19) : (Try.prog.info? 25).map (·.size) = some (fl cs).toArray.size := by
  rw [List.size_toArray, fl_length, hl]
  kernel_rfl
theorem slot_laid (w : World) {cs : List Nat} (h : Road19 cs) : Slot ((w.alloc (.cells #[Value.float .f32 0, Value.float .f32 0, Value.float .f32 0, Value.float .f32 0, Value.float .f32 0, Value.float .f32 0, Value.float .f32 0, Value.float .f32 0, Value.float .f32 0, Value.float .f32 0, Value.float .f32 0, Value.float .f32 0, Value.float .f32 0, Value.float .f32 0, Value.float .f32 0, Value.float .f32 0, Value.float .f32 0, Value.float .f32 0, Value.float .f32 0] 29)).setCells w.heap.size 0 (fl cs)) w.heap.size cs :=
  (slot_new w z19).store h.1.symm
theorem fut_laid (w : World) (cs : List Nat) : Fut w ((w.alloc (.cells #[Value.float .f32 0, Value.float .f32 0, Value.float .f32 0, Value.float .f32 0, Value.float .f32 0, Value.float .f32 0, Value.float .f32 0, Value.float .f32 0, Value.float .f32 0, Value.float .f32 0, Value.float .f32 0, Value.float .f32 0, Value.float .f32 0, Value.float .f32 0, Value.float .f32 0, Value.float .f32 0, Value.float .f32 0, Value.float .f32 0, Value.float .f32 0] 29)).setCells w.heap.size 0 (fl cs)) :=
  below_cells ((Below.refl _ _).alloc (Nat.le_refl _) _) (Nat.le_refl _) 0 _
/-- What both hand back. -/
def RetG (w0 : World) (ρ : Nat → Int) (i o c : Int) (r : Ending) (w' : World) : Prop :=
  ∃ (cs : List Nat) (a b : Nat), r = .returned (.tuple #[.agg (fl cs).toArray, .float .f32 a, .float .f32 b, .int .i64 c]) ∧ Road19 cs ∧ a < Sx.bits .f32 ∧ b < Sx.bits .f32 ∧
    rho cs = ρ ∧ ((Sx.nz .f32 a : Nat) : Int) = i ∧ ((Sx.nz .f32 b : Nat) : Int) = o ∧ Fut w0 w'
theorem bothG (bs : List Nat) (xs ys : List Nat) (hxl : xs.length ≤ 1048576) (hyl : ys.length ≤ 1048576) (hx : ∀ b ∈ xs, b < Sx.bits .f32) (hy : ∀ b ∈ ys, b < Sx.bits .f32) :
    ∃ (ρ : Nat → Int) (i o c : Int), (∀ (cs : List Nat) (g1 g2 : Nat) (w : World), Road19 cs → rho cs = rho bs → RowF w g1 xs → RowF w g2 ys →
        Calls Try.prog 4 #[.agg (fl cs).toArray, .slice (some ⟨g1, 0, none⟩) xs.length xs.length, .slice (some ⟨g2, 0, none⟩) ys.length ys.length] w (RetG w ρ i o c)) ∧
      (∀ (cs : List Nat) (g1 g2 : Nat) (w : World), Road19 cs → rho cs = rho bs → RowF w g1 xs → RowF w g2 ys →
        Calls Try.prog 7 #[.agg (fl cs).toArray, .slice (some ⟨g1, 0, none⟩) xs.length xs.length, .slice (some ⟨g2, 0, none⟩) ys.length ys.length] w (RetG w ρ i o c)) := by
  refine ⟨finR (rho bs) xs ys (okR bs && inB xs ys), finI (rho bs) xs ys (okR bs && inB xs ys), finO (rho bs) xs ys (okR bs && inB xs ys), codeR (okR bs) (inB xs ys), ?_, ?_⟩
  · intro cs g1 g2 w hR hr h1 h2
    have e : okR cs = okR bs := by
      unfold okR
      rw [hr]
    have hc := stepListS hR xs ys hxl hyl hx hy g1 g2 w h1 h2
    rw [e, hr] at hc
    exact hc
  · intro cs g1 g2 w hR hr h1 h2
    have e : okR cs = okR bs := by
      unfold okR
      rw [hr]
    have hc := stepListI hR xs ys hxl hyl hx hy g1 g2 w h1 h2
    rw [e, hr] at hc
    exact hc
theorem agg_of (β : Nat → Option Nat) {ρ : Nat → Int} {bs : List Nat} (h : Road19 bs) (hr : rho bs = ρ) : Sx.SV.rep ⟨ρ, β⟩ (Sx.fAgg 0 19) (.agg (fl bs).toArray) := by
  subst hr
  exact agg_rep β h
theorem eqR2 {cs ds : List Nat} (h : Road19 cs) (h2 : Road19 ds) (hr : rho ds = rho cs) (w : World) :
    Calls Try.prog 8 #[.agg (fl cs).toArray, .agg (fl ds).toArray] w (fun e w' => e = .returned (.bool true) ∧ Fut w w') := by
  have hs := sEqRoadOk sEqRoad List.mem_cons_self ⟨rho cs, fun _ => none⟩ 0 w #[.agg (fl cs).toArray, .agg (fl ds).toArray] ⟨agg_of _ h rfl, agg_of _ h2 hr, trivial⟩ (noMem _ _ _) (fun _ _ => rfl)
  refine (calls_of_to (fun w => enters_of Try.func8 (by kernel_rfl) rfl _ w) hs).mono ?_
  rintro e w' ⟨y, rfl, hy, hle⟩
  have : y = .bool true := hy
  exact ⟨by rw [this], hle⟩
theorem sameWide {z1 z2 a b : Nat} (h1 : Sx.nz .f64 z1 = Sx.fCv (Sx.nz .f32 a)) (h2 : Sx.nz .f64 z2 = Sx.fCv (Sx.nz .f32 b)) (h : ((Sx.nz .f32 a : Nat) : Int) = ((Sx.nz .f32 b : Nat) : Int)) : Sx.nz .f64 z1 = Sx.nz .f64 z2 := by
  rw [h1, h2, Int.ofNat.inj h]
theorem lawOk {bs : List Nat} (h : Road19 bs) (xs ys : List Nat) (hx : ∀ b ∈ xs, b < Sx.bits .f32) (hy : ∀ b ∈ ys, b < Sx.bits .f32) (v1 v2 : Value) (w : World) (h1 : ArgF w v1 xs) (h2 : ArgF w v2 ys) :
    Calls Try.prog 3 #[.agg (fl bs).toArray, v1, v2] w (fun e w' => e = .returned (.bool true) ∧ Fut w w') := by
  have HA : Hid (ArgF w v1 xs ∧ ArgF w v2 ys) := ⟨h1, h2⟩
  obtain ⟨sa1, cap1, e1, _⟩ := h1
  obtain ⟨sa2, cap2, e2, _⟩ := h2
  have hbA : Fut w (w.alloc (.cells (fl bs).toArray 25)) := (Below.refl _ _).alloc (Nat.le_refl _) _
  have hB0 : BoxR (w.alloc (.cells (fl bs).toArray 25)) w.heap.size bs := heap_alloc_new _ _
  obtain ⟨wB, hwB⟩ : ∃ wB, w.alloc (.cells (fl bs).toArray 25) = wB := ⟨_, rfl⟩
  rw [hwB] at hbA hB0
  by_cases hxl : xs.length ≤ 1048576
  · by_cases hyl : ys.length ≤ 1048576
    · obtain ⟨ρ, i, o, c, hS, hI⟩ := bothG bs xs ys hxl hyl hx hy
      have HS : Hid (∀ (cs : List Nat) (g1 g2 : Nat) (w : World), Road19 cs → rho cs = rho bs → RowF w g1 xs → RowF w g2 ys →
        Calls Try.prog 4 #[.agg (fl cs).toArray, .slice (some ⟨g1, 0, none⟩) xs.length xs.length, .slice (some ⟨g2, 0, none⟩) ys.length ys.length] w (RetG w ρ i o c)) := hS
      have HI : Hid (∀ (cs : List Nat) (g1 g2 : Nat) (w : World), Road19 cs → rho cs = rho bs → RowF w g1 xs → RowF w g2 ys →
        Calls Try.prog 7 #[.agg (fl cs).toArray, .slice (some ⟨g1, 0, none⟩) xs.length xs.length, .slice (some ⟨g2, 0, none⟩) ys.length ys.length] w (RetG w ρ i o c)) := hI
      have HT1 : Hid (∀ w', Fut w w' → Calls Try.prog 6 #[v1] w' (RetF w' xs)) := fun w' hb => toF xs hxl v1 w' (HA.out.1.below hb)
      have HT2 : Hid (∀ w', Fut w w' → Calls Try.prog 6 #[v2] w' (RetF w' ys)) := fun w' hb => toF ys hyl v2 w' (HA.out.2.below hb)
      have HE1 : Hid (∀ g1 g2 w', RowF w' g1 xs → RowF w' g2 xs → Calls Try.prog 10 #[.slice (some ⟨g1, 0, none⟩) xs.length xs.length, .slice (some ⟨g2, 0, none⟩) xs.length xs.length] w' (fun e w'' => e = .returned (.bool true) ∧ Fut w' w'')) := fun g1 g2 w' a b => eqF xs hxl hx g1 g2 w' a b
      have HE2 : Hid (∀ g1 g2 w', RowF w' g1 ys → RowF w' g2 ys → Calls Try.prog 10 #[.slice (some ⟨g1, 0, none⟩) ys.length ys.length, .slice (some ⟨g2, 0, none⟩) ys.length ys.length] w' (fun e w'' => e = .returned (.bool true) ∧ Fut w' w'')) := fun g1 g2 w' a b => eqF ys hyl hy g1 g2 w' a b
      have HX : Hid (Road19 bs) := h
      have Q0 : Hid (Fut w wB ∧ BoxR wB w.heap.size bs) := ⟨hbA, hB0⟩
      have hsz := box_size h.1
      have r0 := hB0.range
      subst e1 e2
      obtain ⟨n1, hn1⟩ : ∃ n1, n1 = xs.length := ⟨_, rfl⟩
      obtain ⟨n2, hn2⟩ : ∃ n2, n2 = ys.length := ⟨_, rfl⟩
      unfold RetF at HT1 HT2
      rw [← hn1] at HS HI HT1 HE1 hxl
      rw [← hn2] at HS HI HT2 HE2 hyl
      rw [← hn1, ← hn2]
      have hi1 : ¬ (1048576 : Int) < (n1 : Int) := by omega
      have hi2 : ¬ (1048576 : Int) < (n2 : Int) := by omega
      clear h hx hy hbA hB0 hS hI HA hxl hyl hn1 hn2
      go_enter Try.func3, Try.ntmps3
      go_wp2_with (first
        | ((with_reducible show Go.wpList _ _ _ (Go.Oper.mk _ (Go.Op.load 25 (Go.Operand.tmp 3)) _ _ _ _ :: _) _ _); refine wpList_load_mid rfl 25 (.tmp 3) rfl _ _ rfl (fl bs) _ Q0.out.2.range Try.underlying25 rfl hsz ?_)
        | (go_at_call 5; (with_reducible show Calls _ _ _ wB _); refine (toRoad HX.out wB).mono ?_; rintro e w1 ⟨c1, rfl, hR1, hr1, hb1⟩; have Q1 : Hid (Road19 c1 ∧ rho c1 = rho bs ∧ Fut w w1 ∧ BoxR w1 w.heap.size bs) := ⟨hR1, hr1, Q0.out.1.trans hb1, Q0.out.2.fut hb1⟩; clear hR1 hr1 hb1)
        | (go_at_call 6; (with_reducible show Calls _ _ _ w1 _); refine (HT1.out w1 Q1.out.2.2.1).mono ?_; rintro e w2 ⟨g1, rfl, _, hr, hb⟩; have Q2 : Hid (Fut w w2 ∧ BoxR w2 w.heap.size bs ∧ RowF w2 g1 xs) := ⟨Q1.out.2.2.1.trans hb, Q1.out.2.2.2.fut hb, hr⟩; clear hr hb)
        | (go_at_call 6; (with_reducible show Calls _ _ _ w2 _); refine (HT2.out w2 Q2.out.1).mono ?_; rintro e w3 ⟨g2, rfl, _, hr, hb⟩; have Q3 : Hid (Fut w w3 ∧ BoxR w3 w.heap.size bs ∧ RowF w3 g1 xs ∧ RowF w3 g2 ys) := ⟨Q2.out.1.trans hb, Q2.out.2.1.fut hb, Q2.out.2.2.fut hb, hr⟩; clear hr hb)
        | (go_at_call 4; (with_reducible show Calls _ _ _ w3 _); refine (HS.out c1 g1 g2 w3 Q1.out.1 Q1.out.2.1 Q3.out.2.2.1 Q3.out.2.2.2).mono ?_; rintro e w4 ⟨c4, a4, b4, rfl, hR4, ha4, hb4, hr4, hva, hvb, hb⟩; have V4 : Hid (Road19 c4 ∧ a4 < Sx.bits .f32 ∧ b4 < Sx.bits .f32 ∧ rho c4 = ρ ∧ ((Sx.nz .f32 a4 : Nat) : Int) = i ∧ ((Sx.nz .f32 b4 : Nat) : Int) = o) := ⟨hR4, ha4, hb4, hr4, hva, hvb⟩; have Q4 : Hid (Fut w w4 ∧ BoxR w4 w.heap.size bs) := ⟨Q3.out.1.trans hb, Q3.out.2.1.fut hb⟩; clear hR4 ha4 hb4 hr4 hva hvb hb)
        | ((with_reducible show Go.wpList _ _ _ (Go.Oper.mk _ (Go.Op.store 29 (Go.Operand.tmp 7) _) _ _ _ _ :: _) _ _); refine wpList_store_mid rfl 29 (.tmp 7) (.tmp 31) rfl w4.heap.size 0 (fl c4).toArray rfl rfl (flthere ((slot_new w4 z19).there rfl) V4.out.1.1) (flsize V4.out.1.1) (fl_one _) ?_; generalize hW : World.setCells _ _ _ _ = w5; have Q5 : Hid (Fut w w5 ∧ BoxR w5 w.heap.size bs ∧ Slot w5 w4.heap.size c4) := (by rw [← hW]; exact ⟨Q4.out.1.trans (fut_laid w4 c4), Q4.out.2.fut (fut_laid w4 c4), slot_laid w4 V4.out.1⟩); clear hW)
        | (go_at_call 6; (with_reducible show Calls _ _ _ w5 _); refine (HT1.out w5 Q5.out.1).mono ?_; rintro e w6 ⟨g6, rfl, _, hr, hb⟩; have Q6 : Hid (Fut w w6 ∧ BoxR w6 w.heap.size bs ∧ Slot w6 w4.heap.size c4 ∧ RowF w6 g6 xs) := ⟨Q5.out.1.trans hb, Q5.out.2.1.fut hb, Q5.out.2.2.fut hb, hr⟩; clear hr hb)
        | (go_at_call 6; (with_reducible show Calls _ _ _ w6 _); refine (HT2.out w6 Q6.out.1).mono ?_; rintro e w7 ⟨g7, rfl, _, hr, hb⟩; have Q7 : Hid (Fut w w7 ∧ BoxR w7 w.heap.size bs ∧ Slot w7 w4.heap.size c4 ∧ RowF w7 g6 xs ∧ RowF w7 g7 ys) := ⟨Q6.out.1.trans hb, Q6.out.2.1.fut hb, Q6.out.2.2.1.fut hb, Q6.out.2.2.2.fut hb, hr⟩; clear hr hb)
        | ((with_reducible show Go.wpList _ _ _ (Go.Oper.mk _ (Go.Op.load 25 (Go.Operand.tmp 3)) _ _ _ _ :: _) _ _); refine wpList_load_mid rfl 25 (.tmp 3) rfl _ _ rfl (fl bs) _ Q7.out.2.1.range Try.underlying25 rfl hsz ?_)
        | (go_at_call 5; (with_reducible show Calls _ _ _ w7 _); refine (toRoad HX.out w7).mono ?_; rintro e w8 ⟨c8, rfl, hR1, hr1, hb⟩; have Q8 : Hid (Road19 c8 ∧ rho c8 = rho bs ∧ Fut w w8 ∧ Slot w8 w4.heap.size c4 ∧ RowF w8 g6 xs ∧ RowF w8 g7 ys) := ⟨hR1, hr1, Q7.out.1.trans hb, Q7.out.2.2.1.fut hb, Q7.out.2.2.2.1.fut hb, Q7.out.2.2.2.2.fut hb⟩; clear hR1 hr1 hb)
        | (go_at_call 7; (with_reducible show Calls _ _ _ w8 _); refine (HI.out c8 g6 g7 w8 Q8.out.1 Q8.out.2.1 Q8.out.2.2.2.2.1 Q8.out.2.2.2.2.2).mono ?_; rintro e w9 ⟨c9, a9, b9, rfl, hR4, ha4, hb4, hr4, hva, hvb, hb⟩; have V9 : Hid (Road19 c9 ∧ a9 < Sx.bits .f32 ∧ b9 < Sx.bits .f32 ∧ rho c9 = ρ ∧ ((Sx.nz .f32 a9 : Nat) : Int) = i ∧ ((Sx.nz .f32 b9 : Nat) : Int) = o) := ⟨hR4, ha4, hb4, hr4, hva, hvb⟩; have Q9 : Hid (Fut w w9 ∧ Slot w9 w4.heap.size c4 ∧ RowF w9 g6 xs ∧ RowF w9 g7 ys) := ⟨Q8.out.2.2.1.trans hb, Q8.out.2.2.2.1.fut hb, Q8.out.2.2.2.2.1.fut hb, Q8.out.2.2.2.2.2.fut hb⟩; clear hR4 ha4 hb4 hr4 hva hvb hb)
        | ((with_reducible show Go.wpList _ _ _ (Go.Oper.mk _ (Go.Op.store 29 (Go.Operand.tmp 13) _) _ _ _ _ :: _) _ _); refine wpList_store_mid rfl 29 (.tmp 13) (.tmp 45) rfl w9.heap.size 0 (fl c9).toArray rfl rfl (flthere ((slot_new w9 z19).there rfl) V9.out.1.1) (flsize V9.out.1.1) (fl_one _) ?_; generalize hW : World.setCells _ _ _ _ = w10; have Q10 : Hid (Fut w w10 ∧ Slot w10 w4.heap.size c4 ∧ Slot w10 w9.heap.size c9 ∧ RowF w10 g6 xs ∧ RowF w10 g7 ys) := (by rw [← hW]; exact ⟨Q9.out.1.trans (fut_laid w9 c9), Q9.out.2.1.fut (fut_laid w9 c9), slot_laid w9 V9.out.1, Q9.out.2.2.1.fut (fut_laid w9 c9), Q9.out.2.2.2.fut (fut_laid w9 c9)⟩); clear hW)
        | ((with_reducible show Go.wpList _ _ _ (Go.Oper.mk _ (Go.Op.load 29 (Go.Operand.tmp 13)) _ _ _ _ :: _) _ _); refine wpList_load_mid rfl 29 (.tmp 13) rfl _ _ rfl (fl c9) _ Q10.out.2.2.1.range Try.underlying29 rfl (flsize V9.out.1.1) ?_)
        | ((with_reducible show Go.wpList _ _ _ (Go.Oper.mk _ (Go.Op.load 29 (Go.Operand.tmp 7)) _ _ _ _ :: _) _ _); refine wpList_load_mid rfl 29 (.tmp 7) rfl _ _ rfl (fl c4) _ Q10.out.2.1.range Try.underlying29 rfl (flsize V4.out.1.1) ?_)
        | (go_at_call 8; (with_reducible show Calls _ _ _ w10 _); refine (eqR2 V9.out.1 V4.out.1 (V4.out.2.2.2.1.trans V9.out.2.2.2.1.symm) w10).mono ?_; rintro e w11 ⟨rfl, hb⟩; obtain ⟨z1, w12, k1, hz1, nz1, fz1⟩ := wideF a9 V9.out.2.1 w11; obtain ⟨z2, w13, k2, hz2, nz2, fz2⟩ := wideF a4 V4.out.2.1 w12; have T1 : Hid (z1 < Sx.bits .f64 ∧ z2 < Sx.bits .f64 ∧ Sx.nz .f64 z1 = Sx.nz .f64 z2 ∧ Fut w10 w13) := ⟨hz1, hz2, sameWide nz1 nz2 (V9.out.2.2.2.2.1.trans V4.out.2.2.2.2.1.symm), Fut.trans hb (Fut.trans fz1 fz2)⟩; clear hz1 nz1 fz1 hz2 nz2 fz2 hb)
        | (go_at_call 9; (with_reducible show Calls _ _ _ w13 _); refine (sameF z1 z2 T1.out.1 T1.out.2.1 T1.out.2.2.1 w13).mono ?_; rintro e w14 ⟨rfl, hb⟩; obtain ⟨z3, w15, k3, hz3, nz3, fz3⟩ := wideF b9 V9.out.2.2.1 w14; obtain ⟨z4, w16, k4, hz4, nz4, fz4⟩ := wideF b4 V4.out.2.2.1 w15; have T2 : Hid (z3 < Sx.bits .f64 ∧ z4 < Sx.bits .f64 ∧ Sx.nz .f64 z3 = Sx.nz .f64 z4 ∧ Fut w10 w16) := ⟨hz3, hz4, sameWide nz3 nz4 (V9.out.2.2.2.2.2.trans V4.out.2.2.2.2.2.symm), Fut.trans T1.out.2.2.2 (Fut.trans hb (Fut.trans fz3 fz4))⟩; clear hz3 nz3 fz3 hz4 nz4 fz4 hb)
        | (go_at_call 9; (with_reducible show Calls _ _ _ w16 _); refine (sameF z3 z4 T2.out.1 T2.out.2.1 T2.out.2.2.1 w16).mono ?_; rintro e w17 ⟨rfl, hb⟩; have Q17 : Hid (Fut w w17 ∧ RowF w17 g6 xs ∧ RowF w17 g7 ys) := ⟨Q10.out.1.trans (Fut.trans T2.out.2.2.2 hb), Q10.out.2.2.2.1.fut (Fut.trans T2.out.2.2.2 hb), Q10.out.2.2.2.2.fut (Fut.trans T2.out.2.2.2 hb)⟩; clear hb)
        | (go_at_call 6; (with_reducible show Calls _ _ _ w17 _); refine (HT1.out w17 Q17.out.1).mono ?_; rintro e w18 ⟨g18, rfl, _, hr, hb⟩; have Q18 : Hid (Fut w w18 ∧ RowF w18 g6 xs ∧ RowF w18 g7 ys ∧ RowF w18 g18 xs) := ⟨Q17.out.1.trans hb, Q17.out.2.1.fut hb, Q17.out.2.2.fut hb, hr⟩; clear hr hb)
        | (go_at_call 10; (with_reducible show Calls _ _ _ w18 _); refine (HE1.out g6 g18 w18 Q18.out.2.1 Q18.out.2.2.2).mono ?_; rintro e w19 ⟨rfl, hb⟩; have Q19 : Hid (Fut w w19 ∧ RowF w19 g7 ys) := ⟨Q18.out.1.trans hb, Q18.out.2.2.1.fut hb⟩; clear hb)
        | (go_at_call 6; (with_reducible show Calls _ _ _ w19 _); refine (HT2.out w19 Q19.out.1).mono ?_; rintro e w20 ⟨g20, rfl, _, hr, hb⟩; have Q20 : Hid (Fut w w20 ∧ RowF w20 g7 ys ∧ RowF w20 g20 ys) := ⟨Q19.out.1.trans hb, Q19.out.2.fut hb, hr⟩; clear hr hb)
        | (go_at_call 10; (with_reducible show Calls _ _ _ w20 _); refine (HE2.out g7 g20 w20 Q20.out.2.1 Q20.out.2.2).mono ?_; rintro e w21 ⟨rfl, hb⟩; have Q21 : Hid (Fut w w21) := Q20.out.1.trans hb; clear hb))
      go_ret
      exact ⟨rfl, Q21.out⟩
    · subst e1 e2
      have hi1 : ¬ (1048576 : Int) < (xs.length : Int) := by omega
      have hi2 : (1048576 : Int) < (ys.length : Int) := by omega
      have Q0 : Hid (Fut w wB) := hbA
      clear h hx hy hbA hB0 HA hxl hyl
      generalize xs.length = n1 at *
      generalize ys.length = n2 at *
      go_enter Try.func3, Try.ntmps3
      go_wp2
      go_ret
      exact ⟨rfl, Q0.out⟩
  · subst e1 e2
    have hi1 : (1048576 : Int) < (xs.length : Int) := by omega
    have Q0 : Hid (Fut w wB) := hbA
    clear h hx hy hbA hB0 HA hxl
    generalize xs.length = n1 at *
    generalize ys.length = n2 at *
    go_enter Try.func3, Try.ntmps3
    go_wp2
    go_ret
    exact ⟨rfl, Q0.out⟩
end Go.Proofs.Ytlnphdohjelppaa
