/-
  ONE REGION OF THE REFERENCE'S StepList, whose order is drawn: the flows are found and laid down. Conditions: those that stand in it.
-/
import Derived.Test.YtlnphdohjelppaaJI
namespace Go.Proofs.Ytlnphdohjelppaa
open Go.RowKit
set_option maxRecDepth 100000
set_option maxHeartbeats 1600000
/-- A block that holds flows. -/
def Floc (w : World) (b : Nat) (cs : List Nat) : Prop := w.heap[b]? = some (.cells (fl cs).toArray 42 (0, 0))
theorem Floc.lt {w : World} {b : Nat} {cs : List Nat} (h : Floc w b cs) : b < w.heap.size := by
  rcases Nat.lt_or_ge b w.heap.size with q | q
  · exact q
  · unfold Floc at h
    rw [Array.getElem?_eq_none q] at h
    cases h
theorem Floc.cell {w : World} {b : Nat} {cs : List Nat} (h : Floc w b cs) (k : Nat) : w.cell? ⟨b, k, none⟩ = (fl cs)[k]? := by
  rw [cell_of_row w b k _ 42 (0, 0) h, List.getElem?_toArray]
theorem Floc.there {w : World} {b : Nat} {cs : List Nat} (h : Floc w b cs) (hl : cs.length = 17) : w.there b 0 17 := fun j hj => by
  rw [Nat.zero_add]
  refine ⟨?_, frozen_of_row w b j _ 42 h⟩
  rw [h.cell, List.getElem?_eq_getElem (by rw [fl_length, hl]; exact hj)]
  rfl
theorem Floc.below {w w' : World} {b B : Nat} {cs : List Nat} (h : Floc w b cs) (hb : Below B w w') (hB : b < B) : Floc w' b cs := by
  unfold Floc
  rw [hb.block b hB]
  exact h
theorem Floc.store {w : World} {b : Nat} {cs ds : List Nat} (h : Floc w b cs) (hl : cs.length = ds.length) : Floc (w.setCells b 0 (fl ds)) b ds := by
  have h1 := heap_cells_same b 42 [] (fl ds) [] (fl cs) w (by rw [List.nil_append, List.append_nil]; exact h) (by rw [fl_length, fl_length, hl])
  rw [List.nil_append, List.append_nil] at h1
  exact h1
theorem Floc.apart {w : World} {b b' : Nat} {cs : List Nat} (h : Floc w b cs) (hne : b ≠ b') (o : Nat) (vs : List Value) : Floc (w.setCells b' o vs) b cs := by
  unfold Floc
  rw [heap_cells_other b' b hne]
  exact h
def z17 : List Nat := [0, 0, 0, 0, 0, 0, 0, 0, 0, 0, 0, 0, 0, 0, 0, 0, 0]
theorem floc_new (w : World) : Floc (w.alloc (.cells #[Value.float .f32 0, Value.float .f32 0, Value.float .f32 0, Value.float .f32 0, Value.float .f32 0, Value.float .f32 0, Value.float .f32 0, Value.float .f32 0, Value.float .f32 0, Value.float .f32 0, Value.float .f32 0, Value.float .f32 0, Value.float .f32 0, Value.float .f32 0, Value.float .f32 0, Value.float .f32 0, Value.float .f32 0] 42)) w.heap.size z17 := heap_alloc_new _ _
theorem fosize {cs : List Nat} (hl : cs.length = 17) : (Try.prog.info? 42).map (·.size) = some (fl cs).toArray.size := by
  rw [List.size_toArray, fl_length, hl]
  kernel_rfl
theorem fothere {w : World} {b : Nat} {cs ds : List Nat} (h : Floc w b ds) (hl : cs.length = 17) (hd : ds.length = 17 := by rfl) : w.there b 0 (fl cs).toArray.size := by
  rw [List.size_toArray, fl_length, hl]
  exact h.there hd
theorem regN {x0 x4 x5 x6 x7 x8 x9 x10 x11 x12 x14 x15 x16 x17 x18 x19 x20 x21 x22 x23 x24 x25 x26 x27 x28 x29 x30 x31 x32 x33 x34 x35 x36 x37 x38 x39 x40 x41 x42 x43 x44 x45 x46 x47 x48 x49 x50 x51 x52 x53 x54 x55 x56 x57 x58 x59 x60 x61 x62 x63 x64 x65 x66 x67 x68 x69 x70 x71 x72 x73 x74 x75 x76 : Value} {g1 g2 n k x y B : Nat} {cs : List Nat} {w0 wr : World} (hR : Road19 cs) (hx : x < Sx.bits .f32) (hy : y < Sx.bits .f32) (hki : (k : Int) < (n : Int)) (hsl : Slot wr B cs)
    (hc1 : ∀ w', Below w0.heap.size w0 w' → w'.cell? ⟨g1, k, none⟩ = some (.float .f32 x)) (hc2 : ∀ w', Below w0.heap.size w0 w' → w'.cell? ⟨g2, k, none⟩ = some (.float .f32 y)) (hb : Below w0.heap.size w0 wr)
    {Q : Exit → Act → World → Prop} (hP0 : ∀ (c : _) (a : Act) (d : Option Tmp) (v : Value) (w : World), Q (.panic c) (a.put d v) w → Q (.panic c) a w)
    (hQ : ∀ (fs : List Nat) (G : Nat) (w' : World), FlowsOk (rho cs) ((Sx.nz .f32 x : Nat) : Int) ((Sx.nz .f32 y : Nat) : Int) fs → wr.heap.size ≤ G → Floc w' G fs → Below wr.heap.size wr w' → Q .normal { tmps := #[x0, Value.slice (some { block := g1, off := 0 }) n n, Value.slice (some { block := g2, off := 0 }) n n, Value.pointer (some { block := B, off := 0 }), x4, x5, x6, x7, x8, x9, x10, x11, x12, Value.int .i64 k, Value.pointer (some { block := G, off := 0 }), x15, x16, x17, x18, x19, x20, x21, x22, x23, x24, x25, x26, x27, x28, x29, x30, x31, x32, x33, x34, x35, x36, x37, x38, x39, x40, x41, x42, x43, x44, x45, x46, x47, x48, x49, x50, x51, x52, x53, x54, x55, Value.slice (some { block := g1, off := 0 }) n n, Value.int .i64 k, Value.pointer (some { block := g1, off := k }), Value.float .f32 x, Value.slice (some { block := g2, off := 0 }) n n, Value.int .i64 k, Value.pointer (some { block := g2, off := k }), Value.float .f32 y, Value.agg (fl fs).toArray, x65, x66, x67, x68, x69, x70, x71, x72, x73, x74, x75, x76], defers := [] } w') :
    (Code.region 15
      #[{ dst := some 56, op := Op.move (Operand.tmp 1), type := 26, pos := "l02_waves.go:96", after := #[],
          guard := none },
        { dst := some 57, op := Op.move (Operand.tmp 13), type := 3, pos := "l02_waves.go:96", after := #[],
          guard := none },
        { dst := some 58, op := Op.indexAddr 26 (Operand.tmp 56) (Operand.tmp 57), type := 0, pos := "l02_waves.go:96",
          after := #[{ on := 0, ground := Ground.data }, { on := 1, ground := Ground.data }], guard := none },
        { dst := some 59, op := Op.load 22 (Operand.tmp 58), type := 22, pos := "l02_waves.go:96",
          after := #[{ on := 2, ground := Ground.data }], guard := none },
        { dst := some 60, op := Op.move (Operand.tmp 2), type := 26, pos := "l02_waves.go:96", after := #[],
          guard := none },
        { dst := some 61, op := Op.move (Operand.tmp 13), type := 3, pos := "l02_waves.go:96", after := #[],
          guard := none },
        { dst := some 62, op := Op.indexAddr 26 (Operand.tmp 60) (Operand.tmp 61), type := 0, pos := "l02_waves.go:96",
          after := #[{ on := 4, ground := Ground.data }, { on := 5, ground := Ground.data }], guard := none },
        { dst := some 63, op := Op.load 22 (Operand.tmp 62), type := 22, pos := "l02_waves.go:96",
          after := #[{ on := 6, ground := Ground.data }], guard := none },
        { dst := some 64,
          op :=
            Op.call
              { callee := Callee.value (Operand.func 13), args := #[Operand.tmp 3, Operand.tmp 59, Operand.tmp 63],
                argTypes := #[40, 22, 22] },
          type := 42, pos := "l02_waves.go:96",
          after := #[{ on := 3, ground := Ground.data }, { on := 7, ground := Ground.data }], guard := none },
        { dst := some 14, op := Op.alloc 42, type := 0, pos := "l02_waves.go:96", after := #[], guard := none },
        { dst := none, op := Op.store 42 (Operand.tmp 14) (Operand.tmp 64), type := 0, pos := "l02_waves.go:96",
          after :=
            #[{ on := 9, ground := Ground.data }, { on := 8, ground := Ground.data },
              { on := 8, ground := Ground.chain }, { on := 0, ground := Ground.phase },
              { on := 1, ground := Ground.phase }, { on := 2, ground := Ground.phase },
              { on := 3, ground := Ground.phase }, { on := 4, ground := Ground.phase },
              { on := 5, ground := Ground.phase }, { on := 6, ground := Ground.phase },
              { on := 7, ground := Ground.phase }, { on := 8, ground := Ground.phase },
              { on := 9, ground := Ground.phase }],
          guard := none }]
      true).wp Try.prog Q { tmps := #[x0, Value.slice (some { block := g1, off := 0 }) n n, Value.slice (some { block := g2, off := 0 }) n n, Value.pointer (some { block := B, off := 0 }), x4, x5, x6, x7, x8, x9, x10, x11, x12, Value.int .i64 k, x14, x15, x16, x17, x18, x19, x20, x21, x22, x23, x24, x25, x26, x27, x28, x29, x30, x31, x32, x33, x34, x35, x36, x37, x38, x39, x40, x41, x42, x43, x44, x45, x46, x47, x48, x49, x50, x51, x52, x53, x54, x55, x56, x57, x58, x59, x60, x61, x62, x63, x64, x65, x66, x67, x68, x69, x70, x71, x72, x73, x74, x75, x76], defers := [] } wr := by
  refine wp_region_held_drew (S := fun w' => Below w0.heap.size w0 w') (by kernel_rfl) hb.drew (fun hS => ?_)
  refine wpAnyH_take (i := 0) (oi := { dst := some 56, op := Op.move (Operand.tmp 1), type := 26, pos := "l02_waves.go:96", after := #[], guard := none }) (v := Value.slice (some { block := g1, off := 0 }) n n) rfl (by kernel_rfl) (by kernel_rfl) (by kernel_rfl) (fun c a w h => hP0 c a _ _ w h) (Or.inl ⟨by rfl, ?_⟩) hS ?_
  · intro w hSw
    have e1 := hc1 w hSw
    have e2 := hc2 w hSw
    go_simp
  simp only [Act.put, List.setIfInBounds_toArray, List.set_cons_zero, List.set_cons_succ]
  refine wpAnyH_take (i := 1) (oi := { dst := some 57, op := Op.move (Operand.tmp 13), type := 3, pos := "l02_waves.go:96", after := #[], guard := none }) (v := Value.int .i64 k) rfl (by kernel_rfl) (by kernel_rfl) (by kernel_rfl) (fun c a w h => hP0 c a _ _ w h) (Or.inl ⟨by rfl, ?_⟩) hS ?_
  · intro w hSw
    have e1 := hc1 w hSw
    have e2 := hc2 w hSw
    go_simp
  simp only [Act.put, List.setIfInBounds_toArray, List.set_cons_zero, List.set_cons_succ]
  refine wpAnyH_take (i := 2) (oi := { dst := some 58, op := Op.indexAddr 26 (Operand.tmp 56) (Operand.tmp 57), type := 0, pos := "l02_waves.go:96", after := #[{ on := 0, ground := Ground.data }, { on := 1, ground := Ground.data }], guard := none }) (v := Value.pointer (some { block := g1, off := k })) rfl (by kernel_rfl) (by kernel_rfl) (by kernel_rfl) (fun c a w h => hP0 c a _ _ w h) (Or.inl ⟨by rfl, ?_⟩) hS ?_
  · intro w hSw
    have e1 := hc1 w hSw
    have e2 := hc2 w hSw
    go_simp
  simp only [Act.put, List.setIfInBounds_toArray, List.set_cons_zero, List.set_cons_succ]
  refine wpAnyH_take (i := 3) (oi := { dst := some 59, op := Op.load 22 (Operand.tmp 58), type := 22, pos := "l02_waves.go:96", after := #[{ on := 2, ground := Ground.data }], guard := none }) (v := Value.float .f32 x) rfl (by kernel_rfl) (by kernel_rfl) (by kernel_rfl) (fun c a w h => hP0 c a _ _ w h) (Or.inl ⟨by rfl, ?_⟩) hS ?_
  · intro w hSw
    have e1 := hc1 w hSw
    have e2 := hc2 w hSw
    go_simp
  simp only [Act.put, List.setIfInBounds_toArray, List.set_cons_zero, List.set_cons_succ]
  refine wpAnyH_take (i := 4) (oi := { dst := some 60, op := Op.move (Operand.tmp 2), type := 26, pos := "l02_waves.go:96", after := #[], guard := none }) (v := Value.slice (some { block := g2, off := 0 }) n n) rfl (by kernel_rfl) (by kernel_rfl) (by kernel_rfl) (fun c a w h => hP0 c a _ _ w h) (Or.inl ⟨by rfl, ?_⟩) hS ?_
  · intro w hSw
    have e1 := hc1 w hSw
    have e2 := hc2 w hSw
    go_simp
  simp only [Act.put, List.setIfInBounds_toArray, List.set_cons_zero, List.set_cons_succ]
  refine wpAnyH_take (i := 5) (oi := { dst := some 61, op := Op.move (Operand.tmp 13), type := 3, pos := "l02_waves.go:96", after := #[], guard := none }) (v := Value.int .i64 k) rfl (by kernel_rfl) (by kernel_rfl) (by kernel_rfl) (fun c a w h => hP0 c a _ _ w h) (Or.inl ⟨by rfl, ?_⟩) hS ?_
  · intro w hSw
    have e1 := hc1 w hSw
    have e2 := hc2 w hSw
    go_simp
  simp only [Act.put, List.setIfInBounds_toArray, List.set_cons_zero, List.set_cons_succ]
  refine wpAnyH_take (i := 6) (oi := { dst := some 62, op := Op.indexAddr 26 (Operand.tmp 60) (Operand.tmp 61), type := 0, pos := "l02_waves.go:96", after := #[{ on := 4, ground := Ground.data }, { on := 5, ground := Ground.data }], guard := none }) (v := Value.pointer (some { block := g2, off := k })) rfl (by kernel_rfl) (by kernel_rfl) (by kernel_rfl) (fun c a w h => hP0 c a _ _ w h) (Or.inl ⟨by rfl, ?_⟩) hS ?_
  · intro w hSw
    have e1 := hc1 w hSw
    have e2 := hc2 w hSw
    go_simp
  simp only [Act.put, List.setIfInBounds_toArray, List.set_cons_zero, List.set_cons_succ]
  refine wpAnyH_take (i := 7) (oi := { dst := some 63, op := Op.load 22 (Operand.tmp 62), type := 22, pos := "l02_waves.go:96", after := #[{ on := 6, ground := Ground.data }], guard := none }) (v := Value.float .f32 y) rfl (by kernel_rfl) (by kernel_rfl) (by kernel_rfl) (fun c a w h => hP0 c a _ _ w h) (Or.inl ⟨by rfl, ?_⟩) hS ?_
  · intro w hSw
    have e1 := hc1 w hSw
    have e2 := hc2 w hSw
    go_simp
  simp only [Act.put, List.setIfInBounds_toArray, List.set_cons_zero, List.set_cons_succ]
  refine wpAnyH_ready (rs := [8, 9]) (by kernel_rfl) (by simp) ?_
  refine AllReadyH.cons (o := { dst := some 64, op := Op.call { callee := Callee.value (Operand.func 13), args := #[Operand.tmp 3, Operand.tmp 59, Operand.tmp 63], argTypes := #[40, 22, 22] }, type := 42, pos := "l02_waves.go:96", after := #[{ on := 3, ground := Ground.data }, { on := 7, ground := Ground.data }], guard := none }) rfl (fun K hK => ?_) (AllReadyH.cons (o := { dst := some 14, op := Op.alloc 42, type := 0, pos := "l02_waves.go:96", after := #[], guard := none }) rfl (fun K hK => ?_) AllReadyH.nil)
  · go_simp
    refine (flowsS hR hx hy wr.drew B 29 hsl.drew).mono ?_
    rintro e w1 ⟨fs, rfl, hF, hbel⟩
    have hw1 : Below wr.heap.size wr w1 := ((Below.refl _ _).drew).trans hbel
    have hb1 : Below w0.heap.size w0 w1 := hb.trans (hw1.mono hb.size)
    refine hK.out _ _ ?_ (fun hS2 => ?_)
    · exact hb1
    clear hK K
    try simp only [Act.put, List.setIfInBounds_toArray, List.set_cons_zero, List.set_cons_succ]
    refine wpAnyH_ready (rs := [9]) (by kernel_rfl) (by simp) ?_
    refine AllReadyH.cons (o := { dst := some 14, op := Op.alloc 42, type := 0, pos := "l02_waves.go:96", after := #[], guard := none }) rfl (fun K hK => ?_) AllReadyH.nil
    go_simp
    have hf2 := floc_new w1
    have hw2 : Below wr.heap.size wr (w1.alloc (.cells #[Value.float .f32 0, Value.float .f32 0, Value.float .f32 0, Value.float .f32 0, Value.float .f32 0, Value.float .f32 0, Value.float .f32 0, Value.float .f32 0, Value.float .f32 0, Value.float .f32 0, Value.float .f32 0, Value.float .f32 0, Value.float .f32 0, Value.float .f32 0, Value.float .f32 0, Value.float .f32 0, Value.float .f32 0] 42)) := hw1.alloc hw1.size _
    have hb2 : Below w0.heap.size w0 (w1.alloc (.cells #[Value.float .f32 0, Value.float .f32 0, Value.float .f32 0, Value.float .f32 0, Value.float .f32 0, Value.float .f32 0, Value.float .f32 0, Value.float .f32 0, Value.float .f32 0, Value.float .f32 0, Value.float .f32 0, Value.float .f32 0, Value.float .f32 0, Value.float .f32 0, Value.float .f32 0, Value.float .f32 0, Value.float .f32 0] 42)) := hb.trans (hw2.mono hb.size)
    refine hK.out _ _ ?_ (fun hS3 => ?_)
    · exact hb2
    clear hK K
    generalize hq : w1.alloc _ = w2 at *
    try simp only [Act.put, List.setIfInBounds_toArray, List.set_cons_zero, List.set_cons_succ]
    refine wpAnyH_ready (rs := [10]) (by kernel_rfl) (by simp) ?_
    refine AllReadyH.cons (o := { dst := none, op := Op.store 42 (Operand.tmp 14) (Operand.tmp 64), type := 0, pos := "l02_waves.go:96", after := #[{ on := 9, ground := Ground.data }, { on := 8, ground := Ground.data }, { on := 8, ground := Ground.chain }, { on := 0, ground := Ground.phase }, { on := 1, ground := Ground.phase }, { on := 2, ground := Ground.phase }, { on := 3, ground := Ground.phase }, { on := 4, ground := Ground.phase }, { on := 5, ground := Ground.phase }, { on := 6, ground := Ground.phase }, { on := 7, ground := Ground.phase }, { on := 8, ground := Ground.phase }, { on := 9, ground := Ground.phase }], guard := none }) rfl (fun K hK => ?_) AllReadyH.nil
    rw [if_pos (by rfl)]
    refine wp_store_mid 42 _ _ rfl w1.heap.size 0 _ rfl rfl (fothere hf2 hF.1) (fosize hF.1) (fl_one _) ?_
    have hs3 : Floc (w2.setCells w1.heap.size 0 (fl fs)) w1.heap.size fs := hf2.store (by rw [hF.1]; rfl)
    have hw3 : Below wr.heap.size wr (w2.setCells w1.heap.size 0 (fl fs)) := below_cells hw2 hw1.size 0 _
    have hb3 : Below w0.heap.size w0 (w2.setCells w1.heap.size 0 (fl fs)) := hb.trans (hw3.mono hb.size)
    refine hK.out _ _ ?_ (fun hS4 => ?_)
    · exact hb3
    clear hK K
    simp only [Act.put]
    refine wpAnyH_done (by kernel_rfl) ?_ _
    exact hQ fs w1.heap.size _ hF hw1.size hs3 hw3
  · go_simp
    have hf2 : Floc (wr.alloc (.cells #[Value.float .f32 0, Value.float .f32 0, Value.float .f32 0, Value.float .f32 0, Value.float .f32 0, Value.float .f32 0, Value.float .f32 0, Value.float .f32 0, Value.float .f32 0, Value.float .f32 0, Value.float .f32 0, Value.float .f32 0, Value.float .f32 0, Value.float .f32 0, Value.float .f32 0, Value.float .f32 0, Value.float .f32 0] 42)).drew wr.heap.size z17 := floc_new wr
    have hw1 : Below wr.heap.size wr (wr.alloc (.cells #[Value.float .f32 0, Value.float .f32 0, Value.float .f32 0, Value.float .f32 0, Value.float .f32 0, Value.float .f32 0, Value.float .f32 0, Value.float .f32 0, Value.float .f32 0, Value.float .f32 0, Value.float .f32 0, Value.float .f32 0, Value.float .f32 0, Value.float .f32 0, Value.float .f32 0, Value.float .f32 0, Value.float .f32 0] 42)).drew := ((Below.refl _ _).alloc (Nat.le_refl _) _).drew
    have hb1 : Below w0.heap.size w0 (wr.alloc (.cells #[Value.float .f32 0, Value.float .f32 0, Value.float .f32 0, Value.float .f32 0, Value.float .f32 0, Value.float .f32 0, Value.float .f32 0, Value.float .f32 0, Value.float .f32 0, Value.float .f32 0, Value.float .f32 0, Value.float .f32 0, Value.float .f32 0, Value.float .f32 0, Value.float .f32 0, Value.float .f32 0, Value.float .f32 0] 42)).drew := hb.trans (hw1.mono hb.size)
    have hsl2 : Slot (wr.alloc (.cells #[Value.float .f32 0, Value.float .f32 0, Value.float .f32 0, Value.float .f32 0, Value.float .f32 0, Value.float .f32 0, Value.float .f32 0, Value.float .f32 0, Value.float .f32 0, Value.float .f32 0, Value.float .f32 0, Value.float .f32 0, Value.float .f32 0, Value.float .f32 0, Value.float .f32 0, Value.float .f32 0, Value.float .f32 0] 42)).drew B cs := (hsl.alloc _).drew
    refine hK.out _ _ ?_ (fun hS2 => ?_)
    · exact hb1
    clear hK K
    generalize hq : (wr.alloc _).drew = w1 at *
    try simp only [Act.put, List.setIfInBounds_toArray, List.set_cons_zero, List.set_cons_succ]
    refine wpAnyH_ready (rs := [8]) (by kernel_rfl) (by simp) ?_
    refine AllReadyH.cons (o := { dst := some 64, op := Op.call { callee := Callee.value (Operand.func 13), args := #[Operand.tmp 3, Operand.tmp 59, Operand.tmp 63], argTypes := #[40, 22, 22] }, type := 42, pos := "l02_waves.go:96", after := #[{ on := 3, ground := Ground.data }, { on := 7, ground := Ground.data }], guard := none }) rfl (fun K hK => ?_) AllReadyH.nil
    go_simp
    refine (flowsS hR hx hy w1 B 29 hsl2).mono ?_
    rintro e w2 ⟨fs, rfl, hF, hbel⟩
    have hw2 : Below wr.heap.size wr w2 := hw1.trans (hbel.mono hw1.size)
    have hb2 : Below w0.heap.size w0 w2 := hb.trans (hw2.mono hb.size)
    have hf3 := hf2.below hbel hf2.lt
    refine hK.out _ _ ?_ (fun hS3 => ?_)
    · exact hb2
    clear hK K
    try simp only [Act.put, List.setIfInBounds_toArray, List.set_cons_zero, List.set_cons_succ]
    refine wpAnyH_ready (rs := [10]) (by kernel_rfl) (by simp) ?_
    refine AllReadyH.cons (o := { dst := none, op := Op.store 42 (Operand.tmp 14) (Operand.tmp 64), type := 0, pos := "l02_waves.go:96", after := #[{ on := 9, ground := Ground.data }, { on := 8, ground := Ground.data }, { on := 8, ground := Ground.chain }, { on := 0, ground := Ground.phase }, { on := 1, ground := Ground.phase }, { on := 2, ground := Ground.phase }, { on := 3, ground := Ground.phase }, { on := 4, ground := Ground.phase }, { on := 5, ground := Ground.phase }, { on := 6, ground := Ground.phase }, { on := 7, ground := Ground.phase }, { on := 8, ground := Ground.phase }, { on := 9, ground := Ground.phase }], guard := none }) rfl (fun K hK => ?_) AllReadyH.nil
    rw [if_pos (by rfl)]
    refine wp_store_mid 42 _ _ rfl wr.heap.size 0 _ rfl rfl (fothere hf3 hF.1) (fosize hF.1) (fl_one _) ?_
    have hs3 : Floc (w2.setCells wr.heap.size 0 (fl fs)) wr.heap.size fs := hf3.store (by rw [hF.1]; rfl)
    have hw3 : Below wr.heap.size wr (w2.setCells wr.heap.size 0 (fl fs)) := below_cells hw2 (Nat.le_refl _) 0 _
    have hb3 : Below w0.heap.size w0 (w2.setCells wr.heap.size 0 (fl fs)) := hb.trans (hw3.mono hb.size)
    refine hK.out _ _ ?_ (fun hS4 => ?_)
    · exact hb3
    clear hK K
    simp only [Act.put]
    refine wpAnyH_done (by kernel_rfl) ?_ _
    exact hQ fs wr.heap.size _ hF (Nat.le_refl _) hs3 hw3
end Go.Proofs.Ytlnphdohjelppaa
