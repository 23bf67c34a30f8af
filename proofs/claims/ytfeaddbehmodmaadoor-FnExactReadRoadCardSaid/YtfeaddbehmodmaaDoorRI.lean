/-
  ONE REGION OF THE PROGRAM'S READING, whose order is drawn. Conditions: those that stand in it.
-/
import Derived.Test.YtfeaddbehmodmaaDoorW1
import Derived.Deep.RegionHeld3
namespace Go.Proofs.YtfeaddbehmodmaaDoor
open Go.RowKit
set_option maxRecDepth 100000
theorem arr34 (a : Addr) (c : Nat) (w : World) : (Instr.arrayAt 34 (.slice (some a) 16 c)).run Tryd.prog w = .ok (.pointer (some a)) w := by
  simp [Instr.arrayAt, run_underlying Tryd.underlying34, go_sem]
set_option maxHeartbeats 800000
theorem regI5 {x0 x1 x2 x3 x4 x7 x8 x9 x10 x11 x12 x13 x14 x15 x30 x31 x32 x33 x34 x35 x36 x37 x38 x39 x40 : Value} {g2 cap2 p q l r0 r1 r2 r3 r4 r5 r6 r7 r8 r9 r10 r11 r12 r13 r14 r15 : Nat} {w3 : World} (hg2 : g2 < w3.heap.size) (hcap : 19 ≤ cap2) (c0 : w3.cell? ⟨g2, 0, none⟩ = some (.float .f32 p)) (c1 : w3.cell? ⟨g2, 1, none⟩ = some (.float .f32 q)) (c2 : w3.cell? ⟨g2, 2, none⟩ = some (.float .f32 l)) (c3 : w3.rangeAt g2 3 [Value.float .f32 r0, Value.float .f32 r1, Value.float .f32 r2, Value.float .f32 r3, Value.float .f32 r4, Value.float .f32 r5, Value.float .f32 r6, Value.float .f32 r7, Value.float .f32 r8, Value.float .f32 r9, Value.float .f32 r10, Value.float .f32 r11, Value.float .f32 r12, Value.float .f32 r13, Value.float .f32 r14, Value.float .f32 r15])
    {Q : Exit → Act → World → Prop} (hP0 : ∀ (c : _) (a : Act) (d : Option Tmp) (v : Value) (w : World), Q (.panic c) (a.put d v) w → Q (.panic c) a w) (hQ : ∀ w', Slot w' w3.heap.size [r0, r1, r2, r3, r4, r5, r6, r7, r8, r9, r10, r11, r12, r13, r14, r15, p, q, l] → Below w3.heap.size w3 w' → Q .normal { tmps := #[x0, x1, x2, x3, x4, Value.slice (some { block := g2, off := 0 }) 19 cap2, Value.pointer (some { block := w3.heap.size, off := 0 }), x7, x8, x9, x10, x11, x12, x13, x14, x15, Value.slice (some { block := g2, off := 0 }) 19 cap2, Value.pointer (some { block := g2, off := 0 }), Value.float .f32 p, Value.slice (some { block := g2, off := 0 }) 19 cap2, Value.pointer (some { block := g2, off := 1 }), Value.float .f32 q, Value.slice (some { block := g2, off := 0 }) 19 cap2, Value.pointer (some { block := g2, off := 2 }), Value.float .f32 l, Value.slice (some { block := g2, off := 0 }) 19 cap2, Value.slice (some { block := g2, off := 3 }) 16 (cap2 - 3), Value.pointer (some { block := g2, off := 3 }), Value.agg (List.toArray [Value.float .f32 r0, Value.float .f32 r1, Value.float .f32 r2, Value.float .f32 r3, Value.float .f32 r4, Value.float .f32 r5, Value.float .f32 r6, Value.float .f32 r7, Value.float .f32 r8, Value.float .f32 r9, Value.float .f32 r10, Value.float .f32 r11, Value.float .f32 r12, Value.float .f32 r13, Value.float .f32 r14, Value.float .f32 r15]), Value.agg (List.toArray [Value.float .f32 r0, Value.float .f32 r1, Value.float .f32 r2, Value.float .f32 r3, Value.float .f32 r4, Value.float .f32 r5, Value.float .f32 r6, Value.float .f32 r7, Value.float .f32 r8, Value.float .f32 r9, Value.float .f32 r10, Value.float .f32 r11, Value.float .f32 r12, Value.float .f32 r13, Value.float .f32 r14, Value.float .f32 r15, Value.float .f32 p, Value.float .f32 q, Value.float .f32 l]), x30, x31, x32, x33, x34, x35, x36, x37, x38, x39, x40], defers := [] } w') :
    (Code.region 5
      #[{ dst := some 16, op := Op.move (Operand.tmp 5), type := 64, pos := "l01_roads.go:351", after := #[],
          guard := none },
        { dst := some 17, op := Op.indexAddr 64 (Operand.tmp 16) (Operand.const (Value.int IntKind.i64 0)), type := 0,
          pos := "l01_roads.go:351", after := #[{ on := 0, ground := Ground.data }], guard := none },
        { dst := some 18, op := Op.load 22 (Operand.tmp 17), type := 22, pos := "l01_roads.go:351",
          after := #[{ on := 1, ground := Ground.data }], guard := none },
        { dst := some 19, op := Op.move (Operand.tmp 5), type := 64, pos := "l01_roads.go:351", after := #[],
          guard := none },
        { dst := some 20, op := Op.indexAddr 64 (Operand.tmp 19) (Operand.const (Value.int IntKind.i64 1)), type := 0,
          pos := "l01_roads.go:351", after := #[{ on := 3, ground := Ground.data }], guard := none },
        { dst := some 21, op := Op.load 22 (Operand.tmp 20), type := 22, pos := "l01_roads.go:351",
          after := #[{ on := 4, ground := Ground.data }], guard := none },
        { dst := some 22, op := Op.move (Operand.tmp 5), type := 64, pos := "l01_roads.go:351", after := #[],
          guard := none },
        { dst := some 23, op := Op.indexAddr 64 (Operand.tmp 22) (Operand.const (Value.int IntKind.i64 2)), type := 0,
          pos := "l01_roads.go:351", after := #[{ on := 6, ground := Ground.data }], guard := none },
        { dst := some 24, op := Op.load 22 (Operand.tmp 23), type := 22, pos := "l01_roads.go:351",
          after := #[{ on := 7, ground := Ground.data }], guard := none },
        { dst := some 25, op := Op.move (Operand.tmp 5), type := 64, pos := "l01_roads.go:351", after := #[],
          guard := none },
        { dst := some 26, op := Op.slice 64 (Operand.tmp 25) (some (Operand.const (Value.int IntKind.i64 3))) none none,
          type := 64, pos := "l01_roads.go:351", after := #[{ on := 9, ground := Ground.data }], guard := none },
        { dst := some 27, op := Op.sliceToArrayPointer 34 (Operand.tmp 26), type := 0, pos := "l01_roads.go:351",
          after := #[{ on := 10, ground := Ground.data }], guard := none },
        { dst := some 28, op := Op.load 34 (Operand.tmp 27), type := 34, pos := "l01_roads.go:351",
          after := #[{ on := 11, ground := Ground.data }], guard := none },
        { dst := some 29,
          op := Op.build 36 #[(1, Operand.tmp 18), (2, Operand.tmp 21), (3, Operand.tmp 24), (0, Operand.tmp 28)],
          type := 36, pos := "l01_roads.go:351",
          after :=
            #[{ on := 2, ground := Ground.data }, { on := 5, ground := Ground.data },
              { on := 8, ground := Ground.data }, { on := 12, ground := Ground.data }],
          guard := none },
        { dst := some 6, op := Op.alloc 36, type := 0, pos := "l01_roads.go:351", after := #[], guard := none },
        { dst := none, op := Op.store 36 (Operand.tmp 6) (Operand.tmp 29), type := 0, pos := "l01_roads.go:351",
          after :=
            #[{ on := 14, ground := Ground.data }, { on := 13, ground := Ground.data },
              { on := 0, ground := Ground.phase }, { on := 1, ground := Ground.phase },
              { on := 2, ground := Ground.phase }, { on := 3, ground := Ground.phase },
              { on := 4, ground := Ground.phase }, { on := 5, ground := Ground.phase },
              { on := 6, ground := Ground.phase }, { on := 7, ground := Ground.phase },
              { on := 8, ground := Ground.phase }, { on := 9, ground := Ground.phase },
              { on := 10, ground := Ground.phase }, { on := 11, ground := Ground.phase },
              { on := 12, ground := Ground.phase }, { on := 13, ground := Ground.phase },
              { on := 14, ground := Ground.phase }],
          guard := none }]
      true).wp Tryd.prog Q { tmps := #[x0, x1, x2, x3, x4, Value.slice (some { block := g2, off := 0 }) 19 cap2, undef, x7, x8, x9, x10, x11, x12, x13, x14, x15, undef, undef, undef, undef, undef, undef, undef, undef, undef, undef, undef, undef, undef, undef, x30, x31, x32, x33, x34, x35, x36, x37, x38, x39, x40], defers := [] } w3 := by
  have hS7 := (slot_new w3 z19).drew
  have hB7 : Below w3.heap.size w3 (w3.alloc (.cells #[Value.float .f32 0, Value.float .f32 0, Value.float .f32 0, Value.float .f32 0, Value.float .f32 0, Value.float .f32 0, Value.float .f32 0, Value.float .f32 0, Value.float .f32 0, Value.float .f32 0, Value.float .f32 0, Value.float .f32 0, Value.float .f32 0, Value.float .f32 0, Value.float .f32 0, Value.float .f32 0, Value.float .f32 0, Value.float .f32 0, Value.float .f32 0] 36)).drew := ((Below.refl _ _).alloc (Nat.le_refl _) _).drew
  have hth : ((w3.alloc (.cells #[Value.float .f32 0, Value.float .f32 0, Value.float .f32 0, Value.float .f32 0, Value.float .f32 0, Value.float .f32 0, Value.float .f32 0, Value.float .f32 0, Value.float .f32 0, Value.float .f32 0, Value.float .f32 0, Value.float .f32 0, Value.float .f32 0, Value.float .f32 0, Value.float .f32 0, Value.float .f32 0, Value.float .f32 0, Value.float .f32 0, Value.float .f32 0] 36)).drew).there w3.heap.size 0 (List.toArray [Value.float .f32 r0, Value.float .f32 r1, Value.float .f32 r2, Value.float .f32 r3, Value.float .f32 r4, Value.float .f32 r5, Value.float .f32 r6, Value.float .f32 r7, Value.float .f32 r8, Value.float .f32 r9, Value.float .f32 r10, Value.float .f32 r11, Value.float .f32 r12, Value.float .f32 r13, Value.float .f32 r14, Value.float .f32 r15, Value.float .f32 p, Value.float .f32 q, Value.float .f32 l]).size := hS7.there rfl
  have hsz : (Tryd.prog.info? 36).map (·.size) = some (List.toArray [Value.float .f32 r0, Value.float .f32 r1, Value.float .f32 r2, Value.float .f32 r3, Value.float .f32 r4, Value.float .f32 r5, Value.float .f32 r6, Value.float .f32 r7, Value.float .f32 r8, Value.float .f32 r9, Value.float .f32 r10, Value.float .f32 r11, Value.float .f32 r12, Value.float .f32 r13, Value.float .f32 r14, Value.float .f32 r15, Value.float .f32 p, Value.float .f32 q, Value.float .f32 l]).size := flsize (cs := [r0, r1, r2, r3, r4, r5, r6, r7, r8, r9, r10, r11, r12, r13, r14, r15, p, q, l]) rfl
  have hone : (List.toArray [Value.float .f32 r0, Value.float .f32 r1, Value.float .f32 r2, Value.float .f32 r3, Value.float .f32 r4, Value.float .f32 r5, Value.float .f32 r6, Value.float .f32 r7, Value.float .f32 r8, Value.float .f32 r9, Value.float .f32 r10, Value.float .f32 r11, Value.float .f32 r12, Value.float .f32 r13, Value.float .f32 r14, Value.float .f32 r15, Value.float .f32 p, Value.float .f32 q, Value.float .f32 l]).all (·.oneCell') = true := fl_one [r0, r1, r2, r3, r4, r5, r6, r7, r8, r9, r10, r11, r12, r13, r14, r15, p, q, l]
  have hs34 : (Tryd.prog.info? 34).map (·.size) = some (List.length [Value.float .f32 r0, Value.float .f32 r1, Value.float .f32 r2, Value.float .f32 r3, Value.float .f32 r4, Value.float .f32 r5, Value.float .f32 r6, Value.float .f32 r7, Value.float .f32 r8, Value.float .f32 r9, Value.float .f32 r10, Value.float .f32 r11, Value.float .f32 r12, Value.float .f32 r13, Value.float .f32 r14, Value.float .f32 r15]) := by
    show _ = some 16
    kernel_rfl
  have hR : ∀ {w' : World}, Below w3.heap.size w3 w' → w'.rangeAt g2 3 [Value.float .f32 r0, Value.float .f32 r1, Value.float .f32 r2, Value.float .f32 r3, Value.float .f32 r4, Value.float .f32 r5, Value.float .f32 r6, Value.float .f32 r7, Value.float .f32 r8, Value.float .f32 r9, Value.float .f32 r10, Value.float .f32 r11, Value.float .f32 r12, Value.float .f32 r13, Value.float .f32 r14, Value.float .f32 r15] := fun hb j v hj => by
    rw [hb.cell (p := ⟨g2, 3 + j, none⟩) hg2]
    exact c3 j v hj
  have d0 := (hB7.cell (p := ⟨g2, 0, none⟩) hg2).trans c0
  have d1 := (hB7.cell (p := ⟨g2, 1, none⟩) hg2).trans c1
  have d2 := (hB7.cell (p := ⟨g2, 2, none⟩) hg2).trans c2
  have hB9 := below_cells hB7 (Nat.le_refl _) 0 (fl [r0, r1, r2, r3, r4, r5, r6, r7, r8, r9, r10, r11, r12, r13, r14, r15, p, q, l])
  have f0 := (hB9.cell (p := ⟨g2, 0, none⟩) hg2).trans c0
  have f1 := (hB9.cell (p := ⟨g2, 1, none⟩) hg2).trans c1
  have f2 := (hB9.cell (p := ⟨g2, 2, none⟩) hg2).trans c2
  have HQ := hQ _ (hS7.store (ds := [r0, r1, r2, r3, r4, r5, r6, r7, r8, r9, r10, r11, r12, r13, r14, r15, p, q, l]) rfl) hB9
  have d3 := hR hB7
  have f3 := hR hB9
  have hi1 : (19 : Int) ≤ (cap2 : Int) := by omega
  have hi2 : (3 : Int) ≤ (cap2 : Int) := by omega
  have hi3 : ¬ (cap2 = 3) := by omega
  have h34 := fun w => arr34 ⟨g2, 3, none⟩ (cap2 - 3) w
  clear hB7 hB9 hS7 hQ
  refine wp_region_held_drew (S := fun w' => w'.cell? ⟨g2, 0, none⟩ = some (.float .f32 p) ∧ w'.cell? ⟨g2, 1, none⟩ = some (.float .f32 q) ∧ w'.cell? ⟨g2, 2, none⟩ = some (.float .f32 l) ∧ w'.rangeAt g2 3 [Value.float .f32 r0, Value.float .f32 r1, Value.float .f32 r2, Value.float .f32 r3, Value.float .f32 r4, Value.float .f32 r5, Value.float .f32 r6, Value.float .f32 r7, Value.float .f32 r8, Value.float .f32 r9, Value.float .f32 r10, Value.float .f32 r11, Value.float .f32 r12, Value.float .f32 r13, Value.float .f32 r14, Value.float .f32 r15]) (by kernel_rfl) ⟨c0, c1, c2, c3⟩ (fun hS => ?_)
  refine wpAnyH_take (i := 0) (oi := { dst := some 16, op := Op.move (Operand.tmp 5), type := 64, pos := "l01_roads.go:351", after := #[], guard := none }) (v := Value.slice (some { block := g2, off := 0 }) 19 cap2) rfl (by kernel_rfl) (by kernel_rfl) (by kernel_rfl) (fun c a w h => hP0 c a _ _ w h) (Or.inl ⟨by rfl, ?_⟩) hS ?_
  · intro w hSw
    (try dsimp only at hSw)
    go_simp
  simp only [Act.put, List.setIfInBounds_toArray, List.set_cons_zero, List.set_cons_succ]
  refine wpAnyH_take (i := 1) (oi := { dst := some 17, op := Op.indexAddr 64 (Operand.tmp 16) (Operand.const (Value.int IntKind.i64 0)), type := 0, pos := "l01_roads.go:351", after := #[{ on := 0, ground := Ground.data }], guard := none }) (v := Value.pointer (some { block := g2, off := 0 })) rfl (by kernel_rfl) (by kernel_rfl) (by kernel_rfl) (fun c a w h => hP0 c a _ _ w h) (Or.inl ⟨by rfl, ?_⟩) hS ?_
  · intro w hSw
    (try dsimp only at hSw)
    go_simp
  simp only [Act.put, List.setIfInBounds_toArray, List.set_cons_zero, List.set_cons_succ]
  refine wpAnyH_take (i := 2) (oi := { dst := some 18, op := Op.load 22 (Operand.tmp 17), type := 22, pos := "l01_roads.go:351", after := #[{ on := 1, ground := Ground.data }], guard := none }) (v := Value.float .f32 p) rfl (by kernel_rfl) (by kernel_rfl) (by kernel_rfl) (fun c a w h => hP0 c a _ _ w h) (Or.inl ⟨by rfl, ?_⟩) hS ?_
  · intro w hSw
    (try dsimp only at hSw)
    go_simp
  simp only [Act.put, List.setIfInBounds_toArray, List.set_cons_zero, List.set_cons_succ]
  refine wpAnyH_take (i := 3) (oi := { dst := some 19, op := Op.move (Operand.tmp 5), type := 64, pos := "l01_roads.go:351", after := #[], guard := none }) (v := Value.slice (some { block := g2, off := 0 }) 19 cap2) rfl (by kernel_rfl) (by kernel_rfl) (by kernel_rfl) (fun c a w h => hP0 c a _ _ w h) (Or.inl ⟨by rfl, ?_⟩) hS ?_
  · intro w hSw
    (try dsimp only at hSw)
    go_simp
  simp only [Act.put, List.setIfInBounds_toArray, List.set_cons_zero, List.set_cons_succ]
  refine wpAnyH_take (i := 4) (oi := { dst := some 20, op := Op.indexAddr 64 (Operand.tmp 19) (Operand.const (Value.int IntKind.i64 1)), type := 0, pos := "l01_roads.go:351", after := #[{ on := 3, ground := Ground.data }], guard := none }) (v := Value.pointer (some { block := g2, off := 1 })) rfl (by kernel_rfl) (by kernel_rfl) (by kernel_rfl) (fun c a w h => hP0 c a _ _ w h) (Or.inl ⟨by rfl, ?_⟩) hS ?_
  · intro w hSw
    (try dsimp only at hSw)
    go_simp
  simp only [Act.put, List.setIfInBounds_toArray, List.set_cons_zero, List.set_cons_succ]
  refine wpAnyH_take (i := 5) (oi := { dst := some 21, op := Op.load 22 (Operand.tmp 20), type := 22, pos := "l01_roads.go:351", after := #[{ on := 4, ground := Ground.data }], guard := none }) (v := Value.float .f32 q) rfl (by kernel_rfl) (by kernel_rfl) (by kernel_rfl) (fun c a w h => hP0 c a _ _ w h) (Or.inl ⟨by rfl, ?_⟩) hS ?_
  · intro w hSw
    (try dsimp only at hSw)
    go_simp
  simp only [Act.put, List.setIfInBounds_toArray, List.set_cons_zero, List.set_cons_succ]
  refine wpAnyH_take (i := 6) (oi := { dst := some 22, op := Op.move (Operand.tmp 5), type := 64, pos := "l01_roads.go:351", after := #[], guard := none }) (v := Value.slice (some { block := g2, off := 0 }) 19 cap2) rfl (by kernel_rfl) (by kernel_rfl) (by kernel_rfl) (fun c a w h => hP0 c a _ _ w h) (Or.inl ⟨by rfl, ?_⟩) hS ?_
  · intro w hSw
    (try dsimp only at hSw)
    go_simp
  simp only [Act.put, List.setIfInBounds_toArray, List.set_cons_zero, List.set_cons_succ]
  refine wpAnyH_take (i := 7) (oi := { dst := some 23, op := Op.indexAddr 64 (Operand.tmp 22) (Operand.const (Value.int IntKind.i64 2)), type := 0, pos := "l01_roads.go:351", after := #[{ on := 6, ground := Ground.data }], guard := none }) (v := Value.pointer (some { block := g2, off := 2 })) rfl (by kernel_rfl) (by kernel_rfl) (by kernel_rfl) (fun c a w h => hP0 c a _ _ w h) (Or.inl ⟨by rfl, ?_⟩) hS ?_
  · intro w hSw
    (try dsimp only at hSw)
    go_simp
  simp only [Act.put, List.setIfInBounds_toArray, List.set_cons_zero, List.set_cons_succ]
  refine wpAnyH_take (i := 8) (oi := { dst := some 24, op := Op.load 22 (Operand.tmp 23), type := 22, pos := "l01_roads.go:351", after := #[{ on := 7, ground := Ground.data }], guard := none }) (v := Value.float .f32 l) rfl (by kernel_rfl) (by kernel_rfl) (by kernel_rfl) (fun c a w h => hP0 c a _ _ w h) (Or.inl ⟨by rfl, ?_⟩) hS ?_
  · intro w hSw
    (try dsimp only at hSw)
    go_simp
  simp only [Act.put, List.setIfInBounds_toArray, List.set_cons_zero, List.set_cons_succ]
  refine wpAnyH_take (i := 9) (oi := { dst := some 25, op := Op.move (Operand.tmp 5), type := 64, pos := "l01_roads.go:351", after := #[], guard := none }) (v := Value.slice (some { block := g2, off := 0 }) 19 cap2) rfl (by kernel_rfl) (by kernel_rfl) (by kernel_rfl) (fun c a w h => hP0 c a _ _ w h) (Or.inl ⟨by rfl, ?_⟩) hS ?_
  · intro w hSw
    (try dsimp only at hSw)
    go_simp
  simp only [Act.put, List.setIfInBounds_toArray, List.set_cons_zero, List.set_cons_succ]
  refine wpAnyH_take (i := 10) (oi := { dst := some 26, op := Op.slice 64 (Operand.tmp 25) (some (Operand.const (Value.int IntKind.i64 3))) none none, type := 64, pos := "l01_roads.go:351", after := #[{ on := 9, ground := Ground.data }], guard := none }) (v := Value.slice (some { block := g2, off := 3 }) 16 (cap2 - 3)) rfl (by kernel_rfl) (by kernel_rfl) (by kernel_rfl) (fun c a w h => hP0 c a _ _ w h) (Or.inl ⟨by rfl, ?_⟩) hS ?_
  · intro w hSw
    (try dsimp only at hSw)
    go_simp
  simp only [Act.put, List.setIfInBounds_toArray, List.set_cons_zero, List.set_cons_succ]
  refine wpAnyH_take (i := 11) (oi := { dst := some 27, op := Op.sliceToArrayPointer 34 (Operand.tmp 26), type := 0, pos := "l01_roads.go:351", after := #[{ on := 10, ground := Ground.data }], guard := none }) (v := Value.pointer (some { block := g2, off := 3 })) rfl (by kernel_rfl) (by kernel_rfl) (by kernel_rfl) (fun c a w h => hP0 c a _ _ w h) (Or.inl ⟨by rfl, ?_⟩) hS ?_
  · intro w hSw
    (try dsimp only at hSw)
    go_simp
  simp only [Act.put, List.setIfInBounds_toArray, List.set_cons_zero, List.set_cons_succ]
  refine wpAnyH_take (i := 12) (oi := { dst := some 28, op := Op.load 34 (Operand.tmp 27), type := 34, pos := "l01_roads.go:351", after := #[{ on := 11, ground := Ground.data }], guard := none }) (v := Value.agg (List.toArray [Value.float .f32 r0, Value.float .f32 r1, Value.float .f32 r2, Value.float .f32 r3, Value.float .f32 r4, Value.float .f32 r5, Value.float .f32 r6, Value.float .f32 r7, Value.float .f32 r8, Value.float .f32 r9, Value.float .f32 r10, Value.float .f32 r11, Value.float .f32 r12, Value.float .f32 r13, Value.float .f32 r14, Value.float .f32 r15])) rfl (by kernel_rfl) (by kernel_rfl) (by kernel_rfl) (fun c a w h => hP0 c a _ _ w h) (yieldsIf_load_mid (by rfl) 34 (.tmp 27) rfl g2 3 rfl [Value.float .f32 r0, Value.float .f32 r1, Value.float .f32 r2, Value.float .f32 r3, Value.float .f32 r4, Value.float .f32 r5, Value.float .f32 r6, Value.float .f32 r7, Value.float .f32 r8, Value.float .f32 r9, Value.float .f32 r10, Value.float .f32 r11, Value.float .f32 r12, Value.float .f32 r13, Value.float .f32 r14, Value.float .f32 r15] _ (fun w h => h.2.2.2) Tryd.underlying34 rfl hs34) hS ?_
  simp only [Act.put, List.setIfInBounds_toArray, List.set_cons_zero, List.set_cons_succ]
  refine wpAnyH_take (i := 13) (oi := { dst := some 29, op := Op.build 36 #[(1, Operand.tmp 18), (2, Operand.tmp 21), (3, Operand.tmp 24), (0, Operand.tmp 28)], type := 36, pos := "l01_roads.go:351", after := #[{ on := 2, ground := Ground.data }, { on := 5, ground := Ground.data }, { on := 8, ground := Ground.data }, { on := 12, ground := Ground.data }], guard := none }) (v := Value.agg (List.toArray [Value.float .f32 r0, Value.float .f32 r1, Value.float .f32 r2, Value.float .f32 r3, Value.float .f32 r4, Value.float .f32 r5, Value.float .f32 r6, Value.float .f32 r7, Value.float .f32 r8, Value.float .f32 r9, Value.float .f32 r10, Value.float .f32 r11, Value.float .f32 r12, Value.float .f32 r13, Value.float .f32 r14, Value.float .f32 r15, Value.float .f32 p, Value.float .f32 q, Value.float .f32 l])) rfl (by kernel_rfl) (by kernel_rfl) (by kernel_rfl) (fun c a w h => hP0 c a _ _ w h) (Or.inl ⟨by rfl, ?_⟩) hS ?_
  · intro w hSw
    (try dsimp only at hSw)
    go_simp
  simp only [Act.put, List.setIfInBounds_toArray, List.set_cons_zero, List.set_cons_succ]
  refine wpAnyH_ready (rs := [14]) (by kernel_rfl) (by simp) ?_
  refine AllReadyH.cons (o := { dst := some 6, op := Op.alloc 36, type := 0, pos := "l01_roads.go:351", after := #[], guard := none }) rfl (fun K hK => ?_) AllReadyH.nil
  go_simp
  refine hK.out _ _ ?_ (fun hS1 => ?_)
  · exact ⟨d0, d1, d2, d3⟩
  clear hK K
  try simp only [Act.put, List.setIfInBounds_toArray, List.set_cons_zero, List.set_cons_succ]
  refine wpAnyH_ready (rs := [15]) (by kernel_rfl) (by simp) ?_
  refine AllReadyH.cons (o := { dst := none, op := Op.store 36 (Operand.tmp 6) (Operand.tmp 29), type := 0, pos := "l01_roads.go:351", after := #[{ on := 14, ground := Ground.data }, { on := 13, ground := Ground.data }, { on := 0, ground := Ground.phase }, { on := 1, ground := Ground.phase }, { on := 2, ground := Ground.phase }, { on := 3, ground := Ground.phase }, { on := 4, ground := Ground.phase }, { on := 5, ground := Ground.phase }, { on := 6, ground := Ground.phase }, { on := 7, ground := Ground.phase }, { on := 8, ground := Ground.phase }, { on := 9, ground := Ground.phase }, { on := 10, ground := Ground.phase }, { on := 11, ground := Ground.phase }, { on := 12, ground := Ground.phase }, { on := 13, ground := Ground.phase }, { on := 14, ground := Ground.phase }], guard := none }) rfl (fun K hK => ?_) AllReadyH.nil
  rw [if_pos (by rfl)]
  refine wp_store_mid 36 _ _ rfl w3.heap.size 0 _ rfl rfl hth hsz hone ?_
  refine hK.out _ _ ?_ (fun hS2 => ?_)
  · exact ⟨f0, f1, f2, f3⟩
  clear hK K
  simp only [Act.put]
  refine wpAnyH_done (by kernel_rfl) ?_ _
  exact HQ
end Go.Proofs.YtfeaddbehmodmaaDoor
