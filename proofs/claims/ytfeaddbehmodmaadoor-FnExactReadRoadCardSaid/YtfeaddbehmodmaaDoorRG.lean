/-
  ONE REGION OF THE REFERENCE'S READING, whose order is drawn. Conditions: those that stand in it.
-/
import Derived.Test.YtfeaddbehmodmaaDoorW1
import Derived.Deep.RegionHeld3
namespace Go.Proofs.YtfeaddbehmodmaaDoor
open Go.RowKit
set_option maxRecDepth 100000
set_option maxHeartbeats 800000
theorem reg7 {x0 x1 x2 x3 x4 x6 x8 x9 x10 x11 x12 x13 x14 x15 x16 x17 x18 x19 x20 x21 x22 x23 x24 x25 x26 x27 x28 x29 x40 x41 x42 x43 x44 x45 x46 x47 x48 x49 x50 x51 x52 x53 : Value} {g2 cap2 p q l : Nat} {w3 : World} (hg2 : g2 < w3.heap.size) (c0 : w3.cell? ⟨g2, 0, none⟩ = some (.float .f32 p)) (c1 : w3.cell? ⟨g2, 1, none⟩ = some (.float .f32 q)) (c2 : w3.cell? ⟨g2, 2, none⟩ = some (.float .f32 l))
    {Q : Exit → Act → World → Prop} (hP0 : ∀ (c : _) (a : Act) (d : Option Tmp) (v : Value) (w : World), Q (.panic c) (a.put d v) w → Q (.panic c) a w) (hQ : ∀ w', Slot w' w3.heap.size [0, 0, 0, 0, 0, 0, 0, 0, 0, 0, 0, 0, 0, 0, 0, 0, p, q, l] → Below w3.heap.size w3 w' → Q .normal { tmps := #[x0, x1, x2, x3, x4, Value.slice (some { block := g2, off := 0 }) 19 cap2, x6, Value.pointer (some { block := w3.heap.size, off := 0 }), x8, x9, x10, x11, x12, x13, x14, x15, x16, x17, x18, x19, x20, x21, x22, x23, x24, x25, x26, x27, x28, x29, Value.slice (some { block := g2, off := 0 }) 19 cap2, Value.pointer (some { block := g2, off := 0 }), Value.float .f32 p, Value.slice (some { block := g2, off := 0 }) 19 cap2, Value.pointer (some { block := g2, off := 1 }), Value.float .f32 q, Value.slice (some { block := g2, off := 0 }) 19 cap2, Value.pointer (some { block := g2, off := 2 }), Value.float .f32 l, Value.agg #[Value.float .f32 0, Value.float .f32 0, Value.float .f32 0, Value.float .f32 0, Value.float .f32 0, Value.float .f32 0, Value.float .f32 0, Value.float .f32 0, Value.float .f32 0, Value.float .f32 0, Value.float .f32 0, Value.float .f32 0, Value.float .f32 0, Value.float .f32 0, Value.float .f32 0, Value.float .f32 0, Value.float .f32 p, Value.float .f32 q, Value.float .f32 l], x40, x41, x42, x43, x44, x45, x46, x47, x48, x49, x50, x51, x52, x53], defers := [] } w') :
    (Code.region 7
      #[{ dst := some 30, op := Op.move (Operand.tmp 5), type := 64, pos := "l01_roads.go:387", after := #[],
          guard := none },
        { dst := some 31, op := Op.indexAddr 64 (Operand.tmp 30) (Operand.const (Value.int IntKind.i64 0)), type := 0,
          pos := "l01_roads.go:387", after := #[{ on := 0, ground := Ground.data }], guard := none },
        { dst := some 32, op := Op.load 22 (Operand.tmp 31), type := 22, pos := "l01_roads.go:387",
          after := #[{ on := 1, ground := Ground.data }], guard := none },
        { dst := some 33, op := Op.move (Operand.tmp 5), type := 64, pos := "l01_roads.go:387", after := #[],
          guard := none },
        { dst := some 34, op := Op.indexAddr 64 (Operand.tmp 33) (Operand.const (Value.int IntKind.i64 1)), type := 0,
          pos := "l01_roads.go:387", after := #[{ on := 3, ground := Ground.data }], guard := none },
        { dst := some 35, op := Op.load 22 (Operand.tmp 34), type := 22, pos := "l01_roads.go:387",
          after := #[{ on := 4, ground := Ground.data }], guard := none },
        { dst := some 36, op := Op.move (Operand.tmp 5), type := 64, pos := "l01_roads.go:387", after := #[],
          guard := none },
        { dst := some 37, op := Op.indexAddr 64 (Operand.tmp 36) (Operand.const (Value.int IntKind.i64 2)), type := 0,
          pos := "l01_roads.go:387", after := #[{ on := 6, ground := Ground.data }], guard := none },
        { dst := some 38, op := Op.load 22 (Operand.tmp 37), type := 22, pos := "l01_roads.go:387",
          after := #[{ on := 7, ground := Ground.data }], guard := none },
        { dst := some 39, op := Op.build 36 #[(1, Operand.tmp 32), (2, Operand.tmp 35), (3, Operand.tmp 38)],
          type := 36, pos := "l01_roads.go:387",
          after :=
            #[{ on := 2, ground := Ground.data }, { on := 5, ground := Ground.data },
              { on := 8, ground := Ground.data }],
          guard := none },
        { dst := some 7, op := Op.alloc 36, type := 0, pos := "l01_roads.go:387", after := #[], guard := none },
        { dst := none, op := Op.store 36 (Operand.tmp 7) (Operand.tmp 39), type := 0, pos := "l01_roads.go:387",
          after :=
            #[{ on := 10, ground := Ground.data }, { on := 9, ground := Ground.data },
              { on := 0, ground := Ground.phase }, { on := 1, ground := Ground.phase },
              { on := 2, ground := Ground.phase }, { on := 3, ground := Ground.phase },
              { on := 4, ground := Ground.phase }, { on := 5, ground := Ground.phase },
              { on := 6, ground := Ground.phase }, { on := 7, ground := Ground.phase },
              { on := 8, ground := Ground.phase }, { on := 9, ground := Ground.phase },
              { on := 10, ground := Ground.phase }],
          guard := none }]
      true).wp Tryd.prog Q { tmps := #[x0, x1, x2, x3, x4, Value.slice (some { block := g2, off := 0 }) 19 cap2, x6, undef, x8, x9, x10, x11, x12, x13, x14, x15, x16, x17, x18, x19, x20, x21, x22, x23, x24, x25, x26, x27, x28, x29, undef, undef, undef, undef, undef, undef, undef, undef, undef, undef, x40, x41, x42, x43, x44, x45, x46, x47, x48, x49, x50, x51, x52, x53], defers := [] } w3 := by
  have hS7 := (slot_new w3 z19).drew
  have hB7 : Below w3.heap.size w3 (w3.alloc (.cells #[Value.float .f32 0, Value.float .f32 0, Value.float .f32 0, Value.float .f32 0, Value.float .f32 0, Value.float .f32 0, Value.float .f32 0, Value.float .f32 0, Value.float .f32 0, Value.float .f32 0, Value.float .f32 0, Value.float .f32 0, Value.float .f32 0, Value.float .f32 0, Value.float .f32 0, Value.float .f32 0, Value.float .f32 0, Value.float .f32 0, Value.float .f32 0] 36)).drew := ((Below.refl _ _).alloc (Nat.le_refl _) _).drew
  have hth : ((w3.alloc (.cells #[Value.float .f32 0, Value.float .f32 0, Value.float .f32 0, Value.float .f32 0, Value.float .f32 0, Value.float .f32 0, Value.float .f32 0, Value.float .f32 0, Value.float .f32 0, Value.float .f32 0, Value.float .f32 0, Value.float .f32 0, Value.float .f32 0, Value.float .f32 0, Value.float .f32 0, Value.float .f32 0, Value.float .f32 0, Value.float .f32 0, Value.float .f32 0] 36)).drew).there w3.heap.size 0 (List.toArray [Value.float .f32 0, Value.float .f32 0, Value.float .f32 0, Value.float .f32 0, Value.float .f32 0, Value.float .f32 0, Value.float .f32 0, Value.float .f32 0, Value.float .f32 0, Value.float .f32 0, Value.float .f32 0, Value.float .f32 0, Value.float .f32 0, Value.float .f32 0, Value.float .f32 0, Value.float .f32 0, Value.float .f32 p, Value.float .f32 q, Value.float .f32 l]).size := hS7.there rfl
  have hsz : (Tryd.prog.info? 36).map (·.size) = some (List.toArray [Value.float .f32 0, Value.float .f32 0, Value.float .f32 0, Value.float .f32 0, Value.float .f32 0, Value.float .f32 0, Value.float .f32 0, Value.float .f32 0, Value.float .f32 0, Value.float .f32 0, Value.float .f32 0, Value.float .f32 0, Value.float .f32 0, Value.float .f32 0, Value.float .f32 0, Value.float .f32 0, Value.float .f32 p, Value.float .f32 q, Value.float .f32 l]).size := flsize (cs := [0, 0, 0, 0, 0, 0, 0, 0, 0, 0, 0, 0, 0, 0, 0, 0, p, q, l]) rfl
  have hone : (List.toArray [Value.float .f32 0, Value.float .f32 0, Value.float .f32 0, Value.float .f32 0, Value.float .f32 0, Value.float .f32 0, Value.float .f32 0, Value.float .f32 0, Value.float .f32 0, Value.float .f32 0, Value.float .f32 0, Value.float .f32 0, Value.float .f32 0, Value.float .f32 0, Value.float .f32 0, Value.float .f32 0, Value.float .f32 p, Value.float .f32 q, Value.float .f32 l]).all (·.oneCell') = true := fl_one [0, 0, 0, 0, 0, 0, 0, 0, 0, 0, 0, 0, 0, 0, 0, 0, p, q, l]
  have d0 := (hB7.cell (p := ⟨g2, 0, none⟩) hg2).trans c0
  have d1 := (hB7.cell (p := ⟨g2, 1, none⟩) hg2).trans c1
  have d2 := (hB7.cell (p := ⟨g2, 2, none⟩) hg2).trans c2
  have hB9 := below_cells hB7 (Nat.le_refl _) 0 (fl [0, 0, 0, 0, 0, 0, 0, 0, 0, 0, 0, 0, 0, 0, 0, 0, p, q, l])
  have f0 := (hB9.cell (p := ⟨g2, 0, none⟩) hg2).trans c0
  have f1 := (hB9.cell (p := ⟨g2, 1, none⟩) hg2).trans c1
  have f2 := (hB9.cell (p := ⟨g2, 2, none⟩) hg2).trans c2
  have HQ := hQ _ (hS7.store (ds := [0, 0, 0, 0, 0, 0, 0, 0, 0, 0, 0, 0, 0, 0, 0, 0, p, q, l]) rfl) hB9
  refine wp_region_held_drew (S := fun w' => w'.cell? ⟨g2, 0, none⟩ = some (.float .f32 p) ∧ w'.cell? ⟨g2, 1, none⟩ = some (.float .f32 q) ∧ w'.cell? ⟨g2, 2, none⟩ = some (.float .f32 l)) (by kernel_rfl) ⟨c0, c1, c2⟩ (fun hS => ?_)
  refine wpAnyH_take (i := 0) (oi := { dst := some 30, op := Op.move (Operand.tmp 5), type := 64, pos := "l01_roads.go:387", after := #[], guard := none }) (v := Value.slice (some { block := g2, off := 0 }) 19 cap2) rfl (by kernel_rfl) (by kernel_rfl) (by kernel_rfl) (fun c a w h => hP0 c a _ _ w h) (Or.inl ⟨by rfl, ?_⟩) hS ?_
  · intro w hSw
    (try dsimp only at hSw)
    go_simp
  simp only [Act.put, List.setIfInBounds_toArray, List.set_cons_zero, List.set_cons_succ]
  refine wpAnyH_take (i := 1) (oi := { dst := some 31, op := Op.indexAddr 64 (Operand.tmp 30) (Operand.const (Value.int IntKind.i64 0)), type := 0, pos := "l01_roads.go:387", after := #[{ on := 0, ground := Ground.data }], guard := none }) (v := Value.pointer (some { block := g2, off := 0 })) rfl (by kernel_rfl) (by kernel_rfl) (by kernel_rfl) (fun c a w h => hP0 c a _ _ w h) (Or.inl ⟨by rfl, ?_⟩) hS ?_
  · intro w hSw
    (try dsimp only at hSw)
    go_simp
  simp only [Act.put, List.setIfInBounds_toArray, List.set_cons_zero, List.set_cons_succ]
  refine wpAnyH_take (i := 2) (oi := { dst := some 32, op := Op.load 22 (Operand.tmp 31), type := 22, pos := "l01_roads.go:387", after := #[{ on := 1, ground := Ground.data }], guard := none }) (v := Value.float .f32 p) rfl (by kernel_rfl) (by kernel_rfl) (by kernel_rfl) (fun c a w h => hP0 c a _ _ w h) (Or.inl ⟨by rfl, ?_⟩) hS ?_
  · intro w hSw
    (try dsimp only at hSw)
    go_simp
  simp only [Act.put, List.setIfInBounds_toArray, List.set_cons_zero, List.set_cons_succ]
  refine wpAnyH_take (i := 3) (oi := { dst := some 33, op := Op.move (Operand.tmp 5), type := 64, pos := "l01_roads.go:387", after := #[], guard := none }) (v := Value.slice (some { block := g2, off := 0 }) 19 cap2) rfl (by kernel_rfl) (by kernel_rfl) (by kernel_rfl) (fun c a w h => hP0 c a _ _ w h) (Or.inl ⟨by rfl, ?_⟩) hS ?_
  · intro w hSw
    (try dsimp only at hSw)
    go_simp
  simp only [Act.put, List.setIfInBounds_toArray, List.set_cons_zero, List.set_cons_succ]
  refine wpAnyH_take (i := 4) (oi := { dst := some 34, op := Op.indexAddr 64 (Operand.tmp 33) (Operand.const (Value.int IntKind.i64 1)), type := 0, pos := "l01_roads.go:387", after := #[{ on := 3, ground := Ground.data }], guard := none }) (v := Value.pointer (some { block := g2, off := 1 })) rfl (by kernel_rfl) (by kernel_rfl) (by kernel_rfl) (fun c a w h => hP0 c a _ _ w h) (Or.inl ⟨by rfl, ?_⟩) hS ?_
  · intro w hSw
    (try dsimp only at hSw)
    go_simp
  simp only [Act.put, List.setIfInBounds_toArray, List.set_cons_zero, List.set_cons_succ]
  refine wpAnyH_take (i := 5) (oi := { dst := some 35, op := Op.load 22 (Operand.tmp 34), type := 22, pos := "l01_roads.go:387", after := #[{ on := 4, ground := Ground.data }], guard := none }) (v := Value.float .f32 q) rfl (by kernel_rfl) (by kernel_rfl) (by kernel_rfl) (fun c a w h => hP0 c a _ _ w h) (Or.inl ⟨by rfl, ?_⟩) hS ?_
  · intro w hSw
    (try dsimp only at hSw)
    go_simp
  simp only [Act.put, List.setIfInBounds_toArray, List.set_cons_zero, List.set_cons_succ]
  refine wpAnyH_take (i := 6) (oi := { dst := some 36, op := Op.move (Operand.tmp 5), type := 64, pos := "l01_roads.go:387", after := #[], guard := none }) (v := Value.slice (some { block := g2, off := 0 }) 19 cap2) rfl (by kernel_rfl) (by kernel_rfl) (by kernel_rfl) (fun c a w h => hP0 c a _ _ w h) (Or.inl ⟨by rfl, ?_⟩) hS ?_
  · intro w hSw
    (try dsimp only at hSw)
    go_simp
  simp only [Act.put, List.setIfInBounds_toArray, List.set_cons_zero, List.set_cons_succ]
  refine wpAnyH_take (i := 7) (oi := { dst := some 37, op := Op.indexAddr 64 (Operand.tmp 36) (Operand.const (Value.int IntKind.i64 2)), type := 0, pos := "l01_roads.go:387", after := #[{ on := 6, ground := Ground.data }], guard := none }) (v := Value.pointer (some { block := g2, off := 2 })) rfl (by kernel_rfl) (by kernel_rfl) (by kernel_rfl) (fun c a w h => hP0 c a _ _ w h) (Or.inl ⟨by rfl, ?_⟩) hS ?_
  · intro w hSw
    (try dsimp only at hSw)
    go_simp
  simp only [Act.put, List.setIfInBounds_toArray, List.set_cons_zero, List.set_cons_succ]
  refine wpAnyH_take (i := 8) (oi := { dst := some 38, op := Op.load 22 (Operand.tmp 37), type := 22, pos := "l01_roads.go:387", after := #[{ on := 7, ground := Ground.data }], guard := none }) (v := Value.float .f32 l) rfl (by kernel_rfl) (by kernel_rfl) (by kernel_rfl) (fun c a w h => hP0 c a _ _ w h) (Or.inl ⟨by rfl, ?_⟩) hS ?_
  · intro w hSw
    (try dsimp only at hSw)
    go_simp
  simp only [Act.put, List.setIfInBounds_toArray, List.set_cons_zero, List.set_cons_succ]
  refine wpAnyH_take (i := 9) (oi := { dst := some 39, op := Op.build 36 #[(1, Operand.tmp 32), (2, Operand.tmp 35), (3, Operand.tmp 38)], type := 36, pos := "l01_roads.go:387", after := #[{ on := 2, ground := Ground.data }, { on := 5, ground := Ground.data }, { on := 8, ground := Ground.data }], guard := none }) (v := Value.agg #[Value.float .f32 0, Value.float .f32 0, Value.float .f32 0, Value.float .f32 0, Value.float .f32 0, Value.float .f32 0, Value.float .f32 0, Value.float .f32 0, Value.float .f32 0, Value.float .f32 0, Value.float .f32 0, Value.float .f32 0, Value.float .f32 0, Value.float .f32 0, Value.float .f32 0, Value.float .f32 0, Value.float .f32 p, Value.float .f32 q, Value.float .f32 l]) rfl (by kernel_rfl) (by kernel_rfl) (by kernel_rfl) (fun c a w h => hP0 c a _ _ w h) (Or.inl ⟨by rfl, ?_⟩) hS ?_
  · intro w hSw
    (try dsimp only at hSw)
    go_simp
  simp only [Act.put, List.setIfInBounds_toArray, List.set_cons_zero, List.set_cons_succ]
  refine wpAnyH_ready (rs := [10]) (by kernel_rfl) (by simp) ?_
  refine AllReadyH.cons (o := { dst := some 7, op := Op.alloc 36, type := 0, pos := "l01_roads.go:387", after := #[], guard := none }) rfl (fun K hK => ?_) AllReadyH.nil
  go_simp
  refine hK.out _ _ ?_ (fun hS1 => ?_)
  · exact ⟨d0, d1, d2⟩
  clear hK K
  try simp only [Act.put, List.setIfInBounds_toArray, List.set_cons_zero, List.set_cons_succ]
  refine wpAnyH_ready (rs := [11]) (by kernel_rfl) (by simp) ?_
  refine AllReadyH.cons (o := { dst := none, op := Op.store 36 (Operand.tmp 7) (Operand.tmp 39), type := 0, pos := "l01_roads.go:387", after := #[{ on := 10, ground := Ground.data }, { on := 9, ground := Ground.data }, { on := 0, ground := Ground.phase }, { on := 1, ground := Ground.phase }, { on := 2, ground := Ground.phase }, { on := 3, ground := Ground.phase }, { on := 4, ground := Ground.phase }, { on := 5, ground := Ground.phase }, { on := 6, ground := Ground.phase }, { on := 7, ground := Ground.phase }, { on := 8, ground := Ground.phase }, { on := 9, ground := Ground.phase }, { on := 10, ground := Ground.phase }], guard := none }) rfl (fun K hK => ?_) AllReadyH.nil
  rw [if_pos (by rfl)]
  refine wp_store_mid 36 _ _ rfl w3.heap.size 0 _ rfl rfl hth hsz hone ?_
  refine hK.out _ _ ?_ (fun hS2 => ?_)
  · exact ⟨f0, f1, f2⟩
  clear hK K
  simp only [Act.put]
  refine wpAnyH_done (by kernel_rfl) ?_ _
  exact HQ
end Go.Proofs.YtfeaddbehmodmaaDoor
