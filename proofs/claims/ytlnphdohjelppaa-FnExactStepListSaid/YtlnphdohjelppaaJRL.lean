/-
  ONE REGION OF THE PROGRAM'S STEPS OVER A LIST, whose order is drawn. Conditions: those that stand in it.
-/
import Derived.Test.YtlnphdohjelppaaJC
import Derived.Test.YtlnphdohjelppaaJE
namespace Go.Proofs.Ytlnphdohjelppaa
open Go.RowKit
set_option maxRecDepth 100000
set_option maxHeartbeats 1600000
theorem regL {x0 x4 x5 x6 x7 x8 x9 x10 x11 x13 x14 x15 x16 x17 x18 x19 x20 x21 x22 x23 x24 x25 x26 x27 x28 x29 x30 x31 x32 x33 x34 x35 x36 x37 x38 x39 x40 x41 x42 x43 : Value} {g1 g2 n k x y B : Nat} {cs : List Nat} {w0 wr : World} (hR : Road19 cs) (hx : x < Sx.bits .f32) (hy : y < Sx.bits .f32) (hki : (k : Int) < (n : Int)) (hB0 : w0.heap.size ≤ B) (hsl : Slot wr B cs)
    (hc1 : ∀ w', Below w0.heap.size w0 w' → w'.cell? ⟨g1, k, none⟩ = some (.float .f32 x)) (hc2 : ∀ w', Below w0.heap.size w0 w' → w'.cell? ⟨g2, k, none⟩ = some (.float .f32 y)) (hb : Below w0.heap.size w0 wr)
    {Q : Exit → Act → World → Prop} (hP0 : ∀ (c : _) (a : Act) (d : Option Tmp) (v : Value) (w : World), Q (.panic c) (a.put d v) w → Q (.panic c) a w)
    (hQ : ∀ (cs' : List Nat) (a' b' : Nat) (w1 w' : World), Road19 cs' → rho cs' = stepR (rho cs) ((Sx.nz .f32 x : Nat) : Int) ((Sx.nz .f32 y : Nat) : Int) → a' < Sx.bits .f32 → b' < Sx.bits .f32 → ((Sx.nz .f32 a' : Nat) : Int) = cameV (rho cs) ((Sx.nz .f32 x : Nat) : Int) ((Sx.nz .f32 y : Nat) : Int) → ((Sx.nz .f32 b' : Nat) : Int) = wentV (rho cs) ((Sx.nz .f32 x : Nat) : Int) ((Sx.nz .f32 y : Nat) : Int) →
      Below wr.heap.size wr w1 → w' = w1.setCells B 0 (fl cs') → Slot w' B cs' → Below w0.heap.size w0 w' → Q .normal { tmps := #[x0, Value.slice (some { block := g1, off := 0 }) n n, Value.slice (some { block := g2, off := 0 }) n n, Value.pointer (some { block := B, off := 0 }), x4, x5, x6, x7, x8, x9, x10, x11, Value.int .i64 k, Value.float .f32 a', Value.float .f32 b', x15, x16, x17, x18, x19, Value.tuple #[.agg (fl cs').toArray, .float .f32 a', .float .f32 b'], Value.agg (fl cs).toArray, Value.slice (some { block := g1, off := 0 }) n n, Value.int .i64 k, Value.pointer (some { block := g1, off := k }), Value.float .f32 x, Value.slice (some { block := g2, off := 0 }) n n, Value.int .i64 k, Value.pointer (some { block := g2, off := k }), Value.float .f32 y, Value.tuple #[.agg (fl cs').toArray, .float .f32 a', .float .f32 b'], Value.agg (fl cs').toArray, Value.float .f32 a', Value.float .f32 b', x34, x35, x36, x37, x38, x39, x40, x41, x42, x43], defers := [] } w') :
    (Code.region 6
      #[{ dst := some 21, op := Op.load 29 (Operand.tmp 3), type := 29, pos := "l02_waves.go:65", after := #[],
          guard := none },
        { dst := some 22, op := Op.move (Operand.tmp 1), type := 26, pos := "l02_waves.go:65", after := #[],
          guard := none },
        { dst := some 23, op := Op.move (Operand.tmp 12), type := 3, pos := "l02_waves.go:65", after := #[],
          guard := none },
        { dst := some 24, op := Op.indexAddr 26 (Operand.tmp 22) (Operand.tmp 23), type := 0, pos := "l02_waves.go:65",
          after := #[{ on := 1, ground := Ground.data }, { on := 2, ground := Ground.data }], guard := none },
        { dst := some 25, op := Op.load 22 (Operand.tmp 24), type := 22, pos := "l02_waves.go:65",
          after := #[{ on := 3, ground := Ground.data }], guard := none },
        { dst := some 26, op := Op.move (Operand.tmp 2), type := 26, pos := "l02_waves.go:65", after := #[],
          guard := none },
        { dst := some 27, op := Op.move (Operand.tmp 12), type := 3, pos := "l02_waves.go:65", after := #[],
          guard := none },
        { dst := some 28, op := Op.indexAddr 26 (Operand.tmp 26) (Operand.tmp 27), type := 0, pos := "l02_waves.go:65",
          after := #[{ on := 5, ground := Ground.data }, { on := 6, ground := Ground.data }], guard := none },
        { dst := some 29, op := Op.load 22 (Operand.tmp 28), type := 22, pos := "l02_waves.go:65",
          after := #[{ on := 7, ground := Ground.data }], guard := none },
        { dst := some 30,
          op :=
            Op.call
              { callee := Callee.value (Operand.func 36), args := #[Operand.tmp 21, Operand.tmp 25, Operand.tmp 29],
                argTypes := #[29, 22, 22] },
          type := 62, pos := "l02_waves.go:65",
          after :=
            #[{ on := 0, ground := Ground.data }, { on := 4, ground := Ground.data },
              { on := 8, ground := Ground.data }],
          guard := none },
        { dst := some 20, op := Op.move (Operand.tmp 30), type := 62, pos := "l02_waves.go:65",
          after := #[{ on := 9, ground := Ground.data }], guard := none },
        { dst := some 31, op := Op.extract (Operand.tmp 20) 0, type := 29, pos := "l02_waves.go:65",
          after := #[{ on := 10, ground := Ground.data }], guard := none },
        { dst := some 32, op := Op.extract (Operand.tmp 20) 1, type := 22, pos := "l02_waves.go:65",
          after := #[{ on := 10, ground := Ground.data }, { on := 14, ground := Ground.gcOnly Departure.lateStores }],
          guard := none },
        { dst := some 33, op := Op.extract (Operand.tmp 20) 2, type := 22, pos := "l02_waves.go:65",
          after := #[{ on := 10, ground := Ground.data }, { on := 15, ground := Ground.gcOnly Departure.lateStores }],
          guard := none },
        { dst := none, op := Op.store 29 (Operand.tmp 3) (Operand.tmp 31), type := 0, pos := "l02_waves.go:65",
          after :=
            #[{ on := 11, ground := Ground.data }, { on := 9, ground := Ground.chain },
              { on := 0, ground := Ground.phase }, { on := 1, ground := Ground.phase },
              { on := 2, ground := Ground.phase }, { on := 3, ground := Ground.phase },
              { on := 4, ground := Ground.phase }, { on := 5, ground := Ground.phase },
              { on := 6, ground := Ground.phase }, { on := 7, ground := Ground.phase },
              { on := 8, ground := Ground.phase }, { on := 9, ground := Ground.phase },
              { on := 10, ground := Ground.phase }, { on := 11, ground := Ground.phase },
              { on := 12, ground := Ground.textOnly Departure.lateStores },
              { on := 13, ground := Ground.textOnly Departure.lateStores }],
          guard := none },
        { dst := some 13, op := Op.assign (Operand.tmp 32), type := 22, pos := "l02_waves.go:65",
          after :=
            #[{ on := 12, ground := Ground.data }, { on := 14, ground := Ground.chain },
              { on := 0, ground := Ground.phase }, { on := 1, ground := Ground.phase },
              { on := 2, ground := Ground.phase }, { on := 3, ground := Ground.phase },
              { on := 4, ground := Ground.phase }, { on := 5, ground := Ground.phase },
              { on := 6, ground := Ground.phase }, { on := 7, ground := Ground.phase },
              { on := 8, ground := Ground.phase }, { on := 9, ground := Ground.phase },
              { on := 10, ground := Ground.phase }, { on := 11, ground := Ground.phase },
              { on := 12, ground := Ground.phase }, { on := 13, ground := Ground.textOnly Departure.lateStores },
              { on := 14, ground := Ground.phase }],
          guard := none },
        { dst := some 14, op := Op.assign (Operand.tmp 33), type := 22, pos := "l02_waves.go:65",
          after :=
            #[{ on := 13, ground := Ground.data }, { on := 15, ground := Ground.chain },
              { on := 0, ground := Ground.phase }, { on := 1, ground := Ground.phase },
              { on := 2, ground := Ground.phase }, { on := 3, ground := Ground.phase },
              { on := 4, ground := Ground.phase }, { on := 5, ground := Ground.phase },
              { on := 6, ground := Ground.phase }, { on := 7, ground := Ground.phase },
              { on := 8, ground := Ground.phase }, { on := 9, ground := Ground.phase },
              { on := 10, ground := Ground.phase }, { on := 11, ground := Ground.phase },
              { on := 12, ground := Ground.phase }, { on := 13, ground := Ground.phase },
              { on := 14, ground := Ground.phase }, { on := 15, ground := Ground.phase }],
          guard := none }]
      true).wp Try.prog Q { tmps := #[x0, Value.slice (some { block := g1, off := 0 }) n n, Value.slice (some { block := g2, off := 0 }) n n, Value.pointer (some { block := B, off := 0 }), x4, x5, x6, x7, x8, x9, x10, x11, Value.int .i64 k, x13, x14, x15, x16, x17, x18, x19, x20, x21, x22, x23, x24, x25, x26, x27, x28, x29, x30, x31, x32, x33, x34, x35, x36, x37, x38, x39, x40, x41, x42, x43], defers := [] } wr := by
  refine wp_region_held_drew (S := fun w' => Below w0.heap.size w0 w') (by kernel_rfl) hb.drew (fun hS => ?_)
  refine wpAnyH_take (i := 1) (oi := { dst := some 22, op := Op.move (Operand.tmp 1), type := 26, pos := "l02_waves.go:65", after := #[], guard := none }) (v := Value.slice (some { block := g1, off := 0 }) n n) rfl (by kernel_rfl) (by kernel_rfl) (by kernel_rfl) (fun c a w h => hP0 c a _ _ w h) (Or.inl ⟨by rfl, ?_⟩) hS ?_
  · intro w hSw
    have e1 := hc1 w hSw
    have e2 := hc2 w hSw
    go_simp
  simp only [Act.put, List.setIfInBounds_toArray, List.set_cons_zero, List.set_cons_succ]
  refine wpAnyH_take (i := 2) (oi := { dst := some 23, op := Op.move (Operand.tmp 12), type := 3, pos := "l02_waves.go:65", after := #[], guard := none }) (v := Value.int .i64 k) rfl (by kernel_rfl) (by kernel_rfl) (by kernel_rfl) (fun c a w h => hP0 c a _ _ w h) (Or.inl ⟨by rfl, ?_⟩) hS ?_
  · intro w hSw
    have e1 := hc1 w hSw
    have e2 := hc2 w hSw
    go_simp
  simp only [Act.put, List.setIfInBounds_toArray, List.set_cons_zero, List.set_cons_succ]
  refine wpAnyH_take (i := 3) (oi := { dst := some 24, op := Op.indexAddr 26 (Operand.tmp 22) (Operand.tmp 23), type := 0, pos := "l02_waves.go:65", after := #[{ on := 1, ground := Ground.data }, { on := 2, ground := Ground.data }], guard := none }) (v := Value.pointer (some { block := g1, off := k })) rfl (by kernel_rfl) (by kernel_rfl) (by kernel_rfl) (fun c a w h => hP0 c a _ _ w h) (Or.inl ⟨by rfl, ?_⟩) hS ?_
  · intro w hSw
    have e1 := hc1 w hSw
    have e2 := hc2 w hSw
    go_simp
  simp only [Act.put, List.setIfInBounds_toArray, List.set_cons_zero, List.set_cons_succ]
  refine wpAnyH_take (i := 4) (oi := { dst := some 25, op := Op.load 22 (Operand.tmp 24), type := 22, pos := "l02_waves.go:65", after := #[{ on := 3, ground := Ground.data }], guard := none }) (v := Value.float .f32 x) rfl (by kernel_rfl) (by kernel_rfl) (by kernel_rfl) (fun c a w h => hP0 c a _ _ w h) (Or.inl ⟨by rfl, ?_⟩) hS ?_
  · intro w hSw
    have e1 := hc1 w hSw
    have e2 := hc2 w hSw
    go_simp
  simp only [Act.put, List.setIfInBounds_toArray, List.set_cons_zero, List.set_cons_succ]
  refine wpAnyH_take (i := 5) (oi := { dst := some 26, op := Op.move (Operand.tmp 2), type := 26, pos := "l02_waves.go:65", after := #[], guard := none }) (v := Value.slice (some { block := g2, off := 0 }) n n) rfl (by kernel_rfl) (by kernel_rfl) (by kernel_rfl) (fun c a w h => hP0 c a _ _ w h) (Or.inl ⟨by rfl, ?_⟩) hS ?_
  · intro w hSw
    have e1 := hc1 w hSw
    have e2 := hc2 w hSw
    go_simp
  simp only [Act.put, List.setIfInBounds_toArray, List.set_cons_zero, List.set_cons_succ]
  refine wpAnyH_take (i := 6) (oi := { dst := some 27, op := Op.move (Operand.tmp 12), type := 3, pos := "l02_waves.go:65", after := #[], guard := none }) (v := Value.int .i64 k) rfl (by kernel_rfl) (by kernel_rfl) (by kernel_rfl) (fun c a w h => hP0 c a _ _ w h) (Or.inl ⟨by rfl, ?_⟩) hS ?_
  · intro w hSw
    have e1 := hc1 w hSw
    have e2 := hc2 w hSw
    go_simp
  simp only [Act.put, List.setIfInBounds_toArray, List.set_cons_zero, List.set_cons_succ]
  refine wpAnyH_take (i := 7) (oi := { dst := some 28, op := Op.indexAddr 26 (Operand.tmp 26) (Operand.tmp 27), type := 0, pos := "l02_waves.go:65", after := #[{ on := 5, ground := Ground.data }, { on := 6, ground := Ground.data }], guard := none }) (v := Value.pointer (some { block := g2, off := k })) rfl (by kernel_rfl) (by kernel_rfl) (by kernel_rfl) (fun c a w h => hP0 c a _ _ w h) (Or.inl ⟨by rfl, ?_⟩) hS ?_
  · intro w hSw
    have e1 := hc1 w hSw
    have e2 := hc2 w hSw
    go_simp
  simp only [Act.put, List.setIfInBounds_toArray, List.set_cons_zero, List.set_cons_succ]
  refine wpAnyH_take (i := 8) (oi := { dst := some 29, op := Op.load 22 (Operand.tmp 28), type := 22, pos := "l02_waves.go:65", after := #[{ on := 7, ground := Ground.data }], guard := none }) (v := Value.float .f32 y) rfl (by kernel_rfl) (by kernel_rfl) (by kernel_rfl) (fun c a w h => hP0 c a _ _ w h) (Or.inl ⟨by rfl, ?_⟩) hS ?_
  · intro w hSw
    have e1 := hc1 w hSw
    have e2 := hc2 w hSw
    go_simp
  simp only [Act.put, List.setIfInBounds_toArray, List.set_cons_zero, List.set_cons_succ]
  refine wpAnyH_ready (rs := [0]) (by kernel_rfl) (by simp) ?_
  refine AllReadyH.cons (o := { dst := some 21, op := Op.load 29 (Operand.tmp 3), type := 29, pos := "l02_waves.go:65", after := #[], guard := none }) rfl (fun K hK => ?_) AllReadyH.nil
  rw [if_pos (by rfl)]
  refine wp_load_mid 29 (.tmp 3) rfl B 0 rfl (fl cs) _ hsl.drew.range Try.underlying29 rfl (flsize hR.1) ?_
  refine hK.out _ _ ?_ (fun hS1 => ?_)
  · exact hS
  clear hK K
  simp only [Act.put, List.setIfInBounds_toArray, List.set_cons_zero, List.set_cons_succ]
  refine wpAnyH_ready (rs := [9]) (by kernel_rfl) (by simp) ?_
  refine AllReadyH.cons (o := { dst := some 30, op := Op.call { callee := Callee.value (Operand.func 36), args := #[Operand.tmp 21, Operand.tmp 25, Operand.tmp 29], argTypes := #[29, 22, 22] }, type := 62, pos := "l02_waves.go:65", after := #[{ on := 0, ground := Ground.data }, { on := 4, ground := Ground.data }, { on := 8, ground := Ground.data }], guard := none }) rfl (fun K hK => ?_) AllReadyH.nil
  go_simp
  refine (stepI hR hx hy wr.drew).mono ?_
  rintro e w1 ⟨cs', a', b', rfl, hR', hr', ha', hb', hva, hvb, hbel⟩
  have hb1 : Below w0.heap.size w0 w1 := hS.trans (hbel.mono hS.size)
  refine hK.out _ _ ?_ (fun hS2 => ?_)
  · exact hb1
  clear hK K
  try simp only [Act.put, List.setIfInBounds_toArray, List.set_cons_zero, List.set_cons_succ]
  refine wpAnyH_take (i := 10) (oi := { dst := some 20, op := Op.move (Operand.tmp 30), type := 62, pos := "l02_waves.go:65", after := #[{ on := 9, ground := Ground.data }], guard := none }) (v := Value.tuple #[.agg (fl cs').toArray, .float .f32 a', .float .f32 b']) rfl (by kernel_rfl) (by kernel_rfl) (by kernel_rfl) (fun c a w h => hP0 c a _ _ w h) (Or.inl ⟨by rfl, ?_⟩) hb1 ?_
  · intro w hSw
    have e1 := hc1 w hSw
    have e2 := hc2 w hSw
    go_simp
  simp only [Act.put, List.setIfInBounds_toArray, List.set_cons_zero, List.set_cons_succ]
  refine wpAnyH_take (i := 11) (oi := { dst := some 31, op := Op.extract (Operand.tmp 20) 0, type := 29, pos := "l02_waves.go:65", after := #[{ on := 10, ground := Ground.data }], guard := none }) (v := Value.agg (fl cs').toArray) rfl (by kernel_rfl) (by kernel_rfl) (by kernel_rfl) (fun c a w h => hP0 c a _ _ w h) (Or.inl ⟨by rfl, ?_⟩) hb1 ?_
  · intro w hSw
    have e1 := hc1 w hSw
    have e2 := hc2 w hSw
    go_simp
  simp only [Act.put, List.setIfInBounds_toArray, List.set_cons_zero, List.set_cons_succ]
  refine wpAnyH_take (i := 12) (oi := { dst := some 32, op := Op.extract (Operand.tmp 20) 1, type := 22, pos := "l02_waves.go:65", after := #[{ on := 10, ground := Ground.data }, { on := 14, ground := Ground.gcOnly Departure.lateStores }], guard := none }) (v := Value.float .f32 a') rfl (by kernel_rfl) (by kernel_rfl) (by kernel_rfl) (fun c a w h => hP0 c a _ _ w h) (Or.inl ⟨by rfl, ?_⟩) hb1 ?_
  · intro w hSw
    have e1 := hc1 w hSw
    have e2 := hc2 w hSw
    go_simp
  simp only [Act.put, List.setIfInBounds_toArray, List.set_cons_zero, List.set_cons_succ]
  refine wpAnyH_take (i := 13) (oi := { dst := some 33, op := Op.extract (Operand.tmp 20) 2, type := 22, pos := "l02_waves.go:65", after := #[{ on := 10, ground := Ground.data }, { on := 15, ground := Ground.gcOnly Departure.lateStores }], guard := none }) (v := Value.float .f32 b') rfl (by kernel_rfl) (by kernel_rfl) (by kernel_rfl) (fun c a w h => hP0 c a _ _ w h) (Or.inl ⟨by rfl, ?_⟩) hb1 ?_
  · intro w hSw
    have e1 := hc1 w hSw
    have e2 := hc2 w hSw
    go_simp
  simp only [Act.put, List.setIfInBounds_toArray, List.set_cons_zero, List.set_cons_succ]
  have hs1 : Slot w1 B cs := hsl.drew.below hbel hsl.lt
  refine wpAnyH_ready (rs := [14]) (by kernel_rfl) (by simp) ?_
  refine AllReadyH.cons (o := { dst := none, op := Op.store 29 (Operand.tmp 3) (Operand.tmp 31), type := 0, pos := "l02_waves.go:65", after := #[{ on := 11, ground := Ground.data }, { on := 9, ground := Ground.chain }, { on := 0, ground := Ground.phase }, { on := 1, ground := Ground.phase }, { on := 2, ground := Ground.phase }, { on := 3, ground := Ground.phase }, { on := 4, ground := Ground.phase }, { on := 5, ground := Ground.phase }, { on := 6, ground := Ground.phase }, { on := 7, ground := Ground.phase }, { on := 8, ground := Ground.phase }, { on := 9, ground := Ground.phase }, { on := 10, ground := Ground.phase }, { on := 11, ground := Ground.phase }, { on := 12, ground := Ground.textOnly Departure.lateStores }, { on := 13, ground := Ground.textOnly Departure.lateStores }], guard := none }) rfl (fun K hK => ?_) AllReadyH.nil
  rw [if_pos (by rfl)]
  refine wp_store_mid 29 _ _ rfl B 0 _ rfl rfl (flthere (hs1.there hR.1) hR'.1) (flsize hR'.1) (fl_one _) ?_
  have hs3 : Slot (w1.setCells B 0 (fl cs')) B cs' := hs1.store (hR.1.trans hR'.1.symm)
  have hb3 : Below w0.heap.size w0 (w1.setCells B 0 (fl cs')) := below_cells hb1 hB0 0 _
  refine hK.out _ _ ?_ (fun hS4 => ?_)
  · exact hb3
  clear hK K
  simp only [Act.put]
  refine wpAnyH_take (i := 15) (oi := { dst := some 13, op := Op.assign (Operand.tmp 32), type := 22, pos := "l02_waves.go:65", after := #[{ on := 12, ground := Ground.data }, { on := 14, ground := Ground.chain }, { on := 0, ground := Ground.phase }, { on := 1, ground := Ground.phase }, { on := 2, ground := Ground.phase }, { on := 3, ground := Ground.phase }, { on := 4, ground := Ground.phase }, { on := 5, ground := Ground.phase }, { on := 6, ground := Ground.phase }, { on := 7, ground := Ground.phase }, { on := 8, ground := Ground.phase }, { on := 9, ground := Ground.phase }, { on := 10, ground := Ground.phase }, { on := 11, ground := Ground.phase }, { on := 12, ground := Ground.phase }, { on := 13, ground := Ground.textOnly Departure.lateStores }, { on := 14, ground := Ground.phase }], guard := none }) (v := Value.float .f32 a') rfl (by kernel_rfl) (by kernel_rfl) (by kernel_rfl) (fun c a w h => hP0 c a _ _ w h) (Or.inl ⟨by rfl, ?_⟩) hb3 ?_
  · intro w hSw
    have e1 := hc1 w hSw
    have e2 := hc2 w hSw
    go_simp
  simp only [Act.put, List.setIfInBounds_toArray, List.set_cons_zero, List.set_cons_succ]
  refine wpAnyH_take (i := 16) (oi := { dst := some 14, op := Op.assign (Operand.tmp 33), type := 22, pos := "l02_waves.go:65", after := #[{ on := 13, ground := Ground.data }, { on := 15, ground := Ground.chain }, { on := 0, ground := Ground.phase }, { on := 1, ground := Ground.phase }, { on := 2, ground := Ground.phase }, { on := 3, ground := Ground.phase }, { on := 4, ground := Ground.phase }, { on := 5, ground := Ground.phase }, { on := 6, ground := Ground.phase }, { on := 7, ground := Ground.phase }, { on := 8, ground := Ground.phase }, { on := 9, ground := Ground.phase }, { on := 10, ground := Ground.phase }, { on := 11, ground := Ground.phase }, { on := 12, ground := Ground.phase }, { on := 13, ground := Ground.phase }, { on := 14, ground := Ground.phase }, { on := 15, ground := Ground.phase }], guard := none }) (v := Value.float .f32 b') rfl (by kernel_rfl) (by kernel_rfl) (by kernel_rfl) (fun c a w h => hP0 c a _ _ w h) (Or.inl ⟨by rfl, ?_⟩) hb3 ?_
  · intro w hSw
    have e1 := hc1 w hSw
    have e2 := hc2 w hSw
    go_simp
  simp only [Act.put, List.setIfInBounds_toArray, List.set_cons_zero, List.set_cons_succ]
  refine wpAnyH_done (by kernel_rfl) ?_ _
  exact hQ cs' a' b' w1 _ hR' hr' ha' hb' hva hvb (((Below.refl _ _).drew).trans hbel) rfl hs3 hb3
end Go.Proofs.Ytlnphdohjelppaa
