/-
  ONE REGION OF THAT TEST, whose order is drawn: two numbers are made wide and looked at. Conditions: those that stand in it.
-/
import Derived.Test.YtlnphdohjelppaaJE
namespace Go.Proofs.Ytlnphdohjelppaa
open Go.RowKit
set_option maxRecDepth 100000
set_option maxHeartbeats 800000
theorem wideAll (c : Nat) (hc : c < Sx.bits .f32) : ∃ (Z : World → Nat) (D : World → World), (∀ w, (convert 22 36 (.float .f32 c)).run Try.prog w = .ok (.float .f64 (Z w)) (D w)) ∧ (∀ w, Z w < Sx.bits .f64 ∧ Sx.nz .f64 (Z w) = Sx.fCv (Sx.nz .f32 c)) ∧ ∀ w, Below w.heap.size w (D w) :=
  ⟨fun w => (wideF c hc w).choose, fun w => (wideF c hc w).choose_spec.choose, fun w => (wideF c hc w).choose_spec.choose_spec.1, fun w => ⟨(wideF c hc w).choose_spec.choose_spec.2.1, (wideF c hc w).choose_spec.choose_spec.2.2.1⟩, fun w => (wideF c hc w).choose_spec.choose_spec.2.2.2⟩
theorem keepS {w0 w w' : World} (g1 g2 k c : Nat) (h : w.cell? ⟨g1, k, none⟩ = some (.float .f32 c) ∧ w.cell? ⟨g2, k, none⟩ = some (.float .f32 c) ∧ Below w0.heap.size w0 w) (hb : Below w.heap.size w w') (h1 : g1 < w0.heap.size) (h2 : g2 < w0.heap.size) :
    w'.cell? ⟨g1, k, none⟩ = some (.float .f32 c) ∧ w'.cell? ⟨g2, k, none⟩ = some (.float .f32 c) ∧ Below w0.heap.size w0 w' := by
  obtain ⟨e1, e2, e3⟩ := h
  refine ⟨?_, ?_, e3.trans (hb.mono e3.size)⟩
  · rw [hb.cell (p := ⟨g1, k, none⟩) (Nat.lt_of_lt_of_le h1 e3.size)]; exact e1
  · rw [hb.cell (p := ⟨g2, k, none⟩) (Nat.lt_of_lt_of_le h2 e3.size)]; exact e2
theorem regEq {x2 x3 x4 x6 x7 x8 x9 x10 x11 x12 x13 x14 x15 x16 x17 x18 x19 x20 x21 x22 x23 x24 x25 x26 x27 x28 : Value} {g1 g2 n k c : Nat} {w0 wr : World} (hc : c < Sx.bits .f32) (hki : (k : Int) < (n : Int)) (hg1 : g1 < w0.heap.size) (hg2 : g2 < w0.heap.size) (c1 : wr.cell? ⟨g1, k, none⟩ = some (.float .f32 c)) (c2 : wr.cell? ⟨g2, k, none⟩ = some (.float .f32 c)) (hb : Below w0.heap.size w0 wr)
    {Q : Exit → Act → World → Prop} (hP0 : ∀ (c : _) (a : Act) (d : Option Tmp) (v : Value) (w : World), Q (.panic c) (a.put d v) w → Q (.panic c) a w) (hQ : ∀ z1 z2 w', Below w0.heap.size w0 w' → Q .normal { tmps := #[Value.slice (some { block := g1, off := 0 }) n n, Value.slice (some { block := g2, off := 0 }) n n, x2, x3, x4, Value.int .i64 k, x6, x7, x8, x9, x10, x11, x12, x13, x14, x15, x16, Value.slice (some { block := g1, off := 0 }) n n, Value.int .i64 k, Value.pointer (some { block := g1, off := k }), Value.float .f32 c, Value.float .f64 z1, Value.slice (some { block := g2, off := 0 }) n n, Value.int .i64 k, Value.pointer (some { block := g2, off := k }), Value.float .f32 c, Value.float .f64 z2, Value.bool true, Value.bool false], defers := [] } w') :
    (Code.region 6
      #[{ dst := some 17, op := Op.move (Operand.tmp 0), type := 26, pos := "exact.go:177", after := #[],
          guard := none },
        { dst := some 18, op := Op.move (Operand.tmp 5), type := 3, pos := "exact.go:177", after := #[],
          guard := none },
        { dst := some 19, op := Op.indexAddr 26 (Operand.tmp 17) (Operand.tmp 18), type := 0, pos := "exact.go:177",
          after := #[{ on := 0, ground := Ground.data }, { on := 1, ground := Ground.data }], guard := none },
        { dst := some 20, op := Op.load 22 (Operand.tmp 19), type := 22, pos := "exact.go:177",
          after := #[{ on := 2, ground := Ground.data }], guard := none },
        { dst := some 21, op := Op.convert 22 36 (Operand.tmp 20), type := 36, pos := "exact.go:177",
          after := #[{ on := 3, ground := Ground.data }], guard := none },
        { dst := some 22, op := Op.move (Operand.tmp 1), type := 26, pos := "exact.go:177", after := #[],
          guard := none },
        { dst := some 23, op := Op.move (Operand.tmp 5), type := 3, pos := "exact.go:177", after := #[],
          guard := none },
        { dst := some 24, op := Op.indexAddr 26 (Operand.tmp 22) (Operand.tmp 23), type := 0, pos := "exact.go:177",
          after := #[{ on := 5, ground := Ground.data }, { on := 6, ground := Ground.data }], guard := none },
        { dst := some 25, op := Op.load 22 (Operand.tmp 24), type := 22, pos := "exact.go:177",
          after := #[{ on := 7, ground := Ground.data }], guard := none },
        { dst := some 26, op := Op.convert 22 36 (Operand.tmp 25), type := 36, pos := "exact.go:177",
          after := #[{ on := 8, ground := Ground.data }], guard := none },
        { dst := some 27,
          op :=
            Op.call
              { callee := Callee.value (Operand.func 9), args := #[Operand.tmp 21, Operand.tmp 26],
                argTypes := #[36, 36] },
          type := 4, pos := "exact.go:177",
          after := #[{ on := 4, ground := Ground.data }, { on := 9, ground := Ground.data }], guard := none },
        { dst := some 28, op := Op.unOp UnOp.not 4 (Operand.tmp 27), type := 4, pos := "exact.go:177",
          after := #[{ on := 10, ground := Ground.data }], guard := none }]
      true).wp Try.prog Q { tmps := #[Value.slice (some { block := g1, off := 0 }) n n, Value.slice (some { block := g2, off := 0 }) n n, x2, x3, x4, Value.int .i64 k, x6, x7, x8, x9, x10, x11, x12, x13, x14, x15, x16, x17, x18, x19, x20, x21, x22, x23, x24, x25, x26, x27, x28], defers := [] } wr := by
  obtain ⟨Z, D, hcv, hZ, hD⟩ := wideAll c hc
  refine wp_region_held_drew (S := fun w' => w'.cell? ⟨g1, k, none⟩ = some (.float .f32 c) ∧ w'.cell? ⟨g2, k, none⟩ = some (.float .f32 c) ∧ Below w0.heap.size w0 w') (by kernel_rfl) ⟨c1, c2, hb.drew⟩ (fun hS => ?_)
  refine wpAnyH_take (i := 0) (oi := { dst := some 17, op := Op.move (Operand.tmp 0), type := 26, pos := "exact.go:177", after := #[], guard := none }) (v := Value.slice (some { block := g1, off := 0 }) n n) rfl (by kernel_rfl) (by kernel_rfl) (by kernel_rfl) (fun c a w h => hP0 c a _ _ w h) (Or.inl ⟨by rfl, ?_⟩) hS ?_
  · intro w hSw
    (try dsimp only at hSw)
    go_simp
  simp only [Act.put, List.setIfInBounds_toArray, List.set_cons_zero, List.set_cons_succ]
  refine wpAnyH_take (i := 1) (oi := { dst := some 18, op := Op.move (Operand.tmp 5), type := 3, pos := "exact.go:177", after := #[], guard := none }) (v := Value.int .i64 k) rfl (by kernel_rfl) (by kernel_rfl) (by kernel_rfl) (fun c a w h => hP0 c a _ _ w h) (Or.inl ⟨by rfl, ?_⟩) hS ?_
  · intro w hSw
    (try dsimp only at hSw)
    go_simp
  simp only [Act.put, List.setIfInBounds_toArray, List.set_cons_zero, List.set_cons_succ]
  refine wpAnyH_take (i := 2) (oi := { dst := some 19, op := Op.indexAddr 26 (Operand.tmp 17) (Operand.tmp 18), type := 0, pos := "exact.go:177", after := #[{ on := 0, ground := Ground.data }, { on := 1, ground := Ground.data }], guard := none }) (v := Value.pointer (some { block := g1, off := k })) rfl (by kernel_rfl) (by kernel_rfl) (by kernel_rfl) (fun c a w h => hP0 c a _ _ w h) (Or.inl ⟨by rfl, ?_⟩) hS ?_
  · intro w hSw
    (try dsimp only at hSw)
    go_simp
  simp only [Act.put, List.setIfInBounds_toArray, List.set_cons_zero, List.set_cons_succ]
  refine wpAnyH_take (i := 3) (oi := { dst := some 20, op := Op.load 22 (Operand.tmp 19), type := 22, pos := "exact.go:177", after := #[{ on := 2, ground := Ground.data }], guard := none }) (v := Value.float .f32 c) rfl (by kernel_rfl) (by kernel_rfl) (by kernel_rfl) (fun c a w h => hP0 c a _ _ w h) (Or.inl ⟨by rfl, ?_⟩) hS ?_
  · intro w hSw
    (try dsimp only at hSw)
    go_simp
  simp only [Act.put, List.setIfInBounds_toArray, List.set_cons_zero, List.set_cons_succ]
  refine wpAnyH_take (i := 5) (oi := { dst := some 22, op := Op.move (Operand.tmp 1), type := 26, pos := "exact.go:177", after := #[], guard := none }) (v := Value.slice (some { block := g2, off := 0 }) n n) rfl (by kernel_rfl) (by kernel_rfl) (by kernel_rfl) (fun c a w h => hP0 c a _ _ w h) (Or.inl ⟨by rfl, ?_⟩) hS ?_
  · intro w hSw
    (try dsimp only at hSw)
    go_simp
  simp only [Act.put, List.setIfInBounds_toArray, List.set_cons_zero, List.set_cons_succ]
  refine wpAnyH_take (i := 6) (oi := { dst := some 23, op := Op.move (Operand.tmp 5), type := 3, pos := "exact.go:177", after := #[], guard := none }) (v := Value.int .i64 k) rfl (by kernel_rfl) (by kernel_rfl) (by kernel_rfl) (fun c a w h => hP0 c a _ _ w h) (Or.inl ⟨by rfl, ?_⟩) hS ?_
  · intro w hSw
    (try dsimp only at hSw)
    go_simp
  simp only [Act.put, List.setIfInBounds_toArray, List.set_cons_zero, List.set_cons_succ]
  refine wpAnyH_take (i := 7) (oi := { dst := some 24, op := Op.indexAddr 26 (Operand.tmp 22) (Operand.tmp 23), type := 0, pos := "exact.go:177", after := #[{ on := 5, ground := Ground.data }, { on := 6, ground := Ground.data }], guard := none }) (v := Value.pointer (some { block := g2, off := k })) rfl (by kernel_rfl) (by kernel_rfl) (by kernel_rfl) (fun c a w h => hP0 c a _ _ w h) (Or.inl ⟨by rfl, ?_⟩) hS ?_
  · intro w hSw
    (try dsimp only at hSw)
    go_simp
  simp only [Act.put, List.setIfInBounds_toArray, List.set_cons_zero, List.set_cons_succ]
  refine wpAnyH_take (i := 8) (oi := { dst := some 25, op := Op.load 22 (Operand.tmp 24), type := 22, pos := "exact.go:177", after := #[{ on := 7, ground := Ground.data }], guard := none }) (v := Value.float .f32 c) rfl (by kernel_rfl) (by kernel_rfl) (by kernel_rfl) (fun c a w h => hP0 c a _ _ w h) (Or.inl ⟨by rfl, ?_⟩) hS ?_
  · intro w hSw
    (try dsimp only at hSw)
    go_simp
  simp only [Act.put, List.setIfInBounds_toArray, List.set_cons_zero, List.set_cons_succ]
  refine wpAnyH_ready (rs := [4, 9]) (by kernel_rfl) (by simp) ?_
  refine AllReadyH.cons (o := { dst := some 21, op := Op.convert 22 36 (Operand.tmp 20), type := 36, pos := "exact.go:177", after := #[{ on := 3, ground := Ground.data }], guard := none }) rfl (fun K hK => ?_) (AllReadyH.cons (o := { dst := some 26, op := Op.convert 22 36 (Operand.tmp 25), type := 36, pos := "exact.go:177", after := #[{ on := 8, ground := Ground.data }], guard := none }) rfl (fun K hK => ?_) AllReadyH.nil)
  · have e1 := hcv wr.drew
    have e2 := hcv (D wr.drew)
    have hT1 := keepS g1 g2 k c hS (hD _) hg1 hg2
    have hT2 := keepS g1 g2 k c hT1 (hD _) hg1 hg2
    have hq : Sx.nz .f64 (Z wr.drew) = Sx.nz .f64 (Z (D wr.drew)) := (hZ _).2.trans (hZ _).2.symm
    go_simp
    refine hK.out _ _ ?_ (fun hS1 => ?_)
    · exact hT1
    clear hK K
    try simp only [Act.put, List.setIfInBounds_toArray, List.set_cons_zero, List.set_cons_succ]
    refine wpAnyH_ready (rs := [9]) (by kernel_rfl) (by simp) ?_
    refine AllReadyH.cons (o := { dst := some 26, op := Op.convert 22 36 (Operand.tmp 25), type := 36, pos := "exact.go:177", after := #[{ on := 8, ground := Ground.data }], guard := none }) rfl (fun K hK => ?_) AllReadyH.nil
    go_simp
    refine hK.out _ _ ?_ (fun hS2 => ?_)
    · exact hT2
    clear hK K
    try simp only [Act.put, List.setIfInBounds_toArray, List.set_cons_zero, List.set_cons_succ]
    refine wpAnyH_ready (rs := [10]) (by kernel_rfl) (by simp) ?_
    refine AllReadyH.cons (o := { dst := some 27, op := Op.call { callee := Callee.value (Operand.func 9), args := #[Operand.tmp 21, Operand.tmp 26], argTypes := #[36, 36] }, type := 4, pos := "exact.go:177", after := #[{ on := 4, ground := Ground.data }, { on := 9, ground := Ground.data }], guard := none }) rfl (fun K hK => ?_) AllReadyH.nil
    go_simp
    refine (sameF _ _ (hZ _).1 (hZ _).1 hq _).mono ?_
    rintro e w9 ⟨rfl, hb9⟩
    have hT3 := keepS g1 g2 k c hT2 hb9 hg1 hg2
    refine hK.out _ _ ?_ (fun hS3 => ?_)
    · exact hT3
    clear hK K
    try simp only [Act.put, List.setIfInBounds_toArray, List.set_cons_zero, List.set_cons_succ]
    refine wpAnyH_take (i := 11) (oi := { dst := some 28, op := Op.unOp UnOp.not 4 (Operand.tmp 27), type := 4, pos := "exact.go:177", after := #[{ on := 10, ground := Ground.data }], guard := none }) (v := Value.bool false) rfl (by kernel_rfl) (by kernel_rfl) (by kernel_rfl) (fun c a w h => hP0 c a _ _ w h) (Or.inl ⟨by rfl, ?_⟩) hT3 ?_
    · intro w hSw
      (try dsimp only at hSw)
      go_simp
    simp only [Act.put, List.setIfInBounds_toArray, List.set_cons_zero, List.set_cons_succ]
    refine wpAnyH_done (by kernel_rfl) ?_ _
    exact hQ _ _ _ hT3.2.2
  · have e1 := hcv wr.drew
    have e2 := hcv (D wr.drew)
    have hT1 := keepS g1 g2 k c hS (hD _) hg1 hg2
    have hT2 := keepS g1 g2 k c hT1 (hD _) hg1 hg2
    have hq : Sx.nz .f64 (Z wr.drew) = Sx.nz .f64 (Z (D wr.drew)) := (hZ _).2.trans (hZ _).2.symm
    go_simp
    refine hK.out _ _ ?_ (fun hS1 => ?_)
    · exact hT1
    clear hK K
    try simp only [Act.put, List.setIfInBounds_toArray, List.set_cons_zero, List.set_cons_succ]
    refine wpAnyH_ready (rs := [4]) (by kernel_rfl) (by simp) ?_
    refine AllReadyH.cons (o := { dst := some 21, op := Op.convert 22 36 (Operand.tmp 20), type := 36, pos := "exact.go:177", after := #[{ on := 3, ground := Ground.data }], guard := none }) rfl (fun K hK => ?_) AllReadyH.nil
    go_simp
    refine hK.out _ _ ?_ (fun hS2 => ?_)
    · exact hT2
    clear hK K
    try simp only [Act.put, List.setIfInBounds_toArray, List.set_cons_zero, List.set_cons_succ]
    refine wpAnyH_ready (rs := [10]) (by kernel_rfl) (by simp) ?_
    refine AllReadyH.cons (o := { dst := some 27, op := Op.call { callee := Callee.value (Operand.func 9), args := #[Operand.tmp 21, Operand.tmp 26], argTypes := #[36, 36] }, type := 4, pos := "exact.go:177", after := #[{ on := 4, ground := Ground.data }, { on := 9, ground := Ground.data }], guard := none }) rfl (fun K hK => ?_) AllReadyH.nil
    go_simp
    refine (sameF _ _ (hZ _).1 (hZ _).1 hq.symm _).mono ?_
    rintro e w9 ⟨rfl, hb9⟩
    have hT3 := keepS g1 g2 k c hT2 hb9 hg1 hg2
    refine hK.out _ _ ?_ (fun hS3 => ?_)
    · exact hT3
    clear hK K
    try simp only [Act.put, List.setIfInBounds_toArray, List.set_cons_zero, List.set_cons_succ]
    refine wpAnyH_take (i := 11) (oi := { dst := some 28, op := Op.unOp UnOp.not 4 (Operand.tmp 27), type := 4, pos := "exact.go:177", after := #[{ on := 10, ground := Ground.data }], guard := none }) (v := Value.bool false) rfl (by kernel_rfl) (by kernel_rfl) (by kernel_rfl) (fun c a w h => hP0 c a _ _ w h) (Or.inl ⟨by rfl, ?_⟩) hT3 ?_
    · intro w hSw
      (try dsimp only at hSw)
      go_simp
    simp only [Act.put, List.setIfInBounds_toArray, List.set_cons_zero, List.set_cons_succ]
    refine wpAnyH_done (by kernel_rfl) ?_ _
    exact hQ _ _ _ hT3.2.2
end Go.Proofs.Ytlnphdohjelppaa
