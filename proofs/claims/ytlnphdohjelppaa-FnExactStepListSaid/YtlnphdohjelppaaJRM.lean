/-
  ONE REGION OF THE PROGRAM'S StepList, whose order is drawn, in five cases. Conditions: those that stand in each.
-/
import Derived.Test.YtlnphdohjelppaaJH
namespace Go.Proofs.Ytlnphdohjelppaa
open Go.RowKit
set_option maxRecDepth 100000
set_option maxHeartbeats 1600000
theorem keepM {w0 w w' : World} {B : Nat} {bs : List Nat} (h : Slot w B bs ∧ Below w0.heap.size w0 w) (hb : Below w.heap.size w w') : Slot w' B bs ∧ Below w0.heap.size w0 w' :=
  ⟨h.1.below hb h.1.lt, h.2.trans (hb.mono h.2.size)⟩
theorem regM1 {x0 x4 x5 x6 x7 x8 x9 x31 x32 x33 x34 x35 x36 x37 x38 x39 x40 x41 x42 : Value} {g1 g2 n1 n2 B : Nat} {c : Int} {bs : List Nat} {w0 wr : World} (hR : Road19 bs) (hsl : Slot wr B bs) (hb : Below w0.heap.size w0 wr) (hne : ¬ ((n1 : Int) = (n2 : Int))) 
    (hC : ∀ w', Calls Try.prog 16 #[Value.agg (fl bs).toArray, Value.bool false] w' (fun e w'' => e = .returned (.int .i64 c) ∧ Below w'.heap.size w' w''))
    {Q : Exit → Act → World → Prop} (hP0 : ∀ (c : _) (a : Act) (d : Option Tmp) (v : Value) (w : World), Q (.panic c) (a.put d v) w → Q (.panic c) a w)
    (hQ : ∀ w', Below wr.heap.size wr w' → Q .normal { tmps := #[x0, Value.slice (some { block := g1, off := 0 }) n1 n1, Value.slice (some { block := g2, off := 0 }) n2 n2, Value.pointer (some { block := B, off := 0 }), x4, x5, x6, x7, x8, x9, Value.int .i64 c, Value.agg (fl bs).toArray, Value.slice (some { block := g1, off := 0 }) n1 n1, Value.int .i64 n1, Value.slice (some { block := g2, off := 0 }) n2 n2, Value.int .i64 n2, Value.bool false, Value.bool false, undef, undef, undef, Value.bool false, Value.bool false, undef, undef, Value.bool false, Value.bool false, undef, undef, Value.bool false, Value.int .i64 c, x31, x32, x33, x34, x35, x36, x37, x38, x39, x40, x41, x42], defers := [] } w') :
    (Code.region 1
      #[{ dst := some 11, op := Op.load 29 (Operand.tmp 3), type := 29, pos := "l02_waves.go:72", after := #[],
          guard := none },
        { dst := some 12, op := Op.move (Operand.tmp 1), type := 26, pos := "l02_waves.go:72", after := #[],
          guard := none },
        { dst := some 13,
          op := Op.call { callee := Callee.builtin Builtin.len, args := #[Operand.tmp 12], argTypes := #[26] },
          type := 3, pos := "l02_waves.go:72", after := #[{ on := 1, ground := Ground.data }], guard := none },
        { dst := some 14, op := Op.move (Operand.tmp 2), type := 26, pos := "l02_waves.go:72", after := #[],
          guard := none },
        { dst := some 15,
          op := Op.call { callee := Callee.builtin Builtin.len, args := #[Operand.tmp 14], argTypes := #[26] },
          type := 3, pos := "l02_waves.go:72", after := #[{ on := 3, ground := Ground.data }], guard := none },
        { dst := some 16, op := Op.binOp BinOp.eql 3 (Operand.tmp 13) (Operand.tmp 15) 3, type := 4,
          pos := "l02_waves.go:72", after := #[{ on := 2, ground := Ground.data }, { on := 4, ground := Ground.data }],
          guard := none },
        { dst := some 17, op := Op.move (Operand.tmp 16), type := 4, pos := "l02_waves.go:72",
          after := #[{ on := 5, ground := Ground.data }], guard := none },
        { dst := some 18, op := Op.move (Operand.tmp 1), type := 26, pos := "l02_waves.go:72",
          after := #[{ on := 6, ground := Ground.guard }], guard := some (6, true) },
        { dst := some 19,
          op := Op.call { callee := Callee.builtin Builtin.len, args := #[Operand.tmp 18], argTypes := #[26] },
          type := 3, pos := "l02_waves.go:72",
          after := #[{ on := 7, ground := Ground.data }, { on := 6, ground := Ground.guard }],
          guard := some (6, true) },
        { dst := some 20,
          op := Op.call { callee := Callee.value (Operand.func 17), args := #[Operand.tmp 19], argTypes := #[2] },
          type := 4, pos := "l02_waves.go:72",
          after :=
            #[{ on := 8, ground := Ground.data }, { on := 6, ground := Ground.chain },
              { on := 6, ground := Ground.guard }],
          guard := some (6, true) },
        { dst := some 21, op := Op.pick (Operand.tmp 17) (Operand.tmp 20) (Operand.const (Value.bool false)), type := 4,
          pos := "l02_waves.go:72", after := #[{ on := 6, ground := Ground.data }, { on := 9, ground := Ground.data }],
          guard := none },
        { dst := some 22, op := Op.move (Operand.tmp 21), type := 4, pos := "l02_waves.go:72",
          after := #[{ on := 10, ground := Ground.data }, { on := 9, ground := Ground.chain }], guard := none },
        { dst := some 23, op := Op.move (Operand.tmp 1), type := 26, pos := "l02_waves.go:72",
          after := #[{ on := 11, ground := Ground.guard }], guard := some (11, true) },
        { dst := some 24,
          op := Op.call { callee := Callee.value (Operand.func 18), args := #[Operand.tmp 23], argTypes := #[26] },
          type := 4, pos := "l02_waves.go:72",
          after :=
            #[{ on := 12, ground := Ground.data }, { on := 11, ground := Ground.chain },
              { on := 11, ground := Ground.guard }],
          guard := some (11, true) },
        { dst := some 25, op := Op.pick (Operand.tmp 22) (Operand.tmp 24) (Operand.const (Value.bool false)), type := 4,
          pos := "l02_waves.go:72",
          after := #[{ on := 11, ground := Ground.data }, { on := 13, ground := Ground.data }], guard := none },
        { dst := some 26, op := Op.move (Operand.tmp 25), type := 4, pos := "l02_waves.go:72",
          after := #[{ on := 14, ground := Ground.data }, { on := 13, ground := Ground.chain }], guard := none },
        { dst := some 27, op := Op.move (Operand.tmp 2), type := 26, pos := "l02_waves.go:72",
          after := #[{ on := 15, ground := Ground.guard }], guard := some (15, true) },
        { dst := some 28,
          op := Op.call { callee := Callee.value (Operand.func 18), args := #[Operand.tmp 27], argTypes := #[26] },
          type := 4, pos := "l02_waves.go:72",
          after :=
            #[{ on := 16, ground := Ground.data }, { on := 15, ground := Ground.chain },
              { on := 15, ground := Ground.guard }],
          guard := some (15, true) },
        { dst := some 29, op := Op.pick (Operand.tmp 26) (Operand.tmp 28) (Operand.const (Value.bool false)), type := 4,
          pos := "l02_waves.go:72",
          after := #[{ on := 15, ground := Ground.data }, { on := 17, ground := Ground.data }], guard := none },
        { dst := some 30,
          op :=
            Op.call
              { callee := Callee.value (Operand.func 16), args := #[Operand.tmp 11, Operand.tmp 29],
                argTypes := #[29, 4] },
          type := 2, pos := "l02_waves.go:72",
          after :=
            #[{ on := 0, ground := Ground.data }, { on := 18, ground := Ground.data },
              { on := 17, ground := Ground.chain }],
          guard := none },
        { dst := some 10, op := Op.assign (Operand.tmp 30), type := 2, pos := "l02_waves.go:72",
          after :=
            #[{ on := 19, ground := Ground.data }, { on := 19, ground := Ground.chain },
              { on := 0, ground := Ground.phase }, { on := 1, ground := Ground.phase },
              { on := 2, ground := Ground.phase }, { on := 3, ground := Ground.phase },
              { on := 4, ground := Ground.phase }, { on := 5, ground := Ground.phase },
              { on := 6, ground := Ground.phase }, { on := 7, ground := Ground.phase },
              { on := 8, ground := Ground.phase }, { on := 9, ground := Ground.phase },
              { on := 10, ground := Ground.phase }, { on := 11, ground := Ground.phase },
              { on := 12, ground := Ground.phase }, { on := 13, ground := Ground.phase },
              { on := 14, ground := Ground.phase }, { on := 15, ground := Ground.phase },
              { on := 16, ground := Ground.phase }, { on := 17, ground := Ground.phase },
              { on := 18, ground := Ground.phase }, { on := 19, ground := Ground.phase }],
          guard := none }]
      true).wp Try.prog Q { tmps := #[x0, Value.slice (some { block := g1, off := 0 }) n1 n1, Value.slice (some { block := g2, off := 0 }) n2 n2, Value.pointer (some { block := B, off := 0 }), x4, x5, x6, x7, x8, x9, undef, undef, undef, undef, undef, undef, undef, undef, undef, undef, undef, undef, undef, undef, undef, undef, undef, undef, undef, undef, undef, x31, x32, x33, x34, x35, x36, x37, x38, x39, x40, x41, x42], defers := [] } wr := by
  refine wp_region_held_drew (S := fun w' => Slot w' B bs ∧ Below w0.heap.size w0 w') (by kernel_rfl) ⟨hsl.drew, hb.drew⟩ (fun hS => ?_)
  have hbd : Below wr.heap.size wr wr.drew := (Below.refl _ _).drew
  refine wpAnyH_take (i := 0) (oi := { dst := some 11, op := Op.load 29 (Operand.tmp 3), type := 29, pos := "l02_waves.go:72", after := #[], guard := none }) (v := Value.agg (fl bs).toArray) rfl (by kernel_rfl) (by kernel_rfl) (by kernel_rfl) (fun c a w h => hP0 c a _ _ w h) (yieldsIf_load_mid (by rfl) 29 (.tmp 3) rfl B 0 rfl (fl bs) _ (fun w h => h.1.range) Try.underlying29 rfl (flsize hR.1)) hS ?_
  simp only [Act.put, List.setIfInBounds_toArray, List.set_cons_zero, List.set_cons_succ]
  refine wpAnyH_take (i := 1) (oi := { dst := some 12, op := Op.move (Operand.tmp 1), type := 26, pos := "l02_waves.go:72", after := #[], guard := none }) (v := Value.slice (some { block := g1, off := 0 }) n1 n1) rfl (by kernel_rfl) (by kernel_rfl) (by kernel_rfl) (fun c a w h => hP0 c a _ _ w h) (Or.inl ⟨by rfl, ?_⟩) hS ?_
  · intro w hSw
    go_simp
  simp only [Act.put, List.setIfInBounds_toArray, List.set_cons_zero, List.set_cons_succ]
  refine wpAnyH_take (i := 2) (oi := { dst := some 13, op := Op.call { callee := Callee.builtin Builtin.len, args := #[Operand.tmp 12], argTypes := #[26] }, type := 3, pos := "l02_waves.go:72", after := #[{ on := 1, ground := Ground.data }], guard := none }) (v := Value.int .i64 n1) rfl (by kernel_rfl) (by kernel_rfl) (by kernel_rfl) (fun c a w h => hP0 c a _ _ w h) (Or.inl ⟨by rfl, ?_⟩) hS ?_
  · intro w hSw
    go_simp
  simp only [Act.put, List.setIfInBounds_toArray, List.set_cons_zero, List.set_cons_succ]
  refine wpAnyH_take (i := 3) (oi := { dst := some 14, op := Op.move (Operand.tmp 2), type := 26, pos := "l02_waves.go:72", after := #[], guard := none }) (v := Value.slice (some { block := g2, off := 0 }) n2 n2) rfl (by kernel_rfl) (by kernel_rfl) (by kernel_rfl) (fun c a w h => hP0 c a _ _ w h) (Or.inl ⟨by rfl, ?_⟩) hS ?_
  · intro w hSw
    go_simp
  simp only [Act.put, List.setIfInBounds_toArray, List.set_cons_zero, List.set_cons_succ]
  refine wpAnyH_take (i := 4) (oi := { dst := some 15, op := Op.call { callee := Callee.builtin Builtin.len, args := #[Operand.tmp 14], argTypes := #[26] }, type := 3, pos := "l02_waves.go:72", after := #[{ on := 3, ground := Ground.data }], guard := none }) (v := Value.int .i64 n2) rfl (by kernel_rfl) (by kernel_rfl) (by kernel_rfl) (fun c a w h => hP0 c a _ _ w h) (Or.inl ⟨by rfl, ?_⟩) hS ?_
  · intro w hSw
    go_simp
  simp only [Act.put, List.setIfInBounds_toArray, List.set_cons_zero, List.set_cons_succ]
  refine wpAnyH_take (i := 5) (oi := { dst := some 16, op := Op.binOp BinOp.eql 3 (Operand.tmp 13) (Operand.tmp 15) 3, type := 4, pos := "l02_waves.go:72", after := #[{ on := 2, ground := Ground.data }, { on := 4, ground := Ground.data }], guard := none }) (v := Value.bool false) rfl (by kernel_rfl) (by kernel_rfl) (by kernel_rfl) (fun c a w h => hP0 c a _ _ w h) (Or.inl ⟨by rfl, ?_⟩) hS ?_
  · intro w hSw
    go_simp
  simp only [Act.put, List.setIfInBounds_toArray, List.set_cons_zero, List.set_cons_succ]
  refine wpAnyH_take (i := 6) (oi := { dst := some 17, op := Op.move (Operand.tmp 16), type := 4, pos := "l02_waves.go:72", after := #[{ on := 5, ground := Ground.data }], guard := none }) (v := Value.bool false) rfl (by kernel_rfl) (by kernel_rfl) (by kernel_rfl) (fun c a w h => hP0 c a _ _ w h) (Or.inl ⟨by rfl, ?_⟩) hS ?_
  · intro w hSw
    go_simp
  simp only [Act.put, List.setIfInBounds_toArray, List.set_cons_zero, List.set_cons_succ]
  refine wpAnyH_take (i := 7) (oi := { dst := some 18, op := Op.move (Operand.tmp 1), type := 26, pos := "l02_waves.go:72", after := #[{ on := 6, ground := Ground.guard }], guard := some (6, true) }) (v := undef) rfl (by kernel_rfl) (by kernel_rfl) (by kernel_rfl) (fun c a w h => hP0 c a _ _ w h) (Or.inr ⟨by rfl, rfl⟩) hS ?_
  simp only [Act.put, List.setIfInBounds_toArray, List.set_cons_zero, List.set_cons_succ]
  refine wpAnyH_take (i := 8) (oi := { dst := some 19, op := Op.call { callee := Callee.builtin Builtin.len, args := #[Operand.tmp 18], argTypes := #[26] }, type := 3, pos := "l02_waves.go:72", after := #[{ on := 7, ground := Ground.data }, { on := 6, ground := Ground.guard }], guard := some (6, true) }) (v := undef) rfl (by kernel_rfl) (by kernel_rfl) (by kernel_rfl) (fun c a w h => hP0 c a _ _ w h) (Or.inr ⟨by rfl, rfl⟩) hS ?_
  simp only [Act.put, List.setIfInBounds_toArray, List.set_cons_zero, List.set_cons_succ]
  refine wpAnyH_take (i := 9) (oi := { dst := some 20, op := Op.call { callee := Callee.value (Operand.func 17), args := #[Operand.tmp 19], argTypes := #[2] }, type := 4, pos := "l02_waves.go:72", after := #[{ on := 8, ground := Ground.data }, { on := 6, ground := Ground.chain }, { on := 6, ground := Ground.guard }], guard := some (6, true) }) (v := undef) rfl (by kernel_rfl) (by kernel_rfl) (by kernel_rfl) (fun c a w h => hP0 c a _ _ w h) (Or.inr ⟨by rfl, rfl⟩) hS ?_
  simp only [Act.put, List.setIfInBounds_toArray, List.set_cons_zero, List.set_cons_succ]
  refine wpAnyH_take (i := 10) (oi := { dst := some 21, op := Op.pick (Operand.tmp 17) (Operand.tmp 20) (Operand.const (Value.bool false)), type := 4, pos := "l02_waves.go:72", after := #[{ on := 6, ground := Ground.data }, { on := 9, ground := Ground.data }], guard := none }) (v := Value.bool false) rfl (by kernel_rfl) (by kernel_rfl) (by kernel_rfl) (fun c a w h => hP0 c a _ _ w h) (Or.inl ⟨by rfl, ?_⟩) hS ?_
  · intro w hSw
    go_simp
  simp only [Act.put, List.setIfInBounds_toArray, List.set_cons_zero, List.set_cons_succ]
  refine wpAnyH_take (i := 11) (oi := { dst := some 22, op := Op.move (Operand.tmp 21), type := 4, pos := "l02_waves.go:72", after := #[{ on := 10, ground := Ground.data }, { on := 9, ground := Ground.chain }], guard := none }) (v := Value.bool false) rfl (by kernel_rfl) (by kernel_rfl) (by kernel_rfl) (fun c a w h => hP0 c a _ _ w h) (Or.inl ⟨by rfl, ?_⟩) hS ?_
  · intro w hSw
    go_simp
  simp only [Act.put, List.setIfInBounds_toArray, List.set_cons_zero, List.set_cons_succ]
  refine wpAnyH_take (i := 12) (oi := { dst := some 23, op := Op.move (Operand.tmp 1), type := 26, pos := "l02_waves.go:72", after := #[{ on := 11, ground := Ground.guard }], guard := some (11, true) }) (v := undef) rfl (by kernel_rfl) (by kernel_rfl) (by kernel_rfl) (fun c a w h => hP0 c a _ _ w h) (Or.inr ⟨by rfl, rfl⟩) hS ?_
  simp only [Act.put, List.setIfInBounds_toArray, List.set_cons_zero, List.set_cons_succ]
  refine wpAnyH_take (i := 13) (oi := { dst := some 24, op := Op.call { callee := Callee.value (Operand.func 18), args := #[Operand.tmp 23], argTypes := #[26] }, type := 4, pos := "l02_waves.go:72", after := #[{ on := 12, ground := Ground.data }, { on := 11, ground := Ground.chain }, { on := 11, ground := Ground.guard }], guard := some (11, true) }) (v := undef) rfl (by kernel_rfl) (by kernel_rfl) (by kernel_rfl) (fun c a w h => hP0 c a _ _ w h) (Or.inr ⟨by rfl, rfl⟩) hS ?_
  simp only [Act.put, List.setIfInBounds_toArray, List.set_cons_zero, List.set_cons_succ]
  refine wpAnyH_take (i := 14) (oi := { dst := some 25, op := Op.pick (Operand.tmp 22) (Operand.tmp 24) (Operand.const (Value.bool false)), type := 4, pos := "l02_waves.go:72", after := #[{ on := 11, ground := Ground.data }, { on := 13, ground := Ground.data }], guard := none }) (v := Value.bool false) rfl (by kernel_rfl) (by kernel_rfl) (by kernel_rfl) (fun c a w h => hP0 c a _ _ w h) (Or.inl ⟨by rfl, ?_⟩) hS ?_
  · intro w hSw
    go_simp
  simp only [Act.put, List.setIfInBounds_toArray, List.set_cons_zero, List.set_cons_succ]
  refine wpAnyH_take (i := 15) (oi := { dst := some 26, op := Op.move (Operand.tmp 25), type := 4, pos := "l02_waves.go:72", after := #[{ on := 14, ground := Ground.data }, { on := 13, ground := Ground.chain }], guard := none }) (v := Value.bool false) rfl (by kernel_rfl) (by kernel_rfl) (by kernel_rfl) (fun c a w h => hP0 c a _ _ w h) (Or.inl ⟨by rfl, ?_⟩) hS ?_
  · intro w hSw
    go_simp
  simp only [Act.put, List.setIfInBounds_toArray, List.set_cons_zero, List.set_cons_succ]
  refine wpAnyH_take (i := 16) (oi := { dst := some 27, op := Op.move (Operand.tmp 2), type := 26, pos := "l02_waves.go:72", after := #[{ on := 15, ground := Ground.guard }], guard := some (15, true) }) (v := undef) rfl (by kernel_rfl) (by kernel_rfl) (by kernel_rfl) (fun c a w h => hP0 c a _ _ w h) (Or.inr ⟨by rfl, rfl⟩) hS ?_
  simp only [Act.put, List.setIfInBounds_toArray, List.set_cons_zero, List.set_cons_succ]
  refine wpAnyH_take (i := 17) (oi := { dst := some 28, op := Op.call { callee := Callee.value (Operand.func 18), args := #[Operand.tmp 27], argTypes := #[26] }, type := 4, pos := "l02_waves.go:72", after := #[{ on := 16, ground := Ground.data }, { on := 15, ground := Ground.chain }, { on := 15, ground := Ground.guard }], guard := some (15, true) }) (v := undef) rfl (by kernel_rfl) (by kernel_rfl) (by kernel_rfl) (fun c a w h => hP0 c a _ _ w h) (Or.inr ⟨by rfl, rfl⟩) hS ?_
  simp only [Act.put, List.setIfInBounds_toArray, List.set_cons_zero, List.set_cons_succ]
  refine wpAnyH_take (i := 18) (oi := { dst := some 29, op := Op.pick (Operand.tmp 26) (Operand.tmp 28) (Operand.const (Value.bool false)), type := 4, pos := "l02_waves.go:72", after := #[{ on := 15, ground := Ground.data }, { on := 17, ground := Ground.data }], guard := none }) (v := Value.bool false) rfl (by kernel_rfl) (by kernel_rfl) (by kernel_rfl) (fun c a w h => hP0 c a _ _ w h) (Or.inl ⟨by rfl, ?_⟩) hS ?_
  · intro w hSw
    go_simp
  simp only [Act.put, List.setIfInBounds_toArray, List.set_cons_zero, List.set_cons_succ]
  refine wpAnyH_ready (rs := [19]) (by kernel_rfl) (by simp) ?_
  refine AllReadyH.cons (o := { dst := some 30, op := Op.call { callee := Callee.value (Operand.func 16), args := #[Operand.tmp 11, Operand.tmp 29], argTypes := #[29, 4] }, type := 2, pos := "l02_waves.go:72", after := #[{ on := 0, ground := Ground.data }, { on := 18, ground := Ground.data }, { on := 17, ground := Ground.chain }], guard := none }) rfl (fun K hK => ?_) AllReadyH.nil
  rw [if_pos (by rfl)]
  go_simp
  refine (hC _).mono ?_
  rintro e w1 ⟨rfl, hb1⟩
  have hS1 := keepM hS hb1
  have hbd1 := (hbd).trans (hb1.mono (hbd).size)
  refine hK.out _ _ ?_ (fun _ => ?_)
  · exact hS1
  clear hK K
  try simp only [Act.put, List.setIfInBounds_toArray, List.set_cons_zero, List.set_cons_succ]
  refine wpAnyH_take (i := 20) (oi := { dst := some 10, op := Op.assign (Operand.tmp 30), type := 2, pos := "l02_waves.go:72", after := #[{ on := 19, ground := Ground.data }, { on := 19, ground := Ground.chain }, { on := 0, ground := Ground.phase }, { on := 1, ground := Ground.phase }, { on := 2, ground := Ground.phase }, { on := 3, ground := Ground.phase }, { on := 4, ground := Ground.phase }, { on := 5, ground := Ground.phase }, { on := 6, ground := Ground.phase }, { on := 7, ground := Ground.phase }, { on := 8, ground := Ground.phase }, { on := 9, ground := Ground.phase }, { on := 10, ground := Ground.phase }, { on := 11, ground := Ground.phase }, { on := 12, ground := Ground.phase }, { on := 13, ground := Ground.phase }, { on := 14, ground := Ground.phase }, { on := 15, ground := Ground.phase }, { on := 16, ground := Ground.phase }, { on := 17, ground := Ground.phase }, { on := 18, ground := Ground.phase }, { on := 19, ground := Ground.phase }], guard := none }) (v := Value.int .i64 c) rfl (by kernel_rfl) (by kernel_rfl) (by kernel_rfl) (fun c a w h => hP0 c a _ _ w h) (Or.inl ⟨by rfl, ?_⟩) hS1 ?_
  · intro w hSw
    go_simp
  simp only [Act.put, List.setIfInBounds_toArray, List.set_cons_zero, List.set_cons_succ]
  refine wpAnyH_done (by kernel_rfl) ?_ _
  exact hQ _ hbd1
theorem regM2 {x0 x4 x5 x6 x7 x8 x9 x31 x32 x33 x34 x35 x36 x37 x38 x39 x40 x41 x42 : Value} {g1 g2 n B : Nat} {c : Int} {bs : List Nat} {w0 wr : World} (hR : Road19 bs) (hsl : Slot wr B bs) (hb : Below w0.heap.size w0 wr) (hst : ∀ w', Calls Try.prog 17 #[.int .i64 n] w' (fun e w'' => e = .returned (.bool false) ∧ w' = w'')) 
    (hC : ∀ w', Calls Try.prog 16 #[Value.agg (fl bs).toArray, Value.bool false] w' (fun e w'' => e = .returned (.int .i64 c) ∧ Below w'.heap.size w' w''))
    {Q : Exit → Act → World → Prop} (hP0 : ∀ (c : _) (a : Act) (d : Option Tmp) (v : Value) (w : World), Q (.panic c) (a.put d v) w → Q (.panic c) a w)
    (hQ : ∀ w', Below wr.heap.size wr w' → Q .normal { tmps := #[x0, Value.slice (some { block := g1, off := 0 }) n n, Value.slice (some { block := g2, off := 0 }) n n, Value.pointer (some { block := B, off := 0 }), x4, x5, x6, x7, x8, x9, Value.int .i64 c, Value.agg (fl bs).toArray, Value.slice (some { block := g1, off := 0 }) n n, Value.int .i64 n, Value.slice (some { block := g2, off := 0 }) n n, Value.int .i64 n, Value.bool true, Value.bool true, Value.slice (some { block := g1, off := 0 }) n n, Value.int .i64 n, Value.bool false, Value.bool false, Value.bool false, undef, undef, Value.bool false, Value.bool false, undef, undef, Value.bool false, Value.int .i64 c, x31, x32, x33, x34, x35, x36, x37, x38, x39, x40, x41, x42], defers := [] } w') :
    (Code.region 1
      #[{ dst := some 11, op := Op.load 29 (Operand.tmp 3), type := 29, pos := "l02_waves.go:72", after := #[],
          guard := none },
        { dst := some 12, op := Op.move (Operand.tmp 1), type := 26, pos := "l02_waves.go:72", after := #[],
          guard := none },
        { dst := some 13,
          op := Op.call { callee := Callee.builtin Builtin.len, args := #[Operand.tmp 12], argTypes := #[26] },
          type := 3, pos := "l02_waves.go:72", after := #[{ on := 1, ground := Ground.data }], guard := none },
        { dst := some 14, op := Op.move (Operand.tmp 2), type := 26, pos := "l02_waves.go:72", after := #[],
          guard := none },
        { dst := some 15,
          op := Op.call { callee := Callee.builtin Builtin.len, args := #[Operand.tmp 14], argTypes := #[26] },
          type := 3, pos := "l02_waves.go:72", after := #[{ on := 3, ground := Ground.data }], guard := none },
        { dst := some 16, op := Op.binOp BinOp.eql 3 (Operand.tmp 13) (Operand.tmp 15) 3, type := 4,
          pos := "l02_waves.go:72", after := #[{ on := 2, ground := Ground.data }, { on := 4, ground := Ground.data }],
          guard := none },
        { dst := some 17, op := Op.move (Operand.tmp 16), type := 4, pos := "l02_waves.go:72",
          after := #[{ on := 5, ground := Ground.data }], guard := none },
        { dst := some 18, op := Op.move (Operand.tmp 1), type := 26, pos := "l02_waves.go:72",
          after := #[{ on := 6, ground := Ground.guard }], guard := some (6, true) },
        { dst := some 19,
          op := Op.call { callee := Callee.builtin Builtin.len, args := #[Operand.tmp 18], argTypes := #[26] },
          type := 3, pos := "l02_waves.go:72",
          after := #[{ on := 7, ground := Ground.data }, { on := 6, ground := Ground.guard }],
          guard := some (6, true) },
        { dst := some 20,
          op := Op.call { callee := Callee.value (Operand.func 17), args := #[Operand.tmp 19], argTypes := #[2] },
          type := 4, pos := "l02_waves.go:72",
          after :=
            #[{ on := 8, ground := Ground.data }, { on := 6, ground := Ground.chain },
              { on := 6, ground := Ground.guard }],
          guard := some (6, true) },
        { dst := some 21, op := Op.pick (Operand.tmp 17) (Operand.tmp 20) (Operand.const (Value.bool false)), type := 4,
          pos := "l02_waves.go:72", after := #[{ on := 6, ground := Ground.data }, { on := 9, ground := Ground.data }],
          guard := none },
        { dst := some 22, op := Op.move (Operand.tmp 21), type := 4, pos := "l02_waves.go:72",
          after := #[{ on := 10, ground := Ground.data }, { on := 9, ground := Ground.chain }], guard := none },
        { dst := some 23, op := Op.move (Operand.tmp 1), type := 26, pos := "l02_waves.go:72",
          after := #[{ on := 11, ground := Ground.guard }], guard := some (11, true) },
        { dst := some 24,
          op := Op.call { callee := Callee.value (Operand.func 18), args := #[Operand.tmp 23], argTypes := #[26] },
          type := 4, pos := "l02_waves.go:72",
          after :=
            #[{ on := 12, ground := Ground.data }, { on := 11, ground := Ground.chain },
              { on := 11, ground := Ground.guard }],
          guard := some (11, true) },
        { dst := some 25, op := Op.pick (Operand.tmp 22) (Operand.tmp 24) (Operand.const (Value.bool false)), type := 4,
          pos := "l02_waves.go:72",
          after := #[{ on := 11, ground := Ground.data }, { on := 13, ground := Ground.data }], guard := none },
        { dst := some 26, op := Op.move (Operand.tmp 25), type := 4, pos := "l02_waves.go:72",
          after := #[{ on := 14, ground := Ground.data }, { on := 13, ground := Ground.chain }], guard := none },
        { dst := some 27, op := Op.move (Operand.tmp 2), type := 26, pos := "l02_waves.go:72",
          after := #[{ on := 15, ground := Ground.guard }], guard := some (15, true) },
        { dst := some 28,
          op := Op.call { callee := Callee.value (Operand.func 18), args := #[Operand.tmp 27], argTypes := #[26] },
          type := 4, pos := "l02_waves.go:72",
          after :=
            #[{ on := 16, ground := Ground.data }, { on := 15, ground := Ground.chain },
              { on := 15, ground := Ground.guard }],
          guard := some (15, true) },
        { dst := some 29, op := Op.pick (Operand.tmp 26) (Operand.tmp 28) (Operand.const (Value.bool false)), type := 4,
          pos := "l02_waves.go:72",
          after := #[{ on := 15, ground := Ground.data }, { on := 17, ground := Ground.data }], guard := none },
        { dst := some 30,
          op :=
            Op.call
              { callee := Callee.value (Operand.func 16), args := #[Operand.tmp 11, Operand.tmp 29],
                argTypes := #[29, 4] },
          type := 2, pos := "l02_waves.go:72",
          after :=
            #[{ on := 0, ground := Ground.data }, { on := 18, ground := Ground.data },
              { on := 17, ground := Ground.chain }],
          guard := none },
        { dst := some 10, op := Op.assign (Operand.tmp 30), type := 2, pos := "l02_waves.go:72",
          after :=
            #[{ on := 19, ground := Ground.data }, { on := 19, ground := Ground.chain },
              { on := 0, ground := Ground.phase }, { on := 1, ground := Ground.phase },
              { on := 2, ground := Ground.phase }, { on := 3, ground := Ground.phase },
              { on := 4, ground := Ground.phase }, { on := 5, ground := Ground.phase },
              { on := 6, ground := Ground.phase }, { on := 7, ground := Ground.phase },
              { on := 8, ground := Ground.phase }, { on := 9, ground := Ground.phase },
              { on := 10, ground := Ground.phase }, { on := 11, ground := Ground.phase },
              { on := 12, ground := Ground.phase }, { on := 13, ground := Ground.phase },
              { on := 14, ground := Ground.phase }, { on := 15, ground := Ground.phase },
              { on := 16, ground := Ground.phase }, { on := 17, ground := Ground.phase },
              { on := 18, ground := Ground.phase }, { on := 19, ground := Ground.phase }],
          guard := none }]
      true).wp Try.prog Q { tmps := #[x0, Value.slice (some { block := g1, off := 0 }) n n, Value.slice (some { block := g2, off := 0 }) n n, Value.pointer (some { block := B, off := 0 }), x4, x5, x6, x7, x8, x9, undef, undef, undef, undef, undef, undef, undef, undef, undef, undef, undef, undef, undef, undef, undef, undef, undef, undef, undef, undef, undef, x31, x32, x33, x34, x35, x36, x37, x38, x39, x40, x41, x42], defers := [] } wr := by
  refine wp_region_held_drew (S := fun w' => Slot w' B bs ∧ Below w0.heap.size w0 w') (by kernel_rfl) ⟨hsl.drew, hb.drew⟩ (fun hS => ?_)
  have hbd : Below wr.heap.size wr wr.drew := (Below.refl _ _).drew
  refine wpAnyH_take (i := 0) (oi := { dst := some 11, op := Op.load 29 (Operand.tmp 3), type := 29, pos := "l02_waves.go:72", after := #[], guard := none }) (v := Value.agg (fl bs).toArray) rfl (by kernel_rfl) (by kernel_rfl) (by kernel_rfl) (fun c a w h => hP0 c a _ _ w h) (yieldsIf_load_mid (by rfl) 29 (.tmp 3) rfl B 0 rfl (fl bs) _ (fun w h => h.1.range) Try.underlying29 rfl (flsize hR.1)) hS ?_
  simp only [Act.put, List.setIfInBounds_toArray, List.set_cons_zero, List.set_cons_succ]
  refine wpAnyH_take (i := 1) (oi := { dst := some 12, op := Op.move (Operand.tmp 1), type := 26, pos := "l02_waves.go:72", after := #[], guard := none }) (v := Value.slice (some { block := g1, off := 0 }) n n) rfl (by kernel_rfl) (by kernel_rfl) (by kernel_rfl) (fun c a w h => hP0 c a _ _ w h) (Or.inl ⟨by rfl, ?_⟩) hS ?_
  · intro w hSw
    go_simp
  simp only [Act.put, List.setIfInBounds_toArray, List.set_cons_zero, List.set_cons_succ]
  refine wpAnyH_take (i := 2) (oi := { dst := some 13, op := Op.call { callee := Callee.builtin Builtin.len, args := #[Operand.tmp 12], argTypes := #[26] }, type := 3, pos := "l02_waves.go:72", after := #[{ on := 1, ground := Ground.data }], guard := none }) (v := Value.int .i64 n) rfl (by kernel_rfl) (by kernel_rfl) (by kernel_rfl) (fun c a w h => hP0 c a _ _ w h) (Or.inl ⟨by rfl, ?_⟩) hS ?_
  · intro w hSw
    go_simp
  simp only [Act.put, List.setIfInBounds_toArray, List.set_cons_zero, List.set_cons_succ]
  refine wpAnyH_take (i := 3) (oi := { dst := some 14, op := Op.move (Operand.tmp 2), type := 26, pos := "l02_waves.go:72", after := #[], guard := none }) (v := Value.slice (some { block := g2, off := 0 }) n n) rfl (by kernel_rfl) (by kernel_rfl) (by kernel_rfl) (fun c a w h => hP0 c a _ _ w h) (Or.inl ⟨by rfl, ?_⟩) hS ?_
  · intro w hSw
    go_simp
  simp only [Act.put, List.setIfInBounds_toArray, List.set_cons_zero, List.set_cons_succ]
  refine wpAnyH_take (i := 4) (oi := { dst := some 15, op := Op.call { callee := Callee.builtin Builtin.len, args := #[Operand.tmp 14], argTypes := #[26] }, type := 3, pos := "l02_waves.go:72", after := #[{ on := 3, ground := Ground.data }], guard := none }) (v := Value.int .i64 n) rfl (by kernel_rfl) (by kernel_rfl) (by kernel_rfl) (fun c a w h => hP0 c a _ _ w h) (Or.inl ⟨by rfl, ?_⟩) hS ?_
  · intro w hSw
    go_simp
  simp only [Act.put, List.setIfInBounds_toArray, List.set_cons_zero, List.set_cons_succ]
  refine wpAnyH_take (i := 5) (oi := { dst := some 16, op := Op.binOp BinOp.eql 3 (Operand.tmp 13) (Operand.tmp 15) 3, type := 4, pos := "l02_waves.go:72", after := #[{ on := 2, ground := Ground.data }, { on := 4, ground := Ground.data }], guard := none }) (v := Value.bool true) rfl (by kernel_rfl) (by kernel_rfl) (by kernel_rfl) (fun c a w h => hP0 c a _ _ w h) (Or.inl ⟨by rfl, ?_⟩) hS ?_
  · intro w hSw
    go_simp
  simp only [Act.put, List.setIfInBounds_toArray, List.set_cons_zero, List.set_cons_succ]
  refine wpAnyH_take (i := 6) (oi := { dst := some 17, op := Op.move (Operand.tmp 16), type := 4, pos := "l02_waves.go:72", after := #[{ on := 5, ground := Ground.data }], guard := none }) (v := Value.bool true) rfl (by kernel_rfl) (by kernel_rfl) (by kernel_rfl) (fun c a w h => hP0 c a _ _ w h) (Or.inl ⟨by rfl, ?_⟩) hS ?_
  · intro w hSw
    go_simp
  simp only [Act.put, List.setIfInBounds_toArray, List.set_cons_zero, List.set_cons_succ]
  refine wpAnyH_take (i := 7) (oi := { dst := some 18, op := Op.move (Operand.tmp 1), type := 26, pos := "l02_waves.go:72", after := #[{ on := 6, ground := Ground.guard }], guard := some (6, true) }) (v := Value.slice (some { block := g1, off := 0 }) n n) rfl (by kernel_rfl) (by kernel_rfl) (by kernel_rfl) (fun c a w h => hP0 c a _ _ w h) (Or.inl ⟨by rfl, ?_⟩) hS ?_
  · intro w hSw
    go_simp
  simp only [Act.put, List.setIfInBounds_toArray, List.set_cons_zero, List.set_cons_succ]
  refine wpAnyH_take (i := 8) (oi := { dst := some 19, op := Op.call { callee := Callee.builtin Builtin.len, args := #[Operand.tmp 18], argTypes := #[26] }, type := 3, pos := "l02_waves.go:72", after := #[{ on := 7, ground := Ground.data }, { on := 6, ground := Ground.guard }], guard := some (6, true) }) (v := Value.int .i64 n) rfl (by kernel_rfl) (by kernel_rfl) (by kernel_rfl) (fun c a w h => hP0 c a _ _ w h) (Or.inl ⟨by rfl, ?_⟩) hS ?_
  · intro w hSw
    go_simp
  simp only [Act.put, List.setIfInBounds_toArray, List.set_cons_zero, List.set_cons_succ]
  refine wpAnyH_ready (rs := [9]) (by kernel_rfl) (by simp) ?_
  refine AllReadyH.cons (o := { dst := some 20, op := Op.call { callee := Callee.value (Operand.func 17), args := #[Operand.tmp 19], argTypes := #[2] }, type := 4, pos := "l02_waves.go:72", after := #[{ on := 8, ground := Ground.data }, { on := 6, ground := Ground.chain }, { on := 6, ground := Ground.guard }], guard := some (6, true) }) rfl (fun K hK => ?_) AllReadyH.nil
  rw [if_pos (by rfl)]
  go_simp
  refine (hst _).mono ?_
  rintro e w' ⟨rfl, rfl⟩
  refine hK.out _ _ ?_ (fun _ => ?_)
  · exact hS
  clear hK K
  try simp only [Act.put, List.setIfInBounds_toArray, List.set_cons_zero, List.set_cons_succ]
  refine wpAnyH_take (i := 10) (oi := { dst := some 21, op := Op.pick (Operand.tmp 17) (Operand.tmp 20) (Operand.const (Value.bool false)), type := 4, pos := "l02_waves.go:72", after := #[{ on := 6, ground := Ground.data }, { on := 9, ground := Ground.data }], guard := none }) (v := Value.bool false) rfl (by kernel_rfl) (by kernel_rfl) (by kernel_rfl) (fun c a w h => hP0 c a _ _ w h) (Or.inl ⟨by rfl, ?_⟩) hS ?_
  · intro w hSw
    go_simp
  simp only [Act.put, List.setIfInBounds_toArray, List.set_cons_zero, List.set_cons_succ]
  refine wpAnyH_take (i := 11) (oi := { dst := some 22, op := Op.move (Operand.tmp 21), type := 4, pos := "l02_waves.go:72", after := #[{ on := 10, ground := Ground.data }, { on := 9, ground := Ground.chain }], guard := none }) (v := Value.bool false) rfl (by kernel_rfl) (by kernel_rfl) (by kernel_rfl) (fun c a w h => hP0 c a _ _ w h) (Or.inl ⟨by rfl, ?_⟩) hS ?_
  · intro w hSw
    go_simp
  simp only [Act.put, List.setIfInBounds_toArray, List.set_cons_zero, List.set_cons_succ]
  refine wpAnyH_take (i := 12) (oi := { dst := some 23, op := Op.move (Operand.tmp 1), type := 26, pos := "l02_waves.go:72", after := #[{ on := 11, ground := Ground.guard }], guard := some (11, true) }) (v := undef) rfl (by kernel_rfl) (by kernel_rfl) (by kernel_rfl) (fun c a w h => hP0 c a _ _ w h) (Or.inr ⟨by rfl, rfl⟩) hS ?_
  simp only [Act.put, List.setIfInBounds_toArray, List.set_cons_zero, List.set_cons_succ]
  refine wpAnyH_take (i := 13) (oi := { dst := some 24, op := Op.call { callee := Callee.value (Operand.func 18), args := #[Operand.tmp 23], argTypes := #[26] }, type := 4, pos := "l02_waves.go:72", after := #[{ on := 12, ground := Ground.data }, { on := 11, ground := Ground.chain }, { on := 11, ground := Ground.guard }], guard := some (11, true) }) (v := undef) rfl (by kernel_rfl) (by kernel_rfl) (by kernel_rfl) (fun c a w h => hP0 c a _ _ w h) (Or.inr ⟨by rfl, rfl⟩) hS ?_
  simp only [Act.put, List.setIfInBounds_toArray, List.set_cons_zero, List.set_cons_succ]
  refine wpAnyH_take (i := 14) (oi := { dst := some 25, op := Op.pick (Operand.tmp 22) (Operand.tmp 24) (Operand.const (Value.bool false)), type := 4, pos := "l02_waves.go:72", after := #[{ on := 11, ground := Ground.data }, { on := 13, ground := Ground.data }], guard := none }) (v := Value.bool false) rfl (by kernel_rfl) (by kernel_rfl) (by kernel_rfl) (fun c a w h => hP0 c a _ _ w h) (Or.inl ⟨by rfl, ?_⟩) hS ?_
  · intro w hSw
    go_simp
  simp only [Act.put, List.setIfInBounds_toArray, List.set_cons_zero, List.set_cons_succ]
  refine wpAnyH_take (i := 15) (oi := { dst := some 26, op := Op.move (Operand.tmp 25), type := 4, pos := "l02_waves.go:72", after := #[{ on := 14, ground := Ground.data }, { on := 13, ground := Ground.chain }], guard := none }) (v := Value.bool false) rfl (by kernel_rfl) (by kernel_rfl) (by kernel_rfl) (fun c a w h => hP0 c a _ _ w h) (Or.inl ⟨by rfl, ?_⟩) hS ?_
  · intro w hSw
    go_simp
  simp only [Act.put, List.setIfInBounds_toArray, List.set_cons_zero, List.set_cons_succ]
  refine wpAnyH_take (i := 16) (oi := { dst := some 27, op := Op.move (Operand.tmp 2), type := 26, pos := "l02_waves.go:72", after := #[{ on := 15, ground := Ground.guard }], guard := some (15, true) }) (v := undef) rfl (by kernel_rfl) (by kernel_rfl) (by kernel_rfl) (fun c a w h => hP0 c a _ _ w h) (Or.inr ⟨by rfl, rfl⟩) hS ?_
  simp only [Act.put, List.setIfInBounds_toArray, List.set_cons_zero, List.set_cons_succ]
  refine wpAnyH_take (i := 17) (oi := { dst := some 28, op := Op.call { callee := Callee.value (Operand.func 18), args := #[Operand.tmp 27], argTypes := #[26] }, type := 4, pos := "l02_waves.go:72", after := #[{ on := 16, ground := Ground.data }, { on := 15, ground := Ground.chain }, { on := 15, ground := Ground.guard }], guard := some (15, true) }) (v := undef) rfl (by kernel_rfl) (by kernel_rfl) (by kernel_rfl) (fun c a w h => hP0 c a _ _ w h) (Or.inr ⟨by rfl, rfl⟩) hS ?_
  simp only [Act.put, List.setIfInBounds_toArray, List.set_cons_zero, List.set_cons_succ]
  refine wpAnyH_take (i := 18) (oi := { dst := some 29, op := Op.pick (Operand.tmp 26) (Operand.tmp 28) (Operand.const (Value.bool false)), type := 4, pos := "l02_waves.go:72", after := #[{ on := 15, ground := Ground.data }, { on := 17, ground := Ground.data }], guard := none }) (v := Value.bool false) rfl (by kernel_rfl) (by kernel_rfl) (by kernel_rfl) (fun c a w h => hP0 c a _ _ w h) (Or.inl ⟨by rfl, ?_⟩) hS ?_
  · intro w hSw
    go_simp
  simp only [Act.put, List.setIfInBounds_toArray, List.set_cons_zero, List.set_cons_succ]
  refine wpAnyH_ready (rs := [19]) (by kernel_rfl) (by simp) ?_
  refine AllReadyH.cons (o := { dst := some 30, op := Op.call { callee := Callee.value (Operand.func 16), args := #[Operand.tmp 11, Operand.tmp 29], argTypes := #[29, 4] }, type := 2, pos := "l02_waves.go:72", after := #[{ on := 0, ground := Ground.data }, { on := 18, ground := Ground.data }, { on := 17, ground := Ground.chain }], guard := none }) rfl (fun K hK => ?_) AllReadyH.nil
  rw [if_pos (by rfl)]
  go_simp
  refine (hC _).mono ?_
  rintro e w1 ⟨rfl, hb1⟩
  have hS1 := keepM hS hb1
  have hbd1 := (hbd).trans (hb1.mono (hbd).size)
  refine hK.out _ _ ?_ (fun _ => ?_)
  · exact hS1
  clear hK K
  try simp only [Act.put, List.setIfInBounds_toArray, List.set_cons_zero, List.set_cons_succ]
  refine wpAnyH_take (i := 20) (oi := { dst := some 10, op := Op.assign (Operand.tmp 30), type := 2, pos := "l02_waves.go:72", after := #[{ on := 19, ground := Ground.data }, { on := 19, ground := Ground.chain }, { on := 0, ground := Ground.phase }, { on := 1, ground := Ground.phase }, { on := 2, ground := Ground.phase }, { on := 3, ground := Ground.phase }, { on := 4, ground := Ground.phase }, { on := 5, ground := Ground.phase }, { on := 6, ground := Ground.phase }, { on := 7, ground := Ground.phase }, { on := 8, ground := Ground.phase }, { on := 9, ground := Ground.phase }, { on := 10, ground := Ground.phase }, { on := 11, ground := Ground.phase }, { on := 12, ground := Ground.phase }, { on := 13, ground := Ground.phase }, { on := 14, ground := Ground.phase }, { on := 15, ground := Ground.phase }, { on := 16, ground := Ground.phase }, { on := 17, ground := Ground.phase }, { on := 18, ground := Ground.phase }, { on := 19, ground := Ground.phase }], guard := none }) (v := Value.int .i64 c) rfl (by kernel_rfl) (by kernel_rfl) (by kernel_rfl) (fun c a w h => hP0 c a _ _ w h) (Or.inl ⟨by rfl, ?_⟩) hS1 ?_
  · intro w hSw
    go_simp
  simp only [Act.put, List.setIfInBounds_toArray, List.set_cons_zero, List.set_cons_succ]
  refine wpAnyH_done (by kernel_rfl) ?_ _
  exact hQ _ hbd1
theorem regM3 {x0 x4 x5 x6 x7 x8 x9 x31 x32 x33 x34 x35 x36 x37 x38 x39 x40 x41 x42 : Value} {g1 g2 n B : Nat} {c : Int} {bs : List Nat} {w0 wr : World} (hR : Road19 bs) (hsl : Slot wr B bs) (hb : Below w0.heap.size w0 wr) (hst : ∀ w', Calls Try.prog 17 #[.int .i64 n] w' (fun e w'' => e = .returned (.bool true) ∧ w' = w'')) (hA1 : ∀ w', Below w0.heap.size w0 w' → Calls Try.prog 18 #[Value.slice (some { block := g1, off := 0 }) n n] w' (fun e w'' => e = .returned (.bool false) ∧ Below w'.heap.size w' w'')) 
    (hC : ∀ w', Calls Try.prog 16 #[Value.agg (fl bs).toArray, Value.bool false] w' (fun e w'' => e = .returned (.int .i64 c) ∧ Below w'.heap.size w' w''))
    {Q : Exit → Act → World → Prop} (hP0 : ∀ (c : _) (a : Act) (d : Option Tmp) (v : Value) (w : World), Q (.panic c) (a.put d v) w → Q (.panic c) a w)
    (hQ : ∀ w', Below wr.heap.size wr w' → Q .normal { tmps := #[x0, Value.slice (some { block := g1, off := 0 }) n n, Value.slice (some { block := g2, off := 0 }) n n, Value.pointer (some { block := B, off := 0 }), x4, x5, x6, x7, x8, x9, Value.int .i64 c, Value.agg (fl bs).toArray, Value.slice (some { block := g1, off := 0 }) n n, Value.int .i64 n, Value.slice (some { block := g2, off := 0 }) n n, Value.int .i64 n, Value.bool true, Value.bool true, Value.slice (some { block := g1, off := 0 }) n n, Value.int .i64 n, Value.bool true, Value.bool true, Value.bool true, Value.slice (some { block := g1, off := 0 }) n n, Value.bool false, Value.bool false, Value.bool false, undef, undef, Value.bool false, Value.int .i64 c, x31, x32, x33, x34, x35, x36, x37, x38, x39, x40, x41, x42], defers := [] } w') :
    (Code.region 1
      #[{ dst := some 11, op := Op.load 29 (Operand.tmp 3), type := 29, pos := "l02_waves.go:72", after := #[],
          guard := none },
        { dst := some 12, op := Op.move (Operand.tmp 1), type := 26, pos := "l02_waves.go:72", after := #[],
          guard := none },
        { dst := some 13,
          op := Op.call { callee := Callee.builtin Builtin.len, args := #[Operand.tmp 12], argTypes := #[26] },
          type := 3, pos := "l02_waves.go:72", after := #[{ on := 1, ground := Ground.data }], guard := none },
        { dst := some 14, op := Op.move (Operand.tmp 2), type := 26, pos := "l02_waves.go:72", after := #[],
          guard := none },
        { dst := some 15,
          op := Op.call { callee := Callee.builtin Builtin.len, args := #[Operand.tmp 14], argTypes := #[26] },
          type := 3, pos := "l02_waves.go:72", after := #[{ on := 3, ground := Ground.data }], guard := none },
        { dst := some 16, op := Op.binOp BinOp.eql 3 (Operand.tmp 13) (Operand.tmp 15) 3, type := 4,
          pos := "l02_waves.go:72", after := #[{ on := 2, ground := Ground.data }, { on := 4, ground := Ground.data }],
          guard := none },
        { dst := some 17, op := Op.move (Operand.tmp 16), type := 4, pos := "l02_waves.go:72",
          after := #[{ on := 5, ground := Ground.data }], guard := none },
        { dst := some 18, op := Op.move (Operand.tmp 1), type := 26, pos := "l02_waves.go:72",
          after := #[{ on := 6, ground := Ground.guard }], guard := some (6, true) },
        { dst := some 19,
          op := Op.call { callee := Callee.builtin Builtin.len, args := #[Operand.tmp 18], argTypes := #[26] },
          type := 3, pos := "l02_waves.go:72",
          after := #[{ on := 7, ground := Ground.data }, { on := 6, ground := Ground.guard }],
          guard := some (6, true) },
        { dst := some 20,
          op := Op.call { callee := Callee.value (Operand.func 17), args := #[Operand.tmp 19], argTypes := #[2] },
          type := 4, pos := "l02_waves.go:72",
          after :=
            #[{ on := 8, ground := Ground.data }, { on := 6, ground := Ground.chain },
              { on := 6, ground := Ground.guard }],
          guard := some (6, true) },
        { dst := some 21, op := Op.pick (Operand.tmp 17) (Operand.tmp 20) (Operand.const (Value.bool false)), type := 4,
          pos := "l02_waves.go:72", after := #[{ on := 6, ground := Ground.data }, { on := 9, ground := Ground.data }],
          guard := none },
        { dst := some 22, op := Op.move (Operand.tmp 21), type := 4, pos := "l02_waves.go:72",
          after := #[{ on := 10, ground := Ground.data }, { on := 9, ground := Ground.chain }], guard := none },
        { dst := some 23, op := Op.move (Operand.tmp 1), type := 26, pos := "l02_waves.go:72",
          after := #[{ on := 11, ground := Ground.guard }], guard := some (11, true) },
        { dst := some 24,
          op := Op.call { callee := Callee.value (Operand.func 18), args := #[Operand.tmp 23], argTypes := #[26] },
          type := 4, pos := "l02_waves.go:72",
          after :=
            #[{ on := 12, ground := Ground.data }, { on := 11, ground := Ground.chain },
              { on := 11, ground := Ground.guard }],
          guard := some (11, true) },
        { dst := some 25, op := Op.pick (Operand.tmp 22) (Operand.tmp 24) (Operand.const (Value.bool false)), type := 4,
          pos := "l02_waves.go:72",
          after := #[{ on := 11, ground := Ground.data }, { on := 13, ground := Ground.data }], guard := none },
        { dst := some 26, op := Op.move (Operand.tmp 25), type := 4, pos := "l02_waves.go:72",
          after := #[{ on := 14, ground := Ground.data }, { on := 13, ground := Ground.chain }], guard := none },
        { dst := some 27, op := Op.move (Operand.tmp 2), type := 26, pos := "l02_waves.go:72",
          after := #[{ on := 15, ground := Ground.guard }], guard := some (15, true) },
        { dst := some 28,
          op := Op.call { callee := Callee.value (Operand.func 18), args := #[Operand.tmp 27], argTypes := #[26] },
          type := 4, pos := "l02_waves.go:72",
          after :=
            #[{ on := 16, ground := Ground.data }, { on := 15, ground := Ground.chain },
              { on := 15, ground := Ground.guard }],
          guard := some (15, true) },
        { dst := some 29, op := Op.pick (Operand.tmp 26) (Operand.tmp 28) (Operand.const (Value.bool false)), type := 4,
          pos := "l02_waves.go:72",
          after := #[{ on := 15, ground := Ground.data }, { on := 17, ground := Ground.data }], guard := none },
        { dst := some 30,
          op :=
            Op.call
              { callee := Callee.value (Operand.func 16), args := #[Operand.tmp 11, Operand.tmp 29],
                argTypes := #[29, 4] },
          type := 2, pos := "l02_waves.go:72",
          after :=
            #[{ on := 0, ground := Ground.data }, { on := 18, ground := Ground.data },
              { on := 17, ground := Ground.chain }],
          guard := none },
        { dst := some 10, op := Op.assign (Operand.tmp 30), type := 2, pos := "l02_waves.go:72",
          after :=
            #[{ on := 19, ground := Ground.data }, { on := 19, ground := Ground.chain },
              { on := 0, ground := Ground.phase }, { on := 1, ground := Ground.phase },
              { on := 2, ground := Ground.phase }, { on := 3, ground := Ground.phase },
              { on := 4, ground := Ground.phase }, { on := 5, ground := Ground.phase },
              { on := 6, ground := Ground.phase }, { on := 7, ground := Ground.phase },
              { on := 8, ground := Ground.phase }, { on := 9, ground := Ground.phase },
              { on := 10, ground := Ground.phase }, { on := 11, ground := Ground.phase },
              { on := 12, ground := Ground.phase }, { on := 13, ground := Ground.phase },
              { on := 14, ground := Ground.phase }, { on := 15, ground := Ground.phase },
              { on := 16, ground := Ground.phase }, { on := 17, ground := Ground.phase },
              { on := 18, ground := Ground.phase }, { on := 19, ground := Ground.phase }],
          guard := none }]
      true).wp Try.prog Q { tmps := #[x0, Value.slice (some { block := g1, off := 0 }) n n, Value.slice (some { block := g2, off := 0 }) n n, Value.pointer (some { block := B, off := 0 }), x4, x5, x6, x7, x8, x9, undef, undef, undef, undef, undef, undef, undef, undef, undef, undef, undef, undef, undef, undef, undef, undef, undef, undef, undef, undef, undef, x31, x32, x33, x34, x35, x36, x37, x38, x39, x40, x41, x42], defers := [] } wr := by
  refine wp_region_held_drew (S := fun w' => Slot w' B bs ∧ Below w0.heap.size w0 w') (by kernel_rfl) ⟨hsl.drew, hb.drew⟩ (fun hS => ?_)
  have hbd : Below wr.heap.size wr wr.drew := (Below.refl _ _).drew
  refine wpAnyH_take (i := 0) (oi := { dst := some 11, op := Op.load 29 (Operand.tmp 3), type := 29, pos := "l02_waves.go:72", after := #[], guard := none }) (v := Value.agg (fl bs).toArray) rfl (by kernel_rfl) (by kernel_rfl) (by kernel_rfl) (fun c a w h => hP0 c a _ _ w h) (yieldsIf_load_mid (by rfl) 29 (.tmp 3) rfl B 0 rfl (fl bs) _ (fun w h => h.1.range) Try.underlying29 rfl (flsize hR.1)) hS ?_
  simp only [Act.put, List.setIfInBounds_toArray, List.set_cons_zero, List.set_cons_succ]
  refine wpAnyH_take (i := 1) (oi := { dst := some 12, op := Op.move (Operand.tmp 1), type := 26, pos := "l02_waves.go:72", after := #[], guard := none }) (v := Value.slice (some { block := g1, off := 0 }) n n) rfl (by kernel_rfl) (by kernel_rfl) (by kernel_rfl) (fun c a w h => hP0 c a _ _ w h) (Or.inl ⟨by rfl, ?_⟩) hS ?_
  · intro w hSw
    go_simp
  simp only [Act.put, List.setIfInBounds_toArray, List.set_cons_zero, List.set_cons_succ]
  refine wpAnyH_take (i := 2) (oi := { dst := some 13, op := Op.call { callee := Callee.builtin Builtin.len, args := #[Operand.tmp 12], argTypes := #[26] }, type := 3, pos := "l02_waves.go:72", after := #[{ on := 1, ground := Ground.data }], guard := none }) (v := Value.int .i64 n) rfl (by kernel_rfl) (by kernel_rfl) (by kernel_rfl) (fun c a w h => hP0 c a _ _ w h) (Or.inl ⟨by rfl, ?_⟩) hS ?_
  · intro w hSw
    go_simp
  simp only [Act.put, List.setIfInBounds_toArray, List.set_cons_zero, List.set_cons_succ]
  refine wpAnyH_take (i := 3) (oi := { dst := some 14, op := Op.move (Operand.tmp 2), type := 26, pos := "l02_waves.go:72", after := #[], guard := none }) (v := Value.slice (some { block := g2, off := 0 }) n n) rfl (by kernel_rfl) (by kernel_rfl) (by kernel_rfl) (fun c a w h => hP0 c a _ _ w h) (Or.inl ⟨by rfl, ?_⟩) hS ?_
  · intro w hSw
    go_simp
  simp only [Act.put, List.setIfInBounds_toArray, List.set_cons_zero, List.set_cons_succ]
  refine wpAnyH_take (i := 4) (oi := { dst := some 15, op := Op.call { callee := Callee.builtin Builtin.len, args := #[Operand.tmp 14], argTypes := #[26] }, type := 3, pos := "l02_waves.go:72", after := #[{ on := 3, ground := Ground.data }], guard := none }) (v := Value.int .i64 n) rfl (by kernel_rfl) (by kernel_rfl) (by kernel_rfl) (fun c a w h => hP0 c a _ _ w h) (Or.inl ⟨by rfl, ?_⟩) hS ?_
  · intro w hSw
    go_simp
  simp only [Act.put, List.setIfInBounds_toArray, List.set_cons_zero, List.set_cons_succ]
  refine wpAnyH_take (i := 5) (oi := { dst := some 16, op := Op.binOp BinOp.eql 3 (Operand.tmp 13) (Operand.tmp 15) 3, type := 4, pos := "l02_waves.go:72", after := #[{ on := 2, ground := Ground.data }, { on := 4, ground := Ground.data }], guard := none }) (v := Value.bool true) rfl (by kernel_rfl) (by kernel_rfl) (by kernel_rfl) (fun c a w h => hP0 c a _ _ w h) (Or.inl ⟨by rfl, ?_⟩) hS ?_
  · intro w hSw
    go_simp
  simp only [Act.put, List.setIfInBounds_toArray, List.set_cons_zero, List.set_cons_succ]
  refine wpAnyH_take (i := 6) (oi := { dst := some 17, op := Op.move (Operand.tmp 16), type := 4, pos := "l02_waves.go:72", after := #[{ on := 5, ground := Ground.data }], guard := none }) (v := Value.bool true) rfl (by kernel_rfl) (by kernel_rfl) (by kernel_rfl) (fun c a w h => hP0 c a _ _ w h) (Or.inl ⟨by rfl, ?_⟩) hS ?_
  · intro w hSw
    go_simp
  simp only [Act.put, List.setIfInBounds_toArray, List.set_cons_zero, List.set_cons_succ]
  refine wpAnyH_take (i := 7) (oi := { dst := some 18, op := Op.move (Operand.tmp 1), type := 26, pos := "l02_waves.go:72", after := #[{ on := 6, ground := Ground.guard }], guard := some (6, true) }) (v := Value.slice (some { block := g1, off := 0 }) n n) rfl (by kernel_rfl) (by kernel_rfl) (by kernel_rfl) (fun c a w h => hP0 c a _ _ w h) (Or.inl ⟨by rfl, ?_⟩) hS ?_
  · intro w hSw
    go_simp
  simp only [Act.put, List.setIfInBounds_toArray, List.set_cons_zero, List.set_cons_succ]
  refine wpAnyH_take (i := 8) (oi := { dst := some 19, op := Op.call { callee := Callee.builtin Builtin.len, args := #[Operand.tmp 18], argTypes := #[26] }, type := 3, pos := "l02_waves.go:72", after := #[{ on := 7, ground := Ground.data }, { on := 6, ground := Ground.guard }], guard := some (6, true) }) (v := Value.int .i64 n) rfl (by kernel_rfl) (by kernel_rfl) (by kernel_rfl) (fun c a w h => hP0 c a _ _ w h) (Or.inl ⟨by rfl, ?_⟩) hS ?_
  · intro w hSw
    go_simp
  simp only [Act.put, List.setIfInBounds_toArray, List.set_cons_zero, List.set_cons_succ]
  refine wpAnyH_ready (rs := [9]) (by kernel_rfl) (by simp) ?_
  refine AllReadyH.cons (o := { dst := some 20, op := Op.call { callee := Callee.value (Operand.func 17), args := #[Operand.tmp 19], argTypes := #[2] }, type := 4, pos := "l02_waves.go:72", after := #[{ on := 8, ground := Ground.data }, { on := 6, ground := Ground.chain }, { on := 6, ground := Ground.guard }], guard := some (6, true) }) rfl (fun K hK => ?_) AllReadyH.nil
  rw [if_pos (by rfl)]
  go_simp
  refine (hst _).mono ?_
  rintro e w' ⟨rfl, rfl⟩
  refine hK.out _ _ ?_ (fun _ => ?_)
  · exact hS
  clear hK K
  try simp only [Act.put, List.setIfInBounds_toArray, List.set_cons_zero, List.set_cons_succ]
  refine wpAnyH_take (i := 10) (oi := { dst := some 21, op := Op.pick (Operand.tmp 17) (Operand.tmp 20) (Operand.const (Value.bool false)), type := 4, pos := "l02_waves.go:72", after := #[{ on := 6, ground := Ground.data }, { on := 9, ground := Ground.data }], guard := none }) (v := Value.bool true) rfl (by kernel_rfl) (by kernel_rfl) (by kernel_rfl) (fun c a w h => hP0 c a _ _ w h) (Or.inl ⟨by rfl, ?_⟩) hS ?_
  · intro w hSw
    go_simp
  simp only [Act.put, List.setIfInBounds_toArray, List.set_cons_zero, List.set_cons_succ]
  refine wpAnyH_take (i := 11) (oi := { dst := some 22, op := Op.move (Operand.tmp 21), type := 4, pos := "l02_waves.go:72", after := #[{ on := 10, ground := Ground.data }, { on := 9, ground := Ground.chain }], guard := none }) (v := Value.bool true) rfl (by kernel_rfl) (by kernel_rfl) (by kernel_rfl) (fun c a w h => hP0 c a _ _ w h) (Or.inl ⟨by rfl, ?_⟩) hS ?_
  · intro w hSw
    go_simp
  simp only [Act.put, List.setIfInBounds_toArray, List.set_cons_zero, List.set_cons_succ]
  refine wpAnyH_take (i := 12) (oi := { dst := some 23, op := Op.move (Operand.tmp 1), type := 26, pos := "l02_waves.go:72", after := #[{ on := 11, ground := Ground.guard }], guard := some (11, true) }) (v := Value.slice (some { block := g1, off := 0 }) n n) rfl (by kernel_rfl) (by kernel_rfl) (by kernel_rfl) (fun c a w h => hP0 c a _ _ w h) (Or.inl ⟨by rfl, ?_⟩) hS ?_
  · intro w hSw
    go_simp
  simp only [Act.put, List.setIfInBounds_toArray, List.set_cons_zero, List.set_cons_succ]
  refine wpAnyH_ready (rs := [13]) (by kernel_rfl) (by simp) ?_
  refine AllReadyH.cons (o := { dst := some 24, op := Op.call { callee := Callee.value (Operand.func 18), args := #[Operand.tmp 23], argTypes := #[26] }, type := 4, pos := "l02_waves.go:72", after := #[{ on := 12, ground := Ground.data }, { on := 11, ground := Ground.chain }, { on := 11, ground := Ground.guard }], guard := some (11, true) }) rfl (fun K hK => ?_) AllReadyH.nil
  rw [if_pos (by rfl)]
  go_simp
  refine (hA1 _ (hS).2).mono ?_
  rintro e w1 ⟨rfl, hb1⟩
  have hS1 := keepM hS hb1
  have hbd1 := (hbd).trans (hb1.mono (hbd).size)
  refine hK.out _ _ ?_ (fun _ => ?_)
  · exact hS1
  clear hK K
  try simp only [Act.put, List.setIfInBounds_toArray, List.set_cons_zero, List.set_cons_succ]
  refine wpAnyH_take (i := 14) (oi := { dst := some 25, op := Op.pick (Operand.tmp 22) (Operand.tmp 24) (Operand.const (Value.bool false)), type := 4, pos := "l02_waves.go:72", after := #[{ on := 11, ground := Ground.data }, { on := 13, ground := Ground.data }], guard := none }) (v := Value.bool false) rfl (by kernel_rfl) (by kernel_rfl) (by kernel_rfl) (fun c a w h => hP0 c a _ _ w h) (Or.inl ⟨by rfl, ?_⟩) hS1 ?_
  · intro w hSw
    go_simp
  simp only [Act.put, List.setIfInBounds_toArray, List.set_cons_zero, List.set_cons_succ]
  refine wpAnyH_take (i := 15) (oi := { dst := some 26, op := Op.move (Operand.tmp 25), type := 4, pos := "l02_waves.go:72", after := #[{ on := 14, ground := Ground.data }, { on := 13, ground := Ground.chain }], guard := none }) (v := Value.bool false) rfl (by kernel_rfl) (by kernel_rfl) (by kernel_rfl) (fun c a w h => hP0 c a _ _ w h) (Or.inl ⟨by rfl, ?_⟩) hS1 ?_
  · intro w hSw
    go_simp
  simp only [Act.put, List.setIfInBounds_toArray, List.set_cons_zero, List.set_cons_succ]
  refine wpAnyH_take (i := 16) (oi := { dst := some 27, op := Op.move (Operand.tmp 2), type := 26, pos := "l02_waves.go:72", after := #[{ on := 15, ground := Ground.guard }], guard := some (15, true) }) (v := undef) rfl (by kernel_rfl) (by kernel_rfl) (by kernel_rfl) (fun c a w h => hP0 c a _ _ w h) (Or.inr ⟨by rfl, rfl⟩) hS1 ?_
  simp only [Act.put, List.setIfInBounds_toArray, List.set_cons_zero, List.set_cons_succ]
  refine wpAnyH_take (i := 17) (oi := { dst := some 28, op := Op.call { callee := Callee.value (Operand.func 18), args := #[Operand.tmp 27], argTypes := #[26] }, type := 4, pos := "l02_waves.go:72", after := #[{ on := 16, ground := Ground.data }, { on := 15, ground := Ground.chain }, { on := 15, ground := Ground.guard }], guard := some (15, true) }) (v := undef) rfl (by kernel_rfl) (by kernel_rfl) (by kernel_rfl) (fun c a w h => hP0 c a _ _ w h) (Or.inr ⟨by rfl, rfl⟩) hS1 ?_
  simp only [Act.put, List.setIfInBounds_toArray, List.set_cons_zero, List.set_cons_succ]
  refine wpAnyH_take (i := 18) (oi := { dst := some 29, op := Op.pick (Operand.tmp 26) (Operand.tmp 28) (Operand.const (Value.bool false)), type := 4, pos := "l02_waves.go:72", after := #[{ on := 15, ground := Ground.data }, { on := 17, ground := Ground.data }], guard := none }) (v := Value.bool false) rfl (by kernel_rfl) (by kernel_rfl) (by kernel_rfl) (fun c a w h => hP0 c a _ _ w h) (Or.inl ⟨by rfl, ?_⟩) hS1 ?_
  · intro w hSw
    go_simp
  simp only [Act.put, List.setIfInBounds_toArray, List.set_cons_zero, List.set_cons_succ]
  refine wpAnyH_ready (rs := [19]) (by kernel_rfl) (by simp) ?_
  refine AllReadyH.cons (o := { dst := some 30, op := Op.call { callee := Callee.value (Operand.func 16), args := #[Operand.tmp 11, Operand.tmp 29], argTypes := #[29, 4] }, type := 2, pos := "l02_waves.go:72", after := #[{ on := 0, ground := Ground.data }, { on := 18, ground := Ground.data }, { on := 17, ground := Ground.chain }], guard := none }) rfl (fun K hK => ?_) AllReadyH.nil
  rw [if_pos (by rfl)]
  go_simp
  refine (hC _).mono ?_
  rintro e w2 ⟨rfl, hb2⟩
  have hS2 := keepM hS1 hb2
  have hbd2 := (hbd1).trans (hb2.mono (hbd1).size)
  refine hK.out _ _ ?_ (fun _ => ?_)
  · exact hS2
  clear hK K
  try simp only [Act.put, List.setIfInBounds_toArray, List.set_cons_zero, List.set_cons_succ]
  refine wpAnyH_take (i := 20) (oi := { dst := some 10, op := Op.assign (Operand.tmp 30), type := 2, pos := "l02_waves.go:72", after := #[{ on := 19, ground := Ground.data }, { on := 19, ground := Ground.chain }, { on := 0, ground := Ground.phase }, { on := 1, ground := Ground.phase }, { on := 2, ground := Ground.phase }, { on := 3, ground := Ground.phase }, { on := 4, ground := Ground.phase }, { on := 5, ground := Ground.phase }, { on := 6, ground := Ground.phase }, { on := 7, ground := Ground.phase }, { on := 8, ground := Ground.phase }, { on := 9, ground := Ground.phase }, { on := 10, ground := Ground.phase }, { on := 11, ground := Ground.phase }, { on := 12, ground := Ground.phase }, { on := 13, ground := Ground.phase }, { on := 14, ground := Ground.phase }, { on := 15, ground := Ground.phase }, { on := 16, ground := Ground.phase }, { on := 17, ground := Ground.phase }, { on := 18, ground := Ground.phase }, { on := 19, ground := Ground.phase }], guard := none }) (v := Value.int .i64 c) rfl (by kernel_rfl) (by kernel_rfl) (by kernel_rfl) (fun c a w h => hP0 c a _ _ w h) (Or.inl ⟨by rfl, ?_⟩) hS2 ?_
  · intro w hSw
    go_simp
  simp only [Act.put, List.setIfInBounds_toArray, List.set_cons_zero, List.set_cons_succ]
  refine wpAnyH_done (by kernel_rfl) ?_ _
  exact hQ _ hbd2
theorem regM4 {x0 x4 x5 x6 x7 x8 x9 x31 x32 x33 x34 x35 x36 x37 x38 x39 x40 x41 x42 : Value} {g1 g2 n B : Nat} {c : Int} {bs : List Nat} {w0 wr : World} (hR : Road19 bs) (hsl : Slot wr B bs) (hb : Below w0.heap.size w0 wr) (hst : ∀ w', Calls Try.prog 17 #[.int .i64 n] w' (fun e w'' => e = .returned (.bool true) ∧ w' = w'')) (hA1 : ∀ w', Below w0.heap.size w0 w' → Calls Try.prog 18 #[Value.slice (some { block := g1, off := 0 }) n n] w' (fun e w'' => e = .returned (.bool true) ∧ Below w'.heap.size w' w'')) (hA2 : ∀ w', Below w0.heap.size w0 w' → Calls Try.prog 18 #[Value.slice (some { block := g2, off := 0 }) n n] w' (fun e w'' => e = .returned (.bool false) ∧ Below w'.heap.size w' w'')) 
    (hC : ∀ w', Calls Try.prog 16 #[Value.agg (fl bs).toArray, Value.bool false] w' (fun e w'' => e = .returned (.int .i64 c) ∧ Below w'.heap.size w' w''))
    {Q : Exit → Act → World → Prop} (hP0 : ∀ (c : _) (a : Act) (d : Option Tmp) (v : Value) (w : World), Q (.panic c) (a.put d v) w → Q (.panic c) a w)
    (hQ : ∀ w', Below wr.heap.size wr w' → Q .normal { tmps := #[x0, Value.slice (some { block := g1, off := 0 }) n n, Value.slice (some { block := g2, off := 0 }) n n, Value.pointer (some { block := B, off := 0 }), x4, x5, x6, x7, x8, x9, Value.int .i64 c, Value.agg (fl bs).toArray, Value.slice (some { block := g1, off := 0 }) n n, Value.int .i64 n, Value.slice (some { block := g2, off := 0 }) n n, Value.int .i64 n, Value.bool true, Value.bool true, Value.slice (some { block := g1, off := 0 }) n n, Value.int .i64 n, Value.bool true, Value.bool true, Value.bool true, Value.slice (some { block := g1, off := 0 }) n n, Value.bool true, Value.bool true, Value.bool true, Value.slice (some { block := g2, off := 0 }) n n, Value.bool false, Value.bool false, Value.int .i64 c, x31, x32, x33, x34, x35, x36, x37, x38, x39, x40, x41, x42], defers := [] } w') :
    (Code.region 1
      #[{ dst := some 11, op := Op.load 29 (Operand.tmp 3), type := 29, pos := "l02_waves.go:72", after := #[],
          guard := none },
        { dst := some 12, op := Op.move (Operand.tmp 1), type := 26, pos := "l02_waves.go:72", after := #[],
          guard := none },
        { dst := some 13,
          op := Op.call { callee := Callee.builtin Builtin.len, args := #[Operand.tmp 12], argTypes := #[26] },
          type := 3, pos := "l02_waves.go:72", after := #[{ on := 1, ground := Ground.data }], guard := none },
        { dst := some 14, op := Op.move (Operand.tmp 2), type := 26, pos := "l02_waves.go:72", after := #[],
          guard := none },
        { dst := some 15,
          op := Op.call { callee := Callee.builtin Builtin.len, args := #[Operand.tmp 14], argTypes := #[26] },
          type := 3, pos := "l02_waves.go:72", after := #[{ on := 3, ground := Ground.data }], guard := none },
        { dst := some 16, op := Op.binOp BinOp.eql 3 (Operand.tmp 13) (Operand.tmp 15) 3, type := 4,
          pos := "l02_waves.go:72", after := #[{ on := 2, ground := Ground.data }, { on := 4, ground := Ground.data }],
          guard := none },
        { dst := some 17, op := Op.move (Operand.tmp 16), type := 4, pos := "l02_waves.go:72",
          after := #[{ on := 5, ground := Ground.data }], guard := none },
        { dst := some 18, op := Op.move (Operand.tmp 1), type := 26, pos := "l02_waves.go:72",
          after := #[{ on := 6, ground := Ground.guard }], guard := some (6, true) },
        { dst := some 19,
          op := Op.call { callee := Callee.builtin Builtin.len, args := #[Operand.tmp 18], argTypes := #[26] },
          type := 3, pos := "l02_waves.go:72",
          after := #[{ on := 7, ground := Ground.data }, { on := 6, ground := Ground.guard }],
          guard := some (6, true) },
        { dst := some 20,
          op := Op.call { callee := Callee.value (Operand.func 17), args := #[Operand.tmp 19], argTypes := #[2] },
          type := 4, pos := "l02_waves.go:72",
          after :=
            #[{ on := 8, ground := Ground.data }, { on := 6, ground := Ground.chain },
              { on := 6, ground := Ground.guard }],
          guard := some (6, true) },
        { dst := some 21, op := Op.pick (Operand.tmp 17) (Operand.tmp 20) (Operand.const (Value.bool false)), type := 4,
          pos := "l02_waves.go:72", after := #[{ on := 6, ground := Ground.data }, { on := 9, ground := Ground.data }],
          guard := none },
        { dst := some 22, op := Op.move (Operand.tmp 21), type := 4, pos := "l02_waves.go:72",
          after := #[{ on := 10, ground := Ground.data }, { on := 9, ground := Ground.chain }], guard := none },
        { dst := some 23, op := Op.move (Operand.tmp 1), type := 26, pos := "l02_waves.go:72",
          after := #[{ on := 11, ground := Ground.guard }], guard := some (11, true) },
        { dst := some 24,
          op := Op.call { callee := Callee.value (Operand.func 18), args := #[Operand.tmp 23], argTypes := #[26] },
          type := 4, pos := "l02_waves.go:72",
          after :=
            #[{ on := 12, ground := Ground.data }, { on := 11, ground := Ground.chain },
              { on := 11, ground := Ground.guard }],
          guard := some (11, true) },
        { dst := some 25, op := Op.pick (Operand.tmp 22) (Operand.tmp 24) (Operand.const (Value.bool false)), type := 4,
          pos := "l02_waves.go:72",
          after := #[{ on := 11, ground := Ground.data }, { on := 13, ground := Ground.data }], guard := none },
        { dst := some 26, op := Op.move (Operand.tmp 25), type := 4, pos := "l02_waves.go:72",
          after := #[{ on := 14, ground := Ground.data }, { on := 13, ground := Ground.chain }], guard := none },
        { dst := some 27, op := Op.move (Operand.tmp 2), type := 26, pos := "l02_waves.go:72",
          after := #[{ on := 15, ground := Ground.guard }], guard := some (15, true) },
        { dst := some 28,
          op := Op.call { callee := Callee.value (Operand.func 18), args := #[Operand.tmp 27], argTypes := #[26] },
          type := 4, pos := "l02_waves.go:72",
          after :=
            #[{ on := 16, ground := Ground.data }, { on := 15, ground := Ground.chain },
              { on := 15, ground := Ground.guard }],
          guard := some (15, true) },
        { dst := some 29, op := Op.pick (Operand.tmp 26) (Operand.tmp 28) (Operand.const (Value.bool false)), type := 4,
          pos := "l02_waves.go:72",
          after := #[{ on := 15, ground := Ground.data }, { on := 17, ground := Ground.data }], guard := none },
        { dst := some 30,
          op :=
            Op.call
              { callee := Callee.value (Operand.func 16), args := #[Operand.tmp 11, Operand.tmp 29],
                argTypes := #[29, 4] },
          type := 2, pos := "l02_waves.go:72",
          after :=
            #[{ on := 0, ground := Ground.data }, { on := 18, ground := Ground.data },
              { on := 17, ground := Ground.chain }],
          guard := none },
        { dst := some 10, op := Op.assign (Operand.tmp 30), type := 2, pos := "l02_waves.go:72",
          after :=
            #[{ on := 19, ground := Ground.data }, { on := 19, ground := Ground.chain },
              { on := 0, ground := Ground.phase }, { on := 1, ground := Ground.phase },
              { on := 2, ground := Ground.phase }, { on := 3, ground := Ground.phase },
              { on := 4, ground := Ground.phase }, { on := 5, ground := Ground.phase },
              { on := 6, ground := Ground.phase }, { on := 7, ground := Ground.phase },
              { on := 8, ground := Ground.phase }, { on := 9, ground := Ground.phase },
              { on := 10, ground := Ground.phase }, { on := 11, ground := Ground.phase },
              { on := 12, ground := Ground.phase }, { on := 13, ground := Ground.phase },
              { on := 14, ground := Ground.phase }, { on := 15, ground := Ground.phase },
              { on := 16, ground := Ground.phase }, { on := 17, ground := Ground.phase },
              { on := 18, ground := Ground.phase }, { on := 19, ground := Ground.phase }],
          guard := none }]
      true).wp Try.prog Q { tmps := #[x0, Value.slice (some { block := g1, off := 0 }) n n, Value.slice (some { block := g2, off := 0 }) n n, Value.pointer (some { block := B, off := 0 }), x4, x5, x6, x7, x8, x9, undef, undef, undef, undef, undef, undef, undef, undef, undef, undef, undef, undef, undef, undef, undef, undef, undef, undef, undef, undef, undef, x31, x32, x33, x34, x35, x36, x37, x38, x39, x40, x41, x42], defers := [] } wr := by
  refine wp_region_held_drew (S := fun w' => Slot w' B bs ∧ Below w0.heap.size w0 w') (by kernel_rfl) ⟨hsl.drew, hb.drew⟩ (fun hS => ?_)
  have hbd : Below wr.heap.size wr wr.drew := (Below.refl _ _).drew
  refine wpAnyH_take (i := 0) (oi := { dst := some 11, op := Op.load 29 (Operand.tmp 3), type := 29, pos := "l02_waves.go:72", after := #[], guard := none }) (v := Value.agg (fl bs).toArray) rfl (by kernel_rfl) (by kernel_rfl) (by kernel_rfl) (fun c a w h => hP0 c a _ _ w h) (yieldsIf_load_mid (by rfl) 29 (.tmp 3) rfl B 0 rfl (fl bs) _ (fun w h => h.1.range) Try.underlying29 rfl (flsize hR.1)) hS ?_
  simp only [Act.put, List.setIfInBounds_toArray, List.set_cons_zero, List.set_cons_succ]
  refine wpAnyH_take (i := 1) (oi := { dst := some 12, op := Op.move (Operand.tmp 1), type := 26, pos := "l02_waves.go:72", after := #[], guard := none }) (v := Value.slice (some { block := g1, off := 0 }) n n) rfl (by kernel_rfl) (by kernel_rfl) (by kernel_rfl) (fun c a w h => hP0 c a _ _ w h) (Or.inl ⟨by rfl, ?_⟩) hS ?_
  · intro w hSw
    go_simp
  simp only [Act.put, List.setIfInBounds_toArray, List.set_cons_zero, List.set_cons_succ]
  refine wpAnyH_take (i := 2) (oi := { dst := some 13, op := Op.call { callee := Callee.builtin Builtin.len, args := #[Operand.tmp 12], argTypes := #[26] }, type := 3, pos := "l02_waves.go:72", after := #[{ on := 1, ground := Ground.data }], guard := none }) (v := Value.int .i64 n) rfl (by kernel_rfl) (by kernel_rfl) (by kernel_rfl) (fun c a w h => hP0 c a _ _ w h) (Or.inl ⟨by rfl, ?_⟩) hS ?_
  · intro w hSw
    go_simp
  simp only [Act.put, List.setIfInBounds_toArray, List.set_cons_zero, List.set_cons_succ]
  refine wpAnyH_take (i := 3) (oi := { dst := some 14, op := Op.move (Operand.tmp 2), type := 26, pos := "l02_waves.go:72", after := #[], guard := none }) (v := Value.slice (some { block := g2, off := 0 }) n n) rfl (by kernel_rfl) (by kernel_rfl) (by kernel_rfl) (fun c a w h => hP0 c a _ _ w h) (Or.inl ⟨by rfl, ?_⟩) hS ?_
  · intro w hSw
    go_simp
  simp only [Act.put, List.setIfInBounds_toArray, List.set_cons_zero, List.set_cons_succ]
  refine wpAnyH_take (i := 4) (oi := { dst := some 15, op := Op.call { callee := Callee.builtin Builtin.len, args := #[Operand.tmp 14], argTypes := #[26] }, type := 3, pos := "l02_waves.go:72", after := #[{ on := 3, ground := Ground.data }], guard := none }) (v := Value.int .i64 n) rfl (by kernel_rfl) (by kernel_rfl) (by kernel_rfl) (fun c a w h => hP0 c a _ _ w h) (Or.inl ⟨by rfl, ?_⟩) hS ?_
  · intro w hSw
    go_simp
  simp only [Act.put, List.setIfInBounds_toArray, List.set_cons_zero, List.set_cons_succ]
  refine wpAnyH_take (i := 5) (oi := { dst := some 16, op := Op.binOp BinOp.eql 3 (Operand.tmp 13) (Operand.tmp 15) 3, type := 4, pos := "l02_waves.go:72", after := #[{ on := 2, ground := Ground.data }, { on := 4, ground := Ground.data }], guard := none }) (v := Value.bool true) rfl (by kernel_rfl) (by kernel_rfl) (by kernel_rfl) (fun c a w h => hP0 c a _ _ w h) (Or.inl ⟨by rfl, ?_⟩) hS ?_
  · intro w hSw
    go_simp
  simp only [Act.put, List.setIfInBounds_toArray, List.set_cons_zero, List.set_cons_succ]
  refine wpAnyH_take (i := 6) (oi := { dst := some 17, op := Op.move (Operand.tmp 16), type := 4, pos := "l02_waves.go:72", after := #[{ on := 5, ground := Ground.data }], guard := none }) (v := Value.bool true) rfl (by kernel_rfl) (by kernel_rfl) (by kernel_rfl) (fun c a w h => hP0 c a _ _ w h) (Or.inl ⟨by rfl, ?_⟩) hS ?_
  · intro w hSw
    go_simp
  simp only [Act.put, List.setIfInBounds_toArray, List.set_cons_zero, List.set_cons_succ]
  refine wpAnyH_take (i := 7) (oi := { dst := some 18, op := Op.move (Operand.tmp 1), type := 26, pos := "l02_waves.go:72", after := #[{ on := 6, ground := Ground.guard }], guard := some (6, true) }) (v := Value.slice (some { block := g1, off := 0 }) n n) rfl (by kernel_rfl) (by kernel_rfl) (by kernel_rfl) (fun c a w h => hP0 c a _ _ w h) (Or.inl ⟨by rfl, ?_⟩) hS ?_
  · intro w hSw
    go_simp
  simp only [Act.put, List.setIfInBounds_toArray, List.set_cons_zero, List.set_cons_succ]
  refine wpAnyH_take (i := 8) (oi := { dst := some 19, op := Op.call { callee := Callee.builtin Builtin.len, args := #[Operand.tmp 18], argTypes := #[26] }, type := 3, pos := "l02_waves.go:72", after := #[{ on := 7, ground := Ground.data }, { on := 6, ground := Ground.guard }], guard := some (6, true) }) (v := Value.int .i64 n) rfl (by kernel_rfl) (by kernel_rfl) (by kernel_rfl) (fun c a w h => hP0 c a _ _ w h) (Or.inl ⟨by rfl, ?_⟩) hS ?_
  · intro w hSw
    go_simp
  simp only [Act.put, List.setIfInBounds_toArray, List.set_cons_zero, List.set_cons_succ]
  refine wpAnyH_ready (rs := [9]) (by kernel_rfl) (by simp) ?_
  refine AllReadyH.cons (o := { dst := some 20, op := Op.call { callee := Callee.value (Operand.func 17), args := #[Operand.tmp 19], argTypes := #[2] }, type := 4, pos := "l02_waves.go:72", after := #[{ on := 8, ground := Ground.data }, { on := 6, ground := Ground.chain }, { on := 6, ground := Ground.guard }], guard := some (6, true) }) rfl (fun K hK => ?_) AllReadyH.nil
  rw [if_pos (by rfl)]
  go_simp
  refine (hst _).mono ?_
  rintro e w' ⟨rfl, rfl⟩
  refine hK.out _ _ ?_ (fun _ => ?_)
  · exact hS
  clear hK K
  try simp only [Act.put, List.setIfInBounds_toArray, List.set_cons_zero, List.set_cons_succ]
  refine wpAnyH_take (i := 10) (oi := { dst := some 21, op := Op.pick (Operand.tmp 17) (Operand.tmp 20) (Operand.const (Value.bool false)), type := 4, pos := "l02_waves.go:72", after := #[{ on := 6, ground := Ground.data }, { on := 9, ground := Ground.data }], guard := none }) (v := Value.bool true) rfl (by kernel_rfl) (by kernel_rfl) (by kernel_rfl) (fun c a w h => hP0 c a _ _ w h) (Or.inl ⟨by rfl, ?_⟩) hS ?_
  · intro w hSw
    go_simp
  simp only [Act.put, List.setIfInBounds_toArray, List.set_cons_zero, List.set_cons_succ]
  refine wpAnyH_take (i := 11) (oi := { dst := some 22, op := Op.move (Operand.tmp 21), type := 4, pos := "l02_waves.go:72", after := #[{ on := 10, ground := Ground.data }, { on := 9, ground := Ground.chain }], guard := none }) (v := Value.bool true) rfl (by kernel_rfl) (by kernel_rfl) (by kernel_rfl) (fun c a w h => hP0 c a _ _ w h) (Or.inl ⟨by rfl, ?_⟩) hS ?_
  · intro w hSw
    go_simp
  simp only [Act.put, List.setIfInBounds_toArray, List.set_cons_zero, List.set_cons_succ]
  refine wpAnyH_take (i := 12) (oi := { dst := some 23, op := Op.move (Operand.tmp 1), type := 26, pos := "l02_waves.go:72", after := #[{ on := 11, ground := Ground.guard }], guard := some (11, true) }) (v := Value.slice (some { block := g1, off := 0 }) n n) rfl (by kernel_rfl) (by kernel_rfl) (by kernel_rfl) (fun c a w h => hP0 c a _ _ w h) (Or.inl ⟨by rfl, ?_⟩) hS ?_
  · intro w hSw
    go_simp
  simp only [Act.put, List.setIfInBounds_toArray, List.set_cons_zero, List.set_cons_succ]
  refine wpAnyH_ready (rs := [13]) (by kernel_rfl) (by simp) ?_
  refine AllReadyH.cons (o := { dst := some 24, op := Op.call { callee := Callee.value (Operand.func 18), args := #[Operand.tmp 23], argTypes := #[26] }, type := 4, pos := "l02_waves.go:72", after := #[{ on := 12, ground := Ground.data }, { on := 11, ground := Ground.chain }, { on := 11, ground := Ground.guard }], guard := some (11, true) }) rfl (fun K hK => ?_) AllReadyH.nil
  rw [if_pos (by rfl)]
  go_simp
  refine (hA1 _ (hS).2).mono ?_
  rintro e w1 ⟨rfl, hb1⟩
  have hS1 := keepM hS hb1
  have hbd1 := (hbd).trans (hb1.mono (hbd).size)
  refine hK.out _ _ ?_ (fun _ => ?_)
  · exact hS1
  clear hK K
  try simp only [Act.put, List.setIfInBounds_toArray, List.set_cons_zero, List.set_cons_succ]
  refine wpAnyH_take (i := 14) (oi := { dst := some 25, op := Op.pick (Operand.tmp 22) (Operand.tmp 24) (Operand.const (Value.bool false)), type := 4, pos := "l02_waves.go:72", after := #[{ on := 11, ground := Ground.data }, { on := 13, ground := Ground.data }], guard := none }) (v := Value.bool true) rfl (by kernel_rfl) (by kernel_rfl) (by kernel_rfl) (fun c a w h => hP0 c a _ _ w h) (Or.inl ⟨by rfl, ?_⟩) hS1 ?_
  · intro w hSw
    go_simp
  simp only [Act.put, List.setIfInBounds_toArray, List.set_cons_zero, List.set_cons_succ]
  refine wpAnyH_take (i := 15) (oi := { dst := some 26, op := Op.move (Operand.tmp 25), type := 4, pos := "l02_waves.go:72", after := #[{ on := 14, ground := Ground.data }, { on := 13, ground := Ground.chain }], guard := none }) (v := Value.bool true) rfl (by kernel_rfl) (by kernel_rfl) (by kernel_rfl) (fun c a w h => hP0 c a _ _ w h) (Or.inl ⟨by rfl, ?_⟩) hS1 ?_
  · intro w hSw
    go_simp
  simp only [Act.put, List.setIfInBounds_toArray, List.set_cons_zero, List.set_cons_succ]
  refine wpAnyH_take (i := 16) (oi := { dst := some 27, op := Op.move (Operand.tmp 2), type := 26, pos := "l02_waves.go:72", after := #[{ on := 15, ground := Ground.guard }], guard := some (15, true) }) (v := Value.slice (some { block := g2, off := 0 }) n n) rfl (by kernel_rfl) (by kernel_rfl) (by kernel_rfl) (fun c a w h => hP0 c a _ _ w h) (Or.inl ⟨by rfl, ?_⟩) hS1 ?_
  · intro w hSw
    go_simp
  simp only [Act.put, List.setIfInBounds_toArray, List.set_cons_zero, List.set_cons_succ]
  refine wpAnyH_ready (rs := [17]) (by kernel_rfl) (by simp) ?_
  refine AllReadyH.cons (o := { dst := some 28, op := Op.call { callee := Callee.value (Operand.func 18), args := #[Operand.tmp 27], argTypes := #[26] }, type := 4, pos := "l02_waves.go:72", after := #[{ on := 16, ground := Ground.data }, { on := 15, ground := Ground.chain }, { on := 15, ground := Ground.guard }], guard := some (15, true) }) rfl (fun K hK => ?_) AllReadyH.nil
  rw [if_pos (by rfl)]
  go_simp
  refine (hA2 _ (hS1).2).mono ?_
  rintro e w2 ⟨rfl, hb2⟩
  have hS2 := keepM hS1 hb2
  have hbd2 := (hbd1).trans (hb2.mono (hbd1).size)
  refine hK.out _ _ ?_ (fun _ => ?_)
  · exact hS2
  clear hK K
  try simp only [Act.put, List.setIfInBounds_toArray, List.set_cons_zero, List.set_cons_succ]
  refine wpAnyH_take (i := 18) (oi := { dst := some 29, op := Op.pick (Operand.tmp 26) (Operand.tmp 28) (Operand.const (Value.bool false)), type := 4, pos := "l02_waves.go:72", after := #[{ on := 15, ground := Ground.data }, { on := 17, ground := Ground.data }], guard := none }) (v := Value.bool false) rfl (by kernel_rfl) (by kernel_rfl) (by kernel_rfl) (fun c a w h => hP0 c a _ _ w h) (Or.inl ⟨by rfl, ?_⟩) hS2 ?_
  · intro w hSw
    go_simp
  simp only [Act.put, List.setIfInBounds_toArray, List.set_cons_zero, List.set_cons_succ]
  refine wpAnyH_ready (rs := [19]) (by kernel_rfl) (by simp) ?_
  refine AllReadyH.cons (o := { dst := some 30, op := Op.call { callee := Callee.value (Operand.func 16), args := #[Operand.tmp 11, Operand.tmp 29], argTypes := #[29, 4] }, type := 2, pos := "l02_waves.go:72", after := #[{ on := 0, ground := Ground.data }, { on := 18, ground := Ground.data }, { on := 17, ground := Ground.chain }], guard := none }) rfl (fun K hK => ?_) AllReadyH.nil
  rw [if_pos (by rfl)]
  go_simp
  refine (hC _).mono ?_
  rintro e w3 ⟨rfl, hb3⟩
  have hS3 := keepM hS2 hb3
  have hbd3 := (hbd2).trans (hb3.mono (hbd2).size)
  refine hK.out _ _ ?_ (fun _ => ?_)
  · exact hS3
  clear hK K
  try simp only [Act.put, List.setIfInBounds_toArray, List.set_cons_zero, List.set_cons_succ]
  refine wpAnyH_take (i := 20) (oi := { dst := some 10, op := Op.assign (Operand.tmp 30), type := 2, pos := "l02_waves.go:72", after := #[{ on := 19, ground := Ground.data }, { on := 19, ground := Ground.chain }, { on := 0, ground := Ground.phase }, { on := 1, ground := Ground.phase }, { on := 2, ground := Ground.phase }, { on := 3, ground := Ground.phase }, { on := 4, ground := Ground.phase }, { on := 5, ground := Ground.phase }, { on := 6, ground := Ground.phase }, { on := 7, ground := Ground.phase }, { on := 8, ground := Ground.phase }, { on := 9, ground := Ground.phase }, { on := 10, ground := Ground.phase }, { on := 11, ground := Ground.phase }, { on := 12, ground := Ground.phase }, { on := 13, ground := Ground.phase }, { on := 14, ground := Ground.phase }, { on := 15, ground := Ground.phase }, { on := 16, ground := Ground.phase }, { on := 17, ground := Ground.phase }, { on := 18, ground := Ground.phase }, { on := 19, ground := Ground.phase }], guard := none }) (v := Value.int .i64 c) rfl (by kernel_rfl) (by kernel_rfl) (by kernel_rfl) (fun c a w h => hP0 c a _ _ w h) (Or.inl ⟨by rfl, ?_⟩) hS3 ?_
  · intro w hSw
    go_simp
  simp only [Act.put, List.setIfInBounds_toArray, List.set_cons_zero, List.set_cons_succ]
  refine wpAnyH_done (by kernel_rfl) ?_ _
  exact hQ _ hbd3
theorem regM5 {x0 x4 x5 x6 x7 x8 x9 x31 x32 x33 x34 x35 x36 x37 x38 x39 x40 x41 x42 : Value} {g1 g2 n B : Nat} {c : Int} {bs : List Nat} {w0 wr : World} (hR : Road19 bs) (hsl : Slot wr B bs) (hb : Below w0.heap.size w0 wr) (hst : ∀ w', Calls Try.prog 17 #[.int .i64 n] w' (fun e w'' => e = .returned (.bool true) ∧ w' = w'')) (hA1 : ∀ w', Below w0.heap.size w0 w' → Calls Try.prog 18 #[Value.slice (some { block := g1, off := 0 }) n n] w' (fun e w'' => e = .returned (.bool true) ∧ Below w'.heap.size w' w'')) (hA2 : ∀ w', Below w0.heap.size w0 w' → Calls Try.prog 18 #[Value.slice (some { block := g2, off := 0 }) n n] w' (fun e w'' => e = .returned (.bool true) ∧ Below w'.heap.size w' w'')) 
    (hC : ∀ w', Calls Try.prog 16 #[Value.agg (fl bs).toArray, Value.bool true] w' (fun e w'' => e = .returned (.int .i64 c) ∧ Below w'.heap.size w' w''))
    {Q : Exit → Act → World → Prop} (hP0 : ∀ (c : _) (a : Act) (d : Option Tmp) (v : Value) (w : World), Q (.panic c) (a.put d v) w → Q (.panic c) a w)
    (hQ : ∀ w', Below wr.heap.size wr w' → Q .normal { tmps := #[x0, Value.slice (some { block := g1, off := 0 }) n n, Value.slice (some { block := g2, off := 0 }) n n, Value.pointer (some { block := B, off := 0 }), x4, x5, x6, x7, x8, x9, Value.int .i64 c, Value.agg (fl bs).toArray, Value.slice (some { block := g1, off := 0 }) n n, Value.int .i64 n, Value.slice (some { block := g2, off := 0 }) n n, Value.int .i64 n, Value.bool true, Value.bool true, Value.slice (some { block := g1, off := 0 }) n n, Value.int .i64 n, Value.bool true, Value.bool true, Value.bool true, Value.slice (some { block := g1, off := 0 }) n n, Value.bool true, Value.bool true, Value.bool true, Value.slice (some { block := g2, off := 0 }) n n, Value.bool true, Value.bool true, Value.int .i64 c, x31, x32, x33, x34, x35, x36, x37, x38, x39, x40, x41, x42], defers := [] } w') :
    (Code.region 1
      #[{ dst := some 11, op := Op.load 29 (Operand.tmp 3), type := 29, pos := "l02_waves.go:72", after := #[],
          guard := none },
        { dst := some 12, op := Op.move (Operand.tmp 1), type := 26, pos := "l02_waves.go:72", after := #[],
          guard := none },
        { dst := some 13,
          op := Op.call { callee := Callee.builtin Builtin.len, args := #[Operand.tmp 12], argTypes := #[26] },
          type := 3, pos := "l02_waves.go:72", after := #[{ on := 1, ground := Ground.data }], guard := none },
        { dst := some 14, op := Op.move (Operand.tmp 2), type := 26, pos := "l02_waves.go:72", after := #[],
          guard := none },
        { dst := some 15,
          op := Op.call { callee := Callee.builtin Builtin.len, args := #[Operand.tmp 14], argTypes := #[26] },
          type := 3, pos := "l02_waves.go:72", after := #[{ on := 3, ground := Ground.data }], guard := none },
        { dst := some 16, op := Op.binOp BinOp.eql 3 (Operand.tmp 13) (Operand.tmp 15) 3, type := 4,
          pos := "l02_waves.go:72", after := #[{ on := 2, ground := Ground.data }, { on := 4, ground := Ground.data }],
          guard := none },
        { dst := some 17, op := Op.move (Operand.tmp 16), type := 4, pos := "l02_waves.go:72",
          after := #[{ on := 5, ground := Ground.data }], guard := none },
        { dst := some 18, op := Op.move (Operand.tmp 1), type := 26, pos := "l02_waves.go:72",
          after := #[{ on := 6, ground := Ground.guard }], guard := some (6, true) },
        { dst := some 19,
          op := Op.call { callee := Callee.builtin Builtin.len, args := #[Operand.tmp 18], argTypes := #[26] },
          type := 3, pos := "l02_waves.go:72",
          after := #[{ on := 7, ground := Ground.data }, { on := 6, ground := Ground.guard }],
          guard := some (6, true) },
        { dst := some 20,
          op := Op.call { callee := Callee.value (Operand.func 17), args := #[Operand.tmp 19], argTypes := #[2] },
          type := 4, pos := "l02_waves.go:72",
          after :=
            #[{ on := 8, ground := Ground.data }, { on := 6, ground := Ground.chain },
              { on := 6, ground := Ground.guard }],
          guard := some (6, true) },
        { dst := some 21, op := Op.pick (Operand.tmp 17) (Operand.tmp 20) (Operand.const (Value.bool false)), type := 4,
          pos := "l02_waves.go:72", after := #[{ on := 6, ground := Ground.data }, { on := 9, ground := Ground.data }],
          guard := none },
        { dst := some 22, op := Op.move (Operand.tmp 21), type := 4, pos := "l02_waves.go:72",
          after := #[{ on := 10, ground := Ground.data }, { on := 9, ground := Ground.chain }], guard := none },
        { dst := some 23, op := Op.move (Operand.tmp 1), type := 26, pos := "l02_waves.go:72",
          after := #[{ on := 11, ground := Ground.guard }], guard := some (11, true) },
        { dst := some 24,
          op := Op.call { callee := Callee.value (Operand.func 18), args := #[Operand.tmp 23], argTypes := #[26] },
          type := 4, pos := "l02_waves.go:72",
          after :=
            #[{ on := 12, ground := Ground.data }, { on := 11, ground := Ground.chain },
              { on := 11, ground := Ground.guard }],
          guard := some (11, true) },
        { dst := some 25, op := Op.pick (Operand.tmp 22) (Operand.tmp 24) (Operand.const (Value.bool false)), type := 4,
          pos := "l02_waves.go:72",
          after := #[{ on := 11, ground := Ground.data }, { on := 13, ground := Ground.data }], guard := none },
        { dst := some 26, op := Op.move (Operand.tmp 25), type := 4, pos := "l02_waves.go:72",
          after := #[{ on := 14, ground := Ground.data }, { on := 13, ground := Ground.chain }], guard := none },
        { dst := some 27, op := Op.move (Operand.tmp 2), type := 26, pos := "l02_waves.go:72",
          after := #[{ on := 15, ground := Ground.guard }], guard := some (15, true) },
        { dst := some 28,
          op := Op.call { callee := Callee.value (Operand.func 18), args := #[Operand.tmp 27], argTypes := #[26] },
          type := 4, pos := "l02_waves.go:72",
          after :=
            #[{ on := 16, ground := Ground.data }, { on := 15, ground := Ground.chain },
              { on := 15, ground := Ground.guard }],
          guard := some (15, true) },
        { dst := some 29, op := Op.pick (Operand.tmp 26) (Operand.tmp 28) (Operand.const (Value.bool false)), type := 4,
          pos := "l02_waves.go:72",
          after := #[{ on := 15, ground := Ground.data }, { on := 17, ground := Ground.data }], guard := none },
        { dst := some 30,
          op :=
            Op.call
              { callee := Callee.value (Operand.func 16), args := #[Operand.tmp 11, Operand.tmp 29],
                argTypes := #[29, 4] },
          type := 2, pos := "l02_waves.go:72",
          after :=
            #[{ on := 0, ground := Ground.data }, { on := 18, ground := Ground.data },
              { on := 17, ground := Ground.chain }],
          guard := none },
        { dst := some 10, op := Op.assign (Operand.tmp 30), type := 2, pos := "l02_waves.go:72",
          after :=
            #[{ on := 19, ground := Ground.data }, { on := 19, ground := Ground.chain },
              { on := 0, ground := Ground.phase }, { on := 1, ground := Ground.phase },
              { on := 2, ground := Ground.phase }, { on := 3, ground := Ground.phase },
              { on := 4, ground := Ground.phase }, { on := 5, ground := Ground.phase },
              { on := 6, ground := Ground.phase }, { on := 7, ground := Ground.phase },
              { on := 8, ground := Ground.phase }, { on := 9, ground := Ground.phase },
              { on := 10, ground := Ground.phase }, { on := 11, ground := Ground.phase },
              { on := 12, ground := Ground.phase }, { on := 13, ground := Ground.phase },
              { on := 14, ground := Ground.phase }, { on := 15, ground := Ground.phase },
              { on := 16, ground := Ground.phase }, { on := 17, ground := Ground.phase },
              { on := 18, ground := Ground.phase }, { on := 19, ground := Ground.phase }],
          guard := none }]
      true).wp Try.prog Q { tmps := #[x0, Value.slice (some { block := g1, off := 0 }) n n, Value.slice (some { block := g2, off := 0 }) n n, Value.pointer (some { block := B, off := 0 }), x4, x5, x6, x7, x8, x9, undef, undef, undef, undef, undef, undef, undef, undef, undef, undef, undef, undef, undef, undef, undef, undef, undef, undef, undef, undef, undef, x31, x32, x33, x34, x35, x36, x37, x38, x39, x40, x41, x42], defers := [] } wr := by
  refine wp_region_held_drew (S := fun w' => Slot w' B bs ∧ Below w0.heap.size w0 w') (by kernel_rfl) ⟨hsl.drew, hb.drew⟩ (fun hS => ?_)
  have hbd : Below wr.heap.size wr wr.drew := (Below.refl _ _).drew
  refine wpAnyH_take (i := 0) (oi := { dst := some 11, op := Op.load 29 (Operand.tmp 3), type := 29, pos := "l02_waves.go:72", after := #[], guard := none }) (v := Value.agg (fl bs).toArray) rfl (by kernel_rfl) (by kernel_rfl) (by kernel_rfl) (fun c a w h => hP0 c a _ _ w h) (yieldsIf_load_mid (by rfl) 29 (.tmp 3) rfl B 0 rfl (fl bs) _ (fun w h => h.1.range) Try.underlying29 rfl (flsize hR.1)) hS ?_
  simp only [Act.put, List.setIfInBounds_toArray, List.set_cons_zero, List.set_cons_succ]
  refine wpAnyH_take (i := 1) (oi := { dst := some 12, op := Op.move (Operand.tmp 1), type := 26, pos := "l02_waves.go:72", after := #[], guard := none }) (v := Value.slice (some { block := g1, off := 0 }) n n) rfl (by kernel_rfl) (by kernel_rfl) (by kernel_rfl) (fun c a w h => hP0 c a _ _ w h) (Or.inl ⟨by rfl, ?_⟩) hS ?_
  · intro w hSw
    go_simp
  simp only [Act.put, List.setIfInBounds_toArray, List.set_cons_zero, List.set_cons_succ]
  refine wpAnyH_take (i := 2) (oi := { dst := some 13, op := Op.call { callee := Callee.builtin Builtin.len, args := #[Operand.tmp 12], argTypes := #[26] }, type := 3, pos := "l02_waves.go:72", after := #[{ on := 1, ground := Ground.data }], guard := none }) (v := Value.int .i64 n) rfl (by kernel_rfl) (by kernel_rfl) (by kernel_rfl) (fun c a w h => hP0 c a _ _ w h) (Or.inl ⟨by rfl, ?_⟩) hS ?_
  · intro w hSw
    go_simp
  simp only [Act.put, List.setIfInBounds_toArray, List.set_cons_zero, List.set_cons_succ]
  refine wpAnyH_take (i := 3) (oi := { dst := some 14, op := Op.move (Operand.tmp 2), type := 26, pos := "l02_waves.go:72", after := #[], guard := none }) (v := Value.slice (some { block := g2, off := 0 }) n n) rfl (by kernel_rfl) (by kernel_rfl) (by kernel_rfl) (fun c a w h => hP0 c a _ _ w h) (Or.inl ⟨by rfl, ?_⟩) hS ?_
  · intro w hSw
    go_simp
  simp only [Act.put, List.setIfInBounds_toArray, List.set_cons_zero, List.set_cons_succ]
  refine wpAnyH_take (i := 4) (oi := { dst := some 15, op := Op.call { callee := Callee.builtin Builtin.len, args := #[Operand.tmp 14], argTypes := #[26] }, type := 3, pos := "l02_waves.go:72", after := #[{ on := 3, ground := Ground.data }], guard := none }) (v := Value.int .i64 n) rfl (by kernel_rfl) (by kernel_rfl) (by kernel_rfl) (fun c a w h => hP0 c a _ _ w h) (Or.inl ⟨by rfl, ?_⟩) hS ?_
  · intro w hSw
    go_simp
  simp only [Act.put, List.setIfInBounds_toArray, List.set_cons_zero, List.set_cons_succ]
  refine wpAnyH_take (i := 5) (oi := { dst := some 16, op := Op.binOp BinOp.eql 3 (Operand.tmp 13) (Operand.tmp 15) 3, type := 4, pos := "l02_waves.go:72", after := #[{ on := 2, ground := Ground.data }, { on := 4, ground := Ground.data }], guard := none }) (v := Value.bool true) rfl (by kernel_rfl) (by kernel_rfl) (by kernel_rfl) (fun c a w h => hP0 c a _ _ w h) (Or.inl ⟨by rfl, ?_⟩) hS ?_
  · intro w hSw
    go_simp
  simp only [Act.put, List.setIfInBounds_toArray, List.set_cons_zero, List.set_cons_succ]
  refine wpAnyH_take (i := 6) (oi := { dst := some 17, op := Op.move (Operand.tmp 16), type := 4, pos := "l02_waves.go:72", after := #[{ on := 5, ground := Ground.data }], guard := none }) (v := Value.bool true) rfl (by kernel_rfl) (by kernel_rfl) (by kernel_rfl) (fun c a w h => hP0 c a _ _ w h) (Or.inl ⟨by rfl, ?_⟩) hS ?_
  · intro w hSw
    go_simp
  simp only [Act.put, List.setIfInBounds_toArray, List.set_cons_zero, List.set_cons_succ]
  refine wpAnyH_take (i := 7) (oi := { dst := some 18, op := Op.move (Operand.tmp 1), type := 26, pos := "l02_waves.go:72", after := #[{ on := 6, ground := Ground.guard }], guard := some (6, true) }) (v := Value.slice (some { block := g1, off := 0 }) n n) rfl (by kernel_rfl) (by kernel_rfl) (by kernel_rfl) (fun c a w h => hP0 c a _ _ w h) (Or.inl ⟨by rfl, ?_⟩) hS ?_
  · intro w hSw
    go_simp
  simp only [Act.put, List.setIfInBounds_toArray, List.set_cons_zero, List.set_cons_succ]
  refine wpAnyH_take (i := 8) (oi := { dst := some 19, op := Op.call { callee := Callee.builtin Builtin.len, args := #[Operand.tmp 18], argTypes := #[26] }, type := 3, pos := "l02_waves.go:72", after := #[{ on := 7, ground := Ground.data }, { on := 6, ground := Ground.guard }], guard := some (6, true) }) (v := Value.int .i64 n) rfl (by kernel_rfl) (by kernel_rfl) (by kernel_rfl) (fun c a w h => hP0 c a _ _ w h) (Or.inl ⟨by rfl, ?_⟩) hS ?_
  · intro w hSw
    go_simp
  simp only [Act.put, List.setIfInBounds_toArray, List.set_cons_zero, List.set_cons_succ]
  refine wpAnyH_ready (rs := [9]) (by kernel_rfl) (by simp) ?_
  refine AllReadyH.cons (o := { dst := some 20, op := Op.call { callee := Callee.value (Operand.func 17), args := #[Operand.tmp 19], argTypes := #[2] }, type := 4, pos := "l02_waves.go:72", after := #[{ on := 8, ground := Ground.data }, { on := 6, ground := Ground.chain }, { on := 6, ground := Ground.guard }], guard := some (6, true) }) rfl (fun K hK => ?_) AllReadyH.nil
  rw [if_pos (by rfl)]
  go_simp
  refine (hst _).mono ?_
  rintro e w' ⟨rfl, rfl⟩
  refine hK.out _ _ ?_ (fun _ => ?_)
  · exact hS
  clear hK K
  try simp only [Act.put, List.setIfInBounds_toArray, List.set_cons_zero, List.set_cons_succ]
  refine wpAnyH_take (i := 10) (oi := { dst := some 21, op := Op.pick (Operand.tmp 17) (Operand.tmp 20) (Operand.const (Value.bool false)), type := 4, pos := "l02_waves.go:72", after := #[{ on := 6, ground := Ground.data }, { on := 9, ground := Ground.data }], guard := none }) (v := Value.bool true) rfl (by kernel_rfl) (by kernel_rfl) (by kernel_rfl) (fun c a w h => hP0 c a _ _ w h) (Or.inl ⟨by rfl, ?_⟩) hS ?_
  · intro w hSw
    go_simp
  simp only [Act.put, List.setIfInBounds_toArray, List.set_cons_zero, List.set_cons_succ]
  refine wpAnyH_take (i := 11) (oi := { dst := some 22, op := Op.move (Operand.tmp 21), type := 4, pos := "l02_waves.go:72", after := #[{ on := 10, ground := Ground.data }, { on := 9, ground := Ground.chain }], guard := none }) (v := Value.bool true) rfl (by kernel_rfl) (by kernel_rfl) (by kernel_rfl) (fun c a w h => hP0 c a _ _ w h) (Or.inl ⟨by rfl, ?_⟩) hS ?_
  · intro w hSw
    go_simp
  simp only [Act.put, List.setIfInBounds_toArray, List.set_cons_zero, List.set_cons_succ]
  refine wpAnyH_take (i := 12) (oi := { dst := some 23, op := Op.move (Operand.tmp 1), type := 26, pos := "l02_waves.go:72", after := #[{ on := 11, ground := Ground.guard }], guard := some (11, true) }) (v := Value.slice (some { block := g1, off := 0 }) n n) rfl (by kernel_rfl) (by kernel_rfl) (by kernel_rfl) (fun c a w h => hP0 c a _ _ w h) (Or.inl ⟨by rfl, ?_⟩) hS ?_
  · intro w hSw
    go_simp
  simp only [Act.put, List.setIfInBounds_toArray, List.set_cons_zero, List.set_cons_succ]
  refine wpAnyH_ready (rs := [13]) (by kernel_rfl) (by simp) ?_
  refine AllReadyH.cons (o := { dst := some 24, op := Op.call { callee := Callee.value (Operand.func 18), args := #[Operand.tmp 23], argTypes := #[26] }, type := 4, pos := "l02_waves.go:72", after := #[{ on := 12, ground := Ground.data }, { on := 11, ground := Ground.chain }, { on := 11, ground := Ground.guard }], guard := some (11, true) }) rfl (fun K hK => ?_) AllReadyH.nil
  rw [if_pos (by rfl)]
  go_simp
  refine (hA1 _ (hS).2).mono ?_
  rintro e w1 ⟨rfl, hb1⟩
  have hS1 := keepM hS hb1
  have hbd1 := (hbd).trans (hb1.mono (hbd).size)
  refine hK.out _ _ ?_ (fun _ => ?_)
  · exact hS1
  clear hK K
  try simp only [Act.put, List.setIfInBounds_toArray, List.set_cons_zero, List.set_cons_succ]
  refine wpAnyH_take (i := 14) (oi := { dst := some 25, op := Op.pick (Operand.tmp 22) (Operand.tmp 24) (Operand.const (Value.bool false)), type := 4, pos := "l02_waves.go:72", after := #[{ on := 11, ground := Ground.data }, { on := 13, ground := Ground.data }], guard := none }) (v := Value.bool true) rfl (by kernel_rfl) (by kernel_rfl) (by kernel_rfl) (fun c a w h => hP0 c a _ _ w h) (Or.inl ⟨by rfl, ?_⟩) hS1 ?_
  · intro w hSw
    go_simp
  simp only [Act.put, List.setIfInBounds_toArray, List.set_cons_zero, List.set_cons_succ]
  refine wpAnyH_take (i := 15) (oi := { dst := some 26, op := Op.move (Operand.tmp 25), type := 4, pos := "l02_waves.go:72", after := #[{ on := 14, ground := Ground.data }, { on := 13, ground := Ground.chain }], guard := none }) (v := Value.bool true) rfl (by kernel_rfl) (by kernel_rfl) (by kernel_rfl) (fun c a w h => hP0 c a _ _ w h) (Or.inl ⟨by rfl, ?_⟩) hS1 ?_
  · intro w hSw
    go_simp
  simp only [Act.put, List.setIfInBounds_toArray, List.set_cons_zero, List.set_cons_succ]
  refine wpAnyH_take (i := 16) (oi := { dst := some 27, op := Op.move (Operand.tmp 2), type := 26, pos := "l02_waves.go:72", after := #[{ on := 15, ground := Ground.guard }], guard := some (15, true) }) (v := Value.slice (some { block := g2, off := 0 }) n n) rfl (by kernel_rfl) (by kernel_rfl) (by kernel_rfl) (fun c a w h => hP0 c a _ _ w h) (Or.inl ⟨by rfl, ?_⟩) hS1 ?_
  · intro w hSw
    go_simp
  simp only [Act.put, List.setIfInBounds_toArray, List.set_cons_zero, List.set_cons_succ]
  refine wpAnyH_ready (rs := [17]) (by kernel_rfl) (by simp) ?_
  refine AllReadyH.cons (o := { dst := some 28, op := Op.call { callee := Callee.value (Operand.func 18), args := #[Operand.tmp 27], argTypes := #[26] }, type := 4, pos := "l02_waves.go:72", after := #[{ on := 16, ground := Ground.data }, { on := 15, ground := Ground.chain }, { on := 15, ground := Ground.guard }], guard := some (15, true) }) rfl (fun K hK => ?_) AllReadyH.nil
  rw [if_pos (by rfl)]
  go_simp
  refine (hA2 _ (hS1).2).mono ?_
  rintro e w2 ⟨rfl, hb2⟩
  have hS2 := keepM hS1 hb2
  have hbd2 := (hbd1).trans (hb2.mono (hbd1).size)
  refine hK.out _ _ ?_ (fun _ => ?_)
  · exact hS2
  clear hK K
  try simp only [Act.put, List.setIfInBounds_toArray, List.set_cons_zero, List.set_cons_succ]
  refine wpAnyH_take (i := 18) (oi := { dst := some 29, op := Op.pick (Operand.tmp 26) (Operand.tmp 28) (Operand.const (Value.bool false)), type := 4, pos := "l02_waves.go:72", after := #[{ on := 15, ground := Ground.data }, { on := 17, ground := Ground.data }], guard := none }) (v := Value.bool true) rfl (by kernel_rfl) (by kernel_rfl) (by kernel_rfl) (fun c a w h => hP0 c a _ _ w h) (Or.inl ⟨by rfl, ?_⟩) hS2 ?_
  · intro w hSw
    go_simp
  simp only [Act.put, List.setIfInBounds_toArray, List.set_cons_zero, List.set_cons_succ]
  refine wpAnyH_ready (rs := [19]) (by kernel_rfl) (by simp) ?_
  refine AllReadyH.cons (o := { dst := some 30, op := Op.call { callee := Callee.value (Operand.func 16), args := #[Operand.tmp 11, Operand.tmp 29], argTypes := #[29, 4] }, type := 2, pos := "l02_waves.go:72", after := #[{ on := 0, ground := Ground.data }, { on := 18, ground := Ground.data }, { on := 17, ground := Ground.chain }], guard := none }) rfl (fun K hK => ?_) AllReadyH.nil
  rw [if_pos (by rfl)]
  go_simp
  refine (hC _).mono ?_
  rintro e w3 ⟨rfl, hb3⟩
  have hS3 := keepM hS2 hb3
  have hbd3 := (hbd2).trans (hb3.mono (hbd2).size)
  refine hK.out _ _ ?_ (fun _ => ?_)
  · exact hS3
  clear hK K
  try simp only [Act.put, List.setIfInBounds_toArray, List.set_cons_zero, List.set_cons_succ]
  refine wpAnyH_take (i := 20) (oi := { dst := some 10, op := Op.assign (Operand.tmp 30), type := 2, pos := "l02_waves.go:72", after := #[{ on := 19, ground := Ground.data }, { on := 19, ground := Ground.chain }, { on := 0, ground := Ground.phase }, { on := 1, ground := Ground.phase }, { on := 2, ground := Ground.phase }, { on := 3, ground := Ground.phase }, { on := 4, ground := Ground.phase }, { on := 5, ground := Ground.phase }, { on := 6, ground := Ground.phase }, { on := 7, ground := Ground.phase }, { on := 8, ground := Ground.phase }, { on := 9, ground := Ground.phase }, { on := 10, ground := Ground.phase }, { on := 11, ground := Ground.phase }, { on := 12, ground := Ground.phase }, { on := 13, ground := Ground.phase }, { on := 14, ground := Ground.phase }, { on := 15, ground := Ground.phase }, { on := 16, ground := Ground.phase }, { on := 17, ground := Ground.phase }, { on := 18, ground := Ground.phase }, { on := 19, ground := Ground.phase }], guard := none }) (v := Value.int .i64 c) rfl (by kernel_rfl) (by kernel_rfl) (by kernel_rfl) (fun c a w h => hP0 c a _ _ w h) (Or.inl ⟨by rfl, ?_⟩) hS3 ?_
  · intro w hSw
    go_simp
  simp only [Act.put, List.setIfInBounds_toArray, List.set_cons_zero, List.set_cons_succ]
  refine wpAnyH_done (by kernel_rfl) ?_ _
  exact hQ _ hbd3
end Go.Proofs.Ytlnphdohjelppaa
