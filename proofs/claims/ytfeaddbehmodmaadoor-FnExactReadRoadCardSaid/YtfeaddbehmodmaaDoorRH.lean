/-
  ANOTHER REGION OF THE REFERENCE'S READING, whose order is drawn. Conditions: those that stand in it.
-/
import Derived.Test.YtfeaddbehmodmaaDoorRG
namespace Go.Proofs.YtfeaddbehmodmaaDoor
open Go.RowKit
set_option maxRecDepth 100000
set_option maxHeartbeats 800000
theorem reg12 {x0 x1 x3 x4 x5 x6 x8 x9 x10 x11 x12 x13 x14 x15 x16 x17 x18 x19 x20 x21 x22 x23 x24 x25 x26 x27 x28 x29 x30 x31 x32 x33 x34 x35 x36 x37 x38 x39 x40 x41 x42 x43 x44 x45 x46 x47 x48 x49 x50 x51 : Value} {B2 H : Nat} {cs ds : List Nat} {w0 wr : World} (hR : Road19 cs) (hd : ds.length = 19) (hH : Slot wr H cs) (hB : Slot wr B2 ds) (hne : H ≠ B2) (hB0 : w0.heap.size ≤ B2) (hb0 : Below w0.heap.size w0 wr)
    {Q : Exit → Act → World → Prop} (hP0 : ∀ (c : _) (a : Act) (d : Option Tmp) (v : Value) (w : World), Q (.panic c) (a.put d v) w → Q (.panic c) a w) (hQ : ∀ w', Slot w' B2 cs → Below w0.heap.size w0 w' → Q .normal { tmps := #[x0, x1, Value.pointer (some { block := B2, off := 0 }), Value.bool (okR cs), x4, x5, x6, Value.pointer (some { block := H, off := 0 }), x8, x9, x10, x11, x12, x13, x14, x15, x16, x17, x18, x19, x20, x21, x22, x23, x24, x25, x26, x27, x28, x29, x30, x31, x32, x33, x34, x35, x36, x37, x38, x39, x40, x41, x42, x43, x44, x45, x46, x47, x48, x49, x50, x51, Value.agg (fl cs).toArray, Value.bool (okR cs)], defers := [] } w') :
    (Code.region 12
      #[{ dst := some 52, op := Op.load 36 (Operand.tmp 7), type := 36, pos := "l01_roads.go:391", after := #[],
          guard := none },
        { dst := some 53,
          op := Op.call { callee := Callee.value (Operand.func 25), args := #[Operand.tmp 7], argTypes := #[55] },
          type := 4, pos := "l01_roads.go:391", after := #[], guard := none },
        { dst := none, op := Op.store 36 (Operand.tmp 2) (Operand.tmp 52), type := 0, pos := "l01_roads.go:391",
          after :=
            #[{ on := 0, ground := Ground.data }, { on := 1, ground := Ground.chain },
              { on := 0, ground := Ground.phase }, { on := 1, ground := Ground.textOnly Departure.lateStoresUnsure }],
          guard := none },
        { dst := some 3, op := Op.assign (Operand.tmp 53), type := 4, pos := "l01_roads.go:391",
          after :=
            #[{ on := 1, ground := Ground.data }, { on := 2, ground := Ground.chain },
              { on := 0, ground := Ground.phase }, { on := 1, ground := Ground.phase },
              { on := 2, ground := Ground.phase }],
          guard := none }]
      true).wp Tryd.prog Q { tmps := #[x0, x1, Value.pointer (some { block := B2, off := 0 }), x3, x4, x5, x6, Value.pointer (some { block := H, off := 0 }), x8, x9, x10, x11, x12, x13, x14, x15, x16, x17, x18, x19, x20, x21, x22, x23, x24, x25, x26, x27, x28, x29, x30, x31, x32, x33, x34, x35, x36, x37, x38, x39, x40, x41, x42, x43, x44, x45, x46, x47, x48, x49, x50, x51, undef, undef], defers := [] } wr := by
  have hsz := flsize hR.1
  have hsl : (Tryd.prog.info? 36).map (·.size) = some (fl cs).length := hsz
  refine wp_region_held_drew (S := fun w' => Slot w' H cs ∧ (∃ ds : List Nat, ds.length = 19 ∧ Slot w' B2 ds) ∧ Below w0.heap.size w0 w') (by kernel_rfl) ⟨hH.drew, ⟨ds, hd, hB.drew⟩, hb0.drew⟩ (fun hS => ?_)
  refine wpAnyH_take (i := 0) (oi := { dst := some 52, op := Op.load 36 (Operand.tmp 7), type := 36, pos := "l01_roads.go:391", after := #[], guard := none }) (v := .agg (fl cs).toArray) rfl (by kernel_rfl) (by kernel_rfl) (by kernel_rfl) (fun c a w h => hP0 c a _ _ w h) (yieldsIf_load_mid (by rfl) 36 (.tmp 7) rfl H 0 rfl (fl cs) _ (fun w h => h.1.range) Tryd.underlying36 rfl hsl) hS ?_
  simp only [Act.put, List.setIfInBounds_toArray, List.set_cons_zero, List.set_cons_succ]
  refine wpAnyH_ready (rs := [1]) (by kernel_rfl) (by simp) ?_
  refine AllReadyH.cons (o := { dst := some 53, op := Op.call { callee := Callee.value (Operand.func 25), args := #[Operand.tmp 7], argTypes := #[55] }, type := 4, pos := "l01_roads.go:391", after := #[], guard := none }) rfl (fun K hK => ?_) AllReadyH.nil
  go_simp
  refine (specOk hR _ H 36 hS.1).mono ?_
  rintro e w1 ⟨rfl, hb1⟩
  have hS1 : Slot w1 H cs := hS.1.below hb1 hS.1.lt
  obtain ⟨ds1, hd1, hD1⟩ := hS.2.1
  have hD2 : Slot w1 B2 ds1 := hD1.below hb1 hD1.lt
  have hb2 : Below w0.heap.size w0 w1 := hS.2.2.trans (hb1.mono hS.2.2.size)
  refine hK.out _ _ ?_ (fun hS2 => ?_)
  · exact ⟨hS1, ⟨ds1, hd1, hD2⟩, hb2⟩
  clear hK K
  try simp only [Act.put, List.setIfInBounds_toArray, List.set_cons_zero, List.set_cons_succ]
  refine wpAnyH_ready (rs := [2]) (by kernel_rfl) (by simp) ?_
  refine AllReadyH.cons (o := { dst := none, op := Op.store 36 (Operand.tmp 2) (Operand.tmp 52), type := 0, pos := "l01_roads.go:391", after := #[{ on := 0, ground := Ground.data }, { on := 1, ground := Ground.chain }, { on := 0, ground := Ground.phase }, { on := 1, ground := Ground.textOnly Departure.lateStoresUnsure }], guard := none }) rfl (fun K hK => ?_) AllReadyH.nil
  rw [if_pos (by rfl)]
  refine wp_store_mid 36 _ _ rfl B2 0 _ rfl rfl (flthere (hD2.there hd1) hR.1) hsz (fl_one _) ?_
  have hS3 : Slot (w1.setCells B2 0 (fl cs)) B2 cs := hD2.store (hd1.trans hR.1.symm)
  have hb3 : Below w0.heap.size w0 (w1.setCells B2 0 (fl cs)) := below_cells hb2 hB0 0 _
  refine hK.out _ _ ?_ (fun hS4 => ?_)
  · exact ⟨hS1.apart hne 0 _, ⟨cs, hR.1, hS3⟩, hb3⟩
  clear hK K
  simp only [Act.put]
  refine wpAnyH_take (i := 3) (oi := { dst := some 3, op := Op.assign (Operand.tmp 53), type := 4, pos := "l01_roads.go:391", after := #[{ on := 1, ground := Ground.data }, { on := 2, ground := Ground.chain }, { on := 0, ground := Ground.phase }, { on := 1, ground := Ground.phase }, { on := 2, ground := Ground.phase }], guard := none }) (v := .bool (okR cs)) rfl (by kernel_rfl) (by kernel_rfl) (by kernel_rfl) (fun c a w h => hP0 c a _ _ w h) (Or.inl ⟨by rfl, ?_⟩) hS4 ?_
  · intro w hSw
    go_simp
  try simp only [Act.put, List.setIfInBounds_toArray, List.set_cons_zero, List.set_cons_succ]
  refine wpAnyH_done (by kernel_rfl) ?_ _
  exact hQ _ hS3 hb3
end Go.Proofs.YtfeaddbehmodmaaDoor
