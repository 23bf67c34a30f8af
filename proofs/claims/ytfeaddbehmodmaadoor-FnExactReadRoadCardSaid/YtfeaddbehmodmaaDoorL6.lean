/-
  THE LAW FnExactReadRoad, walked: it answers true. Conditions: the cells of the library's two errors, one cell of its table, and that one variable of the library holds a number.
-/
import Derived.Test.YtfeaddbehmodmaaDoorS6
namespace Go.Proofs.YtfeaddbehmodmaaDoor
open Go.RowKit
set_option maxRecDepth 100000
theorem outC_road (t : List UInt8) : Road19 (outC (specR t)) := by
  cases h : specR t with
  | none => exact z19_road
  | some ns => exact specR_road h
theorem eqR {cs : List Nat} (h : Road19 cs) (w : World) :
    Calls Tryd.prog 17 #[.agg (fl cs).toArray, .agg (fl cs).toArray] w (fun e w' => e = .returned (.bool true) ∧ Below w.heap.size w w') := by
  have hs := sEqRoadOk sEqRoad List.mem_cons_self ⟨rho cs, fun _ => none⟩ 0 w #[.agg (fl cs).toArray, .agg (fl cs).toArray] ⟨agg_rep _ h, agg_rep _ h, trivial⟩ (noMem _ _ _) (fun _ _ => rfl)
  refine (calls_of_to (fun w => enters_of Tryd.func17 (by kernel_rfl) rfl _ w) hs).mono ?_
  rintro e w' ⟨y, rfl, hy, hle⟩
  have : y = .bool true := hy
  exact ⟨by rw [this], hle⟩
set_option maxHeartbeats 1600000
theorem roadLaw (t : ByteArray) (w : World) (he : ErrOk w) (ht : TabOk w) (m : Int) (hm : w.cell? ⟨4, 0, none⟩ = some (.int .i64 m)) :
    Calls Tryd.prog 6 #[.string t] w (fun e w' => e = .returned (.bool true) ∧ Below w.heap.size w w') := by
  have hsz6 := tab_size ht
  by_cases hbig : t.size ≤ 1048576
  · have hR := outC_road t.data.toList
    have hP := specReadRoad t hbig w
    have hI : ∀ w2, Below w.heap.size w w2 → Calls Tryd.prog 16 #[.string t] w2 (RetF w2 (specR t.data.toList)) := fun w2 hb => by
      rw [← reads_same]
      exact implReadRoad t hbig w2 (err_below he (by omega) hb) (tab_below ht hb) m (by rw [hb.cell (p := ⟨4, 0, none⟩) (by show 4 < _; omega)]; exact hm)
    unfold RetF at hP hI
    generalize outC (specR t.data.toList) = cs at *
    generalize outE (specR t.data.toList) = c at *
    have HR : Hid (Road19 cs) := hR
    have hk : ∀ (w1 w2 : World), Below w.heap.size w w1 → (w1.alloc (.cells #[Value.float .f32 0, Value.float .f32 0, Value.float .f32 0, Value.float .f32 0, Value.float .f32 0, Value.float .f32 0, Value.float .f32 0, Value.float .f32 0, Value.float .f32 0, Value.float .f32 0, Value.float .f32 0, Value.float .f32 0, Value.float .f32 0, Value.float .f32 0, Value.float .f32 0, Value.float .f32 0, Value.float .f32 0, Value.float .f32 0, Value.float .f32 0] 36)).setCells w1.heap.size 0 (fl cs) = w2 → Slot w2 w1.heap.size cs ∧ Below w.heap.size w w2 ∧ Below w1.heap.size w1 w2 := fun w1 w2 hb e => by
      rw [← e]
      exact ⟨(slot_new w1 z19).store HR.out.1.symm, below_cells (hb.alloc hb.size _) hb.size 0 _, below_cells ((Below.refl _ _).alloc (Nat.le_refl _) _) (Nat.le_refl _) 0 _⟩
    clear hR
    go_enter Tryd.func6, Tryd.ntmps6
    go_wp2_with (first
      | (go_at_call 15; refine hP.mono ?_; rintro e w1 ⟨rfl, hb1⟩)
      | ((with_reducible show Go.wpList _ _ _ (Go.Oper.mk _ (Go.Op.store 36 (Go.Operand.tmp 3) _) _ _ _ _ :: _) _ _); refine wpList_store_mid rfl 36 (.tmp 3) (.tmp 13) rfl w1.heap.size 0 (fl cs).toArray rfl rfl (flthere ((slot_new w1 z19).there rfl) HR.out.1) (flsize HR.out.1) (fl_one _) ?_; generalize hW : World.setCells _ _ _ _ = w2; obtain ⟨hs2, hb2, hc2⟩ := hk w1 w2 hb1 hW; clear hW)
      | (go_at_call 16; refine (hI w2 hb2).mono ?_; rintro e w3 ⟨rfl, hb3⟩; have hs3 : Slot w3 w1.heap.size cs := hs2.below hb3 hs2.lt; have hlt3 : w1.heap.size < w3.heap.size := hs3.lt; have hb3' : Below w.heap.size w w3 := hb2.trans (hb3.mono hb2.size); clear hb3)
      | ((with_reducible show Go.wpList _ _ _ (Go.Oper.mk _ (Go.Op.store 36 (Go.Operand.tmp 5) _) _ _ _ _ :: _) _ _); refine wpList_store_mid rfl 36 (.tmp 5) (.tmp 18) rfl w3.heap.size 0 (fl cs).toArray rfl rfl (flthere ((slot_new w3 z19).there rfl) HR.out.1) (flsize HR.out.1) (fl_one _) ?_; generalize hW : World.setCells _ _ _ _ = w4; obtain ⟨hs4, hb4, hc4⟩ := hk w3 w4 hb3' hW; clear hW; have hs5 : Slot w4 w1.heap.size cs := hs3.below hc4 hlt3)
      | ((with_reducible show Go.wpList _ _ _ (Go.Oper.mk _ (Go.Op.load 36 (Go.Operand.tmp 5)) _ _ _ _ :: _) _ _); refine wpList_load_mid rfl 36 (.tmp 5) rfl w3.heap.size 0 rfl (fl cs) _ hs4.range Tryd.underlying36 rfl (flsize HR.out.1) ?_)
      | ((with_reducible show Go.wpList _ _ _ (Go.Oper.mk _ (Go.Op.load 36 (Go.Operand.tmp 3)) _ _ _ _ :: _) _ _); refine wpList_load_mid rfl 36 (.tmp 3) rfl w1.heap.size 0 rfl (fl cs) _ hs5.range Tryd.underlying36 rfl (flsize HR.out.1) ?_)
      | (go_at_call 17; refine (eqR HR.out w4).mono ?_; rintro e w6 ⟨rfl, hb6⟩))
    go_ret
    exact ⟨rfl, hb4.trans (hb6.mono hb4.size)⟩
  · go_enter Tryd.func6, Tryd.ntmps6
    go_wp2
    go_ret
    exact ⟨rfl, Below.refl _ _⟩
end Go.Proofs.YtfeaddbehmodmaaDoor
