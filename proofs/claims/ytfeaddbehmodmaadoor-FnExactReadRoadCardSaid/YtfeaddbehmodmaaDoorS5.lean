/-
  THE REFERENCE'S READING OF A ROAD, as it is handed out, walked. Conditions: the text's length.
-/
import Derived.Test.YtfeaddbehmodmaaDoorS4
namespace Go.Proofs.YtfeaddbehmodmaaDoor
open Go.RowKit
set_option maxRecDepth 100000
/-- The cells of what is handed out. -/
def outC (o : Option (List Nat)) : List Nat := match o with | some ns => arr ns | none => z19
def outE (o : Option (List Nat)) : Int := match o with | some _ => 0 | none => 5
/-- What a reading hands out. -/
def RetF (w0 : World) (o : Option (List Nat)) (r : Ending) (w' : World) : Prop :=
  r = .returned (.tuple #[.agg (fl (outC o)).toArray, .int .i64 (outE o)]) ∧ Below w0.heap.size w0 w'
theorem specR_road {t : List UInt8} {ns : List Nat} (h : specR t = some ns) : Road19 (arr ns) := by
  rw [← reads_same] at h
  unfold implR at h
  split at h
  · rename_i x ws _
    split at h
    · rename_i hl
      split at h
      · cases h
        exact (roadT_arr (by rw [List.length_map]; exact hl) (map_numX_lt _)).1
      · cases h
    · cases h
  · cases h
set_option maxHeartbeats 800000
theorem specReadRoad (t : ByteArray) (hmax : t.size ≤ 1048576) (w : World) :
    Calls Tryd.prog 15 #[.string t] w (RetF w (specR t.data.toList)) := by
  have hs0 : Slot (w.alloc (.cells #[Value.float .f32 0, Value.float .f32 0, Value.float .f32 0, Value.float .f32 0, Value.float .f32 0, Value.float .f32 0, Value.float .f32 0, Value.float .f32 0, Value.float .f32 0, Value.float .f32 0, Value.float .f32 0, Value.float .f32 0, Value.float .f32 0, Value.float .f32 0, Value.float .f32 0, Value.float .f32 0, Value.float .f32 0, Value.float .f32 0, Value.float .f32 0] 36)) w.heap.size z19 := slot_new w z19
  have hbA : Below w.heap.size w (w.alloc (.cells #[Value.float .f32 0, Value.float .f32 0, Value.float .f32 0, Value.float .f32 0, Value.float .f32 0, Value.float .f32 0, Value.float .f32 0, Value.float .f32 0, Value.float .f32 0, Value.float .f32 0, Value.float .f32 0, Value.float .f32 0, Value.float .f32 0, Value.float .f32 0, Value.float .f32 0, Value.float .f32 0, Value.float .f32 0, Value.float .f32 0, Value.float .f32 0] 36)) := (Below.refl _ _).alloc (Nat.le_refl _) _
  obtain ⟨wA, hwA⟩ : ∃ wA, w.alloc (.cells #[Value.float .f32 0, Value.float .f32 0, Value.float .f32 0, Value.float .f32 0, Value.float .f32 0, Value.float .f32 0, Value.float .f32 0, Value.float .f32 0, Value.float .f32 0, Value.float .f32 0, Value.float .f32 0, Value.float .f32 0, Value.float .f32 0, Value.float .f32 0, Value.float .f32 0, Value.float .f32 0, Value.float .f32 0, Value.float .f32 0, Value.float .f32 0] 36) = wA := ⟨_, rfl⟩
  rw [hwA] at hs0 hbA
  have hP := specRR t hmax wA
  -- THE WORLDS BEHIND THE FIRST STORE
  have hkeep : ∀ (w1 w2 : World) (cs : List Nat), Road19 cs → Below wA.heap.size wA w1 → (w1.alloc (.cells #[Value.float .f32 0, Value.float .f32 0, Value.float .f32 0, Value.float .f32 0, Value.float .f32 0, Value.float .f32 0, Value.float .f32 0, Value.float .f32 0, Value.float .f32 0, Value.float .f32 0, Value.float .f32 0, Value.float .f32 0, Value.float .f32 0, Value.float .f32 0, Value.float .f32 0, Value.float .f32 0, Value.float .f32 0, Value.float .f32 0, Value.float .f32 0] 36)).setCells w1.heap.size 0 (fl cs) = w2 → Slot w2 w1.heap.size cs ∧ Slot w2 w.heap.size z19 ∧ Below w.heap.size w w2 := fun w1 w2 cs hR hb e => by
    have hlt : w.heap.size < w1.heap.size := Nat.lt_of_lt_of_le hs0.lt hb.size
    rw [← e]
    refine ⟨(slot_new w1 z19).store hR.1.symm, ((hs0.below hb hs0.lt).alloc _).apart (Nat.ne_of_lt hlt) 0 _, ?_⟩
    exact below_cells ((hbA.trans (hb.mono hbA.size)).alloc (Nat.le_of_lt hlt) _) (Nat.le_of_lt hlt) 0 _
  cases hsp : specR t.data.toList with
  | some ns =>
    have hR := specR_road hsp
    rw [hsp] at hP
    have HR : Hid (Road19 (arr ns)) := hR
    clear hsp hR
    go_enter Tryd.func15, Tryd.ntmps15
    go_wp2_with (first
      | (go_at_call 30; refine hP.mono ?_; rintro e w1 ⟨rfl, hb1⟩)
      | ((with_reducible show Go.wpList _ _ _ (Go.Oper.mk _ (Go.Op.store 36 (Go.Operand.tmp 4) _) _ _ _ _ :: _) _ _); refine wpList_store_mid rfl 36 (.tmp 4) (.tmp 9) rfl w1.heap.size 0 (fl (arr ns)).toArray rfl rfl (flthere ((slot_new w1 z19).there rfl) HR.out.1) (flsize HR.out.1) (fl_one _) ?_; generalize hW : World.setCells _ _ _ _ = w2; obtain ⟨hs2, hz2, hb2⟩ := hkeep w1 w2 (arr ns) HR.out hb1 hW; clear hW)
      | ((with_reducible show Go.wpList _ _ _ (Go.Oper.mk _ (Go.Op.load 36 _) _ _ _ _ :: _) _ _); refine wpList_load_mid rfl 36 (.tmp 4) rfl w1.heap.size 0 rfl (fl (arr ns)) _ hs2.range Tryd.underlying36 rfl (flsize HR.out.1) ?_)
      | ((with_reducible show Go.wpList _ _ _ (Go.Oper.mk _ (Go.Op.store 36 (Go.Operand.tmp 2) _) _ _ _ _ :: _) _ _); refine wpList_store_mid rfl 36 (.tmp 2) (.tmp 14) rfl w.heap.size 0 (fl (arr ns)).toArray rfl rfl (flthere (hz2.there rfl) HR.out.1) (flsize HR.out.1) (fl_one _) ?_; generalize hW : World.setCells _ _ _ _ = w3; have hs3 : Slot w3 w.heap.size (arr ns) := by rw [← hW]; exact hz2.store HR.out.1.symm
         have hb3 : Below w.heap.size w w3 := by rw [← hW]; exact below_cells hb2 (Nat.le_refl _) 0 _))
    refine bodyPost_ret (results_cell rfl _ (p := ⟨w.heap.size, 0, none⟩) rfl (hs3.load HR.out.1)) rfl ?_
    exact ⟨rfl, hb3⟩
  | none =>
    rw [hsp] at hP
    clear hsp
    go_enter Tryd.func15, Tryd.ntmps15
    go_wp2_with (first
      | (go_at_call 30; refine hP.mono ?_; rintro e w1 ⟨⟨cs, hR, rfl⟩, hb1⟩; have HR : Hid (Road19 cs) := hR; clear hR)
      | ((with_reducible show Go.wpList _ _ _ (Go.Oper.mk _ (Go.Op.store 36 (Go.Operand.tmp 4) _) _ _ _ _ :: _) _ _); refine wpList_store_mid rfl 36 (.tmp 4) (.tmp 9) rfl w1.heap.size 0 (fl cs).toArray rfl rfl (flthere ((slot_new w1 z19).there rfl) HR.out.1) (flsize HR.out.1) (fl_one _) ?_; generalize hW : World.setCells _ _ _ _ = w2; obtain ⟨hs2, hz2, hb2⟩ := hkeep w1 w2 cs HR.out hb1 hW; clear hW)
      | ((with_reducible show Go.wpList _ _ _ (Go.Oper.mk _ (Go.Op.store 36 (Go.Operand.tmp 2) _) _ _ _ _ :: _) _ _); refine wpList_store_mid rfl 36 (.tmp 2) (.tmp 13) rfl w.heap.size 0 _ rfl rfl (zthere (hz2.there rfl)) zsize zone ?_; generalize hW : World.setCells _ _ _ _ = w3; have hs3 : Slot w3 w.heap.size z19 := by rw [← hW]; exact zstore hz2 rfl
         have hb3 : Below w.heap.size w w3 := by rw [← hW]; exact below_cells hb2 (Nat.le_refl _) 0 _))
    refine bodyPost_ret (results_cell rfl _ (p := ⟨w.heap.size, 0, none⟩) rfl (hs3.load rfl)) rfl ?_
    exact ⟨rfl, hb3⟩
end Go.Proofs.YtfeaddbehmodmaaDoor
