/-
  THE CODE THAT A ROAD AND A TEST GIVE, walked. Conditions: those that stand in each.
-/
import Derived.Test.YtlnphdohjelppaaJG
namespace Go.Proofs.Ytlnphdohjelppaa
open Go.RowKit
set_option maxRecDepth 100000
set_option maxHeartbeats 800000
theorem codeIfC (b : Bool) (c : Int) (w : World) : Calls Try.prog 30 #[.bool b, .int .i64 c] w (fun e w' => e = .returned (.int .i64 (if b then c else 0)) ∧ w = w') := by
  cases b with
  | true =>
    go_enter Try.func30, Try.ntmps30
    go_wp2
    go_ret
    exact ⟨rfl, rfl⟩
  | false =>
    go_enter Try.func30, Try.ntmps30
    go_wp2
    go_ret
    exact ⟨rfl, rfl⟩
/-- The first that is not nought. -/
def fst2 (c0 c1 : Int) : Int := if c0 = 0 then c1 else c0
theorem firstC (g : Nat) (c0 c1 : Int) (w : World) (h0 : w.cell? ⟨g, 0, none⟩ = some (.int .i64 c0)) (h1 : w.cell? ⟨g, 1, none⟩ = some (.int .i64 c1)) :
    Calls Try.prog 29 #[.slice (some ⟨g, 0, none⟩) 2 2] w (fun e w' => e = .returned (.int .i64 (fst2 c0 c1)) ∧ w = w') := by
  obtain ⟨r, hr⟩ : ∃ r, r = fst2 c0 c1 := ⟨_, rfl⟩
  rw [← hr]
  have HR : Hid (r = fst2 c0 c1) := hr
  clear hr
  go_enter Try.func29, Try.ntmps29
  go_wp2
  go_loop [7] (fun vi => ∃ (k : Nat), vi = .int .i64 k ∧ k ≤ 2 ∧ Hid (0 < k → c0 = 0) ∧ Hid (1 < k → c1 = 0)) (fun vi => 2 - (intOf vi).toNat)
  case atStart => exact ⟨0, rfl, by omega, by intro h; omega, by intro h; omega⟩
  case round =>
    obtain ⟨k, rfl, hk, hz0, hz1⟩ := hrel
    match k, hk with
    | 0, _ =>
      by_cases hc : c0 = 0
      · go_wp2
        refine ⟨⟨1, rfl, by omega, fun _ => hc, by intro h; omega⟩, by simp [intOf]⟩
      · have e : r = c0 := by rw [HR.out]; unfold fst2; rw [if_neg hc]
        go_wp2
        go_ret
        exact ⟨rfl, rfl⟩
    | 1, _ =>
      have hc0 := hz0.out (by omega)
      by_cases hc : c1 = 0
      · go_wp2
        refine ⟨⟨2, rfl, by omega, fun _ => hc0, fun _ => hc⟩, by simp [intOf]⟩
      · have e : r = c1 := by rw [HR.out]; unfold fst2; rw [if_pos hc0]
        clear hc0
        go_wp2
        go_ret
        exact ⟨rfl, rfl⟩
    | 2, _ =>
      have hc0 := hz0.out (by omega)
      have hc1 := hz1.out (by omega)
      have e : r = 0 := by rw [HR.out]; unfold fst2; rw [if_pos hc0, hc1]
      clear hc0 hc1
      go_wp2
      go_ret
      exact ⟨rfl, rfl⟩
    | k + 3, hk => omega
/-- The code of a road and a test. -/
def codeR (ok inb : Bool) : Int := if ok then (if inb then 0 else 2) else 1
theorem roadCodeC {bs : List Nat} (h : Road19 bs) (inb : Bool) (w : World) : Calls Try.prog 16 #[.agg (fl bs).toArray, .bool inb] w (fun e w' => e = .returned (.int .i64 (codeR (okR bs) inb)) ∧ Below w.heap.size w w') := by
  have hs0 : Slot (w.alloc (.cells (fl bs).toArray 29)) w.heap.size bs := slot_new w bs
  have hbA : Below w.heap.size w (w.alloc (.cells (fl bs).toArray 29)) := (Below.refl _ _).alloc (Nat.le_refl _) _
  obtain ⟨wA, hwA⟩ : ∃ wA, w.alloc (.cells (fl bs).toArray 29) = wA := ⟨_, rfl⟩
  rw [hwA] at hs0 hbA
  have HH : Hid (Road19 bs) := h
  have hsize := flsize h.1
  have hrange := hs0.range
  have hV : Calls Try.prog 31 #[.agg (fl bs).toArray] wA (fun e w' => e = .returned (.bool (okR bs)) ∧ Below wA.heap.size wA w') := validRoad h wA
  clear hs0 h
  generalize okR bs = ok at *
  cases ok <;> cases inb
  all_goals
    go_enter Try.func16, Try.ntmps16
    go_wp2_with (first
      | ((with_reducible show Go.wpList _ _ _ (Go.Oper.mk _ (Go.Op.load 29 _) _ _ _ _ :: _) _ _); refine wpList_load_mid rfl 29 (.tmp 2) rfl _ _ rfl (fl bs) _ hrange Try.underlying29 rfl hsize ?_)
      | (go_at_call 31; refine hV.mono ?_; rintro e w1 ⟨rfl, hb1⟩)
      | (go_at_call 30; refine (codeIfC _ _ _).mono ?_; rintro e w2 ⟨rfl, rfl⟩)
      | (go_at_call 29; refine (firstC w1.heap.size _ _ _ (by rw [cell_of_row _ w1.heap.size 0 _ 2 (0, 0) (heap_alloc_new _ _)]; rfl) (by rw [cell_of_row _ w1.heap.size 1 _ 2 (0, 0) (heap_alloc_new _ _)]; rfl)).mono ?_; rintro e w2 ⟨rfl, rfl⟩))
    go_ret
    exact ⟨rfl, (hbA.trans (hb1.mono hbA.size)).alloc (Nat.le_trans hbA.size hb1.size) _⟩
end Go.Proofs.Ytlnphdohjelppaa
