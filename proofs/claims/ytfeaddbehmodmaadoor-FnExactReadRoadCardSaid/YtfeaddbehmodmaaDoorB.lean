/-
  BASE SIXTEEN: the walk of the library's FormatUint at base 16, numbers below 2^32. Conditions: those that stand in each (one cell of the library's table).
-/
import Derived.Test.YtfeaddbehmodmaaDoorA
import Derived.Laws.BitsAllLaws
namespace Go.Proofs.YtfeaddbehmodmaaDoor
open Go.RowKit
set_option maxRecDepth 100000
theorem pow2 (w : World) : Calls Tryd.prog 76 #[.int .i64 16] w (fun e w' => e = .returned (.bool true) ∧ w = w') := by
  have h1 : IntKind.i64.wrap (16 - 1) = 15 := by decide
  have h2 : Go.bits .and .i64 16 15 = 0 := by decide
  go_enter Tryd.func76, Tryd.ntmps76
  go_wp2
  go_ret
  exact ⟨rfl, rfl⟩
/-- The cell of the table that tells the places behind 16. -/
def TabOk (w : World) : Prop := w.cell? ⟨6, 15, none⟩ = some (.int .u8 4)
theorem tz64 (w : World) (ht : TabOk w) : Calls Tryd.prog 90 #[.int .u64 16] w (fun e w' => e = .returned (.int .i64 4) ∧ w = w') := by
  have h1 : IntKind.u64.wrap (-16) = 18446744073709551600 := by decide
  have h2 : Go.bits .and .u64 16 18446744073709551600 = 16 := by decide
  have h3 : IntKind.u64.wrap (16 * 285870213051353865) = 4573923408821661840 := by decide
  have ht' : w.cell? ⟨6, 15, none⟩ = some (.int .u8 4) := ht
  go_enter Tryd.func90, Tryd.ntmps90
  go_wp2
  go_ret
  exact ⟨rfl, rfl⟩
theorem and16 (m : Nat) (h : m < 4294967296) : Go.bits .and .u64 (m : Int) 15 = ((m % 16 : Nat) : Int) := by
  have := u64_and_nat m 15 (by omega) (by omega)
  rw [show ((15 : Nat) : Int) = 15 from rfl] at this
  rw [this, Nat.and_two_pow_sub_one_eq_mod (n := 4)]
theorem tz (w : World) (ht : TabOk w) : Calls Tryd.prog 77 #[.int .u64 16] w (fun e w' => e = .returned (.int .i64 4) ∧ w = w') := by
  go_enter Tryd.func77, Tryd.ntmps77
  go_wp2_with (go_at_call 90; refine (tz64 _ ht).mono ?_; rintro e w' ⟨rfl, rfl⟩)
  go_ret
  exact ⟨rfl, rfl⟩
theorem tab_alloc {w : World} (h : TabOk w) (o : Obj) : TabOk (w.alloc o) := by
  have hs : 6 < w.heap.size := by
    unfold TabOk at h
    rcases Nat.lt_or_ge 6 w.heap.size with q | q
    · exact q
    · simp [World.cell?, q] at h
  unfold TabOk at h ⊢
  simp only [World.cell?] at h ⊢
  rw [heap_alloc_old w o hs]
  exact h
theorem dig_get36 (m : Nat) (h : m % 16 < (⟨#[48, 49, 50, 51, 52, 53, 54, 55, 56, 57, 97, 98, 99, 100, 101, 102, 103, 104, 105, 106, 107, 108, 109, 110, 111, 112, 113, 114, 115, 116, 117, 118, 119, 120, 121, 122]⟩ : ByteArray).size) : (⟨#[48, 49, 50, 51, 52, 53, 54, 55, 56, 57, 97, 98, 99, 100, 101, 102, 103, 104, 105, 106, 107, 108, 109, 110, 111, 112, 113, 114, 115, 116, 117, 118, 119, 120, 121, 122]⟩ : ByteArray)[m % 16]'h = dig m := by
  unfold dig
  have hr : m % 16 < 16 := Nat.mod_lt _ (by omega)
  generalize m % 16 = r at h hr ⊢
  match r, h, hr with
  | 0, _, _ | 1, _, _ | 2, _, _ | 3, _, _ | 4, _, _ | 5, _, _ | 6, _, _ | 7, _, _ | 8, _, _ | 9, _, _ | 10, _, _ | 11, _, _ | 12, _, _ | 13, _, _ | 14, _, _ | 15, _, _ => rfl
  | n + 16, _, q => exact absurd q (by omega)
/-- The text of a number below 2^32 in base sixteen. -/
theorem fmtBits (v : Nat) (hv : v < 4294967296) (w : World) (ht : TabOk w) :
    Calls Tryd.prog 55 #[.slice none 0 0, .int .u64 v, .int .i64 16, .bool false, .bool false] w (fun e w' => ∃ j, 1 ≤ j ∧ j ≤ 8 ∧ v < 16 ^ j ∧ e = .returned (.tuple #[.slice none 0 0, .string ⟨(hexk j v).toArray⟩]) ∧ Below w.heap.size w w') := by
  have hz : Tryd.zeroCells108 = (List.replicate 65 (Value.int .u8 0)).toArray := by kernel_rfl
  have u4 : IntKind.u64.wrap 4 = 4 := by decide
  have u16 : IntKind.u64.wrap 16 = 16 := by decide
  have u15 : IntKind.u64.wrap (16 - 1) = 15 := by decide
  go_enter Tryd.func55, Tryd.ntmps55
  go_wp2_with (first
    | (go_at_call 76; refine (pow2 _).mono ?_; rintro e w' ⟨rfl, rfl⟩)
    | (go_at_call 77; refine (tz _ (tab_alloc ht _)).mono ?_; rintro e w' ⟨rfl, rfl⟩))
  go_loopw [1, 13] (fun u i wr => ∃ (d j m : Nat), d + j = 65 ∧ u = .int .u64 m ∧ i = .int .i64 (d : Int) ∧ m < 4294967296 ∧ j ≤ 7 ∧ Hid (m = v / 16 ^ j) ∧ Hid (wr.heap[w.heap.size]? = some (.cells (List.replicate d (Value.int .u8 0) ++ Lib.byteCells (hexk j v)).toArray 108 (0, 0))) ∧ Below w.heap.size w wr) (fun _ i _ => (intOf i).toNat)
  case atStart =>
    refine ⟨65, 0, v, rfl, rfl, rfl, hv, by omega, show v = v / 16 ^ 0 by simp, ?_, (Below.refl _ _).alloc (Nat.le_refl _) _⟩
    show (w.alloc _).heap[w.heap.size]? = _
    rw [heap_alloc_new]
    show some (Obj.cells Tryd.zeroCells108 108) = _
    rw [hz]
    simp [Lib.byteCells, hexk]
  case round =>
    obtain ⟨d, j, m, hd, rfl, rfl, hm32, hj, hm, hr, hb⟩ := hrel
    obtain ⟨e, rfl⟩ : ∃ e, d = e + 1 := ⟨d - 1, by omega⟩
    have hsub : IntKind.i64.wrap (((e + 1 : Nat) : Int) - 1) = (e : Nat) := by rw [wrapI (by omega) (by omega)]; omega
    have hr' : wr.heap[w.heap.size]? = some (.cells (List.replicate (e + 1) (Value.int .u8 0) ++ Lib.byteCells (hexk j v)).toArray 108 (0, 0)) := hr
    have hfz := frozen_of_row wr w.heap.size e _ 108 hr'
    have hce : wr.cell? ⟨w.heap.size, e, none⟩ = some (.int .u8 0) := by
      simp only [World.cell?, hr']
      simp [List.getElem?_append]
    have hset := heap_setCell_same wr w.heap.size e _ 108 (.int .u8 ((dig m).toNat : Int)) hr'
    rw [set_mid] at hset
    have hdg := dig_get36 m
    have hs : Hid ((wr.setCell ⟨w.heap.size, e, none⟩ (.int .u8 ((dig m).toNat : Int))).heap[w.heap.size]? = some (.cells (List.replicate e (Value.int .u8 0) ++ Lib.byteCells (hexk (j + 1) v)).toArray 108 (0, 0))) := by
      have hm' : m = v / 16 ^ j := hm
      rw [hexk_front, ← hm']
      exact hset
    have hb' : Below w.heap.size w (wr.setCell ⟨w.heap.size, e, none⟩ (.int .u8 ((dig m).toNat : Int))) := hb.setCell (Nat.le_refl _) _
    clear hset hr' hr
    have ha := and16 m hm32
    have hsh : (m : Int) / 2 ^ 4 = ((m / 16 : Nat) : Int) := by omega
    rcases Nat.lt_or_ge m 16 with q | q
    · have hlt : ¬ (16 : Int) ≤ (m : Int) := by omega
      have hmm : m % 16 = m := Nat.mod_eq_of_lt q
      rw [hmm] at hdg
      have hal : Tryd.prog.arrayLen 108 = 65 := by simp [Program.arrayLen, Tryd.underlying108]
      have hsl : ∀ W, (Instr.sliceAt 108 (.pointer (some ⟨w.heap.size, 0, none⟩)) (some (.int .i64 (e : Int))) none none).run Tryd.prog W = .ok (.slice (some ⟨w.heap.size, e, none⟩) (j + 1) (65 - e)) W := fun W => by
        rw [run_sliceAt_array_l W 108 ⟨w.heap.size, 0, none⟩ (by simp [Program.arrayLen, Program.elem, Tryd.underlying108]) .i64 (e : Int) (by omega) (by rw [hal]; omega)]
        go_simp
        omega
      have hcv := run_convert_bytes_back (P := Tryd.prog) (wr.setCell ⟨w.heap.size, e, none⟩ (.int .u8 ((dig m).toNat : Int))) 67 9 5 ⟨w.heap.size, e, none⟩ (65 - e) (hexk (j + 1) v) Tryd.underlying67 Tryd.underlying5 Tryd.underlying9 (fun k hk => by
        have hs' : (wr.setCell ⟨w.heap.size, e, none⟩ (.int .u8 ((dig m).toNat : Int))).heap[w.heap.size]? = some (.cells (List.replicate e (Value.int .u8 0) ++ Lib.byteCells (hexk (j + 1) v)).toArray 108 (0, 0)) := hs
        rw [Addr.add_lit]
        simp only [World.cell?, hs']
        simp [Lib.byteCells, hk])
      rw [hexk_length] at hcv
      have hv16 : v < 16 ^ (j + 1) := by
        have hm' : m = v / 16 ^ j := hm
        rw [hm', Nat.div_lt_iff_lt_mul (Nat.pow_pos (by omega))] at q
        rw [Nat.pow_succ, Nat.mul_comm]
        exact q
      go_wp2
      go_ret2
      exact ⟨j + 1, by omega, by omega, hv16, rfl, hb'⟩
    · have hge : (16 : Int) ≤ (m : Int) := by omega
      go_wp2
      have hj7 : j + 1 ≤ 7 := by
        have hm' : m = v / 16 ^ j := hm
        rcases Nat.lt_or_ge j 7 with g | g
        · omega
        · have h7 : v / 16 ^ j ≤ v / 16 ^ 7 := Nat.div_le_div_left (Nat.pow_le_pow_right (by omega) g) (by decide)
          have : v / 16 ^ 7 < 16 := by rw [Nat.div_lt_iff_lt_mul (by decide)]; omega
          omega
      refine ⟨⟨e, j + 1, m / 16, by omega, rfl, rfl, by omega, hj7, ?_, hs, hb'⟩, ?_⟩
      · show m / 16 = v / 16 ^ (j + 1)
        rw [show m = v / 16 ^ j from hm, Nat.div_div_eq_div_mul, ← Nat.pow_succ]
      · simp only [intOf]
        omega
theorem fmtUint (v : Nat) (hv : v < 4294967296) (w : World) (ht : TabOk w) :
    Calls Tryd.prog 35 #[.int .u64 v, .int .i64 16] w (fun e w' => ∃ j, 1 ≤ j ∧ j ≤ 8 ∧ v < 16 ^ j ∧ e = .returned (.string ⟨(hexk j v).toArray⟩) ∧ Below w.heap.size w w') := by
  go_enter Tryd.func35, Tryd.ntmps35
  go_wp2_with (first
    | (go_at_call 55; refine (fmtBits v hv _ ht).mono ?_; rintro e w' ⟨j, h1, h2, h3, rfl, h4⟩))
  go_ret
  exact ⟨j, h1, h2, h3, rfl, h4⟩
theorem fmtU (v : Nat) (hv : v < 4294967296) (w : World) (ht : TabOk w) :
    Calls Tryd.prog 19 #[.int .u64 v, .int .i64 16] w (fun e w' => ∃ j, 1 ≤ j ∧ j ≤ 8 ∧ v < 16 ^ j ∧ e = .returned (.string ⟨(hexk j v).toArray⟩) ∧ Below w.heap.size w w') := by
  go_enter Tryd.func19, Tryd.ntmps19
  go_wp2_with (first
    | (go_at_call 35; refine (fmtUint v hv _ ht).mono ?_; rintro e w' ⟨j, h1, h2, h3, rfl, h4⟩))
  go_ret
  exact ⟨j, h1, h2, h3, rfl, h4⟩
end Go.Proofs.YtfeaddbehmodmaaDoor
