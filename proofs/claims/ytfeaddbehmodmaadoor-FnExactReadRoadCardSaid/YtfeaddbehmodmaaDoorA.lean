/-
  BASE SIXTEEN: the digits, and the walk of the reference's text of a number. Conditions: those that stand in each.
-/
import Derived.WalkKit
import Derived.Below
import Derived.Handy
import Derived.Laws.CopyOwn
import Derived.Laws.MakeOwn
import Derived.Laws.Cover2
import Derived.Laws.Externs
import Derived.Laws.IdiomStrings
import Derived.Deep.RegionLaw
import Derived.LoopTactic
import Derived.Lib.UnsafeStr
import Derived.Test.YtfeaddbehmodmaaDoorProg
namespace Go.Proofs.YtfeaddbehmodmaaDoor
open Go.RowKit
set_option maxRecDepth 100000
/-- The bits of a number: one pattern for all that is no number. -/
def nb (x : Nat) : Nat := if FloatKind.f32.format.order x x != some .eq then 2143289344 else x
theorem bits36 (x : Nat) (w : World) : (callFunc 36 #[.float .f32 x]).run Tryd.prog w = .ok (.value (.int .u32 x)) w := by
  rw [run_callFunc_extern (e := Go.Extern.MathFloatBits.float32bits) Tryd.func36 (by kernel_rfl) (by kernel_rfl) (by kernel_rfl) (by kernel_rfl)]
  rfl
theorem bits20 (x : Nat) (w : World) : Calls Tryd.prog 20 #[.float .f32 x] w (fun e w' => e = .returned (.int .u32 (nb x)) ∧ w = w') := by
  have h36 := bits36 x
  go_enter Tryd.func20, Tryd.ntmps20
  go_wp2
  all_goals go_ret
  all_goals (refine ⟨?_, rfl⟩; unfold nb)
  · rw [if_pos (by assumption)]; rfl
  · rename_i hc
    rw [hc]; rfl
theorem bits34 (x : Nat) (w : World) : Calls Tryd.prog 34 #[.float .f32 x] w (fun e w' => e = .returned (.int .u32 (nb x)) ∧ w = w') := by
  have h36 := bits36 x
  go_enter Tryd.func34, Tryd.ntmps34
  go_wp2
  all_goals go_ret
  all_goals (refine ⟨?_, rfl⟩; unfold nb)
  · rw [if_pos (by assumption)]; rfl
  · rename_i hc
    rw [hc]; rfl
/-- A digit in base sixteen. -/
def dig (n : Nat) : UInt8 := (([48, 49, 50, 51, 52, 53, 54, 55, 56, 57, 97, 98, 99, 100, 101, 102] : List UInt8)[n % 16]?).getD 0
/-- The last k digits of n. -/
def hexk : Nat → Nat → List UInt8
  | 0, _ => []
  | k + 1, n => hexk k (n / 16) ++ [dig n]
theorem hexk_length : ∀ (k n : Nat), (hexk k n).length = k
  | 0, _ => rfl
  | k + 1, n => by simp [hexk, hexk_length k]
/-- One digit more ahead. -/
theorem hexk_front : ∀ (k n : Nat), hexk (k + 1) n = dig (n / 16 ^ k) :: hexk k n
  | 0, n => by simp [hexk]
  | k + 1, n => by
    have h := hexk_front k (n / 16)
    rw [hexk, h, Nat.div_div_eq_div_mul, ← Nat.pow_succ']
    rfl
theorem dig0 : dig 0 = 48 := rfl
/-- Zeros ahead. -/
theorem hexk_zeros (j n : Nat) (h : n < 16 ^ j) : ∀ d, hexk (d + j) n = List.replicate d 48 ++ hexk j n
  | 0 => by simp
  | d + 1 => by
    have e : d + 1 + j = (d + j) + 1 := by omega
    have hz : n / 16 ^ (d + j) = 0 := Nat.div_eq_of_lt (Nat.lt_of_lt_of_le h (Nat.pow_le_pow_right (by omega) (by omega)))
    rw [e, hexk_front, hexk_zeros j n h d, hz, List.replicate_succ]
    rfl
theorem dig_get (m : Nat) (h : m % 16 < (⟨#[48, 49, 50, 51, 52, 53, 54, 55, 56, 57, 97, 98, 99, 100, 101, 102]⟩ : ByteArray).size) :
    (⟨#[48, 49, 50, 51, 52, 53, 54, 55, 56, 57, 97, 98, 99, 100, 101, 102]⟩ : ByteArray)[m % 16]'h = dig m := by
  unfold dig
  generalize m % 16 = r at h ⊢
  have hr : r < 16 := h
  match r, h, hr with
  | 0, _, _ | 1, _, _ | 2, _, _ | 3, _, _ | 4, _, _ | 5, _, _ | 6, _, _ | 7, _, _ | 8, _, _ | 9, _, _ | 10, _, _ | 11, _, _ | 12, _, _ | 13, _, _ | 14, _, _ | 15, _, _ => rfl
  | n + 16, _, q => exact absurd q (by omega)
theorem set_mid {α : Type} (z v : α) (l : List α) (e : Nat) : (List.replicate (e + 1) z ++ l).toArray.setIfInBounds e v = (List.replicate e z ++ v :: l).toArray := by
  rw [List.replicate_succ', List.append_assoc]
  simp
theorem made1 (v : Value) (n : Nat) : madeCells #[v] n = (List.replicate n v).toArray := by
  apply Array.ext
  · simp [madeCells]
  · intro i h1 h2
    simp [madeCells, Nat.mod_one]
theorem wrapI {z : Int} (h0 : -9223372036854775808 ≤ z) (h1 : z ≤ 9223372036854775807) : IntKind.i64.wrap z = z := by rw [IntKind.wrap_i64]; omega
theorem hex8 (x : Nat) (hx : nb x < 4294967296) (w : World) : Calls Tryd.prog 18 #[.float .f32 x] w (fun e w' => e = .returned (.string ⟨(hexk 8 (nb x)).toArray⟩) ∧ Below w.heap.size w w') := by
  have hz : Tryd.t5.zero = some (.int .u8 0) := by kernel_rfl
  have hmk : (Instr.makeSlice 67 (.int .i64 8) (.int .i64 8)).run Tryd.prog w = .ok (.slice (some ⟨w.heap.size, 0, none⟩) 8 8) (w.alloc (.cells (madeCells #[.int .u8 0] 8) 5)) := by
    have hb4 : Tryd.t5.bytes = 1 := by kernel_rfl
    have := run_make (P := Tryd.prog) w 67 5 Tryd.t5 (.int .u8 0) Tryd.underlying67 Tryd.type5 hz .i64 .i64 8 8 (by omega) (Int.le_refl _) (by rw [hb4]; omega) (by omega)
    have hs : Tryd.t5.size = 1 := by kernel_rfl
    simpa [hs, Value.cells] using this
  go_enter Tryd.func18, Tryd.ntmps18
  go_wp2_with (first
    | (go_at_call 34; refine (bits34 x _).mono ?_; rintro e w' ⟨rfl, rfl⟩))
  go_loopw [3, 5] (fun b k wr => ∃ (d m : Nat), d ≤ 8 ∧ b = .int .u32 m ∧ k = .int .i64 ((d : Int) - 1) ∧ Hid (m = nb x / 16 ^ (8 - d)) ∧ Hid (wr.heap[w.heap.size]? = some (.cells (List.replicate d (Value.int .u8 0) ++ Lib.byteCells (hexk (8 - d) (nb x))).toArray 5 (0, 0))) ∧ Below w.heap.size w wr) (fun _ k _ => (intOf k + 1).toNat)
  case atStart =>
    refine ⟨8, nb x, by omega, rfl, rfl, show nb x = nb x / 16 ^ 0 by simp, ?_, (Below.refl _ _).alloc (Nat.le_refl _) _⟩
    show (w.alloc _).heap[w.heap.size]? = _
    rw [heap_alloc_new]
    simp [made1, Lib.byteCells, hexk]
  case round =>
    obtain ⟨d, m, hd, rfl, rfl, hm, hr, hb⟩ := hrel
    rcases d with _ | e
    · have hcv := run_convert_bytes_back (P := Tryd.prog) wr 67 9 5 ⟨w.heap.size, 0, none⟩ 8 (hexk 8 (nb x)) Tryd.underlying67 Tryd.underlying5 Tryd.underlying9 (fun j hj => by
        have hr' : wr.heap[w.heap.size]? = some (.cells (List.replicate 0 (Value.int .u8 0) ++ Lib.byteCells (hexk (8 - 0) (nb x))).toArray 5 (0, 0)) := hr
        rw [Addr.add_lit]
        simp only [World.cell?, hr', Nat.zero_add]
        simp [Lib.byteCells, hj])
      rw [hexk_length] at hcv
      go_wp2
      go_ret
      exact ⟨rfl, hb⟩
    · have e1 : (((e + 1 : Nat) : Int) - 1) = (e : Nat) := by omega
      rw [e1]
      have hm16 : m % 16 < 16 := Nat.mod_lt _ (by omega)
      have hrm : (m : Int).tmod 16 = ((m % 16 : Nat) : Int) := by rw [Int.tmod_eq_emod_of_nonneg (by omega)]; omega
      have hqu : (m : Int).tdiv 16 = ((m / 16 : Nat) : Int) := by rw [Int.tdiv_eq_ediv_of_nonneg (by omega)]; omega
      have hsub : IntKind.i64.wrap ((e : Int) - 1) = (e : Int) - 1 := wrapI (by omega) (by omega)
      obtain ⟨r, hr16⟩ : ∃ r, r = m % 16 := ⟨_, rfl⟩
      have hr' : wr.heap[w.heap.size]? = some (.cells (List.replicate (e + 1) (Value.int .u8 0) ++ Lib.byteCells (hexk (8 - (e + 1)) (nb x))).toArray 5 (0, 0)) := hr
      have hfz := frozen_of_row wr w.heap.size e _ 5 hr'
      have hce : wr.cell? ⟨w.heap.size, e, none⟩ = some (.int .u8 0) := by
        simp only [World.cell?, hr']
        simp [List.getElem?_append]
      have hset := heap_setCell_same wr w.heap.size e _ 5 (.int .u8 ((dig m).toNat : Int)) hr'
      rw [set_mid] at hset
      have hdg := dig_get m
      have he7 : hexk (8 - e) (nb x) = dig m :: hexk (8 - (e + 1)) (nb x) := by
        have hm' : m = nb x / 16 ^ (8 - (e + 1)) := hm
        have h8 : 8 - e = (8 - (e + 1)) + 1 := by omega
        rw [h8, hexk_front, ← hm']
      have hset' : Hid ((wr.setCell ⟨w.heap.size, e, none⟩ (.int .u8 ((dig m).toNat : Int))).heap[w.heap.size]? = some (.cells (List.replicate e (Value.int .u8 0) ++ Lib.byteCells (hexk (8 - e) (nb x))).toArray 5 (0, 0))) := by
        rw [he7]
        exact hset
      have hb' : Below w.heap.size w (wr.setCell ⟨w.heap.size, e, none⟩ (.int .u8 ((dig m).toNat : Int))) := hb.setCell (Nat.le_refl _) _
      clear hset hr' he7 hr
      go_wp2
      refine ⟨⟨e, m / 16, by omega, ?_, rfl, ?_, hset', hb'⟩, ?_⟩
      · have hle : m ≤ nb x := by rw [show m = nb x / 16 ^ (8 - (e + 1)) from hm]; exact Nat.div_le_self _ _
        congr 1
        omega
      · show m / 16 = nb x / 16 ^ (8 - e)
        rw [show m = nb x / 16 ^ (8 - (e + 1)) from hm, Nat.div_div_eq_div_mul, ← Nat.pow_succ]
        congr 2
        omega
      · simp only [intOf]
        omega
end Go.Proofs.YtfeaddbehmodmaaDoor
