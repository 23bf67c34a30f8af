/-
  THE TEXT OF A ROW OF NUMBERS, as the reference writes it, walked. Conditions: those that stand in each.
-/
import Derived.Test.YtfeaddbehmodmaaDoorH
import Derived.Lib.Join
namespace Go.Proofs.YtfeaddbehmodmaaDoor
open Go.RowKit
set_option maxRecDepth 100000
/-- The texts of numbers. -/
def txs (bs : List Nat) : List (List UInt8) := bs.map fun b => hexk 8 (nb b)
theorem txs_get {bs : List Nat} {k : Nat} (h : k < bs.length) : (txs bs)[k]? = some (hexk 8 (nb (bs.getD k 0))) := by
  unfold txs
  rw [List.getElem?_map, List.getD_eq_getElem?_getD, List.getElem?_eq_getElem h]
  rfl
theorem join_snoc (xs : List (List UInt8)) (x sep : List UInt8) : Lib.join (xs ++ [x]) sep = if xs = [] then x else Lib.join xs sep ++ (sep ++ x) := by
  cases xs with
  | nil => simp [Lib.join_one]
  | cons a r =>
    rw [if_neg (by simp), List.cons_append, Lib.join_cons, Lib.join_cons]
    simp [Lib.joinTail, List.append_assoc]
theorem ba_append (a b : List UInt8) : (⟨a.toArray⟩ : ByteArray) ++ ⟨b.toArray⟩ = ⟨(a ++ b).toArray⟩ := by simp [ByteArray.ext_iff]
/-- The first k numbers' row. -/
def rowT (bs : List Nat) (k : Nat) : List UInt8 := Lib.join ((txs bs).take k) [32]
theorem rowT_zero (bs : List Nat) : rowT bs 0 = [] := by simp [rowT, Lib.join_nil]
theorem rowT_succ {bs : List Nat} {k : Nat} (h : k < bs.length) : rowT bs (k + 1) = if k = 0 then hexk 8 (nb (bs.getD k 0)) else rowT bs k ++ ([32] ++ hexk 8 (nb (bs.getD k 0))) := by
  unfold rowT
  rw [List.take_add_one, txs_get h, Option.toList_some, join_snoc]
  have hl : ((txs bs).take k = []) ↔ k = 0 := by
    rw [List.take_eq_nil_iff]
    constructor
    · rintro (h0 | h0)
      · exact h0
      · unfold txs at h0
        rw [List.map_eq_nil_iff] at h0
        subst h0
        simp at h
    · exact .inl
  by_cases h0 : k = 0
  · rw [if_pos (hl.2 h0), if_pos h0]
  · rw [if_neg (fun g => h0 (hl.1 g)), if_neg h0]
theorem rowT_len {bs : List Nat} : ∀ {k : Nat}, k ≤ bs.length → (rowT bs k).length ≤ 9 * k
  | 0, _ => by rw [rowT_zero]; simp
  | k + 1, h => by
    have ih := rowT_len (bs := bs) (k := k) (by omega)
    rw [rowT_succ (by omega)]
    split
    · rw [hexk_length]
      omega
    · simp only [List.length_append, hexk_length, List.length_cons, List.length_nil]
      omega
theorem getD_mem {bs : List Nat} {k : Nat} (h : k < bs.length) : bs.getD k 0 ∈ bs := by
  rw [List.getD_eq_getElem?_getD, List.getElem?_eq_getElem h]
  exact List.getElem_mem h
theorem nb_small {x : Nat} (h : x < Sx.bits .f32) : nb x < 4294967296 := by
  have hb : Sx.bits .f32 = 4294967296 := by decide
  unfold nb
  split
  · omega
  · omega
theorem nbLt {bs : List Nat} (h : Road19 bs) (k : Nat) (hk : k < 19) : nb (bs.getD k 0) < 4294967296 := nb_small (h.2 _ (getD_mem (by have := h.1; omega)))
set_option maxHeartbeats 800000
theorem specRow {bs : List Nat} (h : Road19 bs) (g : Nat) (w : World) (hg : g < w.heap.size) (hc : ∀ k, k < 16 → w.cell? ⟨g, k, none⟩ = some (.float .f32 (bs.getD k 0))) :
    Calls Tryd.prog 46 #[.slice (some ⟨g, 0, none⟩) 16 16] w (fun e w' => e = .returned (.string ⟨(rowT bs 16).toArray⟩) ∧ Below w.heap.size w w') := by
  go_enter Tryd.func46, Tryd.ntmps46
  go_wp2
  go_loopw [3, 4] (fun vs vi wr => ∃ (k : Nat) (l : List UInt8), vs = .string ⟨l.toArray⟩ ∧ vi = .int .i64 k ∧ k ≤ 16 ∧ l.length ≤ 9 * k ∧ Hid (l = rowT bs k) ∧ Below w.heap.size w wr)
    (fun _ vi _ => 16 - (intOf vi).toNat)
  case atStart => exact ⟨0, [], rfl, rfl, by omega, by simp, (rowT_zero bs).symm, Below.refl _ _⟩
  case round =>
    obtain ⟨k, l, rfl, rfl, hk, hl, hh, hb⟩ := hrel
    have hdec : l = rowT bs k := hh.out
    clear hh
    by_cases hk16 : k < 16
    · have hck : wr.cell? ⟨g, k, none⟩ = some (.float .f32 (bs.getD k 0)) := by rw [hb.cell (p := ⟨g, k, none⟩) hg]; exact hc k hk16
      have hnl := nbLt h k (by omega)
      have hstep := rowT_succ (bs := bs) (k := k) (by have := h.1; omega)
      rw [← hdec] at hstep
      have hsz := hexk_length 8 (nb (bs.getD k 0))
      by_cases h0 : k = 0
      · subst h0
        rw [if_pos rfl] at hstep
        have HN : Hid (hexk 8 (nb (bs.getD 0 0)) = rowT bs (0 + 1)) := hstep.symm
        have hl0 : l = [] := List.eq_nil_of_length_eq_zero (by omega)
        subst hl0
        have hnn := h.2
        clear hstep hdec hc hnn
        generalize bs.getD 0 0 = b at *
        go_wp2_with (go_at_call 18; refine (hex8 b hnl _).mono ?_; rintro e w1 ⟨rfl, hb1⟩)
        refine ⟨⟨1, hexk 8 (nb b), ?_, rfl, by omega, by omega, HN, hb.trans (hb1.mono hb.size)⟩, by simp only [intOf]; omega⟩
        simp [ByteArray.ext_iff]
      · rw [if_neg h0] at hstep
        have hpos : (0 : Int) < (k : Int) := by omega
        have HN : Hid (l ++ ([32] ++ hexk 8 (nb (bs.getD k 0))) = rowT bs (k + 1)) := hstep.symm
        clear hstep hdec hc
        generalize bs.getD k 0 = b at *
        go_wp2_with (go_at_call 18; refine (hex8 b hnl _).mono ?_; rintro e w1 ⟨rfl, hb1⟩)
        refine ⟨⟨k + 1, l ++ ([32] ++ hexk 8 (nb b)), ?_, (by first | rfl | (congr 1; omega)), by omega, ?_, HN, hb.trans (hb1.mono hb.size)⟩, by simp only [intOf]; omega⟩
        · rw [← ba_append, ← ba_append, ← ByteArray.append_assoc]
        · simp only [List.length_append, List.length_cons, List.length_nil]
          omega
    · have hkk : k = 16 := by omega
      rw [hkk] at hdec
      have h16 : (16 : Int) ≤ (k : Int) := by omega
      go_wp2
      go_ret
      exact ⟨by rw [hdec]; rfl, hb⟩
end Go.Proofs.YtfeaddbehmodmaaDoor
