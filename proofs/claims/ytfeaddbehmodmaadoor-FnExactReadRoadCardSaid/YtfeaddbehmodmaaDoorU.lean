/-
  BASE SIXTEEN: the walk of the library's ParseUint at base 16 and 32 bits. Conditions: those that stand in each.
-/
import Derived.Test.YtfeaddbehmodmaaDoorC
import Derived.Lib.Strings
import Derived.Lib.Walk
import Derived.Lib.ConvBytes
import Derived.Lib.AtoiAllMem
import Derived.Lib.ParseIntBMem
import Derived.Lib.Hide
import Derived.Laws.Strings3
import Derived.Laws.Closers25
import Derived.Laws.Closers25b
import Derived.BigCall
import Derived.BigGuard
namespace Go.Proofs.YtfeaddbehmodmaaDoor
open Go.RowKit Go.Lib
/-- The letter in lower case. -/
def low (c : Nat) : Nat := (Go.bits .or .u8 (c : Int) 32).toNat
/-- A digit's value; 99 if it is none. -/
def pv (c : Nat) : Nat := if 48 ≤ c ∧ c ≤ 57 then c - 48 else if 97 ≤ low c ∧ low c ≤ 122 then low c - 87 else 99
/-- How a reading in base sixteen ends: a number, a letter that is none of its digits, or too large. -/
inductive End16 where
  | ok (n : Nat)
  | bad
  | far
/-- What the library's function gives at such an end. -/
def tup16 : End16 → Value
  | .ok n => .tuple #[.int .u64 n, .nilIface]
  | .bad => .tuple #[.int .u64 0, .iface 97 (.int .i64 2)]
  | .far => .tuple #[.int .u64 4294967295, .iface 97 (.int .i64 1)]
/-- What is read in base sixteen, below 2^32. -/
def parse16 (acc : Nat) : List UInt8 → End16
  | [] => .ok acc
  | c :: r => if 16 ≤ pv c.toNat then .bad else if 4294967296 ≤ acc * 16 + pv c.toNat then .far else parse16 (acc * 16 + pv c.toNat) r
set_option maxHeartbeats 3200000
set_option maxRecDepth 100000
theorem parseUint16 (t : ByteArray) (hne : t.size ≠ 0) (hmax : t.size ≤ 9223372036854775806) (w : World) :
    Calls Tryd.prog 43 #[.string t, .int .i64 16, .int .i64 32] w fun e w' => e = .returned (tup16 (parse16 0 t.data.toList)) ∧ w' = Lib.bytesWorld w 5 t := by
  have hemp : t.toList.isEmpty = false := by
    rw [← decide_eq_emptyBytes]
    exact decide_eq_false (fun h => hne (by rw [h]; rfl))
  have hcv := Lib.run_convert_string_bytes (P := Tryd.prog) w 9 67 5 t (u := .string) Tryd.underlying9 Tryd.underlying67 Tryd.underlying5
  have hB : ∀ j, j < t.size → (Lib.bytesWorld w 5 t).cell? ⟨w.heap.size, j, none⟩ = some (.int .u8 (t.data.toList.getD j 0).toNat) := fun j hj => Lib.bytesWorld_cell w 5 t j hj
  obtain ⟨W1, hW1⟩ : ∃ W1, W1 = Lib.bytesWorld w 5 t := ⟨_, rfl⟩
  rw [← hW1] at hcv hB ⊢
  clear hW1
  obtain ⟨bs, hL⟩ : ∃ bs, bs = t.data.toList := ⟨_, rfl⟩
  have hLn : bs.length = t.size := by rw [hL, Lib.size_eq]
  rw [← hL] at hB ⊢
  clear hL
  have hmv : IntKind.u64.wrap (IntKind.u64.wrap 4294967296 - 1) = 4294967295 := by
    rw [IntKind.wrap_u64, IntKind.wrap_u64]
    decide
  go_enter Tryd.func43, Tryd.ntmps43
  go_wp2
  go_loop [12, 13, 101] (fun vu vn vi => ∃ (k acc : Nat) (a : Int), vu = .bool false ∧ vn = .int .u64 a ∧ vi = .int .i64 k ∧ k ≤ t.size ∧ Hid (a = (acc : Int) ∧ acc ≤ 4294967295 ∧ parse16 0 bs = parse16 acc (bs.drop k)))
    (fun _ _ vi => t.size - (RowKit.intOf vi).toNat)
  case atStart => exact ⟨0, 0, 0, rfl, rfl, rfl, by omega, rfl, by omega, rfl⟩
  case round =>
    obtain ⟨k, acc, a, rfl, rfl, rfl, hk, hh⟩ := hrel
    obtain ⟨ha, hacc, hdec⟩ := hh.out
    clear hh
    have a0 : 0 ≤ a := by omega
    have a1 : a < 4294967296 := by omega
    by_cases hkn : k < t.size
    · have hc := hB k hkn
      have hdrop : bs.drop k = bs[k]'(by omega) :: bs.drop (k + 1) := List.drop_eq_getElem_cons (by omega)
      have hget : bs.getD k 0 = bs[k]'(by omega) := by simp [List.getD, List.getElem?_eq_getElem (show k < bs.length by omega)]
      rw [hdrop] at hdec
      rw [hget] at hc
      generalize bs[k]'(by omega) = c at hc hdec
      have hc256 : c.toNat < 256 := c.toNat_lt
      clear hB hdrop hget
      by_cases hdig : 48 ≤ c.toNat ∧ c.toNat ≤ 57
      · have hpv : pv c.toNat = c.toNat - 48 := by simp [pv, hdig]
        obtain ⟨hd0, hd1⟩ := hdig
        by_cases hov : 4294967296 ≤ acc * 16 + (c.toNat - 48)
        · have hF : parse16 acc (c :: bs.drop (k + 1)) = .far := by
            rw [parse16, hpv, if_neg (by omega), if_pos hov]
          rw [hF] at hdec
          have icut : a < 1152921504606846976 := by omega
          have iov : 4294967296 ≤ a * 16 + ((c.toNat : Int) - 48) := by omega
          clear hacc hF hov ha hpv
          go_wp2
          go_ret2
          exact ⟨rfl, rfl⟩
        · have hF : parse16 acc (c :: bs.drop (k + 1)) = parse16 (acc * 16 + (c.toNat - 48)) (bs.drop (k + 1)) := by
            rw [parse16, hpv, if_neg (by omega), if_neg hov]
          have HN : Hid (a * 16 + ((c.toNat : Int) - 48) = ((acc * 16 + (c.toNat - 48) : Nat) : Int) ∧ acc * 16 + (c.toNat - 48) ≤ 4294967295 ∧ parse16 0 bs = parse16 (acc * 16 + (c.toNat - 48)) (bs.drop (k + 1))) := Lib.hid ⟨by omega, by omega, hdec.trans hF⟩
          have icut : a < 1152921504606846976 := by omega
          have iov : a * 16 + ((c.toNat : Int) - 48) < 4294967296 := by omega
          clear hacc hF hov hdec ha hpv
          go_wp2
          refine ⟨⟨k + 1, acc * 16 + (c.toNat - 48), a * 16 + ((c.toNat : Int) - 48), rfl, (by first | rfl | (congr 1; omega)), (by first | rfl | (congr 1; omega)), by omega, HN⟩, by simp [RowKit.intOf]; omega⟩
      · have hor0 := bits_lo_u8 .or (c.toNat : Int) 32
        have hor1 := bits_hi_u8 .or (c.toNat : Int) 32
        obtain ⟨l, hl⟩ : ∃ l : Nat, Go.bits .or .u8 (c.toNat : Int) 32 = (l : Int) := ⟨_, (Int.toNat_of_nonneg hor0).symm⟩
        have hlow : low c.toNat = l := by unfold low; rw [hl]; rfl
        have hl256 : l < 256 := by omega
        have hpv : pv c.toNat = if 97 ≤ l ∧ l ≤ 122 then l - 87 else 99 := by unfold pv; rw [if_neg hdig, hlow]
        clear hor0 hor1 hlow
        have hnd : Hid (¬ (48 ≤ c.toNat ∧ c.toNat ≤ 57)) := hdig
        by_cases hlet : 97 ≤ l ∧ l ≤ 122
        · rw [if_pos hlet] at hpv
          obtain ⟨hl0, hl1⟩ := hlet
          have hn95 : ¬ ((c.toNat : Int) = 95) := by
            intro h
            rw [h] at hl
            have h95 : Go.bits .or .u8 95 32 = 127 := by decide
            omega
          have hw1 : IntKind.u8.wrap ((l : Int) - 97) = ((l : Int) - 97) := by rw [IntKind.wrap_u8]; omega
          have hw2 : IntKind.u8.wrap ((l : Int) - 97 + 10) = ((l : Int) - 87) := by rw [IntKind.wrap_u8]; omega
          by_cases h16 : l < 103
          · by_cases hov : 4294967296 ≤ acc * 16 + (l - 87)
            · have hF : parse16 acc (c :: bs.drop (k + 1)) = .far := by
                rw [parse16, hpv, if_neg (by omega), if_pos hov]
              rw [hF] at hdec
              have icut : a < 1152921504606846976 := by omega
              have iov : 4294967296 ≤ a * 16 + ((l : Int) - 87) := by omega
              clear hacc hF hov ha hpv
              go_wp2_with (go_at_call 61; refine (Tryd.internal_strconv_lower _ _).mono ?_; rintro e w' ⟨rfl, rfl⟩)
              all_goals go_ret2
              all_goals first | exact ⟨rfl, rfl⟩ | exact ⟨by rw [hdec]; rfl, rfl⟩
            · have hF : parse16 acc (c :: bs.drop (k + 1)) = parse16 (acc * 16 + (l - 87)) (bs.drop (k + 1)) := by
                rw [parse16, hpv, if_neg (by omega), if_neg hov]
              have HN : Hid (a * 16 + ((l : Int) - 87) = ((acc * 16 + (l - 87) : Nat) : Int) ∧ acc * 16 + (l - 87) ≤ 4294967295 ∧ parse16 0 bs = parse16 (acc * 16 + (l - 87)) (bs.drop (k + 1))) := Lib.hid ⟨by omega, by omega, hdec.trans hF⟩
              have icut : a < 1152921504606846976 := by omega
              have iov : a * 16 + ((l : Int) - 87) < 4294967296 := by omega
              clear hacc hF hov hdec ha hpv
              go_wp2_with (go_at_call 61; refine (Tryd.internal_strconv_lower _ _).mono ?_; rintro e w' ⟨rfl, rfl⟩)
              all_goals refine ⟨⟨k + 1, acc * 16 + (l - 87), a * 16 + ((l : Int) - 87), rfl, (by first | rfl | (congr 1; omega)), (by first | rfl | (congr 1; omega)), by omega, HN⟩, by simp [RowKit.intOf]; omega⟩
          · have hF : parse16 acc (c :: bs.drop (k + 1)) = .bad := by
              rw [parse16, hpv, if_pos (by omega)]
            rw [hF] at hdec
            clear hacc hF ha hpv
            go_wp2_with (go_at_call 61; refine (Tryd.internal_strconv_lower _ _).mono ?_; rintro e w' ⟨rfl, rfl⟩)
            all_goals go_ret2
            all_goals first | exact ⟨rfl, rfl⟩ | exact ⟨by rw [hdec]; rfl, rfl⟩
        · rw [if_neg hlet] at hpv
          have hF : parse16 acc (c :: bs.drop (k + 1)) = .bad := by
            rw [parse16, hpv, if_pos (by omega)]
          rw [hF] at hdec
          have h95 : Go.bits .or .u8 95 32 = 127 := by decide
          clear hacc hF ha hpv
          go_wp2_with (go_at_call 61; refine (Tryd.internal_strconv_lower _ _).mono ?_; rintro e w' ⟨rfl, rfl⟩)
          all_goals go_ret2
          all_goals first | exact ⟨rfl, rfl⟩ | exact ⟨by rw [hdec]; rfl, rfl⟩
    · -- THE BYTES ARE AT AN END
      have hkk : k = t.size := by omega
      subst hkk
      have hF : parse16 acc (bs.drop t.size) = .ok acc := by rw [List.drop_eq_nil_of_le (by omega)]; rfl
      rw [hF] at hdec
      subst ha
      clear hacc hF a0 a1
      go_wp2
      go_ret2
      exact ⟨rfl, rfl⟩
end Go.Proofs.YtfeaddbehmodmaaDoor
