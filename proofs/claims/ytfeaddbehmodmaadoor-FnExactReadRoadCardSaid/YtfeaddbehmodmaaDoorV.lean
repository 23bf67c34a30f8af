/-
  WHAT IS READ AS A NUMBER: the reference's reading and the library's come to the same (plain facts on lists of bytes, no program). Conditions: those that stand in each.
-/
import Derived.Test.YtfeaddbehmodmaaDoorU
namespace Go.Proofs.YtfeaddbehmodmaaDoor
open Go.RowKit Go.Lib
set_option maxRecDepth 100000
/-- A digit's value by the reference. -/
def dv (c : Nat) : Option Nat := if 48 ≤ c ∧ c ≤ 57 then some (c - 48) else if 97 ≤ c ∧ c ≤ 102 then some (c - 87) else none
def rs (acc : Nat) : List UInt8 → Option Nat
  | [] => some acc
  | c :: r => match dv c.toNat with | some v => rs (acc * 16 + v) r | none => none
theorem dv_all : ∀ k, k < 256 → ∀ v, v < 99 → dv k = some v → v < 16 ∧ dig v = UInt8.ofNat k ∧ pv k = v := by decide +kernel
theorem dv_spec {c : UInt8} {v : Nat} (h : dv c.toNat = some v) : v < 16 ∧ dig v = c ∧ pv c.toNat = v := by
  have hv : v < 99 := by
    unfold dv at h
    split at h
    · cases h; omega
    · split at h
      · cases h; omega
      · cases h
  have := dv_all c.toNat c.toNat_lt v hv h
  simpa using this
theorem dv_dig (n : Nat) : dv (dig n).toNat = some (n % 16) := by
  unfold dig
  have : n % 16 < 16 := Nat.mod_lt _ (by omega)
  generalize n % 16 = r at this ⊢
  match r, this with
  | 0, _ | 1, _ | 2, _ | 3, _ | 4, _ | 5, _ | 6, _ | 7, _ | 8, _ | 9, _ | 10, _ | 11, _ | 12, _ | 13, _ | 14, _ | 15, _ => rfl
  | n + 16, q => exact absurd q (by omega)
theorem dig_mod {n m : Nat} (h : n % 16 = m % 16) : dig n = dig m := by unfold dig; rw [h]
theorem rs_div : ∀ {l : List UInt8} {acc n : Nat}, rs acc l = some n → n / 16 ^ l.length = acc
  | [], acc, n, h => by simp only [rs, Option.some.injEq] at h; simp [h]
  | c :: r, acc, n, h => by
    rw [rs] at h
    split at h
    · rename_i v hv
      have h1 := rs_div h
      have h2 := (dv_spec hv).1
      rw [List.length_cons, Nat.pow_succ, ← Nat.div_div_eq_div_mul, h1]
      omega
    · cases h
theorem rs_hexk : ∀ {l : List UInt8} {acc n : Nat}, rs acc l = some n → hexk l.length n = l
  | [], _, _, _ => rfl
  | c :: r, acc, n, h => by
    rw [rs] at h
    split at h
    · rename_i v hv
      have h1 := rs_div h
      obtain ⟨h2, h3, _⟩ := dv_spec hv
      rw [List.length_cons, hexk_front, rs_hexk h, h1, ← h3]
      congr 1
      exact dig_mod (by omega)
    · cases h
theorem rs_append : ∀ {a b : List UInt8} {acc : Nat}, rs acc (a ++ b) = (rs acc a).bind fun x => rs x b
  | [], _, _ => rfl
  | c :: r, b, acc => by
    rw [List.cons_append, rs, rs]
    split
    · exact rs_append
    · rfl
theorem rs_of_hexk : ∀ (k n acc : Nat), rs acc (hexk k n) = some (acc * 16 ^ k + n % 16 ^ k)
  | 0, n, acc => by simp [hexk, rs, Nat.mod_one]
  | k + 1, n, acc => by
    have h1 : n % 16 ^ (k + 1) = n / 16 % 16 ^ k * 16 + n % 16 := by
      rw [Nat.pow_succ, Nat.mul_comm (16 ^ k) 16, Nat.mod_mul]
      omega
    have h2 : acc * 16 ^ (k + 1) = acc * 16 ^ k * 16 := by rw [Nat.pow_succ, Nat.mul_assoc]
    rw [hexk, rs_append, rs_of_hexk k (n / 16) acc, Option.bind_some, rs, dv_dig]
    simp only [rs]
    congr 1
    rw [h1, h2, Nat.add_mul]
    omega
theorem rs_le : ∀ {l : List UInt8} {acc n : Nat}, rs acc l = some n → acc ≤ n
  | [], acc, n, h => by simp only [rs, Option.some.injEq] at h; omega
  | c :: r, acc, n, h => by
    rw [rs] at h
    split at h
    · have := rs_le h
      omega
    · cases h
theorem rs_parse : ∀ {l : List UInt8} {acc n : Nat}, rs acc l = some n → n < 4294967296 → parse16 acc l = .ok n
  | [], acc, n, h, _ => by simp only [rs, Option.some.injEq] at h; rw [parse16, h]
  | c :: r, acc, n, h, hn => by
    rw [rs] at h
    split at h
    · rename_i v hv
      obtain ⟨h2, _, h3⟩ := dv_spec hv
      have := rs_le h
      rw [parse16, h3, if_neg (by omega), if_neg (by omega)]
      exact rs_parse h hn
    · cases h
theorem rs_lt {l : List UInt8} {n : Nat} (h : rs 0 l = some n) (hl : l.length = 8) : n < 4294967296 := by
  have := rs_div h
  rw [hl] at this
  rcases Nat.lt_or_ge n 4294967296 with g | g
  · exact g
  · have : 1 ≤ n / 16 ^ 8 := (Nat.le_div_iff_mul_le (by decide)).2 (by omega)
    omega
theorem parse_lt : ∀ {l : List UInt8} {acc n : Nat}, acc < 4294967296 → parse16 acc l = .ok n → n < 4294967296
  | [], acc, n, ha, h => by simp only [parse16, End16.ok.injEq] at h; omega
  | c :: r, acc, n, ha, h => by
    rw [parse16] at h
    split at h
    · cases h
    · split at h
      · cases h
      · exact parse_lt (by omega) h
/-- What the program reads. -/
def readN (l : List UInt8) : Option Nat := if l = [] then none else match parse16 0 l with | .ok n => if hexk 8 (nb n) = l then some n else none | _ => none
/-- What the reference reads. -/
def specN (l : List UInt8) : Option Nat := if l.length = 8 then match rs 0 l with | some n => if nb n = n then some n else none | none => none else none
theorem nb_lt {x : Nat} (hx : x < 4294967296) : nb x < 4294967296 := by
  unfold nb
  split <;> omega
theorem specN_readN {l : List UInt8} {n : Nat} (h : specN l = some n) : readN l = some n := by
  unfold specN at h
  split at h
  · rename_i hl
    split at h
    · rename_i m hm
      split at h
      · rename_i hnb
        cases h
        have h1 := rs_hexk hm
        rw [hl] at h1
        unfold readN
        rw [if_neg (by rintro rfl; cases hl), rs_parse hm (rs_lt hm hl)]
        simp only
        rw [hnb, if_pos h1]
      · cases h
    · cases h
  · cases h
theorem readN_specN {l : List UInt8} {n : Nat} (h : readN l = some n) : specN l = some n := by
  unfold readN at h
  split at h
  · cases h
  · split at h
    · rename_i m hm
      split at h
      · rename_i hx
        cases h
        have hmlt := parse_lt (by omega) hm
        have hnlt := nb_lt hmlt
        have hl : l.length = 8 := by rw [← hx, hexk_length]
        have hr : rs 0 l = some (nb n) := by
          rw [← hx, rs_of_hexk]
          congr 1
          rw [Nat.zero_mul, Nat.zero_add]
          exact Nat.mod_eq_of_lt (by omega)
        have hp := rs_parse hr hnlt
        rw [hm] at hp
        simp only [End16.ok.injEq] at hp
        unfold specN
        rw [if_pos hl, hr]
        simp only
        rw [← hp, if_pos hp.symm]
      · cases h
    · cases h
theorem specN_eq (l : List UInt8) : specN l = readN l := by
  cases h : readN l with
  | some n => exact readN_specN h
  | none =>
    cases g : specN l with
    | none => rfl
    | some n => rw [specN_readN g] at h; cases h
theorem specN_lt {l : List UInt8} {n : Nat} (h : specN l = some n) : n < 4294967296 ∧ nb n = n := by
  unfold specN at h
  split at h
  · rename_i hl
    split at h
    · rename_i m hm
      split at h
      · rename_i hnb
        cases h
        exact ⟨rs_lt hm hl, hnb⟩
      · cases h
    · cases h
  · cases h
end Go.Proofs.YtfeaddbehmodmaaDoor
