/-
  THE READING OF A NUMBER, walked: the reference's and the program's. Conditions: those that stand in each (the library's two errors and one cell of its table).
-/
import Derived.Test.YtfeaddbehmodmaaDoorV
import Derived.Test.YtfeaddbehmodmaaDoorSums
namespace Go.Proofs.YtfeaddbehmodmaaDoor
open Go.RowKit Go.Lib
set_option maxHeartbeats 1600000
set_option maxRecDepth 100000
theorem fbitsZ (z : Int) (w : World) : (callFunc 24 #[.int .u32 z]).run Tryd.prog w = .ok (.value (.float .f32 z.toNat)) w := by
  rw [run_callFunc_extern (e := Go.Extern.MathFloatBits.float32frombits) Tryd.func24 (by kernel_rfl) (by kernel_rfl) (by kernel_rfl) (by kernel_rfl)]
  rfl
theorem fbits (n : Nat) (w : World) : (callFunc 24 #[.int .u32 n]).run Tryd.prog w = .ok (.value (.float .f32 n)) w := by
  rw [run_callFunc_extern (e := Go.Extern.MathFloatBits.float32frombits) Tryd.func24 (by kernel_rfl) (by kernel_rfl) (by kernel_rfl) (by kernel_rfl)]
  rfl
/-- What the reference's reading hands back. -/
def SpecOut (l : List UInt8) (x : Nat) (b : Bool) : Prop := match specN l with | some n => x = n ∧ b = true | none => b = false
theorem out_none {l : List UInt8} (h : specN l = none) (x : Nat) : SpecOut l x false := by unfold SpecOut; rw [h]
theorem specN_len {l : List UInt8} (h : l.length ≠ 8) : specN l = none := by unfold specN; rw [if_neg h]
theorem specN_no {l : List UInt8} (h : rs 0 l = none) : specN l = none := by
  unfold specN
  rw [h]
  split <;> rfl
theorem getD_bytes (t : ByteArray) (k : Nat) (h : k < t.size) : t[k]'h = t.data.toList.getD k 0 := by
  have h' : k < t.data.toList.length := by rw [← Lib.size_eq]; exact h
  rw [List.getD_eq_getElem?_getD, List.getElem?_eq_getElem h', Option.getD_some]
  rfl
def RetSpec (l : List UInt8) (e : Ending) : Prop := ∃ (x : Nat) (b : Bool), e = .returned (.tuple #[.float .f32 x, .bool b]) ∧ SpecOut l x b
theorem specRead (t : ByteArray) (w : World) :
    Calls Tryd.prog 22 #[.string t] w fun e w' => RetSpec t.data.toList e ∧ w' = w := by
  obtain ⟨bs, hL⟩ : ∃ bs, bs = t.data.toList := ⟨_, rfl⟩
  have hLn : bs.length = t.size := by rw [hL, Lib.size_eq]
  by_cases h8 : t.size = 8
  · have hix : ∀ (k : Nat), k < 8 → ∀ w, (Instr.index 9 (.string t) (.int .i64 k)).run Tryd.prog w = .ok (.int .u8 (bs.getD k 0).toNat) w := fun k hk w => by
      rw [run_index_string w 9 t .i64 k Tryd.underlying9, dif_pos (by omega)]
      simp only [Int.toNat_natCast]
      rw [getD_bytes t k (by omega), ← hL]
    rw [← hL]
    go_enter Tryd.func22, Tryd.ntmps22
    go_wp2
    clear hL
    go_loop [4, 5] (fun vb vi => ∃ (k m : Nat), vb = .int .u32 m ∧ vi = .int .i64 k ∧ k ≤ 8 ∧ m < 16 ^ k ∧ Hid (rs 0 bs = rs m (bs.drop k)))
      (fun _ vi => 8 - (RowKit.intOf vi).toNat)
    case atStart => exact ⟨0, 0, rfl, rfl, by omega, by decide, rfl⟩
    case round =>
      obtain ⟨k, m, rfl, rfl, hk, hm, hh⟩ := hrel
      have hdec := hh.out
      clear hh
      by_cases hk8 : k < 8
      · have hc := hix k hk8
        have hdrop : bs.drop k = bs[k]'(by omega) :: bs.drop (k + 1) := List.drop_eq_getElem_cons (by omega)
        have hget : bs.getD k 0 = bs[k]'(by omega) := by simp [List.getD, List.getElem?_eq_getElem (show k < bs.length by omega)]
        rw [hdrop] at hdec
        rw [hget] at hc
        generalize bs[k]'(by omega) = c at hc hdec
        have hc256 : c.toNat < 256 := c.toNat_lt
        have hm7 : m < 268435456 := Nat.lt_of_lt_of_le hm (show 16 ^ k ≤ 16 ^ 7 from Nat.pow_le_pow_right (by omega) (by omega))
        have hmk : ∀ v, v < 16 → m * 16 + v < 16 ^ (k + 1) := fun v hv => by
          rw [Nat.pow_succ]
          omega
        have hw1 : IntKind.u32.wrap ((m : Int) * 16) = (m : Int) * 16 := by rw [IntKind.wrap_u32]; omega
        clear hix hdrop hget hm
        rw [rs] at hdec
        by_cases hd : 48 ≤ c.toNat ∧ c.toNat ≤ 57
        · have hdv : dv c.toNat = some (c.toNat - 48) := by unfold dv; rw [if_pos hd]
          rw [hdv] at hdec
          have HN : Hid (rs 0 bs = rs (m * 16 + (c.toNat - 48)) (bs.drop (k + 1))) := hdec
          have HM : Hid (m * 16 + (c.toNat - 48) < 16 ^ (k + 1)) := hmk _ (by omega)
          obtain ⟨hd0, hd1⟩ := hd
          clear hdec hmk hdv
          go_wp2
          refine ⟨⟨k + 1, m * 16 + (c.toNat - 48), (by first | rfl | (congr 1; omega)), (by first | rfl | (congr 1; omega)), by omega, HM, HN⟩, by simp only [RowKit.intOf]; omega⟩
        · by_cases hd2 : 97 ≤ c.toNat ∧ c.toNat ≤ 102
          · have hdv : dv c.toNat = some (c.toNat - 87) := by unfold dv; rw [if_neg hd, if_pos hd2]
            rw [hdv] at hdec
            have HN : Hid (rs 0 bs = rs (m * 16 + (c.toNat - 87)) (bs.drop (k + 1))) := hdec
            have HM : Hid (m * 16 + (c.toNat - 87) < 16 ^ (k + 1)) := hmk _ (by omega)
            obtain ⟨hd0, hd1⟩ := hd2
            clear hdec hmk hdv hd
            go_wp2
            refine ⟨⟨k + 1, m * 16 + (c.toNat - 87), (by first | rfl | (congr 1; omega)), (by first | rfl | (congr 1; omega)), by omega, HM, HN⟩, by simp only [RowKit.intOf]; omega⟩
          · have hdv : dv c.toNat = none := by unfold dv; rw [if_neg hd, if_neg hd2]
            rw [hdv] at hdec
            have HO : SpecOut bs 0 false := out_none (specN_no hdec) 0
            clear hdec hmk hdv
            go_wp2
            all_goals go_ret2
            all_goals exact ⟨⟨0, false, rfl, HO⟩, rfl⟩
      · have hkk : k = 8 := by omega
        subst hkk
        have h32 := fbits m
        rw [List.drop_eq_nil_of_le (by omega), rs] at hdec
        have HN : Hid (rs 0 bs = some m) := hdec
        have hlt : m < 4294967296 := hm
        clear hdec hm
        go_wp2_with (go_at_call 34; refine (bits34 m _).mono ?_; rintro e w' ⟨rfl, rfl⟩)
        have HO : SpecOut bs m ((nb m : Int) == (m : Int)) := by
          unfold SpecOut specN
          rw [if_pos (by omega), show rs 0 bs = some m from HN]
          by_cases g : nb m = m
          · simp [g]
          · simp [g]
            omega
        go_ret2
        exact ⟨⟨m, _, rfl, HO⟩, rfl⟩
  · have hno : SpecOut t.data.toList 0 false := out_none (specN_len (by rw [← hL, hLn]; exact h8)) 0
    go_enter Tryd.func22, Tryd.ntmps22
    go_wp2
    go_ret2
    exact ⟨⟨0, false, rfl, hno⟩, rfl⟩
end Go.Proofs.YtfeaddbehmodmaaDoor
