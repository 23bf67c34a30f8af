/-
  THE PROGRAM'S READING OF A NUMBER, walked. Conditions: those that stand in each (the library's two errors and one cell of its table).
-/
import Derived.Test.YtfeaddbehmodmaaDoorR
import Derived.Lib.AtoiErrMem
namespace Go.Proofs.YtfeaddbehmodmaaDoor
open Go.RowKit Go.Lib
set_option maxHeartbeats 1600000
set_option maxRecDepth 100000
def RetNum (l : List UInt8) (e : Ending) : Prop := ∃ (x : Nat) (c : Int), e = .returned (.tuple #[.float .f32 x, .int .i64 c]) ∧ (match specN l with | some n => x = n ∧ c = 0 | none => x = 0 ∧ c = 5)
theorem specNum (t : ByteArray) (w : World) : Calls Tryd.prog 9 #[.string t] w fun e w' => RetNum t.data.toList e ∧ w' = w := by
  cases hs : specN t.data.toList with
  | none =>
    have hX : ∀ e, RetSpec t.data.toList e → ∃ x, e = .returned (.tuple #[.float .f32 x, .bool false]) := by
      rintro e ⟨x, b, rfl, h⟩
      unfold SpecOut at h
      rw [hs] at h
      exact ⟨x, by rw [show b = false from h]⟩
    have hY : RetNum t.data.toList (.returned (.tuple #[.float .f32 0, .int .i64 5])) := ⟨0, 5, rfl, by rw [hs]; exact ⟨rfl, rfl⟩⟩
    go_enter Tryd.func9, Tryd.ntmps9
    go_wp2_with (go_at_call 22; refine (specRead t _).mono ?_; rintro e w' ⟨hr, rfl⟩; obtain ⟨x, rfl⟩ := hX e hr; clear hr)
    go_ret2
    exact ⟨hY, rfl⟩
  | some n =>
    have hX : ∀ e, RetSpec t.data.toList e → e = .returned (.tuple #[.float .f32 n, .bool true]) := by
      rintro e ⟨x, b, rfl, h⟩
      unfold SpecOut at h
      rw [hs] at h
      obtain ⟨rfl, rfl⟩ : x = n ∧ b = true := h
      rfl
    have hY : RetNum t.data.toList (.returned (.tuple #[.float .f32 n, .int .i64 0])) := ⟨n, 0, rfl, by rw [hs]; exact ⟨rfl, rfl⟩⟩
    go_enter Tryd.func9, Tryd.ntmps9
    go_wp2_with (go_at_call 22; refine (specRead t _).mono ?_; rintro e w' ⟨hr, rfl⟩; obtain rfl := hX e hr; clear hr)
    go_ret2
    exact ⟨hY, rfl⟩
/-- The cells of the library's two errors. -/
def ErrOk (w : World) : Prop := (∃ v, w.cell? ⟨2, 0, none⟩ = some v ∧ (v = .nilIface ∨ ∃ te pe, v = .iface te pe)) ∧ ∃ v, w.cell? ⟨3, 0, none⟩ = some v ∧ (v = .nilIface ∨ ∃ te pe, v = .iface te pe)
theorem err_below {w w' : World} (h : ErrOk w) (hs : 3 < w.heap.size) (hb : Below w.heap.size w w') : ErrOk w' := by
  obtain ⟨⟨v, h1, h2⟩, u, h3, h4⟩ := h
  exact ⟨⟨v, (hb.cell (p := ⟨2, 0, none⟩) (by show 2 < _; omega)).trans h1, h2⟩, u, (hb.cell (p := ⟨3, 0, none⟩) (by show 3 < _; omega)).trans h3, h4⟩
def puOf (l : List UInt8) : End16 := if l = [] then .bad else parse16 0 l
/-- What the library's ParseUint hands back. -/
def RetPU (l : List UInt8) (e : Ending) : Prop := ∃ (v : Nat) (er : Value), e = .returned (.tuple #[.int .u64 v, er]) ∧ (match puOf l with | .ok n => v = n ∧ er = .nilIface | _ => ∃ p, er = .iface 99 p)
theorem parseU (t : ByteArray) (hmax : t.size ≤ 1048576) (w : World) (he : ErrOk w) (h3 : 3 < w.heap.size) :
    Calls Tryd.prog 23 #[.string t, .int .i64 16, .int .i64 32] w fun e w' => RetPU t.data.toList e ∧ Below w.heap.size w w' := by
  by_cases h0 : t.size = 0
  · have ht : t = ⟨#[]⟩ := by
      obtain ⟨⟨l⟩⟩ := t
      have : l.length = 0 := h0
      simp at this
      rw [this]
    subst ht
    obtain ⟨⟨v, hv, hv2⟩, _⟩ := he
    have hY : ∀ N, RetPU [] (.returned (.tuple #[.int .u64 0, .iface 99 (.pointer (some ⟨N, 0, none⟩))])) := fun N => ⟨0, _, rfl, _, rfl⟩
    go_enter Tryd.func23, Tryd.ntmps23
    go_wp2_with (first
      | (go_at_call 43; refine (Tryd.internal_strconv_ParseUint_empty _ _ _).mono ?_; rintro e w' ⟨rfl, rfl⟩)
      | (go_at_call 44; refine (Tryd.strconv_toError_syntax _ _ _ _ v _ (by decide) hv hv2).mono ?_; rintro e w' ⟨N, rfl, h1, h2, h4⟩))
    go_ret2
    exact ⟨hY _, h4⟩
  · have hne : t.data.toList ≠ [] := by
      intro h
      apply h0
      rw [Lib.size_eq, h]
      rfl
    have hpu : puOf t.data.toList = parse16 0 t.data.toList := if_neg hne
    obtain ⟨l, hl⟩ : ∃ l, l = t.data.toList := ⟨_, rfl⟩
    have hP := parseUint16 t h0 (by omega) w
    rw [← hl] at hpu hP ⊢
    cases hp : parse16 0 l with
    | ok n =>
      rw [hp] at hpu hP
      have hY : RetPU l (.returned (.tuple #[.int .u64 n, .nilIface])) := ⟨n, _, rfl, by rw [hpu]; exact ⟨rfl, rfl⟩⟩
      clear hp hpu
      go_enter Tryd.func23, Tryd.ntmps23
      go_wp2_with (go_at_call 43; refine hP.mono ?_; rintro e w1 ⟨rfl, hw⟩; have hb : Below w.heap.size w w1 := hw ▸ Lib.bytesWorld_below w 5 t; clear hw; simp only [tup16])
      go_ret2
      exact ⟨hY, hb⟩
    | bad =>
      rw [hp] at hpu hP
      have hY : ∀ N, RetPU l (.returned (.tuple #[.int .u64 0, .iface 99 (.pointer (some ⟨N, 0, none⟩))])) := fun N => ⟨0, _, rfl, by rw [hpu]; exact ⟨_, rfl⟩⟩
      clear hp hpu
      go_enter Tryd.func23, Tryd.ntmps23
      go_wp2_with (go_at_call 43; refine hP.mono ?_; rintro e w1 ⟨rfl, hw⟩; have hb : Below w.heap.size w w1 := hw ▸ Lib.bytesWorld_below w 5 t; clear hw; simp only [tup16]; obtain ⟨⟨v, hv, hv2⟩, _⟩ := err_below he h3 hb)
      refine (Tryd.strconv_toError_syntax _ t 16 32 v w1 (by omega) hv hv2).mono ?_
      rintro e w' ⟨N, rfl, h1, h2, h4⟩
      go_wp2
      go_ret2
      exact ⟨hY _, hb.trans (h4.mono hb.size)⟩
    | far =>
      rw [hp] at hpu hP
      have hY : ∀ N, RetPU l (.returned (.tuple #[.int .u64 4294967295, .iface 99 (.pointer (some ⟨N, 0, none⟩))])) := fun N => ⟨4294967295, _, rfl, by rw [hpu]; exact ⟨_, rfl⟩⟩
      clear hp hpu
      go_enter Tryd.func23, Tryd.ntmps23
      go_wp2_with (go_at_call 43; refine hP.mono ?_; rintro e w1 ⟨rfl, hw⟩; have hb : Below w.heap.size w w1 := hw ▸ Lib.bytesWorld_below w 5 t; clear hw; simp only [tup16]; obtain ⟨_, v, hv, hv2⟩ := err_below he h3 hb)
      refine (Tryd.strconv_toError_range _ t 16 32 v w1 (by omega) hv hv2).mono ?_
      rintro e w' ⟨N, rfl, h1, h2, h4⟩
      go_wp2
      go_ret2
      exact ⟨hY _, hb.trans (h4.mono hb.size)⟩
theorem implNum (t : ByteArray) (hmax : t.size ≤ 1048576) (w : World) (he : ErrOk w) (ht : TabOk w) :
    Calls Tryd.prog 10 #[.string t] w fun e w' => RetNum t.data.toList e ∧ Below w.heap.size w w' := by
  have h3 : 3 < w.heap.size := by have := tab_size ht; omega
  have hP := parseU t hmax w he h3
  obtain ⟨l, hl⟩ : ∃ l, l = t.data.toList := ⟨_, rfl⟩
  have hs := specN_eq l
  rw [← hl] at hP ⊢
  cases hp : puOf l with
  | ok n =>
    have hX : ∀ e, RetPU l e → e = .returned (.tuple #[.int .u64 n, .nilIface]) := by
      rintro e ⟨v, er, rfl, h⟩
      rw [hp] at h
      obtain ⟨rfl, rfl⟩ := h
      rfl
    have hpar : l ≠ [] ∧ parse16 0 l = .ok n := by
      unfold puOf at hp
      split at hp
      · cases hp
      · exact ⟨by assumption, hp⟩
    have hn : n < 4294967296 := parse_lt (by omega) hpar.2
    have hnb := nb_lt hn
    have hrd : readN l = if hexk 8 (nb n) = l then some n else none := by
      unfold readN
      rw [if_neg hpar.1, hpar.2]
    have hw32 : IntKind.u32.wrap (n : Int) = n := by rw [IntKind.wrap_u32]; omega
    have h32 := fbits n
    by_cases hq : hexk 8 (nb n) = l
    · have hY : RetNum l (.returned (.tuple #[.float .f32 n, .int .i64 0])) := ⟨n, 0, rfl, by rw [hs, hrd, if_pos hq]; exact ⟨rfl, rfl⟩⟩
      have htt : (⟨(hexk 8 (nb n)).toArray⟩ : ByteArray) = t := by
        rw [hq, hl]
      clear hrd hpar hs
      go_enter Tryd.func10, Tryd.ntmps10
      go_wp2_with (first
        | (go_at_call 23; refine hP.mono ?_; rintro e w1 ⟨hr, hb⟩; obtain rfl := hX e hr; clear hr)
        | (go_at_call 8; refine (numText n hnb _ (tab_below ht hb)).mono ?_; rintro e w2 ⟨rfl, hb2⟩; rw [htt]))
      go_ret2
      exact ⟨hY, hb.trans (hb2.mono hb.size)⟩
    · have hY : RetNum l (.returned (.tuple #[.float .f32 0, .int .i64 5])) := ⟨0, 5, rfl, by rw [hs, hrd, if_neg hq]; exact ⟨rfl, rfl⟩⟩
      have htt : (hexk 8 (nb n) == t.toList) = false := by
        rw [ByteArray.toList_eq, ← hl]
        simpa using hq
      clear hrd hpar hs
      go_enter Tryd.func10, Tryd.ntmps10
      go_wp2_with (first
        | (go_at_call 23; refine hP.mono ?_; rintro e w1 ⟨hr, hb⟩; obtain rfl := hX e hr; clear hr)
        | (go_at_call 8; refine (numText n hnb _ (tab_below ht hb)).mono ?_; rintro e w2 ⟨rfl, hb2⟩))
      go_ret2
      exact ⟨hY, hb.trans (hb2.mono hb.size)⟩
  | bad =>
    have hX : ∀ e, RetPU l e → ∃ (v : Nat) (p : Value), e = .returned (.tuple #[.int .u64 v, .iface 99 p]) := by
      rintro e ⟨v, er, rfl, h⟩
      rw [hp] at h
      obtain ⟨p, rfl⟩ := h
      exact ⟨v, p, rfl⟩
    have hrd : readN l = none := by
      unfold readN
      unfold puOf at hp
      split
      · rfl
      · rename_i g
        rw [if_neg g] at hp
        rw [hp]
    have hY : RetNum l (.returned (.tuple #[.float .f32 0, .int .i64 5])) := ⟨0, 5, rfl, by rw [hs, hrd]; exact ⟨rfl, rfl⟩⟩
    have h32 := fbitsZ
    clear hrd hs
    go_enter Tryd.func10, Tryd.ntmps10
    go_wp2_with (go_at_call 23; refine hP.mono ?_; rintro e w1 ⟨hr, hb⟩; obtain ⟨v, p, rfl⟩ := hX e hr; clear hr)
    go_ret2
    exact ⟨hY, hb⟩
  | far =>
    have hX : ∀ e, RetPU l e → ∃ (v : Nat) (p : Value), e = .returned (.tuple #[.int .u64 v, .iface 99 p]) := by
      rintro e ⟨v, er, rfl, h⟩
      rw [hp] at h
      obtain ⟨p, rfl⟩ := h
      exact ⟨v, p, rfl⟩
    have hrd : readN l = none := by
      unfold readN
      unfold puOf at hp
      split
      · rfl
      · rename_i g
        rw [if_neg g] at hp
        rw [hp]
    have hY : RetNum l (.returned (.tuple #[.float .f32 0, .int .i64 5])) := ⟨0, 5, rfl, by rw [hs, hrd]; exact ⟨rfl, rfl⟩⟩
    have h32 := fbitsZ
    clear hrd hs
    go_enter Tryd.func10, Tryd.ntmps10
    go_wp2_with (go_at_call 23; refine hP.mono ?_; rintro e w1 ⟨hr, hb⟩; obtain ⟨v, p, rfl⟩ := hX e hr; clear hr)
    go_ret2
    exact ⟨hY, hb⟩
end Go.Proofs.YtfeaddbehmodmaaDoor
