/-
  WHAT slices.Repeat COMES TO at a slice of one number and a count: as many of it in a new block. Conditions: the count lies from 0 to 1000.
-/
import Derived.WalkKit
import Derived.Below
import Derived.Handy
import Derived.Laws.CopyOwn
import Derived.Laws.MakeOwn
import Derived.Deep.RegionLaw
import Derived.LoopTactic
import Derived.Test.YtjjmgkikpacbiaaSums
namespace Go.Proofs.Ytjjmgkikpacbiaa.lStepRoads
open Go.RowKit
set_option maxRecDepth 100000
theorem wrapU {z : Int} (h0 : 0 ≤ z) (h1 : z < 18446744073709551616) : IntKind.u64.wrap z = z := by
  have e64 : (2 ^ IntKind.u64.bits : Int) = 18446744073709551616 := by decide
  have es : IntKind.u64.signed = false := rfl
  simp only [IntKind.wrap, e64, es, Bool.false_and]
  simp
  omega
theorem and1 : Go.bits BinOp.and IntKind.u64 1 4294967295 = 1 := by decide
theorem and0 : Go.bits BinOp.and IntKind.u64 0 4294967295 = 0 := by decide
theorem andn {n : Nat} (h : n ≤ 1000) : Go.bits BinOp.and IntKind.u64 n 4294967295 = n := by
  have : ∀ m, m ≤ 1000 → Go.bits BinOp.and IntKind.u64 (m : Nat) 4294967295 = (m : Nat) := by decide +kernel
  exact this n h
theorem mul64 (n : Nat) (hn : n ≤ 1000) (w : World) : Calls Try.prog 74 #[.int .u64 1, .int .u64 n] w (fun e w' => e = .returned (.tuple #[.int .u64 0, .int .u64 n]) ∧ w = w') := by
  go_enter Try.func74, Try.ntmps74
  go_wp2
  go_ret2
  have a1 := and1
  have an := andn hn
  have d1 : (n : Int) / 4294967296 = 0 := by omega
  have w0 : IntKind.u64.wrap 0 = 0 := wrapU (by omega) (by omega)
  have wn : IntKind.u64.wrap n = n := wrapU (by omega) (by omega)
  simp only [a1, an, d1, Int.one_mul, wn, w0, and0, Int.mul_zero, Int.add_zero, Int.zero_ediv]
  exact ⟨rfl, trivial⟩
theorem mul (n : Nat) (hn : n ≤ 1000) (w : World) : Calls Try.prog 59 #[.int .u64 1, .int .u64 n] w (fun e w' => e = .returned (.tuple #[.int .u64 0, .int .u64 n]) ∧ w = w') := by
  go_enter Try.func59, Try.ntmps59
  go_wp2_with (go_at_call 74; refine (mul64 n hn _).mono ?_; rintro e w' ⟨rfl, rfl⟩)
  go_wp2
  go_ret2
  exact ⟨rfl, rfl⟩
theorem addr0 (g off j : Nat) : (⟨g, off, none⟩ : Addr).add j = ⟨g, off + j, none⟩ := Addr.add_lit g off j
theorem rept1 (w : World) (g off cap n : Nat) (arr : Array Value) (T : TypeId) (x : Nat) (hg : w.heap[g]? = some (.cells arr T (0, 0))) (hx : arr.toList[off]? = some (.float .f32 x)) (hn : n ≤ 1000) (hn1 : 1 ≤ n) :
    Calls Try.prog 32 #[.slice (some ⟨g, off, none⟩) 1 cap, .int .i64 n] w (fun e w' => ∃ y, e = .returned y ∧
      ∃ g' arr' T', y = .slice (some ⟨g', 0, none⟩) n n ∧ w.heap.size ≤ g' ∧ w'.heap[g']? = some (.cells arr' T' (0, 0)) ∧ arr'.size = n ∧ (∀ v ∈ arr'.toList, v = .float .f32 x) ∧ Below w.heap.size w w') := by
  have hn0 : ¬ ((n : Int) < 0) := by omega
  have w64 : IntKind.u64.wrap (n : Int) = n := wrapU (by omega) (by omega)
  have wi : IntKind.i64.wrap (n : Int) = n := by rw [IntKind.wrap_i64]; omega
  have w1 : IntKind.u64.wrap 1 = 1 := wrapU (by omega) (by omega)
  have hmax : ¬ (9223372036854775807 < (n : Int)) := by omega
  have hz : Try.t22.zero = some (.float .f32 0) := by kernel_rfl
  have hmk : ∀ w : World, (Instr.makeSlice 36 (.int .i64 n) (.int .i64 n)).run Try.prog w = .ok (.slice (some ⟨w.heap.size, 0, none⟩) n n) (w.alloc (.cells (madeCells #[.float .f32 0] n) 22)) := by
    intro w
    have hb4 : Try.t22.bytes = 4 := by kernel_rfl
    have := run_make (P := Try.prog) w 36 22 Try.t22 (.float .f32 0) Try.underlying36 Try.type22 hz .i64 .i64 n n (by omega) (Int.le_refl _) (by rw [hb4]; omega) (by omega)
    have hs : Try.t22.size = 1 := by kernel_rfl
    simpa [hs, Value.cells] using this
  have hsz : (Try.prog.info? 22).map (·.size) = some 1 := by kernel_rfl
  have hsrc : ∀ o : Obj, ∀ (j : Nat) (v : Value), [Value.float .f32 x][j]? = some v → (w.alloc o).cell? ((⟨g, off, none⟩ : Addr).add j) = some v := by
    intro o j v hj
    match j, hj with
    | 0, hj =>
      simp at hj
      subst hj
      have h1 : (w.alloc o).heap[g]? = some (.cells arr T (0, 0)) := by
        rw [heap_alloc_old w o]
        · exact hg
        · exact (Array.getElem?_eq_some_iff.1 hg).1
      rw [addr0]
      simp only [World.cell?, h1, Nat.add_zero]
      simpa using hx
  have hlen : (madeCells #[Value.float .f32 0] n).toList.length = n := by simp [size_madeCells]
  go_enter Try.func32, Try.ntmps32
  go_wp2_with (first
    | (go_at_call 59; refine (mul n hn _).mono ?_; rintro e w' ⟨rfl, rfl⟩)
    | (refine wpList_copy_splice rfl (.tmp 31) (.tmp 32) 36 36 rfl 22 Try.underlying36 hsz (some ⟨w.heap.size, 0, none⟩) (some ⟨g, off, none⟩) n n 1 cap rfl rfl w.heap.size 0 (madeCells #[.float .f32 0] n).toList 22 (by simpa using heap_alloc_new w _) [.float .f32 x] (by simp [Nat.min_def]; omega) (fun _ => ⟨rfl, _, rfl, hsrc _⟩) (by simp only [hlen, List.length_cons, List.length_nil]; omega) (by simp [Value.oneCell']) w.heap.size w ((Below.refl _ _).alloc (Nat.le_refl _) _) (Nat.le_refl _) ?_; intro w4 hg4 hb4))
  go_loopw [8] (fun k wr => ∃ (m : Nat) (row : List Value), 1 ≤ m ∧ m ≤ n ∧ k = .int .i64 m ∧ row.length = n ∧ Hid (wr.heap[w.heap.size]? = some (.cells row.toArray 22 (0, 0))) ∧ Hid (∀ j, j < m → row[j]? = some (.float .f32 x)) ∧ Below w.heap.size w wr) (fun k _ => n - (intOf k).toNat)
  case atStart =>
    refine ⟨1, splice (madeCells #[.float .f32 0] n).toList 0 [.float .f32 x], by omega, hn1, rfl, ?_, hg4, ?_, hb4⟩
    · simp only [splice, List.length_append, List.length_take, List.length_drop, hlen, List.length_cons, List.length_nil]; omega
    · intro j hj
      have : j = 0 := by omega
      subst this
      simp [splice]
  case round =>
    obtain ⟨m, row, h1, h2, rfl, hl, hr, hall, hb⟩ := hrel
    go_wp2
    · have hmn : m < n := by assumption
      obtain ⟨k, hk, hk1, hkm, hkn⟩ : ∃ k, Nat.min m (n - m) = k ∧ 1 ≤ k ∧ k ≤ m ∧ k ≤ n - m :=
        ⟨_, rfl, by simp only [Nat.min_def]; split <;> omega, Nat.min_le_left _ _, Nat.min_le_right _ _⟩
      have hcs : (row.take k).length = k := by rw [List.length_take, hl]; omega
      have hcell : ∀ (j : Nat) (v : Value), (row.take k)[j]? = some v → wr.drew.cell? ((⟨w.heap.size, 0, none⟩ : Addr).add j) = some v := by
        intro j v hj
        rw [addr0]
        have hr' : wr.heap[w.heap.size]? = some (.cells row.toArray 22 (0, 0)) := hr
        rw [List.getElem?_take] at hj
        split at hj
        · simp only [World.cell?, World.drew, hr', Nat.zero_add]
          simpa using hj
        · cases hj
      have hone : ∀ v ∈ row.take k, v.oneCell' = true := by
        intro v hv
        obtain ⟨j, hj, e⟩ := List.getElem_of_mem hv
        have hj' : j < k := by rw [hcs] at hj; exact hj
        have h2 : (row.take k)[j]? = some v := by rw [List.getElem?_eq_getElem hj, e]
        rw [List.getElem?_take, if_pos hj'] at h2
        have h3 := hall j (by omega)
        rw [h3] at h2
        cases h2; rfl
      have wmk : IntKind.i64.wrap ((m : Int) + (k : Nat)) = (m : Int) + (k : Nat) := by rw [IntKind.wrap_i64]; omega
      go_region_law (refine step_copy_splice rfl (.tmp 41) (.tmp 44) 36 36 rfl 22 Try.underlying36 hsz (some ⟨w.heap.size, m, none⟩) (some ⟨w.heap.size, 0, none⟩) (n - m) (n - m) m n (by simp [Act.eval, Act.put]; omega) (by simp [Act.eval, Act.put]) w.heap.size m row 22 hr (row.take k) (hcs.trans hk.symm) (fun _ => ⟨rfl, _, rfl, hcell⟩) (by rw [hcs, hl]; omega) hone w.heap.size w hb.drew (Nat.le_refl _) ?_; intro w5 hg5 hb5)
      go_wp2
      go_roundw
      case rel =>
        refine ⟨m + k, by omega, by omega, by push_cast; rfl, splice row m (row.take k), ?_, hg5, ?_⟩
        · rw [length_splice _ _ _ (by rw [hcs, hl]; omega)]; exact hl
        · intro j hj
          have hall' : ∀ j, j < m → row[j]? = some (Value.float .f32 x) := hall
          unfold splice
          rcases Nat.lt_or_ge j m with q | q
          · rw [List.getElem?_append_left (by rw [List.length_take, hl]; omega), List.getElem?_take, if_pos q]
            exact hall' j q
          · have hlt : (row.take m).length = m := by rw [List.length_take, hl]; omega
            rw [List.getElem?_append_right (by rw [hlt]; exact q), hlt]
            have hj2 : j - m < k := by omega
            rw [List.getElem?_append_left (by rw [hcs]; exact hj2), List.getElem?_take, if_pos hj2]
            exact hall' _ (by omega)
      case measure =>
        simp only [intOf]
        omega
    · have : m = n := by omega
      subst this
      go_ret
      refine ⟨_, rfl, w.heap.size, row.toArray, 22, rfl, Nat.le_refl _, hr, by simp [hl], fun v hv => ?_, hb⟩
      have hv : v ∈ row := by simpa using hv
      obtain ⟨j, hj, e⟩ := List.getElem_of_mem hv
      have h3 := hall j (by omega)
      rw [List.getElem?_eq_getElem hj, e] at h3
      exact Option.some.inj h3
theorem rept0 (w : World) (g off cap : Nat) (x : Nat) :
    Calls Try.prog 32 #[.slice (some ⟨g, off, none⟩) 1 cap, .int .i64 0] w (fun e w' => ∃ y, e = .returned y ∧
      ∃ g' arr' T', y = .slice (some ⟨g', 0, none⟩) 0 0 ∧ w.heap.size ≤ g' ∧ w'.heap[g']? = some (.cells arr' T' (0, 0)) ∧ arr'.size = 0 ∧ (∀ v ∈ arr'.toList, v = .float .f32 x) ∧ Below w.heap.size w w') := by
  have hz : Try.t22.zero = some (.float .f32 0) := by kernel_rfl
  have hmk : ∀ w : World, (Instr.makeSlice 36 (.int .i64 0) (.int .i64 0)).run Try.prog w = .ok (.slice (some ⟨w.heap.size, 0, none⟩) 0 0) (w.alloc (.cells #[] 22)) := by
    intro w
    have hb4 : Try.t22.bytes = 4 := by kernel_rfl
    have := run_make (P := Try.prog) w 36 22 Try.t22 (.float .f32 0) Try.underlying36 Try.type22 hz .i64 .i64 0 0 (by omega) (Int.le_refl _) (by rw [hb4]; omega) (by omega)
    have hs : Try.t22.size = 1 := by kernel_rfl
    have e0 : madeCells #[Value.float .f32 0] 0 = #[] := by simp [madeCells]
    rw [← e0]
    simpa [hs, Value.cells] using this
  have hsz : (Try.prog.info? 22).map (·.size) = some 1 := by kernel_rfl
  go_enter Try.func32, Try.ntmps32
  go_wp2_with (first
    | (go_at_call 59; refine (mul 0 (by omega) _).mono ?_; rintro e w' ⟨rfl, rfl⟩)
    | (refine wpList_copy_nothing rfl (.tmp 31) (.tmp 32) 36 36 rfl 22 Try.underlying36 hsz (some ⟨w.heap.size, 0, none⟩) (some ⟨g, off, none⟩) 0 0 1 cap rfl rfl (by decide) ?_))
  go_loopw [8] (fun k wr => k = .int .i64 0 ∧ wr = w.alloc (.cells #[] 22)) (fun _ _ => 0)
  case atStart => exact ⟨rfl, rfl⟩
  case round =>
    obtain ⟨rfl, rfl⟩ := hrel
    go_wp2
    go_ret
    exact ⟨_, rfl, w.heap.size, #[], 22, rfl, Nat.le_refl _, heap_alloc_new w _, rfl, by simp, (Below.refl _ _).alloc (Nat.le_refl _) _⟩

theorem reptOk : Sx.ReptOk Try.prog 32 := fun w g off cap n arr T x hg hx hn => by
  refine .inl ⟨⟨Try.f32, Try.func32, by kernel_rfl⟩, ?_⟩
  rcases Nat.eq_zero_or_pos n with h | h
  · subst h; exact rept0 w g off cap x
  · exact rept1 w g off cap n arr T x hg hx hn h
end Go.Proofs.Ytjjmgkikpacbiaa.lStepRoads
