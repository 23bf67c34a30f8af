/-
  THE TESTS ON A SLICE OF NUMBERS, walked. Conditions: those that stand in each.
-/
import Derived.Test.YtlnphdohjelppaaJD
namespace Go.Proofs.Ytlnphdohjelppaa
open Go.RowKit
set_option maxRecDepth 100000
/-- Is it an amount? -/
def amtB (x : Nat) : Bool := Sx.tru ((Sx.E.u .amt (.at 0)).den fun _ => ((Sx.nz .f32 x : Nat) : Int))
theorem amtS {x : Nat} (hx : x < Sx.bits .f32) (w : World) : Calls Try.prog 12 #[.float .f32 x] w (fun e w' => e = .returned (.bool (amtB x)) ∧ Below w.heap.size w w') := by
  have hs := sAmtSOk sAmtS List.mem_cons_self ⟨fun _ => ((Sx.nz .f32 x : Nat) : Int), fun _ => none⟩ 0 w #[.float .f32 x] ⟨⟨x, rfl, hx, rfl⟩, trivial⟩ (noMem _ _ _) (fun _ _ => rfl)
  refine (calls_of_to (fun w => enters_of Try.func12 (by kernel_rfl) rfl _ w) hs).mono ?_
  rintro e w' ⟨y, rfl, hy, hle⟩
  have : y = .bool (amtB x) := hy
  exact ⟨by rw [this], hle⟩
theorem amtI {x : Nat} (hx : x < Sx.bits .f32) (w : World) : Calls Try.prog 35 #[.float .f32 x] w (fun e w' => e = .returned (.bool (amtB x)) ∧ Below w.heap.size w w') := by
  have hs := sAmtIOk sAmtI List.mem_cons_self ⟨fun _ => ((Sx.nz .f32 x : Nat) : Int), fun _ => none⟩ 0 w #[.float .f32 x] ⟨⟨x, rfl, hx, rfl⟩, trivial⟩ (noMem _ _ _) (fun _ _ => rfl)
  refine (calls_of_to (fun w => enters_of Try.func35 (by kernel_rfl) rfl _ w) hs).mono ?_
  rintro e w' ⟨y, rfl, hy, hle⟩
  have : y = .bool (amtB x) := hy
  exact ⟨by rw [this], hle⟩
theorem notAmt {x : Nat} (hx : x < Sx.bits .f32) (w : World) : Calls Try.prog 34 #[.float .f32 x] w (fun e w' => e = .returned (.bool (!amtB x)) ∧ Below w.heap.size w w') := by
  go_enter Try.func34, Try.ntmps34
  go_wp2_with (first
    | (go_at_call 35; refine (amtI hx w).mono ?_; rintro e w1 ⟨rfl, hb1⟩))
  go_ret
  exact ⟨rfl, hb1⟩
/-- All amounts. -/
def allAmt (xs : List Nat) : Bool := xs.all amtB
theorem getD_mem {xs : List Nat} {k : Nat} (h : k < xs.length) : xs.getD k 0 ∈ xs := by
  rw [List.getD_eq_getElem?_getD, List.getElem?_eq_getElem h]
  exact List.getElem_mem h
set_option maxHeartbeats 800000
/-- What the library's search for the first one hands back: at least 0 if one is none. -/
def RetI (w0 : World) (b : Bool) (r : Ending) (w' : World) : Prop := ∃ i : Int, r = .returned (.int .i64 i) ∧ (b = true → i = -1) ∧ (b = false → 0 ≤ i) ∧ Below w0.heap.size w0 w'
theorem indexF (xs : List Nat) (hn : xs.length ≤ 1048576) (hlt : ∀ b ∈ xs, b < Sx.bits .f32) (g : Nat) (w : World) (h : RowF w g xs) :
    Calls Try.prog 39 #[.slice (some ⟨g, 0, none⟩) xs.length xs.length, .func (.func 34) #[] #[]] w (RetI w (allAmt xs)) := by
  have HR : Hid (RowF w g xs) := h
  have HL : Hid (∀ b ∈ xs, b < Sx.bits .f32) := hlt
  obtain ⟨n, hnn⟩ : ∃ n, n = xs.length := ⟨_, rfl⟩
  rw [← hnn] at hn ⊢
  have HN : Hid (n = xs.length) := hnn
  clear h hlt hnn
  go_enter Try.func39, Try.ntmps39
  go_wp2
  go_loopw [8] (fun vi wr => ∃ (k : Nat), vi = .int .i64 k ∧ k ≤ n ∧ Hid (∀ j, j < k → amtB (xs.getD j 0) = true) ∧ Hid (Below w.heap.size w wr))
    (fun vi _ => n - (intOf vi).toNat)
  case atStart => exact ⟨0, rfl, by omega, by intro j hj; omega, Below.refl _ _⟩
  case round =>
    obtain ⟨k, rfl, hk, ha, hbw⟩ := hrel
    by_cases hkn : k < n
    · have hki : (k : Int) < (n : Int) := by omega
      have hkx : k < xs.length := by have := HN.out; omega
      have hck : wr.cell? ⟨g, k, none⟩ = some (.float .f32 (xs.getD k 0)) := by
        rw [hbw.out.cell (p := ⟨g, k, none⟩) HR.out.lt]
        exact HR.out.cell hkx
      have hlt := HL.out _ (getD_mem hkx)
      obtain ⟨c, hc⟩ : ∃ c, c = xs.getD k 0 := ⟨_, rfl⟩
      rw [← hc] at hck hlt
      have HC : Hid (c = xs.getD k 0) := hc
      clear hc
      cases hac : amtB c with
      | true =>
        go_wp2_with (first
          | (go_at_call 34; refine (notAmt hlt wr).mono ?_; rintro e w1 ⟨rfl, hb1⟩; rw [hac]))
        have HA : Hid (∀ j, j < k + 1 → amtB (xs.getD j 0) = true) := fun j hj => by
          rcases Nat.lt_or_ge j k with q | q
          · exact ha.out j q
          · have e : j = k := by omega
            rw [e, ← HC.out]
            exact hac
        have HB : Hid (Below w.heap.size w w1) := hbw.out.trans (hb1.mono hbw.out.size)
        refine ⟨⟨k + 1, (by first | rfl | (congr 1; omega)), by omega, HA, HB⟩, by simp only [intOf]; omega⟩
      | false =>
        go_wp2_with (first
          | (go_at_call 34; refine (notAmt hlt wr).mono ?_; rintro e w1 ⟨rfl, hb1⟩; rw [hac]))
        go_ret
        have hno : allAmt xs = false := by
          unfold allAmt
          refine List.all_eq_false.2 ⟨_, getD_mem hkx, ?_⟩
          rw [← HC.out, hac]
          simp
        refine ⟨k, rfl, fun h => (by rw [hno] at h; cases h), fun _ => by omega, hbw.out.trans (hb1.mono hbw.out.size)⟩
    · have hki : (n : Int) ≤ (k : Int) := by omega
      go_wp2
      go_ret
      have hyes : allAmt xs = true := by
        unfold allAmt
        refine List.all_eq_true.2 fun x hx => ?_
        obtain ⟨j, hj, e⟩ := List.mem_iff_getElem.1 hx
        have := ha.out j (by have := HN.out; omega)
        rw [List.getD_eq_getElem?_getD, List.getElem?_eq_getElem hj, Option.getD_some, e] at this
        exact this
      refine ⟨-1, rfl, fun _ => rfl, fun h => (by rw [hyes] at h; cases h), hbw.out⟩
theorem containsF (xs : List Nat) (hn : xs.length ≤ 1048576) (hlt : ∀ b ∈ xs, b < Sx.bits .f32) (g : Nat) (w : World) (h : RowF w g xs) :
    Calls Try.prog 33 #[.slice (some ⟨g, 0, none⟩) xs.length xs.length, .func (.func 34) #[] #[]] w (fun e w' => e = .returned (.bool (!allAmt xs)) ∧ Below w.heap.size w w') := by
  have hP := indexF xs hn hlt g w h
  clear h hn hlt
  cases ha : allAmt xs with
  | true =>
    rw [ha] at hP
    go_enter Try.func33, Try.ntmps33
    go_wp2_with (first
      | (go_at_call 39; refine hP.mono ?_; rintro e w1 ⟨i, rfl, h1, h2, hb1⟩; obtain rfl := h1 rfl))
    go_ret
    exact ⟨rfl, hb1⟩
  | false =>
    rw [ha] at hP
    go_enter Try.func33, Try.ntmps33
    go_wp2_with (first
      | (go_at_call 39; refine hP.mono ?_; rintro e w1 ⟨i, rfl, h1, h2, hb1⟩; have hi := h2 rfl))
    go_ret
    exact ⟨rfl, hb1⟩
theorem areAmts (xs : List Nat) (hn : xs.length ≤ 1048576) (hlt : ∀ b ∈ xs, b < Sx.bits .f32) (g : Nat) (w : World) (h : RowF w g xs) :
    Calls Try.prog 18 #[.slice (some ⟨g, 0, none⟩) xs.length xs.length] w (fun e w' => e = .returned (.bool (allAmt xs)) ∧ Below w.heap.size w w') := by
  have hP := containsF xs hn hlt g w h
  clear h hn hlt
  generalize allAmt xs = b at *
  go_enter Try.func18, Try.ntmps18
  go_wp2_with (first
    | (go_at_call 33; refine hP.mono ?_; rintro e w1 ⟨rfl, hb1⟩))
  go_ret
  exact ⟨by cases b <;> rfl, hb1⟩
theorem inRangeC (n : Nat) (w : World) : Calls Try.prog 32 #[.int .i64 n, .int .i64 0, .int .i64 400] w (fun e w' => e = .returned (.bool (decide (n ≤ 400))) ∧ w = w') := by
  by_cases h : n ≤ 400
  · have h1 : (n : Int) ≤ 400 := by omega
    go_enter Try.func32, Try.ntmps32
    go_wp2
    go_ret
    exact ⟨by simp [h], rfl⟩
  · have h1 : ¬ ((n : Int) ≤ 400) := by omega
    go_enter Try.func32, Try.ntmps32
    go_wp2
    go_ret
    exact ⟨by simp, rfl⟩
theorem isStepsC (n : Nat) (w : World) : Calls Try.prog 17 #[.int .i64 n] w (fun e w' => e = .returned (.bool (decide (n ≤ 400))) ∧ w = w') := by
  have hP := inRangeC n w
  generalize decide (n ≤ 400) = b at *
  go_enter Try.func17, Try.ntmps17
  go_wp2_with (first
    | (go_at_call 32; refine hP.mono ?_; rintro e w1 ⟨rfl, rfl⟩))
  go_ret
  exact ⟨rfl, rfl⟩
end Go.Proofs.Ytlnphdohjelppaa
