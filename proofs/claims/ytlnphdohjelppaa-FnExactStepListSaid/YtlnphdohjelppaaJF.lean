/-
  THE LAW'S TEST THAT TWO SLICES OF NUMBERS ARE THE SAME, walked. Conditions: those that stand in each.
-/
import Derived.Test.YtlnphdohjelppaaJRE
namespace Go.Proofs.Ytlnphdohjelppaa
open Go.RowKit
set_option maxRecDepth 100000
set_option maxHeartbeats 800000
theorem eqF (xs : List Nat) (hn : xs.length ≤ 1048576) (hlt : ∀ b ∈ xs, b < Sx.bits .f32) (g1 g2 : Nat) (w : World) (h1 : RowF w g1 xs) (h2 : RowF w g2 xs) :
    Calls Try.prog 10 #[.slice (some ⟨g1, 0, none⟩) xs.length xs.length, .slice (some ⟨g2, 0, none⟩) xs.length xs.length] w (fun e w' => e = .returned (.bool true) ∧ Below w.heap.size w w') := by
  have H1 : Hid (RowF w g1 xs) := h1
  have H2 : Hid (RowF w g2 xs) := h2
  have HL : Hid (∀ b ∈ xs, b < Sx.bits .f32) := hlt
  obtain ⟨n, hnn⟩ : ∃ n, n = xs.length := ⟨_, rfl⟩
  rw [← hnn] at hn ⊢
  have HN : Hid (n = xs.length) := hnn
  clear h1 h2 hlt hnn
  go_enter Try.func10, Try.ntmps10
  go_wp2
  go_loopw [5] (fun vi wr => ∃ (k : Nat), vi = .int .i64 k ∧ k ≤ n ∧ Hid (Below w.heap.size w wr))
    (fun vi _ => n - (intOf vi).toNat)
  case atStart => exact ⟨0, rfl, by omega, Below.refl _ _⟩
  case round =>
    obtain ⟨k, rfl, hk, hbw⟩ := hrel
    by_cases hkn : k < n
    · have hki : (k : Int) < (n : Int) := by omega
      have hkx : k < xs.length := by have := HN.out; omega
      have c1 : wr.cell? ⟨g1, k, none⟩ = some (.float .f32 (xs.getD k 0)) := by rw [hbw.out.cell (p := ⟨g1, k, none⟩) H1.out.lt]; exact H1.out.cell hkx
      have c2 : wr.cell? ⟨g2, k, none⟩ = some (.float .f32 (xs.getD k 0)) := by rw [hbw.out.cell (p := ⟨g2, k, none⟩) H2.out.lt]; exact H2.out.cell hkx
      have HC : Hid (xs.getD k 0 < Sx.bits .f32) := HL.out _ (getD_mem hkx)
      go_wp2
      refine wp_region_noPanic ?_
      refine regEq HC.out hki H1.out.lt H2.out.lt c1 c2 hbw.out (fun _ _ _ _ _ h => h) (fun z1 z2 w9 hb9 => ?_)
      refine NoPanic.normal ?_
      have HB : Hid (Below w.heap.size w w9) := hb9
      clear c1 c2 hb9 hbw
      go_wp2
      refine ⟨⟨k + 1, (by first | rfl | (congr 1; omega)), by omega, HB⟩, by simp only [intOf]; omega⟩
    · have hki : (n : Int) ≤ (k : Int) := by omega
      go_wp2
      go_ret
      exact ⟨rfl, hbw.out⟩
end Go.Proofs.Ytlnphdohjelppaa
