/-
  THE TEXT OF A ROAD, as the reference writes it, walked. Conditions: those that stand in each.
-/
import Derived.Test.YtfeaddbehmodmaaDoorI
import Derived.Deep.RegionHeld3
namespace Go.Proofs.YtfeaddbehmodmaaDoor
open Go.RowKit
set_option maxRecDepth 100000
/-- One number's text. -/
def hx (bs : List Nat) (k : Nat) : List UInt8 := hexk 8 (nb (bs.getD k 0))
/-- A road's text. -/
def roadT (bs : List Nat) : List UInt8 := [114, 111, 97, 100, 32] ++ hx bs 16 ++ [32] ++ hx bs 17 ++ [32] ++ hx bs 18 ++ [32] ++ rowT bs 16
theorem hexS (x : Nat) (hx : nb x < 4294967296) (w0 w : World) (g : Nat) (hg : g < w0.heap.size) {a b c : Value} (h1 : w.cell? ⟨g, 16, none⟩ = some a) (h2 : w.cell? ⟨g, 17, none⟩ = some b) (h3 : w.cell? ⟨g, 18, none⟩ = some c) (hb : Hid (Below w0.heap.size w0 w)) :
    Calls Tryd.prog 18 #[.float .f32 x] w (fun e w' => e = .returned (.string ⟨(hexk 8 (nb x)).toArray⟩) ∧ w'.cell? ⟨g, 16, none⟩ = some a ∧ w'.cell? ⟨g, 17, none⟩ = some b ∧ w'.cell? ⟨g, 18, none⟩ = some c ∧ Hid (Below w0.heap.size w0 w')) := by
  refine (hex8 x hx w).mono ?_
  rintro e w' ⟨rfl, hb1⟩
  have hgw : g < w.heap.size := Nat.lt_of_lt_of_le hg hb.out.size
  refine ⟨rfl, ?_, ?_, ?_, hb.out.trans (hb1.mono hb.out.size)⟩
  · rw [hb1.cell (p := ⟨g, 16, none⟩) hgw]; exact h1
  · rw [hb1.cell (p := ⟨g, 17, none⟩) hgw]; exact h2
  · rw [hb1.cell (p := ⟨g, 18, none⟩) hgw]; exact h3
theorem rowS {bs : List Nat} (h : Road19 bs) (w0 w : World) (g : Nat) (hg : g < w0.heap.size) (hc : ∀ k, k < 16 → w0.cell? ⟨g, k, none⟩ = some (.float .f32 (bs.getD k 0))) {a b c : Value} (h1 : w.cell? ⟨g, 16, none⟩ = some a) (h2 : w.cell? ⟨g, 17, none⟩ = some b) (h3 : w.cell? ⟨g, 18, none⟩ = some c) (hb : Hid (Below w0.heap.size w0 w)) :
    Calls Tryd.prog 46 #[.slice (some ⟨g, 0, none⟩) 16 16] w (fun e w' => e = .returned (.string ⟨(rowT bs 16).toArray⟩) ∧ w'.cell? ⟨g, 16, none⟩ = some a ∧ w'.cell? ⟨g, 17, none⟩ = some b ∧ w'.cell? ⟨g, 18, none⟩ = some c ∧ Hid (Below w0.heap.size w0 w')) := by
  have hgw : g < w.heap.size := Nat.lt_of_lt_of_le hg hb.out.size
  refine (specRow h g w hgw fun k hk => by rw [hb.out.cell (p := ⟨g, k, none⟩) hg]; exact hc k hk).mono ?_
  rintro e w' ⟨rfl, hb1⟩
  refine ⟨rfl, ?_, ?_, ?_, hb.out.trans (hb1.mono hb.out.size)⟩
  · rw [hb1.cell (p := ⟨g, 16, none⟩) hgw]; exact h1
  · rw [hb1.cell (p := ⟨g, 17, none⟩) hgw]; exact h2
  · rw [hb1.cell (p := ⟨g, 18, none⟩) hgw]; exact h3
set_option maxHeartbeats 800000
theorem specText {bs : List Nat} (h : Road19 bs) (g : Nat) (w : World) (hg : g < w.heap.size) (hc : ∀ k, k < 19 → w.cell? ⟨g, k, none⟩ = some (.float .f32 (bs.getD k 0))) :
    Calls Tryd.prog 26 #[.pointer (some ⟨g, 0, none⟩)] w (fun e w' => e = .returned (.string ⟨(roadT bs).toArray⟩) ∧ Below w.heap.size w w') := by
  have c16 := hc 16 (by omega)
  have c17 := hc 17 (by omega)
  have c18 := hc 18 (by omega)
  have n16 := nbLt h 16 (by omega)
  have n17 := nbLt h 17 (by omega)
  have n18 := nbLt h 18 (by omega)
  have hrow := fun w1 (a b c : Value) h1 h2 h3 hb => rowS h w w1 g hg (fun k hk => hc k (by omega)) (a := a) (b := b) (c := c) h1 h2 h3 hb
  have hrl := rowT_len (bs := bs) (k := 16) (by have := h.1; omega)
  have hT : roadT bs = [114, 111, 97, 100, 32] ++ hx bs 16 ++ [32] ++ hx bs 17 ++ [32] ++ hx bs 18 ++ [32] ++ rowT bs 16 := rfl
  unfold hx at hT
  have HT : Hid (roadT bs = _) := hT
  clear hT
  generalize bs.getD 16 0 = p at *
  generalize bs.getD 17 0 = q at *
  generalize bs.getD 18 0 = l at *
  generalize rowT bs 16 = r at *
  have l16 := hexk_length 8 (nb p)
  have l17 := hexk_length 8 (nb q)
  have l18 := hexk_length 8 (nb l)
  have hs1 : ¬ 9223372036854775807 < 32 + r.length := by omega
  have hs2 : 32 + r.length ≤ 9223372036854775807 := by omega
  clear hc h
  have hb0 : Hid (Below w.heap.size w w.drew) := (Below.refl _ _).drew
  go_enter Tryd.func26, Tryd.ntmps26
  go_wp2
  go_region_held3 (fun w' => w'.cell? ⟨g, 16, none⟩ = some (.float .f32 p) ∧ w'.cell? ⟨g, 17, none⟩ = some (.float .f32 q) ∧ w'.cell? ⟨g, 18, none⟩ = some (.float .f32 l) ∧ Hid (Below w.heap.size w w'))
    (first | assumption | (go_keep; done))
    (first
      | (go_at_call 18; refine (hexS _ (by assumption) w _ g hg (by go_split_ands; assumption) (by go_split_ands; assumption) (by go_split_ands; assumption) (by go_split_ands; assumption)).mono ?_; rintro e w' ⟨rfl, k1, k2, k3, k4⟩)
      | (go_at_call 46; refine (hrow _ _ _ _ (by go_split_ands; assumption) (by go_split_ands; assumption) (by go_split_ands; assumption) (by go_split_ands; assumption)).mono ?_; rintro e w' ⟨rfl, k1, k2, k3, k4⟩))
  go_wp2
  go_ret
  refine ⟨?_, (show Hid (Below w.heap.size w _) by assumption).out⟩
  rw [HT.out]
  simp only [← ba_append]
  rfl
end Go.Proofs.YtfeaddbehmodmaaDoor
