/-
  THE LAW FnExactJamsOf, walked: it answers true. Conditions: the argument is nineteen floats.
-/
import Derived.Test.YtodlofeddllpiaaJF
namespace Go.Proofs.Ytodlofeddllpiaa
open Go.RowKit Go.Jm
set_option maxRecDepth 100000
/-- A list of pairs in a row of the call's own. -/
def RetL (w0 : World) (L : List (Nat × Nat)) (c : Int) (r : Ending) (w' : World) : Prop := ∃ v, r = .returned (.tuple #[v, .int .i64 c]) ∧ w'.ownsRow w0.heap.size 39 2 v L.length (cells2 L) ∧ Below w0.heap.size w0 w'
theorem ownsBelowB {w w' : World} {base B : Nat} {e : TypeId} {size n : Nat} {v : Value} {xs : List Value} (h : w.ownsRow base e size v n xs) (hv : ∀ k, v.ownBlock = some k → k < B) (hb : Below B w w') : w'.ownsRow base e size v n xs := by
  refine ⟨h.1, ?_⟩
  rcases h.2 with h0 | ⟨g, cap, cur, rfl, h1, h2, h3, h4, h5, h6⟩
  · exact .inl h0
  · exact .inr ⟨g, cap, cur, rfl, h1, by rw [hb.block g (hv g rfl)]; exact h2, h3, h4, h5, h6⟩
theorem ownBlock_lt {w : World} {base : Nat} {e : TypeId} {size n : Nat} {v : Value} {xs : List Value} (h : w.ownsRow base e size v n xs) : ∀ k, v.ownBlock = some k → k < w.heap.size := by
  intro k hk
  rcases h.2 with ⟨rfl, _⟩ | ⟨g, cap, cur, rfl, h1, h2, _⟩
  · cases hk
  · obtain rfl : g = k := Option.some.inj hk
    rcases Nat.lt_or_ge g w.heap.size with q | q
    · exact q
    · rw [Array.getElem?_eq_none q] at h2; cases h2
theorem size25 {bs : List Nat} (h : Road19 bs) : (Try.prog.info? 25).map (·.size) = some (fl bs).length := by rw [fl_length, h.1]; kernel_rfl
set_option maxHeartbeats 1600000
theorem jamsLaw {bs : List Nat} (h : Road19 bs) (w : World) : Calls Try.prog 3 #[.agg (fl bs).toArray] w (fun e w' => e = .returned (.bool true) ∧ Below w.heap.size w w') := by
  have hg := heap_alloc_new w (.cells (fl bs).toArray 25)
  have hbA : Below w.heap.size w (w.alloc (.cells (fl bs).toArray 25)) := (Below.refl _ _).alloc (Nat.le_refl _) _
  have hsz : w.heap.size < (w.alloc (.cells (fl bs).toArray 25)).heap.size := by
    show _ < (w.heap.push _).size
    rw [Array.size_push]
    exact Nat.lt_succ_self _
  obtain ⟨wA, hwA⟩ : ∃ wA, w.alloc (.cells (fl bs).toArray 25) = wA := ⟨_, rfl⟩
  rw [hwA] at hg hbA hsz
  have hra : ∀ w2, Below wA.heap.size wA w2 → w2.rangeAt w.heap.size 0 (fl bs) := fun w2 hb => range31 h fun k hk => by
    rw [hb.cell (p := ⟨w.heap.size, k, none⟩) hsz]
    exact cell_fl hg (by have := h.1; omega)
  have hs25 := size25 h
  have hr0 := hra wA (Below.refl _ _)
  have hL16 : (runs (rho bs)).length ≤ 16 := by
    unfold runs
    split
    · exact jam_length _ 16
    · simp
  have hJ4 : ∀ cs, Road19 cs → rho cs = rho bs → ∀ w, Calls Try.prog 4 #[.agg (fl cs).toArray] w (RetL w (runs (rho bs)) (code (rho bs))) := fun cs hR hr w => by
    have := specJams hR w
    rw [hr] at this
    exact this
  have hJ6 : ∀ cs, Road19 cs → rho cs = rho bs → ∀ w, Calls Try.prog 6 #[.agg (fl cs).toArray] w (RetL w (runs (rho bs)) (code (rho bs))) := fun cs hR hr w => by
    have := implJams hR w
    rw [hr] at this
    exact this
  generalize runs (rho bs) = L at *
  generalize code (rho bs) = c at *
  clear hg
  have hneg : ¬ ((L.length : Int) * 2 + 1 < 0) := by omega
  go_enter Try.func3, Try.ntmps3
  go_wp2_with (first
    | ((with_reducible show Go.wpList _ _ _ (Go.Oper.mk _ (Go.Op.load 25 _) _ _ _ _ :: _) _ _); refine wpList_load_mid rfl 25 (.tmp 1) rfl _ _ rfl (fl bs) _ hr0 Try.underlying25 rfl hs25 ?_)
    | (go_at_call 5; (with_reducible show Calls _ _ _ wA _); refine (toRoad h wA).mono ?_; rintro e w1 ⟨cs1, rfl, hR1, hr1, hb1⟩)
    | (go_at_call 4; (with_reducible show Calls _ _ _ w1 _); refine (hJ4 cs1 hR1 hr1 w1).mono ?_; rintro e w2 ⟨v0, rfl, hO0, hb2⟩; have HO0 : Hid (w2.ownsRow w1.heap.size 39 2 v0 L.length (cells2 L)) := hO0; have HB2 : Hid (Below wA.heap.size wA w2) := hb1.trans (hb2.mono hb1.size); clear hO0 hb2)
    | ((with_reducible show Go.wpList _ _ _ (Go.Oper.mk _ (Go.Op.load 25 _) _ _ _ _ :: _) _ _); refine wpList_load_mid rfl 25 (.tmp 1) rfl _ _ rfl (fl bs) _ (hra w2 HB2.out) Try.underlying25 rfl hs25 ?_)
    | (go_at_call 5; (with_reducible show Calls _ _ _ w2 _); refine (toRoad h w2).mono ?_; rintro e w3 ⟨cs3, rfl, hR3, hr3, hb3⟩; have HB3 : Hid (Below wA.heap.size wA w3) := HB2.out.trans (hb3.mono HB2.out.size); have HO3 : Hid (w3.ownsRow w1.heap.size 39 2 v0 L.length (cells2 L)) := ownsBelow HO0.out hb3; clear hb3)
    | (go_at_call 6; (with_reducible show Calls _ _ _ w3 _); refine (hJ6 cs3 hR3 hr3 w3).mono ?_; rintro e w4 ⟨v1, rfl, hO1, hb4⟩; have HO1 : Hid (w4.ownsRow w3.heap.size 39 2 v1 L.length (cells2 L)) := hO1; have HO4 : Hid (w4.ownsRow w1.heap.size 39 2 v0 L.length (cells2 L)) := ownsBelow HO3.out hb4; have HB4 : Hid (Below wA.heap.size wA w4) := HB3.out.trans (hb4.mono HB3.out.size); have HL4 : Hid (w3.heap.size ≤ w4.heap.size) := hb4.size; clear hO1 hb4)
    | (go_at_call 7; (with_reducible show Calls _ _ _ w4 _); refine (eqRows L hL16 _ _ v1 v0 w4 HO1.out HO4.out).mono ?_; rintro e w5 ⟨rfl, hb5⟩; have HM5 : Hid (w5.ownsRow w3.heap.size 39 2 v1 L.length (cells2 L)) := ownsBelow HO1.out hb5; have HO5 : Hid (w5.ownsRow w1.heap.size 39 2 v0 L.length (cells2 L)) := ownsBelow HO4.out hb5; have HB5 : Hid (Below wA.heap.size wA w5) := HB4.out.trans (hb5.mono HB4.out.size); clear hb5)
    | (go_at_call 8; (with_reducible show Calls _ _ _ w5 _); refine (markRow L.length hL16 w3.heap.size v1 (cells2 L) w5 HM5.out).mono ?_; rintro e w6 ⟨rfl, hM6, hb6⟩; have HM6 : Hid (w6.ownsRow w3.heap.size 39 2 v1 L.length (mkd (L.length * 2) (cells2 L))) := hM6; have HO6 : Hid (w6.ownsRow w1.heap.size 39 2 v0 L.length (cells2 L)) := ownsBelowB HO5.out (ownBlock_lt HO3.out) hb6; have HB6 : Hid (Below wA.heap.size wA w6) := HB5.out.trans (hb6.mono HB3.out.size); clear hM6 hb6)
    | (go_at_call 9; (with_reducible show Calls _ _ _ w6 _); refine (heldRow L.length hL16 w3.heap.size v1 (cells2 L) w6 HM6.out).mono ?_; rintro e w' ⟨rfl, rfl⟩)
    | ((with_reducible show Go.wpList _ _ _ (Go.Oper.mk _ (Go.Op.load 25 _) _ _ _ _ :: _) _ _); refine wpList_load_mid rfl 25 (.tmp 1) rfl _ _ rfl (fl bs) _ (hra w6 HB6.out) Try.underlying25 rfl hs25 ?_)
    | (go_at_call 5; (with_reducible show Calls _ _ _ w6 _); refine (toRoad h w6).mono ?_; rintro e w7 ⟨cs7, rfl, hR7, hr7, hb7⟩; have HB7 : Hid (Below wA.heap.size wA w7) := HB6.out.trans (hb7.mono HB6.out.size); have HO7 : Hid (w7.ownsRow w1.heap.size 39 2 v0 L.length (cells2 L)) := ownsBelow HO6.out hb7; have HM7 : Hid (w7.ownsRow w3.heap.size 39 2 v1 L.length (mkd (L.length * 2) (cells2 L))) := ownsBelow HM6.out hb7; clear hb7)
    | (go_at_call 6; (with_reducible show Calls _ _ _ w7 _); refine (hJ6 cs7 hR7 hr7 w7).mono ?_; rintro e w8 ⟨v2, rfl, hO8, hb8⟩; have HN8 : Hid (w8.ownsRow w7.heap.size 39 2 v2 L.length (cells2 L)) := hO8; have HO8 : Hid (w8.ownsRow w1.heap.size 39 2 v0 L.length (cells2 L)) := ownsBelow HO7.out hb8; have HM8 : Hid (w8.ownsRow w3.heap.size 39 2 v1 L.length (mkd (L.length * 2) (cells2 L))) := ownsBelow HM7.out hb8; have HB8 : Hid (Below wA.heap.size wA w8) := HB7.out.trans (hb8.mono HB7.out.size); clear hO8 hb8)
    | (go_at_call 7; (with_reducible show Calls _ _ _ w8 _); refine (eqRows L hL16 _ _ v2 v0 w8 HN8.out HO8.out).mono ?_; rintro e w9 ⟨rfl, hb9⟩; have HM9 : Hid (w9.ownsRow w3.heap.size 39 2 v1 L.length (mkd (L.length * 2) (cells2 L))) := ownsBelow HM8.out hb9; have HB9 : Hid (Below wA.heap.size wA w9) := HB8.out.trans (hb9.mono HB8.out.size); clear hb9)
    | (go_at_call 9; (with_reducible show Calls _ _ _ w9 _); refine (heldRow L.length hL16 w3.heap.size v1 (cells2 L) w9 HM9.out).mono ?_; rintro e w' ⟨rfl, rfl⟩))
  go_ret
  exact ⟨rfl, hbA.trans (HB9.out.mono hbA.size)⟩
end Go.Proofs.Ytodlofeddllpiaa
