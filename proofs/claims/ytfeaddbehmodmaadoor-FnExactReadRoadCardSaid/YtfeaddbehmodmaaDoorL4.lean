/-
  THE LAW FnExactReadNumber, walked: it answers true. Conditions: the cells of the library's two errors and one cell of its table.
-/
import Derived.Test.YtfeaddbehmodmaaDoorG
namespace Go.Proofs.YtfeaddbehmodmaaDoor
open Go.RowKit
set_option maxHeartbeats 1600000
set_option maxRecDepth 100000
def numX (l : List UInt8) : Nat := match specN l with | some n => n | none => 0
def numC (l : List UInt8) : Int := match specN l with | some _ => 0 | none => 5
theorem ret_num {l : List UInt8} {e : Ending} (h : RetNum l e) : e = .returned (.tuple #[.float .f32 (numX l), .int .i64 (numC l)]) := by
  obtain ⟨x, c, rfl, h⟩ := h
  unfold numX numC
  cases hs : specN l with
  | none => rw [hs] at h; obtain ⟨rfl, rfl⟩ := h; rfl
  | some n => rw [hs] at h; obtain ⟨rfl, rfl⟩ := h; rfl
theorem numX_lt (l : List UInt8) : numX l < Sx.bits .f32 := by
  unfold numX
  cases hs : specN l with
  | none => decide
  | some n => exact (specN_lt hs).1
theorem readLaw (t : ByteArray) (w : World) (he : ErrOk w) (ht : TabOk w) :
    Calls Tryd.prog 4 #[.string t] w (fun e w' => e = .returned (.bool true) ∧ Below w.heap.size w w') := by
  by_cases hbig : t.size ≤ 1048576
  · have hlt := numX_lt t.data.toList
    go_enter Tryd.func4, Tryd.ntmps4
    go_wp2_with (first
      | (go_at_call 9; refine (specNum t _).mono ?_; rintro e w1 ⟨hr, hw1⟩; obtain rfl := ret_num hr; clear hr; subst hw1)
      | (go_at_call 10; refine (implNum t hbig _ he ht).mono ?_; rintro e w2 ⟨hr, hb2⟩; obtain rfl := ret_num hr; clear hr))
    obtain ⟨z1, w3, c1, hz1, hn1, hb3⟩ := wideF (numX t.data.toList) hlt w2
    rw [c1]
    go_wp2
    obtain ⟨z2, w4, c2, hz2, hn2, hb4⟩ := wideF (numX t.data.toList) hlt w3
    rw [c2]
    go_wp2_with (go_at_call 11; refine (sameF z1 z2 hz1 hz2 (hn1.trans hn2.symm) _).mono ?_; rintro e w5 ⟨rfl, hb5⟩)
    go_ret
    exact ⟨rfl, Sx.Le.trans (Sx.Le.trans (Sx.Le.trans hb2 hb3) hb4) hb5⟩
  · go_enter Tryd.func4, Tryd.ntmps4
    go_wp2
    go_ret
    exact ⟨rfl, Below.refl _ _⟩
end Go.Proofs.YtfeaddbehmodmaaDoor
