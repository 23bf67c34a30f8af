/-
  THE LAW FnExactNumberText, walked: it answers true. Conditions: the number is one of 32 bits, and one cell of the library's table.
-/
import Derived.Test.YtfeaddbehmodmaaDoorC
namespace Go.Proofs.YtfeaddbehmodmaaDoor
open Go.RowKit
set_option maxRecDepth 100000
theorem specText (x : Nat) (hx : nb x < 4294967296) (w : World) :
    Calls Tryd.prog 7 #[.float .f32 x] w (fun e w' => e = .returned (.string ⟨(hexk 8 (nb x)).toArray⟩) ∧ Below w.heap.size w w') := by
  go_enter Tryd.func7, Tryd.ntmps7
  go_wp2_with (go_at_call 18; refine (hex8 x hx _).mono ?_; rintro e w' ⟨rfl, h1⟩)
  go_ret
  exact ⟨rfl, h1⟩
theorem nb_lt {x : Nat} (hx : x < 4294967296) : nb x < 4294967296 := by
  unfold nb
  split <;> omega
theorem numLaw (x : Nat) (hx : x < 4294967296) (w : World) (ht : TabOk w) :
    Calls Tryd.prog 3 #[.float .f32 x] w (fun e w' => e = .returned (.bool true) ∧ Below w.heap.size w w') := by
  have hx := nb_lt hx
  go_enter Tryd.func3, Tryd.ntmps3
  go_wp2_with (first
    | (go_at_call 7; refine (specText x hx _).mono ?_; rintro e w1 ⟨rfl, h1⟩)
    | (go_at_call 8; refine (numText x hx _ (tab_below ht h1)).mono ?_; rintro e w2 ⟨rfl, h2⟩))
  go_ret
  exact ⟨rfl, h1.trans (h2.mono h1.size)⟩
end Go.Proofs.YtfeaddbehmodmaaDoor
