/-
  THE PROGRAM'S TEXT OF A NUMBER: eight digits. Conditions: those that stand in each.
-/
import Derived.Test.YtfeaddbehmodmaaDoorB
import Derived.Test.YtfeaddbehmodmaaDoorShelf
namespace Go.Proofs.YtfeaddbehmodmaaDoor
open Go.RowKit
set_option maxRecDepth 100000
theorem tab_size {w : World} (h : TabOk w) : 6 < w.heap.size := by
  unfold TabOk at h
  rcases Nat.lt_or_ge 6 w.heap.size with q | q
  · exact q
  · simp [World.cell?, q] at h
theorem tab_below {w w' : World} (h : TabOk w) (hb : Below w.heap.size w w') : TabOk w' := by
  unfold TabOk
  rw [hb.cell (p := ⟨6, 15, none⟩) (tab_size h)]
  exact h
theorem zeros (c : Nat) : Lib.repeatL [48] c = List.replicate c 48 := by
  have := Lib.repeatL_replicate (48 : UInt8) 1 c
  simpa using this
/-- The text of a number: eight digits. -/
theorem numText (x : Nat) (hx : nb x < 4294967296) (w : World) (ht : TabOk w) :
    Calls Tryd.prog 8 #[.float .f32 x] w (fun e w' => e = .returned (.string ⟨(hexk 8 (nb x)).toArray⟩) ∧ Below w.heap.size w w') := by
  have hw : IntKind.u64.wrap (nb x : Int) = (nb x : Nat) := by rw [IntKind.wrap_u64]; omega
  go_enter Tryd.func8, Tryd.ntmps8
  go_wp2_with (first
    | (go_at_call 20; refine (bits20 x _).mono ?_; rintro e w' ⟨rfl, rfl⟩)
    | (go_at_call 19; refine (fmtU _ hx _ ht).mono ?_; rintro e w' ⟨j, h1, h2, h3, rfl, h4⟩)
    | fail)
  have hk : wrap64 (8 - ((hexk j (nb x)).length : Int)) = ((8 - j : Nat) : Int) := by
    rw [hexk_length]
    unfold wrap64
    omega
  rw [hk]
  refine (Tryd.strings_Repeat ⟨#[48]⟩ (8 - j) w' (by omega) ?_).mono ?_
  · show 1 * (8 - j) ≤ _
    omega
  rintro e w2 ⟨rfl, h5⟩
  have hsmall : ¬ 9223372036854775807 < (Lib.repeatL [48] (8 - j)).length + (hexk j (nb x)).length := by
    rw [zeros, List.length_replicate, hexk_length]
    omega
  go_wp2
  go_ret
  have hz : (⟨(Lib.repeatL [48] (8 - j)).toArray⟩ : ByteArray) ++ ⟨(hexk j (nb x)).toArray⟩ = ⟨(hexk 8 (nb x)).toArray⟩ := by
    rw [zeros]
    have h8 : 8 = (8 - j) + j := by omega
    have := hexk_zeros j (nb x) h3 (8 - j)
    rw [← h8] at this
    rw [this]
    simp [ByteArray.ext_iff]
  refine ⟨?_, h4.trans (h5.mono h4.size)⟩
  first | rw [← hz] | skip
  rfl
end Go.Proofs.YtfeaddbehmodmaaDoor
