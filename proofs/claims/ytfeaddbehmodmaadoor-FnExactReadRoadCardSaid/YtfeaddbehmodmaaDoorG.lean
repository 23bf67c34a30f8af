/-
  WHAT THE SYMBOLIC WALK GIVES OF THIS SEAT'S SMALL FUNCTIONS, as contracts: the test that two numbers are the same, a number made wide. Conditions: those that stand in each.
-/
import Derived.Test.YtfeaddbehmodmaaDoorSums
import Derived.Test.YtfeaddbehmodmaaDoorT
namespace Go.Proofs.YtfeaddbehmodmaaDoor
open Go.RowKit Go.Sx
set_option maxRecDepth 100000
theorem calls_of_to {f : Nat} {vals : Array Value} {w : World} {R : Value → World → Prop} (hen : ∀ w, (callFunc f vals).run Tryd.prog w = .ok (.enter f vals) w) (h : CallTo Tryd.prog f vals w R) :
    Calls Tryd.prog f vals w (fun e w' => ∃ y, e = .returned y ∧ R y w') := by
  rcases h with ⟨_, h⟩ | ⟨y, w', h1, _⟩
  · exact h
  · rw [hen] at h1
    cases h1
theorem noMem (env : Env) (B : Nat) (w : World) : HRep env B w [] := by
  constructor
  · intro j b h
    simp at h
  · intro i j b c g h
    simp at h
theorem sameF (z1 z2 : Nat) (h1 : z1 < Sx.bits .f64) (h2 : z2 < Sx.bits .f64) (h : nz .f64 z1 = nz .f64 z2) (w : World) :
    Calls Tryd.prog 11 #[.float .f64 z1, .float .f64 z2] w (fun e w' => e = .returned (.bool true) ∧ Below w.heap.size w w') := by
  have hs := sFloatOk sFloat List.mem_cons_self ⟨fun _ => (nz .f64 z1 : Int), fun _ => none⟩ 0 w #[.float .f64 z1, .float .f64 z2]
    ⟨⟨z1, rfl, h1, rfl⟩, ⟨z2, rfl, h2, by show ((nz .f64 z2 : Nat) : Int) = _; rw [← h]; rfl⟩, trivial⟩ (noMem _ _ _) (fun _ _ => rfl)
  refine (calls_of_to (fun w => enters_of Tryd.func11 (by kernel_rfl) rfl _ w) hs).mono ?_
  rintro e w' ⟨y, rfl, hy, hle⟩
  have : y = .bool true := hy
  exact ⟨by rw [this], hle⟩
/-- A number made wide. -/
theorem wideF (b : Nat) (hb : b < Sx.bits .f32) (w : World) : ∃ z w', (convert 22 28 (.float .f32 b)).run Tryd.prog w = .ok (.float .f64 z) w' ∧ z < Sx.bits .f64 ∧ nz .f64 z = fCv (nz .f32 b) ∧ Below w.heap.size w w' := by
  obtain ⟨z, w', h1, ⟨q, rfl, h2, h3⟩, h4⟩ := convS_sound (P := Tryd.prog) (env := ⟨fun _ => (nz .f32 b : Int), fun _ => none⟩) w (src := 22) (dst := 28) (x := .s (.f .f32) (.at 0)) (r := .s (.f .f64) (.u .cv (.at 0))) (by kernel_rfl) (u := .float .f32 b) ⟨b, rfl, hb, rfl⟩
  refine ⟨q, w', h1, h2, ?_, h4.le⟩
  have : ((nz .f64 q : Nat) : Int) = ((fCv (nz .f32 b : Int).toNat : Nat) : Int) := h3
  rw [Int.toNat_natCast] at this
  exact Int.ofNat.inj this
end Go.Proofs.YtfeaddbehmodmaaDoor
