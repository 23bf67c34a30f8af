/-
  PROVED: the card of the law FnExactRoadText: at every argument the law answers true, and the argument reads as it did. Conditions: those of the given card alone (the listed variables read as the program's text lays them).
-/
import Derived.Test.YtfeaddbehmodmaaDoorRows
import Derived.Test.YtfeaddbehmodmaaDoorTie
import Derived.Test.YtfeaddbehmodmaaDoorCards
import Derived.Test.YtfeaddbehmodmaaDoorF
import Derived.Test.YtfeaddbehmodmaaDoorL5
import Derived.ProofKit
import Derived.LaidMore
import Derived.OpenShut
import Derived.OpenVars
import Derived.Carry
import Derived.ChangeVars
import Derived.ChangeMaps5
import Derived.RowKit2
import Derived.KernelRfl
import Derived.Stop.Joined
import Derived.SevenTiedAt
namespace Go.Proofs.YtfeaddbehmodmaaDoor
open Go.ChangeShapes Go.WideShapes Go.ChangeAt Go.WideElems Go.RowKit Go.ChangeMaps
set_option maxRecDepth 100000
def laid1 : List (String × DataW Unit) := [("math/bits.deBruijn32tab", Rows.laid_math_bits_deBruijn32tab), ("math/bits.deBruijn64tab", Rows.laid_math_bits_deBruijn64tab), ("internal/strconv.uint64pow10", Rows.laid_internal_strconv_uint64pow10)]
theorem own : ownKnob Tryd.prog.godebug = none := by kernel_rfl
theorem laidOut : laidOutB Tryd.prog = true := by kernel_rfl
theorem c5 : Tryd.prog.cellsOf 5 = 1 := by kernel_rfl
theorem gTab : Tryd.prog.globalNamed "math/bits.deBruijn64tab" = some 6 := by kernel_rfl
theorem tTab : (Tryd.prog.globals[6]?).map (·.type) = some 128 := by kernel_rfl
theorem door_met (os : Os) (args : Array Value) : laidMetH Tryd.prog laid1 ((World.doorLaid Tryd.prog 400 os).forCall (fun _ _ => 0) ⟨#[], args, []⟩).memory :=
  laidMetH_of_parts3 (fuel := 8) (laidMet_of_run' 8 (by kernel_rfl) (by kernel_rfl)) (by kernel_rfl) (by kernel_rfl)
/-- One listed variable's reading. -/
theorem laid_mem {P : Program} {w : World} : ∀ {l : List (String × DataW Unit)} {ps : List MemPlace}, DataW.LaidVars P w l ps → ∀ x ∈ l, ∃ g t cs fuel p, P.globalNamed x.1 = some g ∧ (P.globals[g]?).map (·.type) = some t ∧ w.var? P x.1 = some cs ∧ DataW.trod (fun _ => ()) P w 0 (fun _ => true) false fuel t cs.toList = some (x.2, p)
  | [], _, _, x, hx => by cases hx
  | (n, d) :: r, ps, h, x, hx => by
    obtain ⟨g, t, cs, fuel, p, q, h1, h2, h3, h4, h5, _⟩ := h
    rcases List.mem_cons.1 hx with rfl | hx
    · exact ⟨g, t, cs, fuel, p, h1, h2, h3, h4⟩
    · exact laid_mem h5 x hx
/-- What the condition gives: the table's cell. -/
theorem of_laid {W : World} (h : laidMetH Tryd.prog laid1 W) : TabOk W := by
  rw [MakeChecks.laidMetH_plain _ _ _ (by kernel_rfl)] at h
  obtain ⟨ps, hl, _, _⟩ := h
  obtain ⟨g0, t0, cs0, f0, p0, hg0, ht0, hv0, hd0⟩ := laid_mem hl ("math/bits.deBruijn64tab", Rows.laid_math_bits_deBruijn64tab) (by simp [laid1])
  obtain rfl := Option.some.inj (gTab.symm.trans hg0)
  obtain rfl := Option.some.inj (tTab.symm.trans ht0)
  obtain ⟨xs, m1, rfl, hx1, hlen, hn9, hel⟩ := DataW.trod_array Tryd.underlying128 hd0
  simp only [Prod.mk.injEq, Rows.laid_math_bits_deBruijn64tab, DataW.agg.injEq] at hx1
  have h15 := hel 15 (by omega)
  have hxi : xs[15]? = some xs[15] := List.getElem?_eq_getElem (by omega)
  rw [hxi] at h15
  obtain ⟨n, e1, e2, _⟩ := DataW.trod_int Tryd.underlying5 h15
  rw [c5] at e1
  have hc : cs0[15]? = some (.int .u8 n) := by
    have h2 : (List.take 1 (List.drop (15 * 1) cs0.toList))[0]? = some (Value.int .u8 n) := by rw [e1]; rfl
    rw [List.getElem?_take, if_pos (by omega), List.getElem?_drop] at h2
    simpa using h2
  have hm : (xs.map (·.1))[15]? = some (.lit (.int .u8 4)) := by rw [← hx1.1]; rfl
  rw [List.getElem?_map, hxi] at hm
  simp only [Option.map_some, Option.some.injEq, e2, DataW.lit.injEq, Lit.int.injEq] at hm
  have := World.var?_cell hg0 hv0 15
  rw [hc, hm.2] at this
  exact this
/-- Cells that are floats. -/
theorem leaf_fl : ∀ (n : Nat) (vs : List Value), All2 leafOk (List.replicate n (.f .f32)) vs → ∃ bs : List Nat, vs = fl bs ∧ bs.length = n ∧ ∀ b ∈ bs, b < Sx.bits .f32
  | 0, [], _ => ⟨[], rfl, rfl, by simp⟩
  | 0, _ :: _, h => h.elim
  | n + 1, [], h => h.elim
  | n + 1, v :: vs, h => by
    obtain ⟨⟨b, rfl, hb⟩, h⟩ := h
    obtain ⟨bs, rfl, rfl, h3⟩ := leaf_fl n vs h
    refine ⟨b :: bs, rfl, rfl, fun c hc => ?_⟩
    rcases List.mem_cons.1 hc with rfl | hc
    · exact hb
    · exact h3 c hc
theorem lifted (os : Os) (started : os.Started) (H : Type) (enc : TypeId × Value → H) :
    ReturnsInHanded {} Tryd.checked os 5 .any (fun w args => (Rows.fnExactRoadTextSpec.pre enc Tryd.prog Tryd.f5 [] false w args ∧ laidMetH Tryd.prog laid1 w) ∧ sizedMet enc Tryd.prog Tryd.f5 (OpenSpec.ofChange Rows.fnExactRoadTextSpec) false w args)
      (Rows.fnExactRoadTextSpec.post enc Tryd.prog Tryd.f5 false true false false) := by
  refine returnsInHanded_of_change_and (C := Tryd.checked) (X := fun w _ => laidMetH Tryd.prog laid1 w) (fun _ _ _ hh h => h.of_heap hh) own started (by kernel_rfl) Tryd.func5
    (ChangeSpec.witness_shaped (enc := enc) (C := Tryd.checked) (os := os) (X := fun w _ => laidMetH Tryd.prog laid1 w) false (World.doorLaid Tryd.prog 400 os) #[.agg (Array.replicate 19 (.float .f32 0))] 8 rfl (World.shaped_of_RefB (by kernel_rfl) (by kernel_rfl)) (by kernel_rfl) (by kernel_rfl) (by kernel_rfl) (door_met os _)) ?_
  intro W base args ds gs before hval0 hW _ _ hL _
  have hval : ∀ (j : Nat) t v, Tryd.f5.params[j]? = some t → args[j]? = some v → Value.okWide Tryd.prog W .any base t v := hval0
  have hW' := hW
  obtain ⟨p, q, hA0, hV, rfl, hfz, hnd⟩ := hW
  have hA : DataW.TrodAll enc Tryd.prog W 0 (fun _ => true) true Tryd.f5.params.toList args.toList ds p := hA0
  rw [Tryd.params5] at hA hval
  obtain ⟨v0, d0, rfl, rfl, h0⟩ := trodAll_one hA
  obtain ⟨fu, hf⟩ := h0
  obtain ⟨e1, e2, e3⟩ := flat_trod (show flat Tryd.prog 4 32 = some (List.replicate 19 (.f .f32)) by kernel_rfl) hf
  obtain ⟨cs0, rfl⟩ := okWide_agg (show isAgg Tryd.prog 32 = true by kernel_rfl) (hval 0 32 v0 rfl rfl)
  obtain ⟨bs, h1, h2, h3⟩ := leaf_fl _ _ e2
  have h1' : cs0.toList = fl bs := h1
  obtain rfl : cs0 = (fl bs).toArray := by rw [← h1']
  simp only at e1
  subst e1
  have hread : ∀ (w : World) (b : Nat) (s : Nat → Bool) (h : Bool), DataW.Trod enc Tryd.prog w b s h 32 (.agg (fl bs).toArray) d0 [] := fun w b s h => ⟨fu, e3 w b s h⟩
  obtain ⟨rfl, rfl⟩ := trodVars_none hV
  refine (roadTextLaw ⟨h2, h3⟩ W (of_laid hL)).mono fun e W' ⟨he, hle⟩ => ⟨.bool true, he, ?_⟩
  refine ⟨[d0], [], _, [], [], [], hW', ?_, ?_, rfl, hle.frame _, fun h => by cases h⟩
  · exact trodAll_cons_mk (shut_bool Tryd.underlying4 _) trodAll_mk0
  · show DataW.TrodAll enc Tryd.prog W' 0 _ true Tryd.f5.params.toList [.agg (fl bs).toArray] [d0] []
    rw [Tryd.params5]
    exact trodAll_cons_mk (hread _ _ _ _) trodAll_mk0
theorem row_holds : Rows.FnExactRoadTextSaid :=
  OpenClaim.holds_of_wide 5 Tryd.f5 rfl rfl rfl rfl rfl rfl rfl ⟨rfl, rfl, rfl, rfl, rfl⟩ rfl rfl rfl rfl rfl (by kernel_rfl) Tryd.func5 (by kernel_rfl)
    (of_decide_eq_true (by kernel_rfl)) (by unfold Func.isWrapper; first | (rw [if_pos (by decide +kernel)]; kernel_rfl) | (rw [if_neg (by decide +kernel)]; exact ⟨rfl, rfl⟩))
    (fun os started H enc _ => lifted os started H enc)
theorem card_proved : Rows.FnExactRoadTextCardSaid :=
  Claim7.holds_tied_plain_at .later [] [.data, .data, .data] true (true, "327f46c04fcc31b641ea4d061d888428d3439fc4e5491ca762ba5b0abd3fc638") true
    row_holds (fun _ h => by cases h) (by kernel_rfl) (fun _ h => by cases h) fnExactRoadText_row_tie rfl ⟨rfl, rfl⟩ (by kernel_rfl) rfl
    (fun f fn hf hfn => by
      obtain rfl : f = 5 := Option.some.inj ((show Tryd.prog.funcNamed "loop.example/g01227/laws.FnExactRoadText" = some 5 by kernel_rfl).symm.trans hf) |>.symm
      obtain rfl : fn = Tryd.f5 := (Option.some.inj (Tryd.func5.symm.trans hfn)).symm
      exact ⟨by kernel_rfl, fun j t ht => by
        rw [Tryd.params5] at ht
        have hm : t ∈ [32] := by simpa using Array.mem_of_getElem? ht
        have hall : ([32].all fun u => !Tryd.prog.wantsStandIn u) = true := by kernel_rfl
        exact (show Tryd.prog.wantsStandIn t = false by simpa using List.all_eq_true.1 hall t hm)⟩)
    (by kernel_rfl)
end Go.Proofs.YtfeaddbehmodmaaDoor
