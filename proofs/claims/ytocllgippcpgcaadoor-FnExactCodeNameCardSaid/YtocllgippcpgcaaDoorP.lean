/-
  PROVED: the card of the law FnExactCodeName: at every code the law answers true. Conditions: those of the given card alone (the table reads as the program's text lays it).
-/
import Derived.Test.YtocllgippcpgcaaDoorRows
import Derived.Test.YtocllgippcpgcaaDoorTie
import Derived.Test.YtocllgippcpgcaaDoorCards
import Derived.Test.YtocllgippcpgcaaDoorW
import Derived.ProofKit
import Derived.LaidMore
import Derived.OpenShut
import Derived.Carry
import Derived.ChangeVars
import Derived.RowKit2
import Derived.KernelRfl
import Derived.Stop.Joined
import Derived.SevenTiedAt
namespace Go.Proofs.YtocllgippcpgcaaDoor
open Go.ChangeShapes Go.WideShapes Go.ChangeAt Go.WideElems Go.RowKit
set_option maxRecDepth 100000
def laid1 : List (String × DataW Unit) := [("loop.example/g01227/impl.codeNames", Rows.laid_loop_example_g01227_impl_codeNames)]
theorem own : ownKnob Tryd.prog.godebug = none := by kernel_rfl
theorem laidOut : laidOutB Tryd.prog = true := by kernel_rfl
theorem gNames : Tryd.prog.globalNamed "loop.example/g01227/impl.codeNames" = some 0 := by kernel_rfl
theorem tNames : (Tryd.prog.globals[0]?).map (·.type) = some 27 := by kernel_rfl
theorem c9 : Tryd.prog.cellsOf 9 = 1 := by kernel_rfl
theorem door_met (os : Os) (args : Array Value) : laidMetH Tryd.prog laid1 ((World.doorLaid Tryd.prog 400 os).forCall (fun _ _ => 0) ⟨#[], args, []⟩).memory :=
  laidMetH_of_parts3 (fuel := 8) (laidMet_of_run' 8 (by kernel_rfl) (by kernel_rfl)) (by kernel_rfl) (by kernel_rfl)
theorem toList_inj {s : ByteArray} {l : List UInt8} (h : s.data.toList = l) : s = { data := l.toArray } := by
  obtain ⟨⟨d⟩⟩ := s
  simp only at h
  subst h
  rfl
/-- What the condition gives: the table's cells. -/
theorem of_laid {W : World} (h : laidMetH Tryd.prog laid1 W) : 0 < W.heap.size ∧ ∀ i, i < 9 → ∃ s : ByteArray, W.cell? ⟨0, i, none⟩ = some (.string s) ∧ some s = ([s0, s1, s2, s3, s4, s5, s6, s7, s8] : List ByteArray)[i]? := by
  rw [MakeChecks.laidMetH_plain _ _ _ (by kernel_rfl)] at h
  obtain ⟨ps, ⟨g0, t0, cs0, f0, p0, q0, hg0, ht0, hv0, hd0, _, _⟩, _, _⟩ := h
  obtain rfl := Option.some.inj (gNames.symm.trans hg0)
  obtain rfl := Option.some.inj (tNames.symm.trans ht0)
  obtain ⟨xs, m1, rfl, hx1, hlen, hn9, hel⟩ := DataW.trod_array Tryd.underlying27 hd0
  simp only [Prod.mk.injEq, Rows.laid_loop_example_g01227_impl_codeNames, DataW.agg.injEq] at hx1
  have key : ∀ i, i < 9 → ∃ s : ByteArray, W.cell? ⟨0, i, none⟩ = some (.string s) ∧ (xs[i]?).map (·.1) = some (.lit (.string s.data.toList)) := by
    intro i hi
    have h0 := hel i hi
    have hxi : xs[i]? = some xs[i] := List.getElem?_eq_getElem (by omega)
    rw [hxi] at h0
    obtain ⟨s, e1, e2, _⟩ := DataW.trod_string Tryd.underlying9 h0
    refine ⟨s, ?_, by rw [hxi]; simp [e2]⟩
    rw [c9] at e1
    have := World.var?_cell hg0 hv0 i
    have hc : cs0[i]? = some (.string s) := by
      have h2 : (List.take 1 (List.drop (i * 1) cs0.toList))[0]? = some (Value.string s) := by rw [e1]; rfl
      rw [List.getElem?_take, if_pos (by omega), List.getElem?_drop] at h2
      simpa using h2
    rw [hc] at this
    exact this
  refine ⟨?_, fun i hi => ?_⟩
  · obtain ⟨s, hs, _⟩ := key 0 (by omega)
    rcases Nat.eq_zero_or_pos W.heap.size with g | g
    · simp [World.cell?, g] at hs
    · exact g
  · obtain ⟨s, hs, hm⟩ := key i hi
    refine ⟨s, hs, ?_⟩
    rw [← List.getElem?_map, ← hx1.1] at hm
    match i, hi, hm with
    | 0, _, hm => simp only [List.getElem?_cons_zero, Option.some.injEq, DataW.lit.injEq, Lit.string.injEq] at hm; rw [toList_inj hm.symm]; rfl
    | 1, _, hm => simp only [List.getElem?_cons_zero, List.getElem?_cons_succ, Option.some.injEq, DataW.lit.injEq, Lit.string.injEq] at hm; rw [toList_inj hm.symm]; rfl
    | 2, _, hm => simp only [List.getElem?_cons_zero, List.getElem?_cons_succ, Option.some.injEq, DataW.lit.injEq, Lit.string.injEq] at hm; rw [toList_inj hm.symm]; rfl
    | 3, _, hm => simp only [List.getElem?_cons_zero, List.getElem?_cons_succ, Option.some.injEq, DataW.lit.injEq, Lit.string.injEq] at hm; rw [toList_inj hm.symm]; rfl
    | 4, _, hm => simp only [List.getElem?_cons_zero, List.getElem?_cons_succ, Option.some.injEq, DataW.lit.injEq, Lit.string.injEq] at hm; rw [toList_inj hm.symm]; rfl
    | 5, _, hm => simp only [List.getElem?_cons_zero, List.getElem?_cons_succ, Option.some.injEq, DataW.lit.injEq, Lit.string.injEq] at hm; rw [toList_inj hm.symm]; rfl
    | 6, _, hm => simp only [List.getElem?_cons_zero, List.getElem?_cons_succ, Option.some.injEq, DataW.lit.injEq, Lit.string.injEq] at hm; rw [toList_inj hm.symm]; rfl
    | 7, _, hm => simp only [List.getElem?_cons_zero, List.getElem?_cons_succ, Option.some.injEq, DataW.lit.injEq, Lit.string.injEq] at hm; rw [toList_inj hm.symm]; rfl
    | 8, _, hm => simp only [List.getElem?_cons_zero, List.getElem?_cons_succ, Option.some.injEq, DataW.lit.injEq, Lit.string.injEq] at hm; rw [toList_inj hm.symm]; rfl
theorem walk (n : Int) (W : World) (h : laidMetH Tryd.prog laid1 W) : Calls Tryd.prog 3 #[.int .i64 n] W fun e w' => e = .returned (.bool true) ∧ Below W.heap.size W w' := by
  obtain ⟨hz, hc⟩ := of_laid h
  rcases Int.lt_or_le n 0 with g | g
  · exact wlow n g W
  rcases Int.lt_or_le 8 n with g2 | g2
  · exact whigh n g2 W
  obtain ⟨k, rfl⟩ : ∃ k : Nat, n = k := ⟨n.toNat, by omega⟩
  obtain ⟨s, hs, e⟩ := hc k (by omega)
  match k, (show k < 9 by omega), hs, e with
  | 0, _, hs, e => cases e; exact w0 W hs hz
  | 1, _, hs, e => cases e; exact w1 W hs hz
  | 2, _, hs, e => cases e; exact w2 W hs hz
  | 3, _, hs, e => cases e; exact w3 W hs hz
  | 4, _, hs, e => cases e; exact w4 W hs hz
  | 5, _, hs, e => cases e; exact w5 W hs hz
  | 6, _, hs, e => cases e; exact w6 W hs hz
  | 7, _, hs, e => cases e; exact w7 W hs hz
  | 8, _, hs, e => cases e; exact w8 W hs hz
theorem lifted (os : Os) (started : os.Started) (H : Type) (enc : TypeId × Value → H) :
    ReturnsInHanded {} Tryd.checked os 3 .any (fun w args => (Rows.fnExactCodeNameSpec.pre enc Tryd.prog Tryd.f3 [] false w args ∧ laidMetH Tryd.prog laid1 w) ∧ sizedMet enc Tryd.prog Tryd.f3 (OpenSpec.ofChange Rows.fnExactCodeNameSpec) false w args)
      (Rows.fnExactCodeNameSpec.post enc Tryd.prog Tryd.f3 false true false false) := by
  refine returnsInHanded_of_change_and (C := Tryd.checked) (X := fun w _ => laidMetH Tryd.prog laid1 w) (fun _ _ _ hh h => h.of_heap hh) own started (by kernel_rfl) Tryd.func3
    (ChangeSpec.witness_shaped (enc := enc) (C := Tryd.checked) (os := os) (X := fun w _ => laidMetH Tryd.prog laid1 w) false (World.doorLaid Tryd.prog 400 os) #[.int .i64 0] 8 rfl (World.shaped_of_RefB (by kernel_rfl) (by kernel_rfl)) (by kernel_rfl) (by kernel_rfl) (by kernel_rfl) (door_met os _)) ?_
  intro W base args ds gs before hval0 hW _ _ hL _
  have hval : ∀ (j : Nat) t v, Tryd.f3.params[j]? = some t → args[j]? = some v → Value.okWide Tryd.prog W .any base t v := hval0
  have hW' := hW
  obtain ⟨p, q, hA0, hV, rfl, hfz, hnd⟩ := hW
  have hA : DataW.TrodAll enc Tryd.prog W 0 (fun _ => true) true Tryd.f3.params.toList args.toList ds p := hA0
  rw [Tryd.params3] at hA hval
  obtain ⟨v0, d0, rfl, rfl, h0⟩ := trodAll_one hA
  obtain ⟨n, rfl, rfl, rfl, wn⟩ := open_int Tryd.underlying2 (hval 0 2 v0 rfl rfl) h0
  obtain ⟨g, t, cs, fuel, d1, pv, rfl, h1, h2, h3, h4, rfl⟩ := trodVars_one hV
  obtain rfl := Option.some.inj (gNames.symm.trans h1)
  obtain rfl := Option.some.inj (tNames.symm.trans h2)
  refine (walk n W hL).mono fun e W' ⟨he, hle⟩ => ⟨.bool true, he, ?_⟩
  refine ⟨[.lit (.int .i64 n)], [d1], _, [], [], MemPlace.row ⟨0, 0, none⟩ cs.size ++ pv, hW', ?_, ?_, ?_, hle.frame _, fun h => by cases h⟩
  · exact trodAll_cons_mk (shut_bool Tryd.underlying4 _) trodAll_mk0
  · show DataW.TrodAll enc Tryd.prog W' 0 _ true Tryd.f3.params.toList [.int .i64 n] [.lit (.int .i64 n)] []
    rw [Tryd.params3]
    exact trodAll_cons_mk (shut_int Tryd.underlying2 wn) trodAll_mk0
  · have hlt := hV.lt
    have h5 : DataW.Trod enc Tryd.prog W 0 (fun _ => true) true 27 (.agg cs) d1 pv := ⟨fuel, h4⟩
    obtain ⟨fuel', h6⟩ := Below.trod laidOut (by kernel_rfl) (by decide +kernel) h5 hle (fun x hx => hlt x (by simp [hx]))
    refine trodVars_mk1 gNames tNames ?_ h6
    have h7 := h3
    unfold World.var? at h7 ⊢
    rw [show Tryd.checked.prog.globalNamed "loop.example/g01227/impl.codeNames" = some 0 from gNames] at h7 ⊢
    simp only [Option.bind_some] at h7 ⊢
    have hg : 0 < W.heap.size := (of_laid hL).1
    rw [hle.block 0 hg]; exact h7
theorem row_holds : Rows.FnExactCodeNameSaid :=
  OpenClaim.holds_of_wide 3 Tryd.f3 rfl rfl rfl rfl rfl rfl rfl ⟨rfl, rfl, rfl, rfl, rfl⟩ rfl rfl rfl rfl rfl (by kernel_rfl) Tryd.func3 (by kernel_rfl)
    (of_decide_eq_true (by kernel_rfl)) (by unfold Func.isWrapper; first | (rw [if_pos (by decide +kernel)]; kernel_rfl) | (rw [if_neg (by decide +kernel)]; exact ⟨rfl, rfl⟩))
    (fun os started H enc _ => lifted os started H enc)
theorem card_proved : Rows.FnExactCodeNameCardSaid :=
  Claim7.holds_tied_plain_at .later [] [.data] true (true, "1f04e80561e52b5f7ff78c894cf117f5e0f5e88b401e8badb6f05e7fe06645ea") false
    row_holds (fun _ h => by cases h) (by kernel_rfl) (fun _ h => by cases h) fnExactCodeName_row_tie rfl ⟨rfl, rfl⟩ (by kernel_rfl) rfl
    (fun f fn hf hfn => by
      obtain rfl : f = 3 := Option.some.inj ((show Tryd.prog.funcNamed "loop.example/g01227/laws.FnExactCodeName" = some 3 by kernel_rfl).symm.trans hf) |>.symm
      obtain rfl : fn = Tryd.f3 := (Option.some.inj (Tryd.func3.symm.trans hfn)).symm
      exact ⟨by kernel_rfl, fun j t ht => by
        rw [Tryd.params3] at ht
        have hm : t ∈ [2] := by simpa using Array.mem_of_getElem? ht
        have hall : ([2].all fun u => !Tryd.prog.wantsStandIn u) = true := by kernel_rfl
        exact (show Tryd.prog.wantsStandIn t = false by simpa using List.all_eq_true.1 hall t hm)⟩)
    (by kernel_rfl)
end Go.Proofs.YtocllgippcpgcaaDoor
