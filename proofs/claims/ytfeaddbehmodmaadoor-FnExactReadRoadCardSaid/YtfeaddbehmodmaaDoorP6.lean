/-
  PROVED: the card of the law FnExactReadRoad: at every argument the law answers true, and the argument reads as it did. Conditions: those of the given card alone (the listed variables read as the program's text lays them).
-/
import Derived.Test.YtfeaddbehmodmaaDoorRows
import Derived.Test.YtfeaddbehmodmaaDoorTie
import Derived.Test.YtfeaddbehmodmaaDoorCards
import Derived.Test.YtfeaddbehmodmaaDoorF
import Derived.Test.YtfeaddbehmodmaaDoorL6
import Derived.ProofKit
import Derived.LaidMore
import Derived.Lay
import Derived.OpenShut
import Derived.OpenVars
import Derived.Carry
import Derived.ChangeVars
import Derived.ChangeMaps5
import Derived.RowKit2
import Derived.KernelRfl
import Derived.Stop.Joined
import Derived.SevenTiedAt
namespace Go.Proofs.YtfeaddbehmodmaaDoor
open Go.ChangeShapes Go.WideShapes Go.ChangeAt Go.WideElems Go.RowKit Go.ChangeMaps
set_option maxRecDepth 100000
def laid1 : List (String × DataW Unit) := [("math/bits.deBruijn32tab", Rows.laid_math_bits_deBruijn32tab), ("math/bits.deBruijn64tab", Rows.laid_math_bits_deBruijn64tab), ("internal/strconv.uint64pow10", Rows.laid_internal_strconv_uint64pow10), ("unicode/utf8.acceptRanges", Rows.laid_unicode_utf8_acceptRanges), ("strconv.ErrRange", Rows.laid_strconv_ErrRange), ("strconv.ErrSyntax", Rows.laid_strconv_ErrSyntax), ("unicode/utf8.first", Rows.laid_unicode_utf8_first)]
theorem own : ownKnob Tryd.prog.godebug = none := by kernel_rfl
theorem laidOut : laidOutB Tryd.prog = true := by kernel_rfl
theorem c5 : Tryd.prog.cellsOf 5 = 1 := by kernel_rfl
theorem gTab : Tryd.prog.globalNamed "math/bits.deBruijn64tab" = some 6 := by kernel_rfl
theorem tTab : (Tryd.prog.globals[6]?).map (·.type) = some 128 := by kernel_rfl
/-- One listed variable's reading. -/
theorem laid_mem {P : Program} {w : World} : ∀ {l : List (String × DataW Unit)} {ps : List MemPlace}, DataW.LaidVars P w l ps → ∀ x ∈ l, ∃ g t cs fuel p, P.globalNamed x.1 = some g ∧ (P.globals[g]?).map (·.type) = some t ∧ w.var? P x.1 = some cs ∧ DataW.trod (fun _ => ()) P w 0 (fun _ => true) false fuel t cs.toList = some (x.2, p)
  | [], _, _, x, hx => by cases hx
  | (n, d) :: r, ps, h, x, hx => by
    obtain ⟨g, t, cs, fuel, p, q, h1, h2, h3, h4, h5, _⟩ := h
    rcases List.mem_cons.1 hx with rfl | hx
    · exact ⟨g, t, cs, fuel, p, h1, h2, h3, h4⟩
    · exact laid_mem h5 x hx
/-- What the condition gives: the table's cell. -/
theorem of_laid {W : World} (h : laidMetH Tryd.prog laid1 W) : TabOk W := by
  rw [MakeChecks.laidMetH_plain _ _ _ (by kernel_rfl)] at h
  obtain ⟨ps, hl, _, _⟩ := h
  obtain ⟨g0, t0, cs0, f0, p0, hg0, ht0, hv0, hd0⟩ := laid_mem hl ("math/bits.deBruijn64tab", Rows.laid_math_bits_deBruijn64tab) (by simp [laid1])
  obtain rfl := Option.some.inj (gTab.symm.trans hg0)
  obtain rfl := Option.some.inj (tTab.symm.trans ht0)
  obtain ⟨xs, m1, rfl, hx1, hlen, hn9, hel⟩ := DataW.trod_array Tryd.underlying128 hd0
  simp only [Prod.mk.injEq, Rows.laid_math_bits_deBruijn64tab, DataW.agg.injEq] at hx1
  have h15 := hel 15 (by omega)
  have hxi : xs[15]? = some xs[15] := List.getElem?_eq_getElem (by omega)
  rw [hxi] at h15
  obtain ⟨n, e1, e2, _⟩ := DataW.trod_int Tryd.underlying5 h15
  rw [c5] at e1
  have hc : cs0[15]? = some (.int .u8 n) := by
    have h2 : (List.take 1 (List.drop (15 * 1) cs0.toList))[0]? = some (Value.int .u8 n) := by rw [e1]; rfl
    rw [List.getElem?_take, if_pos (by omega), List.getElem?_drop] at h2
    simpa using h2
  have hm : (xs.map (·.1))[15]? = some (.lit (.int .u8 4)) := by rw [← hx1.1]; rfl
  rw [List.getElem?_map, hxi] at hm
  simp only [Option.map_some, Option.some.injEq, e2, DataW.lit.injEq, Lit.int.injEq] at hm
  have := World.var?_cell hg0 hv0 15
  rw [hc, hm.2] at this
  exact this
/-- What the condition gives: the cells of the library's two errors. -/
theorem err_cell {W : World} (h : laidMetH Tryd.prog laid1 W) (n : String) (g : Nat) (d : DataW Unit) (hn : (n, d) ∈ laid1) (hg : Tryd.prog.globalNamed n = some g) (ht : (Tryd.prog.globals[g]?).map (·.type) = some 50) (hd : ∃ nm x, d = .iface nm x) :
    ∃ v, W.cell? ⟨g, 0, none⟩ = some v ∧ (v = .nilIface ∨ ∃ te pe, v = .iface te pe) := by
  rw [MakeChecks.laidMetH_plain _ _ _ (by kernel_rfl)] at h
  obtain ⟨ps, hl, _, _⟩ := h
  obtain ⟨g0, t0, cs0, f0, p0, hg0, ht0, hv0, hd0⟩ := laid_mem hl (n, d) hn
  obtain rfl := Option.some.inj (hg.symm.trans hg0)
  obtain rfl := Option.some.inj (ht.symm.trans ht0)
  obtain ⟨nm, x, rfl⟩ := hd
  obtain ⟨f2, u, v, e, _, _⟩ := iface_of_trod Tryd.underlying50 hd0
  have := World.var?_cell hg0 hv0 0
  have hc : cs0[0]? = some (.iface u v) := by
    rw [← Array.getElem?_toList, e]
    rfl
  rw [hc] at this
  exact ⟨_, this, .inr ⟨u, v, rfl⟩⟩
theorem err_of_laid {W : World} (h : laidMetH Tryd.prog laid1 W) : ErrOk W :=
  ⟨err_cell h "strconv.ErrSyntax" 2 Rows.laid_strconv_ErrSyntax (by simp [laid1]) (by kernel_rfl) (by kernel_rfl) ⟨_, _, rfl⟩,
   err_cell h "strconv.ErrRange" 3 Rows.laid_strconv_ErrRange (by simp [laid1]) (by kernel_rfl) (by kernel_rfl) ⟨_, _, rfl⟩⟩
theorem lifted (os : Os) (started : os.Started) (H : Type) (enc : TypeId × Value → H) :
    ReturnsInHanded {} Tryd.checked os 6 .any (fun w args => (Rows.fnExactReadRoadSpec.pre enc Tryd.prog Tryd.f6 [] false w args ∧ laidMetH Tryd.prog laid1 w) ∧ sizedMet enc Tryd.prog Tryd.f6 (OpenSpec.ofChange Rows.fnExactReadRoadSpec) false w args)
      (Rows.fnExactReadRoadSpec.post enc Tryd.prog Tryd.f6 false true false false) := by
  refine returnsInHanded_of_calls own started (by kernel_rfl) (ChangeSpec.witness_shaped (enc := enc) (C := Tryd.checked) (os := os) (X := fun w _ => laidMetH Tryd.prog laid1 w) false (World.laidAll Tryd.prog os laid1) #[.string ⟨#[]⟩] 8 (World.laidAll_os _ _ _) (World.shaped_of_ZipB (by kernel_rfl) (by kernel_rfl)) (by kernel_rfl) (by kernel_rfl) (by kernel_rfl) (by rw [MakeChecks.laidMetH_plain _ _ _ (by kernel_rfl)]; exact laidMet_laidAll _ (by kernel_rfl) (by kernel_rfl))) ?_
  intro w tape i _ hsh _ hok hpre _
  obtain ⟨_, _, _, fn', hfn', _, _, _, _, hval0⟩ := hok
  have e : fn' = Tryd.f6 := Option.some.inj (hfn'.symm.trans Tryd.func6)
  subst e
  obtain ⟨⟨⟨ds, gs, before, hw0, _⟩, hx0⟩, _⟩ := hpre
  have hW := DataW.Whole.of_heap (w' := w.forCall tape i) (by rfl) hw0
  have hL : laidMetH Tryd.prog laid1 (w.forCall tape i) := hx0.of_heap (by rfl)
  obtain ⟨m, hm⟩ := Tryd.laysM146.s1_3 _ hsh
  have hval : ∀ (j : Nat) t v, Tryd.f6.params[j]? = some t → i.args[j]? = some v → Value.okWide Tryd.prog (w.forCall tape i) .any w.heap.size t v := hval0
  obtain ⟨args, hargs⟩ : ∃ args, args = i.args := ⟨_, rfl⟩
  rw [← hargs] at hW hval ⊢
  generalize w.forCall tape i = W at *
  clear hw0 hx0 hval0 hargs
  have hW' := hW
  obtain ⟨p, q, hA0, hV, rfl, hfz, hnd⟩ := hW
  have hA : DataW.TrodAll enc Tryd.prog W 0 (fun _ => true) true Tryd.f6.params.toList args.toList ds p := hA0
  rw [Tryd.params6] at hA hval
  obtain ⟨v0, d0, rfl, rfl, h0⟩ := trodAll_one hA
  obtain ⟨x, rfl, rfl, rfl, hx⟩ := open_string Tryd.underlying9 (hval 0 9 v0 rfl rfl) h0
  have hread : ∀ (w : World) (b : Nat) (s : Nat → Bool) (h : Bool), DataW.Trod enc Tryd.prog w b s h 9 (.string x) (.lit (.string x.data.toList)) [] := fun w b s h => shut_string Tryd.underlying9 hx
  obtain ⟨rfl, rfl⟩ := trodVars_none hV
  refine (roadLaw x W (err_of_laid hL) (of_laid hL) m hm).mono fun e W' ⟨he, hle⟩ => ?_
  subst he
  refine ChangeSpec.post_blind ?_
  refine ⟨[(.lit (.string x.data.toList))], [], _, [], [], [], hW', ?_, ?_, rfl, hle.frame _, fun h => by cases h⟩
  · exact trodAll_cons_mk (shut_bool Tryd.underlying4 _) trodAll_mk0
  · show DataW.TrodAll enc Tryd.prog W' 0 _ true Tryd.f6.params.toList [.string x] [(.lit (.string x.data.toList))] []
    rw [Tryd.params6]
    exact trodAll_cons_mk (hread _ _ _ _) trodAll_mk0
theorem row_holds : Rows.FnExactReadRoadSaid :=
  OpenClaim.holds_of_wide 6 Tryd.f6 rfl rfl rfl rfl rfl rfl rfl ⟨rfl, rfl, rfl, rfl, rfl⟩ rfl rfl rfl rfl rfl (by kernel_rfl) Tryd.func6 (by kernel_rfl)
    (of_decide_eq_true (by kernel_rfl)) (by unfold Func.isWrapper; first | (rw [if_pos (by decide +kernel)]; kernel_rfl) | (rw [if_neg (by decide +kernel)]; exact ⟨rfl, rfl⟩))
    (fun os started H enc _ => lifted os started H enc)
theorem card_proved : Rows.FnExactReadRoadCardSaid :=
  Claim7.holds_tied_plain_at .later [] [.data, .data, .data, .data, .sentinel, .sentinel, .pinned] true (true, "327f46c04fcc31b641ea4d061d888428d3439fc4e5491ca762ba5b0abd3fc638") true
    row_holds (fun _ h => by cases h) (by kernel_rfl) (fun _ h => by cases h) fnExactReadRoad_row_tie rfl ⟨rfl, rfl⟩ (by kernel_rfl) rfl
    (fun f fn hf hfn => by
      obtain rfl : f = 6 := Option.some.inj ((show Tryd.prog.funcNamed "loop.example/g01227/laws.FnExactReadRoad" = some 6 by kernel_rfl).symm.trans hf) |>.symm
      obtain rfl : fn = Tryd.f6 := (Option.some.inj (Tryd.func6.symm.trans hfn)).symm
      exact ⟨by kernel_rfl, fun j t ht => by
        rw [Tryd.params6] at ht
        have hm : t ∈ [9] := by simpa using Array.mem_of_getElem? ht
        have hall : ([9].all fun u => !Tryd.prog.wantsStandIn u) = true := by kernel_rfl
        exact (show Tryd.prog.wantsStandIn t = false by simpa using List.all_eq_true.1 hall t hm)⟩)
    (by kernel_rfl)
end Go.Proofs.YtfeaddbehmodmaaDoor
