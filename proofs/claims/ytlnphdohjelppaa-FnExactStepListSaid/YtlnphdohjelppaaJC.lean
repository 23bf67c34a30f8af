/-
  ONE STEP OF A ROAD, by the program and by the reference, as the symbolic walk reads them: the same terms. Conditions: those that stand in each.
-/
import Derived.Test.YtlnphdohjelppaaJB
namespace Go.Proofs.Ytlnphdohjelppaa
open Go.RowKit Go.Sx
set_option maxRecDepth 100000
def eOf : SC → E | .s _ e => e | _ => .n 0
def esOf : SP → List E | .agg l => l.map eOf | .one x => [eOf x]
def spsOf : SV → List SP | .p x => [x] | .tup l => l
/-- The terms of a road's cells behind a step; what came; what went; the flows; the cells out of the flows. -/
noncomputable def roadE : List E := esOf ((spsOf sStepI.res).getD 0 (.agg []))
noncomputable def cameE : E := (esOf ((spsOf sStepI.res).getD 1 (.agg []))).getD 0 (.n 0)
noncomputable def wentE : E := (esOf ((spsOf sStepI.res).getD 2 (.agg []))).getD 0 (.n 0)
noncomputable def flowE : List E := esOf ((spsOf sFlows.res).getD 0 (.agg []))
noncomputable def cellE : List E := esOf ((spsOf sStepS.res).getD 0 (.agg []))
def fSC (e : E) : SC := .s (.f .f32) e
theorem resI : sStepI.res = .tup [.agg (roadE.map fSC), .one (fSC cameE), .one (fSC wentE)] := by kernel_rfl
theorem resF : sFlows.res = .p (.agg (flowE.map fSC)) := by kernel_rfl
theorem resS : sStepS.res = .p (.agg (cellE.map fSC)) := by kernel_rfl
theorem roadE_len : roadE.length = 19 := by kernel_rfl
theorem flowE_len : flowE.length = 17 := by kernel_rfl
theorem cellE_len : cellE.length = 19 := by kernel_rfl
/-- Cells of the road, then flows. -/
noncomputable def both : List E := (List.range 19).map E.at ++ flowE
theorem same_cells : cellE.map (E.sub both) = roadE := by kernel_rfl
theorem flow_came : flowE.getD 0 (.n 0) = cameE := by kernel_rfl
theorem flow_went : flowE.getD 16 (.n 0) = wentE := by kernel_rfl
/-- A road's numbers, what is offered, what room there is. -/
def ext3 (ρ : Nat → Int) (x y : Int) : Nat → Int := fun i => if i < 19 then ρ i else if i = 19 then x else y
/-- The road behind a step. -/
noncomputable def stepR (ρ : Nat → Int) (x y : Int) : Nat → Int := fun i => if i < 19 then (roadE.getD i (.n 0)).den (ext3 ρ x y) else ((nz .f32 0 : Nat) : Int)
noncomputable def cameV (ρ : Nat → Int) (x y : Int) : Int := cameE.den (ext3 ρ x y)
noncomputable def wentV (ρ : Nat → Int) (x y : Int) : Int := wentE.den (ext3 ρ x y)
theorem es_back {env : Env} : ∀ (es : List E) (vs : List Value), Sx.All2 (SC.rep env) (es.map fSC) vs →
    ∃ cs : List Nat, vs = fl cs ∧ cs.length = es.length ∧ (∀ c ∈ cs, c < Sx.bits .f32) ∧ ∀ i, i < es.length → ((nz .f32 (cs.getD i 0) : Nat) : Int) = (es.getD i (.n 0)).den env.ρ
  | [], [], _ => ⟨[], rfl, rfl, by simp, fun i h => by simp at h⟩
  | [], _ :: _, h => h.elim
  | _ :: _, [], h => h.elim
  | e :: es, v :: vs, h => by
    obtain ⟨⟨b, rfl, hb, he⟩, h⟩ := h
    obtain ⟨cs, rfl, h2, h3, h4⟩ := es_back es vs h
    refine ⟨b :: cs, rfl, by rw [List.length_cons, List.length_cons, h2], fun c hc => ?_, fun i hi => ?_⟩
    · rcases List.mem_cons.1 hc with rfl | hc
      · exact hb
      · exact h3 c hc
    · cases i with
      | zero => exact he
      | succ i => exact h4 i (by simpa using hi)
theorem gen_tup {env : Env} {R : List E} {c g : E} {y : Value} (h : (SV.tup [.agg (R.map fSC), .one (fSC c), .one (fSC g)]).rep env y) :
    ∃ (cs : List Nat) (a b : Nat), y = .tuple #[.agg (fl cs).toArray, .float .f32 a, .float .f32 b] ∧ cs.length = R.length ∧ (∀ c ∈ cs, c < Sx.bits .f32) ∧ (∀ i, i < R.length → ((nz .f32 (cs.getD i 0) : Nat) : Int) = (R.getD i (.n 0)).den env.ρ) ∧
      a < Sx.bits .f32 ∧ b < Sx.bits .f32 ∧ ((nz .f32 a : Nat) : Int) = c.den env.ρ ∧ ((nz .f32 b : Nat) : Int) = g.den env.ρ := by
  obtain ⟨vs, rfl, hv⟩ := h
  obtain ⟨l⟩ := vs
  match l, hv with
  | [u1, u2, u3], ⟨⟨vz, e1, g1⟩, ⟨a, e2, ha, ha'⟩, ⟨b, e3, hb, hb'⟩, _⟩ =>
    subst e1
    subst e2
    subst e3
    obtain ⟨cs, k1, k2, k3, k4⟩ := es_back R _ g1
    exact ⟨cs, a, b, by rw [← k1], k2, k3, k4, ha, hb, ha', hb'⟩
theorem gen_agg {env : Env} {R : List E} {y : Value} (h : (SV.p (.agg (R.map fSC))).rep env y) :
    ∃ cs : List Nat, y = .agg (fl cs).toArray ∧ cs.length = R.length ∧ (∀ c ∈ cs, c < Sx.bits .f32) ∧ ∀ i, i < R.length → ((nz .f32 (cs.getD i 0) : Nat) : Int) = (R.getD i (.n 0)).den env.ρ := by
  obtain ⟨vz, rfl, g1⟩ := h
  obtain ⟨cs, k1, k2, k3, k4⟩ := es_back R _ g1
  exact ⟨cs, by rw [← k1], k2, k3, k4⟩
theorem road_of {cs : List Nat} {ρ : Nat → Int} {x y : Int} (hl : cs.length = 19) (h : ∀ i, i < 19 → ((nz .f32 (cs.getD i 0) : Nat) : Int) = (roadE.getD i (.n 0)).den (ext3 ρ x y)) : rho cs = stepR ρ x y := by
  funext i
  unfold stepR
  by_cases hi : i < 19
  · rw [if_pos hi]
    exact h i hi
  · rw [if_neg hi]
    unfold rho
    rw [List.getD_eq_getElem?_getD, List.getElem?_eq_none (by omega)]
    rfl
/-- What a step of the program hands back. -/
def RetStep (w0 : World) (ρ : Nat → Int) (x y : Int) (r : Ending) (w' : World) : Prop :=
  ∃ (cs : List Nat) (a b : Nat), r = .returned (.tuple #[.agg (fl cs).toArray, .float .f32 a, .float .f32 b]) ∧ Road19 cs ∧ rho cs = stepR ρ x y ∧ a < Sx.bits .f32 ∧ b < Sx.bits .f32 ∧ ((nz .f32 a : Nat) : Int) = cameV ρ x y ∧ ((nz .f32 b : Nat) : Int) = wentV ρ x y ∧ Below w0.heap.size w0 w'
theorem args3 {bs : List Nat} (h : Road19 bs) {x y : Nat} (hx : x < Sx.bits .f32) (hy : y < Sx.bits .f32) (β : Nat → Option Nat) :
    SP.rep ⟨ext3 (rho bs) (nz .f32 x : Nat) (nz .f32 y : Nat), β⟩ (.agg (Sx.fls 0 19)) (.agg (fl bs).toArray) ∧ (sF 19).rep ⟨ext3 (rho bs) (nz .f32 x : Nat) (nz .f32 y : Nat), β⟩ (.float .f32 x) ∧ (sF 20).rep ⟨ext3 (rho bs) (nz .f32 x : Nat) (nz .f32 y : Nat), β⟩ (.float .f32 y) := by
  refine ⟨⟨_, rfl, ?_⟩, ⟨x, rfl, hx, rfl⟩, ⟨y, rfl, hy, rfl⟩⟩
  show Sx.All2 _ (Sx.fls 0 19) (fl bs)
  rw [← h.1]
  refine fls_rep bs 0 (fun i hi => ?_) h.2
  rw [Nat.zero_add]
  show (if i < 19 then rho bs i else _) = _
  rw [if_pos (by have := h.1; omega)]
  rfl
theorem stepI {bs : List Nat} (h : Road19 bs) {x y : Nat} (hx : x < Sx.bits .f32) (hy : y < Sx.bits .f32) (w : World) :
    Calls Try.prog 36 #[.agg (fl bs).toArray, .float .f32 x, .float .f32 y] w (RetStep w (rho bs) (nz .f32 x : Nat) (nz .f32 y : Nat)) := by
  obtain ⟨h1, h2, h3⟩ := args3 h hx hy (fun _ => none)
  have hs := sStepIOk sStepI List.mem_cons_self ⟨ext3 (rho bs) (nz .f32 x : Nat) (nz .f32 y : Nat), fun _ => none⟩ 0 w #[.agg (fl bs).toArray, .float .f32 x, .float .f32 y] ⟨h1, h2, h3, trivial⟩ (noMem _ _ _) (fun _ _ => rfl)
  rw [resI] at hs
  refine (calls_of_to (fun w => enters_of Try.func36 (by kernel_rfl) rfl _ w) hs).mono ?_
  rintro e w' ⟨y', rfl, hy, hle⟩
  obtain ⟨cs, a, b, e, k2, k3, k4, ha, hb, ha', hb'⟩ := gen_tup hy
  rw [roadE_len] at k2 k4
  exact ⟨cs, a, b, by rw [e], ⟨k2, k3⟩, road_of k2 k4, ha, hb, ha', hb', hle⟩
/-- The flows of a road. -/
def FlowsOk (ρ : Nat → Int) (x y : Int) (fs : List Nat) : Prop := fs.length = 17 ∧ (∀ b ∈ fs, b < Sx.bits .f32) ∧ ∀ i, i < 17 → ((nz .f32 (fs.getD i 0) : Nat) : Int) = (flowE.getD i (.n 0)).den (ext3 ρ x y)
theorem mem1 {env : Env} {w : World} {g : Nat} {T : TypeId} {bs : List Nat} (hg : w.heap[g]? = some (.cells (fl bs).toArray T (0, 0))) (hrep : Sx.All2 (SC.rep env) (Sx.fls 0 19) (fl bs)) (hβ : env.β 0 = some g) {s : Summ} (hm : s.mem = [Sx.fls 0 19]) : HRep env 0 w s.hp := by
  constructor
  · intro j b hj
    match j, hj with
    | 0, hj =>
      obtain rfl : b = ⟨Sx.fls 0 19, false, none⟩ := by
        simp only [Summ.hp, hm] at hj
        exact (Option.some.inj (Option.some.inj hj)).symm
      exact ⟨g, _, T, hβ, hg, Pre.of hrep, (fun h => by cases h), fun r h => by cases h⟩
    | j + 1, hj => simp [Summ.hp, hm] at hj
  · intro i j b c g' hi hj hne
    match i, j, hi, hj with
    | 0, 0, _, _ => exact absurd rfl hne
    | 0, j + 1, _, hj => simp [Summ.hp, hm] at hj
    | i + 1, _, hi, _ => simp [Summ.hp, hm] at hi
theorem flowsS {bs : List Nat} (h : Road19 bs) {x y : Nat} (hx : x < Sx.bits .f32) (hy : y < Sx.bits .f32) (w : World) (g : Nat) (T : TypeId) (hg : w.heap[g]? = some (.cells (fl bs).toArray T (0, 0))) :
    Calls Try.prog 13 #[.pointer (some ⟨g, 0, none⟩), .float .f32 x, .float .f32 y] w (fun e w' => ∃ fs, e = .returned (.agg (fl fs).toArray) ∧ FlowsOk (rho bs) (nz .f32 x : Nat) (nz .f32 y : Nat) fs ∧ Below w.heap.size w w') := by
  obtain ⟨⟨vs, e, h1⟩, h2, h3⟩ := args3 h hx hy (fun j => if j = 0 then some g else none)
  injection e with e
  subst e
  have hs := sFlowsOk sFlows List.mem_cons_self ⟨ext3 (rho bs) (nz .f32 x : Nat) (nz .f32 y : Nat), fun j => if j = 0 then some g else none⟩ 0 w #[.pointer (some ⟨g, 0, none⟩), .float .f32 x, .float .f32 y] ⟨⟨g, rfl, rfl⟩, h2, h3, trivial⟩
    (mem1 hg h1 rfl rfl) (fun j hj => by
      have : j ≠ 0 := fun h0 => by subst h0; simp [sFlows, Summ.hp] at hj
      simp [this])
  rw [resF] at hs
  refine (calls_of_to (fun w => enters_of Try.func13 (by kernel_rfl) rfl _ w) hs).mono ?_
  rintro e w' ⟨y', rfl, hy, hle⟩
  obtain ⟨fs, e, k2, k3, k4⟩ := gen_agg hy
  rw [flowE_len] at k2 k4
  exact ⟨fs, by rw [e], ⟨k2, k3, k4⟩, hle⟩
theorem sub_at {σ : List E} {ρ : Nat → Int} {i : Nat} : subρ σ ρ i = (σ.getD i (.n 0)).den ρ := rfl
theorem both_lo {i : Nat} (h : i < 19) : both.getD i (.n 0) = .at i := by
  unfold both
  rw [List.getD_eq_getElem?_getD, List.getElem?_append_left (by simpa using h), List.getElem?_map, List.getElem?_range h]
  rfl
theorem both_hi {i : Nat} : both.getD (19 + i) (.n 0) = flowE.getD i (.n 0) := by
  unfold both
  rw [List.getD_eq_getElem?_getD, List.getElem?_append_right (by simp), List.getD_eq_getElem?_getD]
  simp
theorem stepS {bs fs : List Nat} (h : Road19 bs) {x y : Int} (hf : FlowsOk (rho bs) x y fs) (w : World) (g g' : Nat) (T T' : TypeId) (hne : g ≠ g') (hg : w.heap[g]? = some (.cells (fl bs).toArray T (0, 0))) (hg' : w.heap[g']? = some (.cells (fl fs).toArray T' (0, 0))) :
    Calls Try.prog 14 #[.pointer (some ⟨g, 0, none⟩), .pointer (some ⟨g', 0, none⟩)] w (fun e w' => ∃ cs, e = .returned (.agg (fl cs).toArray) ∧ Road19 cs ∧ rho cs = stepR (rho bs) x y ∧ Below w.heap.size w w') := by
  obtain ⟨hf1, hf2, hf3⟩ := hf
  have hr1 : Sx.All2 (SC.rep ⟨subρ both (ext3 (rho bs) x y), fun j => if j = 0 then some g else if j = 1 then some g' else none⟩) (Sx.fls 0 19) (fl bs) := by
    rw [← h.1]
    refine fls_rep bs 0 (fun i hi => ?_) h.2
    rw [Nat.zero_add]
    have hi' : i < 19 := by have := h.1; omega
    show subρ both (ext3 (rho bs) x y) i = _
    rw [sub_at, both_lo hi']
    show (if i < 19 then rho bs i else _) = _
    rw [if_pos hi']
    rfl
  have hr2 : Sx.All2 (SC.rep ⟨subρ both (ext3 (rho bs) x y), fun j => if j = 0 then some g else if j = 1 then some g' else none⟩) (Sx.fls 19 17) (fl fs) := by
    rw [← hf1]
    refine fls_rep fs 19 (fun i hi => ?_) hf2
    show subρ both (ext3 (rho bs) x y) (19 + i) = _
    rw [sub_at, both_hi]
    exact (hf3 i (by omega)).symm
  have hs := sStepSOk sStepS List.mem_cons_self ⟨subρ both (ext3 (rho bs) x y), fun j => if j = 0 then some g else if j = 1 then some g' else none⟩ 0 w #[.pointer (some ⟨g, 0, none⟩), .pointer (some ⟨g', 0, none⟩)] ⟨⟨g, rfl, rfl⟩, ⟨g', rfl, rfl⟩, trivial⟩ ?_ ?_
  · rw [resS] at hs
    refine (calls_of_to (fun w => enters_of Try.func14 (by kernel_rfl) rfl _ w) hs).mono ?_
    rintro e w' ⟨y', rfl, hy, hle⟩
    obtain ⟨cs, e, k2, k3, k4⟩ := gen_agg hy
    rw [cellE_len] at k2 k4
    refine ⟨cs, by rw [e], ⟨k2, k3⟩, road_of k2 fun i hi => ?_, hle⟩
    rw [k4 i hi, ← sub_den, ← same_cells]
    congr 1
    rw [List.getD_eq_getElem?_getD, List.getD_eq_getElem?_getD, List.getElem?_map, List.getElem?_eq_getElem (by rw [cellE_len]; exact hi)]
    rfl
  · constructor
    · intro j b hj
      match j, hj with
      | 0, hj =>
        obtain rfl : b = ⟨Sx.fls 0 19, false, none⟩ := (Option.some.inj (Option.some.inj hj)).symm
        exact ⟨g, _, T, rfl, hg, Pre.of hr1, (fun h => by cases h), fun r h => by cases h⟩
      | 1, hj =>
        obtain rfl : b = ⟨Sx.fls 19 17, false, none⟩ := (Option.some.inj (Option.some.inj hj)).symm
        exact ⟨g', _, T', rfl, hg', Pre.of hr2, (fun h => by cases h), fun r h => by cases h⟩
      | j + 2, hj => simp [sStepS, Summ.hp] at hj
    · intro i j b c g0 hi hj hne' h1 h2
      match i, j, hi, hj with
      | 0, 0, _, _ => exact absurd rfl hne'
      | 1, 1, _, _ => exact absurd rfl hne'
      | 0, 1, _, _ =>
        have e1 : some g = some g0 := h1
        have e2 : some g' = some g0 := h2
        exact hne (Option.some.inj (e1.trans e2.symm))
      | 1, 0, _, _ =>
        have e1 : some g' = some g0 := h1
        have e2 : some g = some g0 := h2
        exact hne (Option.some.inj (e2.trans e1.symm))
      | 0, j + 2, _, hj => simp [sStepS, Summ.hp] at hj
      | 1, j + 2, _, hj => simp [sStepS, Summ.hp] at hj
      | i + 2, _, hi, _ => simp [sStepS, Summ.hp] at hi
  · intro j hj
    have h0 : j ≠ 0 := fun h0 => by subst h0; simp [sStepS, Summ.hp] at hj
    have h1 : j ≠ 1 := fun h1 => by subst h1; simp [sStepS, Summ.hp] at hj
    simp [h0, h1]
/-- The sum of two numbers. -/
def sumV (a b : Int) : Int := ((fAr .add .f32 a.toNat b.toNat : Nat) : Int)
theorem addF {x y : Nat} (hx : x < Sx.bits .f32) (hy : y < Sx.bits .f32) (w : World) : ∃ z w', (binOp .add 22 (.float .f32 x) (.float .f32 y)).run Try.prog w = .ok (.float .f32 z) w' ∧ z < Sx.bits .f32 ∧ ((nz .f32 z : Nat) : Int) = sumV (nz .f32 x : Nat) (nz .f32 y : Nat) ∧ Below w.heap.size w w' := by
  obtain ⟨z, w', h1, ⟨q, rfl, h2, h3⟩, h4⟩ := arith_sound (P := Try.prog) (env := ⟨fun i => if i = 0 then (nz .f32 x : Nat) else (nz .f32 y : Nat), fun _ => none⟩) w .add 22 (a := .at 0) (c := .at 1) (u := .float .f32 x) (v := .float .f32 y) ⟨x, rfl, hx, rfl⟩ ⟨y, rfl, hy, rfl⟩
  refine ⟨q, w', h1, h2, ?_, h4.le⟩
  rw [h3, mb_den]
  rfl
end Go.Proofs.Ytlnphdohjelppaa
