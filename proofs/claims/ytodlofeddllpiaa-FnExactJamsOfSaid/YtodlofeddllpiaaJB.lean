/-
  A ROAD'S CELLS, what the symbolic walk gives of the small functions, and which cells are fuller than the best share. Conditions: those that stand in each.
-/
import Derived.Test.YtodlofeddllpiaaJSums
import Derived.Test.YtodlofeddllpiaaJA
import Derived.Deep.MidRow
import Derived.Handy
import Derived.LoopTactic
import Derived.OwnWalk
import Derived.Lib.Hide
import Derived.Shelf.Abstract
namespace Go.Proofs.Ytodlofeddllpiaa
open Go.RowKit Go.Sx Go.Jm
set_option maxRecDepth 100000
theorem calls_of_to {f : Nat} {vals : Array Value} {w : World} {R : Value → World → Prop} (hen : ∀ w, (callFunc f vals).run Try.prog w = .ok (.enter f vals) w) (h : CallTo Try.prog f vals w R) :
    Calls Try.prog f vals w (fun e w' => ∃ y, e = .returned y ∧ R y w') := by
  rcases h with ⟨_, h⟩ | ⟨y, w', h1, _⟩
  · exact h
  · rw [hen] at h1
    cases h1
theorem noMem (env : Env) (B : Nat) (w : World) : HRep env B w [] := by
  constructor
  · intro j b h
    simp at h
  · intro i j b c g h
    simp at h
/-- Floats as cells. -/
def fl (bs : List Nat) : List Value := bs.map (Value.float .f32)
theorem fl_length (bs : List Nat) : (fl bs).length = bs.length := by simp [fl]
theorem fls_succ (k n : Nat) : Sx.fls k (n + 1) = .s (.f .f32) (.at k) :: Sx.fls (k + 1) n := by
  unfold Sx.fls
  rw [List.range_succ_eq_map, List.map_cons, List.map_map]
  simp only [Nat.add_zero, List.cons.injEq, true_and]
  refine List.map_congr_left fun i _ => ?_
  show SC.s _ (E.at (k + (i + 1))) = SC.s _ (E.at (k + 1 + i))
  rw [Nat.add_right_comm, Nat.add_assoc]
theorem fls_rep {env : Env} : ∀ (bs : List Nat) (k : Nat), (∀ i, i < bs.length → env.ρ (k + i) = nz .f32 (bs.getD i 0)) → (∀ b ∈ bs, b < Sx.bits .f32) →
    Sx.All2 (SC.rep env) (Sx.fls k bs.length) (fl bs)
  | [], _, _, _ => trivial
  | b :: bs, k, h, hb => by
    rw [List.length_cons, fls_succ]
    refine ⟨⟨b, rfl, hb b List.mem_cons_self, (h 0 (by simp)).symm⟩, fls_rep bs (k + 1) (fun i hi => ?_) fun x hx => hb x (List.mem_cons_of_mem _ hx)⟩
    have := h (i + 1) (by simp only [List.length_cons]; omega)
    rw [Nat.add_assoc, Nat.add_comm 1 i, this]
    rfl
theorem fls_back {env : Env} : ∀ (n k : Nat) (vs : List Value), Sx.All2 (SC.rep env) (Sx.fls k n) vs →
    ∃ cs : List Nat, vs = fl cs ∧ cs.length = n ∧ (∀ c ∈ cs, c < Sx.bits .f32) ∧ ∀ i, i < n → (nz .f32 (cs.getD i 0) : Int) = env.ρ (k + i)
  | 0, k, [], _ => ⟨[], rfl, rfl, by simp, fun i h => by omega⟩
  | 0, k, _ :: _, h => h.elim
  | n + 1, k, vs, h => by
    rw [fls_succ] at h
    cases vs with
    | nil => exact h.elim
    | cons v vs =>
      obtain ⟨⟨b, rfl, hb, he⟩, h⟩ := h
      obtain ⟨cs, rfl, rfl, h3, h4⟩ := fls_back n (k + 1) vs h
      refine ⟨b :: cs, rfl, rfl, fun c hc => ?_, fun i hi => ?_⟩
      · rcases List.mem_cons.1 hc with rfl | hc
        · exact hb
        · exact h3 c hc
      · cases i with
        | zero => exact he
        | succ i =>
          have := h4 i (by omega)
          rw [Nat.add_assoc, Nat.add_comm 1 i] at this
          exact this
/-- A road's numbers, up to the pattern of what is no number. -/
def rho (bs : List Nat) : Nat → Int := fun i => (nz .f32 (bs.getD i 0) : Int)
/-- What the tests of a road say. -/
def okR (bs : List Nat) : Bool := tru ((Sx.okRoad 0).den (rho bs))
/-- Nineteen floats. -/
def Road19 (bs : List Nat) : Prop := bs.length = 19 ∧ ∀ b ∈ bs, b < Sx.bits .f32
theorem agg_rep (β : Nat → Option Nat) {bs : List Nat} (h : Road19 bs) : SV.rep ⟨rho bs, β⟩ (Sx.fAgg 0 19) (.agg (fl bs).toArray) := by
  refine ⟨_, rfl, ?_⟩
  show Sx.All2 _ (Sx.fls 0 19) (fl bs)
  rw [← h.1]
  exact fls_rep bs 0 (fun i _ => by rw [Nat.zero_add]; rfl) h.2
theorem toRoad {bs : List Nat} (h : Road19 bs) (w : World) :
    Calls Try.prog 5 #[.agg (fl bs).toArray] w (fun e w' => ∃ cs, e = .returned (.agg (fl cs).toArray) ∧ Road19 cs ∧ rho cs = rho bs ∧ Below w.heap.size w w') := by
  have hs := sToRoadOk sToRoad List.mem_cons_self ⟨rho bs, fun _ => none⟩ 0 w #[.agg (fl bs).toArray] ⟨agg_rep _ h, trivial⟩ (noMem _ _ _) (fun _ _ => rfl)
  refine (calls_of_to (fun w => enters_of Try.func5 (by kernel_rfl) rfl _ w) hs).mono ?_
  rintro e w' ⟨y, rfl, ⟨vs, rfl, hy⟩, hle⟩
  obtain ⟨cs, h1, h2, h3, h4⟩ := fls_back 19 0 _ hy
  refine ⟨cs, ?_, ⟨h2, h3⟩, ?_, hle⟩
  · rw [← h1]
  · funext i
    rcases Nat.lt_or_ge i 19 with g | g
    · have := h4 i g
      rw [Nat.zero_add] at this
      exact this
    · unfold rho
      rw [List.getD_eq_getElem?_getD, List.getElem?_eq_none (by omega), List.getD_eq_getElem?_getD, List.getElem?_eq_none (by have := h.1; omega)]
theorem validRoad {bs : List Nat} (h : Road19 bs) (w : World) :
    Calls Try.prog 13 #[.agg (fl bs).toArray] w (fun e w' => e = .returned (.bool (okR bs)) ∧ Below w.heap.size w w') := by
  have hs := sRoadIOk sRoadI List.mem_cons_self ⟨rho bs, fun _ => none⟩ 0 w #[.agg (fl bs).toArray] ⟨agg_rep _ h, trivial⟩ (noMem _ _ _) (fun _ _ => rfl)
  refine (calls_of_to (fun w => enters_of Try.func13 (by kernel_rfl) rfl _ w) hs).mono ?_
  rintro e w' ⟨y, rfl, hy, hle⟩
  have : y = .bool (okR bs) := hy
  exact ⟨by rw [this], hle⟩
theorem specOk {bs : List Nat} (h : Road19 bs) (w : World) (g : Nat) (T : TypeId) (hg : w.heap[g]? = some (.cells (fl bs).toArray T (0, 0))) :
    Calls Try.prog 10 #[.pointer (some ⟨g, 0, none⟩)] w (fun e w' => e = .returned (.bool (okR bs)) ∧ Below w.heap.size w w') := by
  have hs := sRoadSOk sRoadS List.mem_cons_self ⟨rho bs, fun j => if j = 0 then some g else none⟩ 0 w #[.pointer (some ⟨g, 0, none⟩)] ⟨⟨g, rfl, rfl⟩, trivial⟩ ?_ ?_
  · refine (calls_of_to (fun w => enters_of Try.func10 (by kernel_rfl) rfl _ w) hs).mono ?_
    rintro e w' ⟨y, rfl, hy, hle⟩
    have : y = .bool (okR bs) := hy
    exact ⟨by rw [this], hle⟩
  · constructor
    · intro j b hj
      match j, hj with
      | 0, hj =>
        obtain rfl : b = ⟨Sx.fls 0 19, false, none⟩ := (Option.some.inj (Option.some.inj hj)).symm
        refine ⟨g, _, T, rfl, hg, Pre.of ?_, (fun h => by cases h), fun r h => by cases h⟩
        show Sx.All2 _ (Sx.fls 0 19) (fl bs)
        rw [← h.1]
        exact fls_rep bs 0 (fun i _ => by rw [Nat.zero_add]; rfl) h.2
      | j + 1, hj => simp [sRoadS, Summ.hp] at hj
    · intro i j b c g' hi hj hne
      match i, j, hi, hj with
      | 0, 0, _, _ => exact absurd rfl hne
      | 0, j + 1, _, hj => simp [sRoadS, Summ.hp] at hj
      | i + 1, _, hi, _ => simp [sRoadS, Summ.hp] at hi
  · intro j hj
    have : j ≠ 0 := fun h0 => by subst h0; simp [sRoadS, Summ.hp] at hj
    simp [this]
/-- The share that lets most through. -/
def bestE : E := .b (.fa .quo .f32) (.at 17) (.b (.fa .add .f32) (.at 16) (.at 17))
/-- Is the cell fuller than that? -/
def fbR (ρ : Nat → Int) (k : Nat) : Bool := FloatKind.f32.format.order (ρ k).toNat (bestE.den ρ).toNat == some Ordering.gt
theorem full_eq {bs : List Nat} {b : Nat} (h : ((nz .f32 b : Nat) : Int) = bestE.den (rho bs)) (k : Nat) : (FloatKind.f32.format.order (bs.getD k 0) b == some Ordering.gt) = fbR (rho bs) k := by
  unfold fbR
  rw [← h]
  show _ = (FloatKind.f32.format.order ((nz .f32 (bs.getD k 0) : Nat) : Int).toNat ((nz .f32 b : Nat) : Int).toNat == some Ordering.gt)
  rw [Int.toNat_natCast, Int.toNat_natCast, order_nz]
/-- What the share's functions hand back. -/
def RetB (w0 : World) (ρ : Nat → Int) (r : Ending) (w' : World) : Prop := ∃ b : Nat, r = .returned (.float .f32 b) ∧ ((nz .f32 b : Nat) : Int) = bestE.den ρ ∧ Below w0.heap.size w0 w'
theorem bestI {bs : List Nat} (h : Road19 bs) (w : World) : Calls Try.prog 14 #[.agg (fl bs).toArray] w (RetB w (rho bs)) := by
  have hs := sBestIOk sBestI List.mem_cons_self ⟨rho bs, fun _ => none⟩ 0 w #[.agg (fl bs).toArray] ⟨agg_rep _ h, trivial⟩ (noMem _ _ _) (fun _ _ => rfl)
  refine (calls_of_to (fun w => enters_of Try.func14 (by kernel_rfl) rfl _ w) hs).mono ?_
  rintro e w' ⟨y, rfl, ⟨b, rfl, _, hb⟩, hle⟩
  exact ⟨b, rfl, hb, hle⟩
theorem slotMem {bs : List Nat} (h : Road19 bs) {w : World} {g : Nat} {T : TypeId} (hg : w.heap[g]? = some (.cells (fl bs).toArray T (0, 0))) {s : Summ} (hm : s.mem = [Sx.fls 0 19]) : HRep ⟨rho bs, fun j => if j = 0 then some g else none⟩ 0 w s.hp ∧ ∀ j, s.hp.length ≤ j → (fun j => if j = 0 then some g else none : Nat → Option Nat) j = none := by
  refine ⟨?_, ?_⟩
  · constructor
    · intro j b hj
      match j, hj with
      | 0, hj =>
        obtain rfl : b = ⟨Sx.fls 0 19, false, none⟩ := by
          simp only [Summ.hp, hm] at hj
          exact (Option.some.inj (Option.some.inj hj)).symm
        refine ⟨g, _, T, rfl, hg, Pre.of ?_, (fun h => by cases h), fun r h => by cases h⟩
        show Sx.All2 _ (Sx.fls 0 19) (fl bs)
        rw [← h.1]
        exact fls_rep bs 0 (fun i _ => by rw [Nat.zero_add]; rfl) h.2
      | j + 1, hj => simp [Summ.hp, hm] at hj
    · intro i j b c g' hi hj hne
      match i, j, hi, hj with
      | 0, 0, _, _ => exact absurd rfl hne
      | 0, j + 1, _, hj => simp [Summ.hp, hm] at hj
      | i + 1, _, hi, _ => simp [Summ.hp, hm] at hi
  · intro j hj
    have : j ≠ 0 := fun h0 => by subst h0; simp [Summ.hp, hm] at hj
    simp [this]
theorem bestS {bs : List Nat} (h : Road19 bs) (w : World) (g : Nat) (T : TypeId) (hg : w.heap[g]? = some (.cells (fl bs).toArray T (0, 0))) : Calls Try.prog 11 #[.pointer (some ⟨g, 0, none⟩)] w (RetB w (rho bs)) := by
  obtain ⟨h1, h2⟩ := slotMem h hg (s := sBestS) rfl
  have hs := sBestSOk sBestS List.mem_cons_self ⟨rho bs, fun j => if j = 0 then some g else none⟩ 0 w #[.pointer (some ⟨g, 0, none⟩)] ⟨⟨g, rfl, rfl⟩, trivial⟩ h1 h2
  refine (calls_of_to (fun w => enters_of Try.func11 (by kernel_rfl) rfl _ w) hs).mono ?_
  rintro e w' ⟨y, rfl, ⟨b, rfl, _, hb⟩, hle⟩
  exact ⟨b, rfl, hb, hle⟩
theorem eq2 (x y : Int) (w : World) : Calls Try.prog 15 #[.agg #[.int .i64 x, .int .i64 y], .agg #[.int .i64 x, .int .i64 y]] w (fun e w' => e = .returned (.bool true) ∧ Below w.heap.size w w') := by
  have hs := sEq2Ok sEq2 List.mem_cons_self ⟨fun i => if i = 0 then x else y, fun _ => none⟩ 0 w #[.agg #[.int .i64 x, .int .i64 y], .agg #[.int .i64 x, .int .i64 y]] ⟨⟨_, rfl, rfl, rfl, trivial⟩, ⟨_, rfl, rfl, rfl, trivial⟩, trivial⟩ (noMem _ _ _) (fun _ _ => rfl)
  refine (calls_of_to (fun w => enters_of Try.func15 (by kernel_rfl) rfl _ w) hs).mono ?_
  rintro e w' ⟨z, rfl, hz, hle⟩
  have : z = .bool true := hz
  exact ⟨by rw [this], hle⟩
theorem range_fl {w : World} {g : Nat} {bs : List Nat} {n : Nat} (hn : n ≤ bs.length) (h : ∀ k, k < n → w.cell? ⟨g, k, none⟩ = some (.float .f32 (bs.getD k 0))) : w.rangeAt g 0 (fl (bs.take n)) := by
  intro j v hj
  have hjn : j < n := by
    rcases Nat.lt_or_ge j n with q | q
    · exact q
    · rw [List.getElem?_eq_none (by rw [fl_length, List.length_take]; omega)] at hj
      cases hj
  rw [Nat.zero_add, h j hjn]
  simp only [fl, List.getElem?_map, List.getElem?_take, if_pos hjn] at hj
  rw [List.getElem?_eq_getElem (by omega)] at hj
  rw [← hj, List.getD_eq_getElem?_getD, List.getElem?_eq_getElem (by omega)]
  rfl
theorem size31 {bs : List Nat} (h : Road19 bs) : (Try.prog.info? 31).map (·.size) = some (fl bs).length := by rw [fl_length, h.1]; kernel_rfl
theorem size29 {bs : List Nat} (h : Road19 bs) : (Try.prog.info? 29).map (·.size) = some (fl (bs.take 16)).length := by rw [fl_length, List.length_take, h.1]; kernel_rfl
theorem range31 {w : World} {g : Nat} {bs : List Nat} (h : Road19 bs) (hc : ∀ k, k < 19 → w.cell? ⟨g, k, none⟩ = some (.float .f32 (bs.getD k 0))) : w.rangeAt g 0 (fl bs) := by
  have hr := range_fl (n := 19) (by have := h.1; omega) hc
  rw [List.take_of_length_le (by have := h.1; omega)] at hr
  exact hr
theorem fl_get {bs : List Nat} (h : Road19 bs) {k : Nat} (hk : k < 16) : (fl (bs.take 16))[k]? = some (.float .f32 (bs.getD k 0)) := by
  have hl := h.1
  rw [List.getD_eq_getElem?_getD, List.getElem?_eq_getElem (show k < bs.length by omega)]
  simp [fl, hk, List.getElem?_eq_getElem (show k < bs.length by omega)]
theorem index29 {bs : List Nat} (h : Road19 bs) {k : Nat} (hk : k < 16) (w : World) :
    (Instr.index 29 (.agg (fl (bs.take 16)).toArray) (.int .i64 k)).run Try.prog w = .ok (.float .f32 (bs.getD k 0)) w := by
  have hg := fl_get h hk
  generalize bs.getD k 0 = x at hg ⊢
  have hn : 0 ≤ (k : Int) ∧ (k : Int) < ((16 : Nat) : Int) := by omega
  have hcs : Try.prog.cellsOf 22 = 1 := by kernel_rfl
  simp [Instr.index, run_underlying Try.underlying29, asIntOf, hn, go_sem, hg, hk]
theorem cell_fl {w : World} {g : Nat} {T : TypeId} {bs : List Nat} (hg : w.heap[g]? = some (.cells (fl bs).toArray T (0, 0))) {k : Nat} (hk : k < bs.length) : w.cell? ⟨g, k, none⟩ = some (.float .f32 (bs.getD k 0)) := by
  simp only [World.cell?, hg]
  simp [fl, List.getD_eq_getElem?_getD, List.getElem?_eq_getElem hk]
/-- The runs of a road. -/
def runs (ρ : Nat → Int) : List (Nat × Nat) := if tru ((Sx.okRoad 0).den ρ) then jam (fbR ρ) 16 else []
def code (ρ : Nat → Int) : Int := if tru ((Sx.okRoad 0).den ρ) then 0 else 1
/-- What the two functions hand back. -/
def RetJ (w0 : World) (ρ : Nat → Int) (r : Ending) (w' : World) : Prop := ∃ v, r = .returned (.tuple #[v, .int .i64 (code ρ)]) ∧ w'.ownsRow w0.heap.size 39 2 v (runs ρ).length (cells2 (runs ρ)) ∧ Below w0.heap.size w0 w'
end Go.Proofs.Ytodlofeddllpiaa
