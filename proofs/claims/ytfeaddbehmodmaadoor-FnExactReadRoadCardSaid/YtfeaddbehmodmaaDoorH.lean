/-
  A ROAD'S CELLS: a list of nineteen floats, and what the symbolic walk gives of the functions that copy and test a road. Conditions: those that stand in each.
-/
import Derived.Test.YtfeaddbehmodmaaDoorG
namespace Go.Proofs.YtfeaddbehmodmaaDoor
open Go.RowKit Go.Sx
set_option maxRecDepth 100000
theorem nb_nz (x : Nat) : nb x = nz .f32 x := by
  have h : (FloatKind.f32.format.order x x != some .eq) = (FloatKind.f32.format.read x).isNaN := by
    unfold Ieee.Format.order
    cases FloatKind.f32.format.read x with
    | nan s t => rfl
    | infinity s => cases s <;> rfl
    | number s m i => simp [Ieee.Datum.order, Ieee.Datum.isNaN, Std.ReflCmp.compare_self]
  unfold nb nz isN
  rw [h]
  rfl
/-- Floats as cells. -/
def fl (bs : List Nat) : List Value := bs.map (Value.float .f32)
theorem fl_length (bs : List Nat) : (fl bs).length = bs.length := by simp [fl]
theorem fls_succ (k n : Nat) : Sx.fls k (n + 1) = .s (.f .f32) (.at k) :: Sx.fls (k + 1) n := by
  unfold Sx.fls
  rw [List.range_succ_eq_map, List.map_cons, List.map_map]
  simp only [Nat.add_zero, List.cons.injEq, true_and]
  refine List.map_congr_left fun i _ => ?_
  show SC.s _ (E.at (k + (i + 1))) = SC.s _ (E.at (k + 1 + i))
  rw [Nat.add_right_comm, Nat.add_assoc]
theorem fls_rep {env : Env} : ∀ (bs : List Nat) (k : Nat), (∀ i, i < bs.length → env.ρ (k + i) = nz .f32 (bs.getD i 0)) → (∀ b ∈ bs, b < Sx.bits .f32) →
    Sx.All2 (SC.rep env) (Sx.fls k bs.length) (fl bs)
  | [], _, _, _ => trivial
  | b :: bs, k, h, hb => by
    rw [List.length_cons, fls_succ]
    refine ⟨⟨b, rfl, hb b List.mem_cons_self, (h 0 (by simp)).symm⟩, fls_rep bs (k + 1) (fun i hi => ?_) fun x hx => hb x (List.mem_cons_of_mem _ hx)⟩
    have := h (i + 1) (by simp only [List.length_cons]; omega)
    rw [Nat.add_assoc, Nat.add_comm 1 i, this]
    rfl
theorem fls_back {env : Env} : ∀ (n k : Nat) (vs : List Value), Sx.All2 (SC.rep env) (Sx.fls k n) vs →
    ∃ cs : List Nat, vs = fl cs ∧ cs.length = n ∧ (∀ c ∈ cs, c < Sx.bits .f32) ∧ ∀ i, i < n → (nz .f32 (cs.getD i 0) : Int) = env.ρ (k + i)
  | 0, k, [], _ => ⟨[], rfl, rfl, by simp, fun i h => by omega⟩
  | 0, k, _ :: _, h => h.elim
  | n + 1, k, vs, h => by
    rw [fls_succ] at h
    cases vs with
    | nil => exact h.elim
    | cons v vs =>
      obtain ⟨⟨b, rfl, hb, he⟩, h⟩ := h
      obtain ⟨cs, rfl, rfl, h3, h4⟩ := fls_back n (k + 1) vs h
      refine ⟨b :: cs, rfl, rfl, fun c hc => ?_, fun i hi => ?_⟩
      · rcases List.mem_cons.1 hc with rfl | hc
        · exact hb
        · exact h3 c hc
      · cases i with
        | zero => exact he
        | succ i =>
          have := h4 i (by omega)
          rw [Nat.add_assoc, Nat.add_comm 1 i] at this
          exact this
/-- A road's numbers, up to the pattern of what is no number. -/
def rho (bs : List Nat) : Nat → Int := fun i => (nz .f32 (bs.getD i 0) : Int)
/-- What the tests of a road say. -/
def okR (bs : List Nat) : Bool := tru ((Sx.okRoad 0).den (rho bs))
/-- Nineteen floats. -/
def Road19 (bs : List Nat) : Prop := bs.length = 19 ∧ ∀ b ∈ bs, b < Sx.bits .f32
theorem agg_rep (β : Nat → Option Nat) {bs : List Nat} (h : Road19 bs) : SV.rep ⟨rho bs, β⟩ (Sx.fAgg 0 19) (.agg (fl bs).toArray) := by
  refine ⟨_, rfl, ?_⟩
  show Sx.All2 _ (Sx.fls 0 19) (fl bs)
  rw [← h.1]
  exact fls_rep bs 0 (fun i _ => by rw [Nat.zero_add]; rfl) h.2
theorem toRoad {bs : List Nat} (h : Road19 bs) (w : World) :
    Calls Tryd.prog 13 #[.agg (fl bs).toArray] w (fun e w' => ∃ cs, e = .returned (.agg (fl cs).toArray) ∧ Road19 cs ∧ rho cs = rho bs ∧ Below w.heap.size w w') := by
  have hs := sToRoadOk sToRoad List.mem_cons_self ⟨rho bs, fun _ => none⟩ 0 w #[.agg (fl bs).toArray] ⟨agg_rep _ h, trivial⟩ (noMem _ _ _) (fun _ _ => rfl)
  refine (calls_of_to (fun w => enters_of Tryd.func13 (by kernel_rfl) rfl _ w) hs).mono ?_
  rintro e w' ⟨y, rfl, ⟨vs, rfl, hy⟩, hle⟩
  obtain ⟨cs, h1, h2, h3, h4⟩ := fls_back 19 0 _ hy
  refine ⟨cs, ?_, ⟨h2, h3⟩, ?_, hle⟩
  · rw [← h1]
  · funext i
    rcases Nat.lt_or_ge i 19 with g | g
    · have := h4 i g
      rw [Nat.zero_add] at this
      exact this
    · unfold rho
      rw [List.getD_eq_getElem?_getD, List.getElem?_eq_none (by omega), List.getD_eq_getElem?_getD, List.getElem?_eq_none (by have := h.1; omega)]
theorem validRoad {bs : List Nat} (h : Road19 bs) (w : World) :
    Calls Tryd.prog 28 #[.agg (fl bs).toArray] w (fun e w' => e = .returned (.bool (okR bs)) ∧ Below w.heap.size w w') := by
  have hs := sRoadIOk sRoadI List.mem_cons_self ⟨rho bs, fun _ => none⟩ 0 w #[.agg (fl bs).toArray] ⟨agg_rep _ h, trivial⟩ (noMem _ _ _) (fun _ _ => rfl)
  refine (calls_of_to (fun w => enters_of Tryd.func28 (by kernel_rfl) rfl _ w) hs).mono ?_
  rintro e w' ⟨y, rfl, hy, hle⟩
  have : y = .bool (okR bs) := hy
  exact ⟨by rw [this], hle⟩
theorem specOk {bs : List Nat} (h : Road19 bs) (w : World) (g : Nat) (T : TypeId) (hg : w.heap[g]? = some (.cells (fl bs).toArray T (0, 0))) :
    Calls Tryd.prog 25 #[.pointer (some ⟨g, 0, none⟩)] w (fun e w' => e = .returned (.bool (okR bs)) ∧ Below w.heap.size w w') := by
  have hs := sRoadSOk sRoadS List.mem_cons_self ⟨rho bs, fun j => if j = 0 then some g else none⟩ 0 w #[.pointer (some ⟨g, 0, none⟩)] ⟨⟨g, rfl, rfl⟩, trivial⟩ ?_ ?_
  · refine (calls_of_to (fun w => enters_of Tryd.func25 (by kernel_rfl) rfl _ w) hs).mono ?_
    rintro e w' ⟨y, rfl, hy, hle⟩
    have : y = .bool (okR bs) := hy
    exact ⟨by rw [this], hle⟩
  · constructor
    · intro j b hj
      match j, hj with
      | 0, hj =>
        obtain rfl : b = ⟨Sx.fls 0 19, false, none⟩ := (Option.some.inj (Option.some.inj hj)).symm
        refine ⟨g, _, T, rfl, hg, Pre.of ?_, (fun h => by cases h), fun r h => by cases h⟩
        show Sx.All2 _ (Sx.fls 0 19) (fl bs)
        rw [← h.1]
        exact fls_rep bs 0 (fun i _ => by rw [Nat.zero_add]; rfl) h.2
      | j + 1, hj => simp [sRoadS, Summ.hp] at hj
    · intro i j b c g' hi hj hne
      match i, j, hi, hj with
      | 0, 0, _, _ => exact absurd rfl hne
      | 0, j + 1, _, hj => simp [sRoadS, Summ.hp] at hj
      | i + 1, _, hi, _ => simp [sRoadS, Summ.hp] at hi
  · intro j hj
    have : j ≠ 0 := fun h0 => by subst h0; simp [sRoadS, Summ.hp] at hj
    simp [this]
theorem okR_eq {bs cs : List Nat} (h : rho cs = rho bs) : okR cs = okR bs := by unfold okR; rw [h]
end Go.Proofs.YtfeaddbehmodmaaDoor
