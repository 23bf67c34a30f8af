/-
  A ROAD'S CELLS, what the symbolic walk gives of the functions that step a road on, and a block that holds a road. Conditions: those that stand in each.
-/
import Derived.Test.YtlnphdohjelppaaJSums
import Derived.Deep.MidRow
import Derived.Deep.RegionHeld3
import Derived.Handy
import Derived.LoopTactic
import Derived.OwnWalk
import Derived.WalkKit
import Derived.Laws.Rows
import Derived.Lib.Hide
import Derived.Shelf.Abstract
namespace Go.Proofs.Ytlnphdohjelppaa
open Go.RowKit Go.Sx
set_option maxRecDepth 100000
theorem calls_of_to {f : Nat} {vals : Array Value} {w : World} {R : Value → World → Prop} (hen : ∀ w, (callFunc f vals).run Try.prog w = .ok (.enter f vals) w) (h : CallTo Try.prog f vals w R) :
    Calls Try.prog f vals w (fun e w' => ∃ y, e = .returned y ∧ R y w') := by
  rcases h with ⟨_, h⟩ | ⟨y, w', h1, _⟩
  · exact h
  · rw [hen] at h1
    cases h1
theorem noMem (env : Env) (B : Nat) (w : World) : HRep env B w [] := by
  constructor
  · intro j b h
    simp at h
  · intro i j b c g h
    simp at h
/-- Floats as cells. -/
def fl (bs : List Nat) : List Value := bs.map (Value.float .f32)
theorem fl_length (bs : List Nat) : (fl bs).length = bs.length := by simp [fl]
theorem fls_succ (k n : Nat) : Sx.fls k (n + 1) = .s (.f .f32) (.at k) :: Sx.fls (k + 1) n := by
  unfold Sx.fls
  rw [List.range_succ_eq_map, List.map_cons, List.map_map]
  simp only [Nat.add_zero, List.cons.injEq, true_and]
  refine List.map_congr_left fun i _ => ?_
  show SC.s _ (E.at (k + (i + 1))) = SC.s _ (E.at (k + 1 + i))
  rw [Nat.add_right_comm, Nat.add_assoc]
theorem fls_rep {env : Env} : ∀ (bs : List Nat) (k : Nat), (∀ i, i < bs.length → env.ρ (k + i) = nz .f32 (bs.getD i 0)) → (∀ b ∈ bs, b < Sx.bits .f32) →
    Sx.All2 (SC.rep env) (Sx.fls k bs.length) (fl bs)
  | [], _, _, _ => trivial
  | b :: bs, k, h, hb => by
    rw [List.length_cons, fls_succ]
    refine ⟨⟨b, rfl, hb b List.mem_cons_self, (h 0 (by simp)).symm⟩, fls_rep bs (k + 1) (fun i hi => ?_) fun x hx => hb x (List.mem_cons_of_mem _ hx)⟩
    have := h (i + 1) (by simp only [List.length_cons]; omega)
    rw [Nat.add_assoc, Nat.add_comm 1 i, this]
    rfl
theorem fls_back {env : Env} : ∀ (n k : Nat) (vs : List Value), Sx.All2 (SC.rep env) (Sx.fls k n) vs →
    ∃ cs : List Nat, vs = fl cs ∧ cs.length = n ∧ (∀ c ∈ cs, c < Sx.bits .f32) ∧ ∀ i, i < n → (nz .f32 (cs.getD i 0) : Int) = env.ρ (k + i)
  | 0, k, [], _ => ⟨[], rfl, rfl, by simp, fun i h => by omega⟩
  | 0, k, _ :: _, h => h.elim
  | n + 1, k, vs, h => by
    rw [fls_succ] at h
    cases vs with
    | nil => exact h.elim
    | cons v vs =>
      obtain ⟨⟨b, rfl, hb, he⟩, h⟩ := h
      obtain ⟨cs, rfl, rfl, h3, h4⟩ := fls_back n (k + 1) vs h
      refine ⟨b :: cs, rfl, rfl, fun c hc => ?_, fun i hi => ?_⟩
      · rcases List.mem_cons.1 hc with rfl | hc
        · exact hb
        · exact h3 c hc
      · cases i with
        | zero => exact he
        | succ i =>
          have := h4 i (by omega)
          rw [Nat.add_assoc, Nat.add_comm 1 i] at this
          exact this
/-- A road's numbers, up to the pattern of what is no number. -/
def rho (bs : List Nat) : Nat → Int := fun i => (nz .f32 (bs.getD i 0) : Int)
/-- What the tests of a road say. -/
def okR (bs : List Nat) : Bool := tru ((Sx.okRoad 0).den (rho bs))
/-- Nineteen floats. -/
def Road19 (bs : List Nat) : Prop := bs.length = 19 ∧ ∀ b ∈ bs, b < Sx.bits .f32
theorem agg_rep (β : Nat → Option Nat) {bs : List Nat} (h : Road19 bs) : SV.rep ⟨rho bs, β⟩ (Sx.fAgg 0 19) (.agg (fl bs).toArray) := by
  refine ⟨_, rfl, ?_⟩
  show Sx.All2 _ (Sx.fls 0 19) (fl bs)
  rw [← h.1]
  exact fls_rep bs 0 (fun i _ => by rw [Nat.zero_add]; rfl) h.2
theorem toRoad {bs : List Nat} (h : Road19 bs) (w : World) :
    Calls Try.prog 5 #[.agg (fl bs).toArray] w (fun e w' => ∃ cs, e = .returned (.agg (fl cs).toArray) ∧ Road19 cs ∧ rho cs = rho bs ∧ Below w.heap.size w w') := by
  have hs := sToRoadOk sToRoad List.mem_cons_self ⟨rho bs, fun _ => none⟩ 0 w #[.agg (fl bs).toArray] ⟨agg_rep _ h, trivial⟩ (noMem _ _ _) (fun _ _ => rfl)
  refine (calls_of_to (fun w => enters_of Try.func5 (by kernel_rfl) rfl _ w) hs).mono ?_
  rintro e w' ⟨y, rfl, ⟨vs, rfl, hy⟩, hle⟩
  obtain ⟨cs, h1, h2, h3, h4⟩ := fls_back 19 0 _ hy
  refine ⟨cs, ?_, ⟨h2, h3⟩, ?_, hle⟩
  · rw [← h1]
  · funext i
    rcases Nat.lt_or_ge i 19 with g | g
    · have := h4 i g
      rw [Nat.zero_add] at this
      exact this
    · unfold rho
      rw [List.getD_eq_getElem?_getD, List.getElem?_eq_none (by omega), List.getD_eq_getElem?_getD, List.getElem?_eq_none (by have := h.1; omega)]
theorem validRoad {bs : List Nat} (h : Road19 bs) (w : World) :
    Calls Try.prog 31 #[.agg (fl bs).toArray] w (fun e w' => e = .returned (.bool (okR bs)) ∧ Below w.heap.size w w') := by
  have hs := sRoadIOk sRoadI List.mem_cons_self ⟨rho bs, fun _ => none⟩ 0 w #[.agg (fl bs).toArray] ⟨agg_rep _ h, trivial⟩ (noMem _ _ _) (fun _ _ => rfl)
  refine (calls_of_to (fun w => enters_of Try.func31 (by kernel_rfl) rfl _ w) hs).mono ?_
  rintro e w' ⟨y, rfl, hy, hle⟩
  have : y = .bool (okR bs) := hy
  exact ⟨by rw [this], hle⟩
theorem specOk {bs : List Nat} (h : Road19 bs) (w : World) (g : Nat) (T : TypeId) (hg : w.heap[g]? = some (.cells (fl bs).toArray T (0, 0))) :
    Calls Try.prog 11 #[.pointer (some ⟨g, 0, none⟩)] w (fun e w' => e = .returned (.bool (okR bs)) ∧ Below w.heap.size w w') := by
  have hs := sRoadSOk sRoadS List.mem_cons_self ⟨rho bs, fun j => if j = 0 then some g else none⟩ 0 w #[.pointer (some ⟨g, 0, none⟩)] ⟨⟨g, rfl, rfl⟩, trivial⟩ ?_ ?_
  · refine (calls_of_to (fun w => enters_of Try.func11 (by kernel_rfl) rfl _ w) hs).mono ?_
    rintro e w' ⟨y, rfl, hy, hle⟩
    have : y = .bool (okR bs) := hy
    exact ⟨by rw [this], hle⟩
  · constructor
    · intro j b hj
      match j, hj with
      | 0, hj =>
        obtain rfl : b = ⟨Sx.fls 0 19, false, none⟩ := (Option.some.inj (Option.some.inj hj)).symm
        refine ⟨g, _, T, rfl, hg, Pre.of ?_, (fun h => by cases h), fun r h => by cases h⟩
        show Sx.All2 _ (Sx.fls 0 19) (fl bs)
        rw [← h.1]
        exact fls_rep bs 0 (fun i _ => by rw [Nat.zero_add]; rfl) h.2
      | j + 1, hj => simp [sRoadS, Summ.hp] at hj
    · intro i j b c g' hi hj hne
      match i, j, hi, hj with
      | 0, 0, _, _ => exact absurd rfl hne
      | 0, j + 1, _, hj => simp [sRoadS, Summ.hp] at hj
      | i + 1, _, hi, _ => simp [sRoadS, Summ.hp] at hi
  · intro j hj
    have : j ≠ 0 := fun h0 => by subst h0; simp [sRoadS, Summ.hp] at hj
    simp [this]
theorem slotMem {bs : List Nat} (h : Road19 bs) {w : World} {g : Nat} {T : TypeId} (hg : w.heap[g]? = some (.cells (fl bs).toArray T (0, 0))) {s : Summ} (hm : s.mem = [Sx.fls 0 19]) : HRep ⟨rho bs, fun j => if j = 0 then some g else none⟩ 0 w s.hp ∧ ∀ j, s.hp.length ≤ j → (fun j => if j = 0 then some g else none : Nat → Option Nat) j = none := by
  refine ⟨?_, ?_⟩
  · constructor
    · intro j b hj
      match j, hj with
      | 0, hj =>
        obtain rfl : b = ⟨Sx.fls 0 19, false, none⟩ := by
          simp only [Summ.hp, hm] at hj
          exact (Option.some.inj (Option.some.inj hj)).symm
        refine ⟨g, _, T, rfl, hg, Pre.of ?_, (fun h => by cases h), fun r h => by cases h⟩
        show Sx.All2 _ (Sx.fls 0 19) (fl bs)
        rw [← h.1]
        exact fls_rep bs 0 (fun i _ => by rw [Nat.zero_add]; rfl) h.2
      | j + 1, hj => simp [Summ.hp, hm] at hj
    · intro i j b c g' hi hj hne
      match i, j, hi, hj with
      | 0, 0, _, _ => exact absurd rfl hne
      | 0, j + 1, _, hj => simp [Summ.hp, hm] at hj
      | i + 1, _, hi, _ => simp [Summ.hp, hm] at hi
  · intro j hj
    have : j ≠ 0 := fun h0 => by subst h0; simp [Summ.hp, hm] at hj
    simp [this]
theorem sameF (z1 z2 : Nat) (h1 : z1 < Sx.bits .f64) (h2 : z2 < Sx.bits .f64) (h : nz .f64 z1 = nz .f64 z2) (w : World) :
    Calls Try.prog 9 #[.float .f64 z1, .float .f64 z2] w (fun e w' => e = .returned (.bool true) ∧ Below w.heap.size w w') := by
  have hs := sFloatOk sFloat List.mem_cons_self ⟨fun _ => (nz .f64 z1 : Int), fun _ => none⟩ 0 w #[.float .f64 z1, .float .f64 z2]
    ⟨⟨z1, rfl, h1, rfl⟩, ⟨z2, rfl, h2, by show ((nz .f64 z2 : Nat) : Int) = _; rw [← h]; rfl⟩, trivial⟩ (noMem _ _ _) (fun _ _ => rfl)
  refine (calls_of_to (fun w => enters_of Try.func9 (by kernel_rfl) rfl _ w) hs).mono ?_
  rintro e w' ⟨y, rfl, hy, hle⟩
  have : y = .bool true := hy
  exact ⟨by rw [this], hle⟩
/-- A number made wide. -/
theorem wideF (b : Nat) (hb : b < Sx.bits .f32) (w : World) : ∃ z w', (convert 22 36 (.float .f32 b)).run Try.prog w = .ok (.float .f64 z) w' ∧ z < Sx.bits .f64 ∧ nz .f64 z = fCv (nz .f32 b) ∧ Below w.heap.size w w' := by
  obtain ⟨z, w', h1, ⟨q, rfl, h2, h3⟩, h4⟩ := convS_sound (P := Try.prog) (env := ⟨fun _ => (nz .f32 b : Int), fun _ => none⟩) w (src := 22) (dst := 36) (x := .s (.f .f32) (.at 0)) (r := .s (.f .f64) (.u .cv (.at 0))) (by kernel_rfl) (u := .float .f32 b) ⟨b, rfl, hb, rfl⟩
  refine ⟨q, w', h1, h2, ?_, h4.le⟩
  have : ((nz .f64 q : Nat) : Int) = ((fCv (nz .f32 b : Int).toNat : Nat) : Int) := h3
  rw [Int.toNat_natCast] at this
  exact Int.ofNat.inj this
theorem eqR {cs : List Nat} (h : Road19 cs) (w : World) :
    Calls Try.prog 8 #[.agg (fl cs).toArray, .agg (fl cs).toArray] w (fun e w' => e = .returned (.bool true) ∧ Below w.heap.size w w') := by
  have hs := sEqRoadOk sEqRoad List.mem_cons_self ⟨rho cs, fun _ => none⟩ 0 w #[.agg (fl cs).toArray, .agg (fl cs).toArray] ⟨agg_rep _ h, agg_rep _ h, trivial⟩ (noMem _ _ _) (fun _ _ => rfl)
  refine (calls_of_to (fun w => enters_of Try.func8 (by kernel_rfl) rfl _ w) hs).mono ?_
  rintro e w' ⟨y, rfl, hy, hle⟩
  have : y = .bool true := hy
  exact ⟨by rw [this], hle⟩
/-- Block b holds the floats cs. -/
def Slot (w : World) (b : Nat) (cs : List Nat) : Prop := w.heap[b]? = some (.cells (fl cs).toArray 29 (0, 0))
theorem Slot.lt {w : World} {b : Nat} {cs : List Nat} (h : Slot w b cs) : b < w.heap.size := by
  rcases Nat.lt_or_ge b w.heap.size with q | q
  · exact q
  · unfold Slot at h
    rw [Array.getElem?_eq_none q] at h
    cases h
theorem Slot.cell {w : World} {b : Nat} {cs : List Nat} (h : Slot w b cs) (k : Nat) : w.cell? ⟨b, k, none⟩ = (fl cs)[k]? := by
  rw [cell_of_row w b k _ 29 (0, 0) h, List.getElem?_toArray]
theorem Slot.range {w : World} {b : Nat} {cs : List Nat} (h : Slot w b cs) : w.rangeAt b 0 (fl cs) := fun j v hv => by
  rw [Nat.zero_add, h.cell]
  exact hv
theorem Slot.there {w : World} {b : Nat} {cs : List Nat} (h : Slot w b cs) (hl : cs.length = 19) : w.there b 0 19 := fun j hj => by
  rw [Nat.zero_add]
  refine ⟨?_, frozen_of_row w b j _ 29 h⟩
  rw [h.cell, List.getElem?_eq_getElem (by rw [fl_length, hl]; exact hj)]
  rfl
theorem Slot.below {w w' : World} {b B : Nat} {cs : List Nat} (h : Slot w b cs) (hb : Below B w w') (hB : b < B) : Slot w' b cs := by
  unfold Slot
  rw [hb.block b hB]
  exact h
theorem Slot.load {w : World} {b : Nat} {cs : List Nat} (h : Slot w b cs) (hl : cs.length = 19) : (loadVar 29 ⟨b, 0, none⟩).run Try.prog w = .ok (.agg (fl cs).toArray) w :=
  run_loadVar_mid w b 0 29 (fl cs) _ h.range Try.underlying29 rfl (by rw [fl_length, hl]; kernel_rfl)
theorem slot_new (w : World) (cs : List Nat) : Slot (w.alloc (.cells (fl cs).toArray 29)) w.heap.size cs := heap_alloc_new _ _
theorem Slot.alloc {w : World} {b : Nat} {cs : List Nat} (h : Slot w b cs) (o : Obj) : Slot (w.alloc o) b cs := by
  unfold Slot
  rw [Below.heap_alloc _ _ _ h.lt]
  exact h
theorem Slot.drew {w : World} {b : Nat} {cs : List Nat} (h : Slot w b cs) : Slot w.drew b cs := h
theorem heap_cells_other (b i : Nat) (hi : i ≠ b) : ∀ (vs : List Value) (o : Nat) (w : World), (w.setCells b o vs).heap[i]? = w.heap[i]?
  | [], _, _ => rfl
  | v :: r, o, w => by
    rw [World.setCells, heap_cells_other b i hi r, Below.heap_setCell]
    exact hi
theorem heap_cells_same (b : Nat) (T : TypeId) (post : List Value) : ∀ (vs pre mid : List Value) (w : World), w.heap[b]? = some (.cells (pre ++ mid ++ post).toArray T (0, 0)) → mid.length = vs.length →
    (w.setCells b pre.length vs).heap[b]? = some (.cells (pre ++ vs ++ post).toArray T (0, 0))
  | [], pre, [], w, h, _ => h
  | [], _, _ :: _, _, _, hl => by cases hl
  | _ :: _, _, [], _, _, hl => by cases hl
  | v :: r, pre, m :: mid, w, h, hl => by
    rw [World.setCells]
    have h1 := heap_setCell_same w b pre.length _ T v h
    have h2 : (pre ++ m :: mid ++ post).toArray.setIfInBounds pre.length v = ((pre ++ [v]) ++ mid ++ post).toArray := by
      rw [List.setIfInBounds_toArray]
      congr 1
      simp
    rw [h2] at h1
    have h3 := heap_cells_same b T post r (pre ++ [v]) mid _ h1 (by simpa using hl)
    rw [List.length_append] at h3
    have e : pre ++ [v] ++ r ++ post = pre ++ v :: r ++ post := by simp
    rw [e] at h3
    exact h3
theorem Slot.store {w : World} {b : Nat} {cs ds : List Nat} (h : Slot w b cs) (hl : cs.length = ds.length) : Slot (w.setCells b 0 (fl ds)) b ds := by
  have h1 := heap_cells_same b 29 [] (fl ds) [] (fl cs) w (by rw [List.nil_append, List.append_nil]; exact h) (by rw [fl_length, fl_length, hl])
  rw [List.nil_append, List.append_nil] at h1
  exact h1
theorem Slot.apart {w : World} {b b' : Nat} {cs : List Nat} (h : Slot w b cs) (hne : b ≠ b') (o : Nat) (vs : List Value) : Slot (w.setCells b' o vs) b cs := by
  unfold Slot
  rw [heap_cells_other b' b hne]
  exact h
theorem below_cells {B b : Nat} {a w : World} (h : Below B a w) (hb : B ≤ b) (o : Nat) (vs : List Value) : Below B a (w.setCells b o vs) := by
  induction vs generalizing w o with
  | nil => exact h
  | cons v r ih => exact ih (h.setCell (p := ⟨b, o, none⟩) hb v) _
theorem fl_one (cs : List Nat) : (fl cs).toArray.all (·.oneCell') = true := by
  refine Array.all_eq_true_iff_forall_mem.2 fun v hv => ?_
  have : v ∈ fl cs := by simpa using hv
  obtain ⟨b, _, rfl⟩ := List.mem_map.1 this
  rfl
theorem flsize {cs : List Nat} (hl : cs.length = 19) : (Try.prog.info? 29).map (·.size) = some (fl cs).toArray.size := by
  rw [List.size_toArray, fl_length, hl]
  kernel_rfl
theorem flthere {w : World} {b : Nat} {cs : List Nat} (h : w.there b 0 19) (hl : cs.length = 19) : w.there b 0 (fl cs).toArray.size := by
  rw [List.size_toArray, fl_length, hl]
  exact h
/-- The zero road. -/
def z19 : List Nat := [0, 0, 0, 0, 0, 0, 0, 0, 0, 0, 0, 0, 0, 0, 0, 0, 0, 0, 0]
theorem z19_road : Road19 z19 := ⟨rfl, by decide⟩
end Go.Proofs.Ytlnphdohjelppaa
