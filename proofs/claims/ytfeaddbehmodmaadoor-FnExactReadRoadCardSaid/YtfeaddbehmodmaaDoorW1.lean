/-
  A BLOCK THAT HOLDS A ROAD: loads, stores, what is kept. Conditions: those that stand in each.
-/
import Derived.Test.YtfeaddbehmodmaaDoorS3
namespace Go.Proofs.YtfeaddbehmodmaaDoor
open Go.RowKit
set_option maxRecDepth 100000
/-- Block b holds the floats cs. -/
def Slot (w : World) (b : Nat) (cs : List Nat) : Prop := w.heap[b]? = some (.cells (fl cs).toArray 36 (0, 0))
theorem Slot.lt {w : World} {b : Nat} {cs : List Nat} (h : Slot w b cs) : b < w.heap.size := by
  rcases Nat.lt_or_ge b w.heap.size with q | q
  · exact q
  · unfold Slot at h
    rw [Array.getElem?_eq_none q] at h
    cases h
theorem Slot.cell {w : World} {b : Nat} {cs : List Nat} (h : Slot w b cs) (k : Nat) : w.cell? ⟨b, k, none⟩ = (fl cs)[k]? := by
  rw [cell_of_row w b k _ 36 (0, 0) h, List.getElem?_toArray]
theorem Slot.range {w : World} {b : Nat} {cs : List Nat} (h : Slot w b cs) : w.rangeAt b 0 (fl cs) := fun j v hv => by
  rw [Nat.zero_add, h.cell]
  exact hv
theorem Slot.there {w : World} {b : Nat} {cs : List Nat} (h : Slot w b cs) (hl : cs.length = 19) : w.there b 0 19 := fun j hj => by
  rw [Nat.zero_add]
  refine ⟨?_, frozen_of_row w b j _ 36 h⟩
  rw [h.cell, List.getElem?_eq_getElem (by rw [fl_length, hl]; exact hj)]
  rfl
theorem Slot.below {w w' : World} {b B : Nat} {cs : List Nat} (h : Slot w b cs) (hb : Below B w w') (hB : b < B) : Slot w' b cs := by
  unfold Slot
  rw [hb.block b hB]
  exact h
theorem Slot.load {w : World} {b : Nat} {cs : List Nat} (h : Slot w b cs) (hl : cs.length = 19) : (loadVar 36 ⟨b, 0, none⟩).run Tryd.prog w = .ok (.agg (fl cs).toArray) w :=
  run_loadVar_mid w b 0 36 (fl cs) _ h.range Tryd.underlying36 rfl (by rw [fl_length, hl]; kernel_rfl)
theorem slot_new (w : World) (cs : List Nat) : Slot (w.alloc (.cells (fl cs).toArray 36)) w.heap.size cs := heap_alloc_new _ _
theorem Slot.alloc {w : World} {b : Nat} {cs : List Nat} (h : Slot w b cs) (o : Obj) : Slot (w.alloc o) b cs := by
  unfold Slot
  rw [Below.heap_alloc _ _ _ h.lt]
  exact h
theorem Slot.drew {w : World} {b : Nat} {cs : List Nat} (h : Slot w b cs) : Slot w.drew b cs := h
theorem heap_cells_other (b i : Nat) (hi : i ≠ b) : ∀ (vs : List Value) (o : Nat) (w : World), (w.setCells b o vs).heap[i]? = w.heap[i]?
  | [], _, _ => rfl
  | v :: r, o, w => by
    rw [World.setCells, heap_cells_other b i hi r, Below.heap_setCell]
    exact hi
theorem heap_cells_same (b : Nat) (T : TypeId) (post : List Value) : ∀ (vs pre mid : List Value) (w : World), w.heap[b]? = some (.cells (pre ++ mid ++ post).toArray T (0, 0)) → mid.length = vs.length →
    (w.setCells b pre.length vs).heap[b]? = some (.cells (pre ++ vs ++ post).toArray T (0, 0))
  | [], pre, [], w, h, _ => h
  | [], _, _ :: _, _, _, hl => by cases hl
  | _ :: _, _, [], _, _, hl => by cases hl
  | v :: r, pre, m :: mid, w, h, hl => by
    rw [World.setCells]
    have h1 := heap_setCell_same w b pre.length _ T v h
    have h2 : (pre ++ m :: mid ++ post).toArray.setIfInBounds pre.length v = ((pre ++ [v]) ++ mid ++ post).toArray := by
      rw [List.setIfInBounds_toArray]
      congr 1
      simp
    rw [h2] at h1
    have h3 := heap_cells_same b T post r (pre ++ [v]) mid _ h1 (by simpa using hl)
    rw [List.length_append] at h3
    have e : pre ++ [v] ++ r ++ post = pre ++ v :: r ++ post := by simp
    rw [e] at h3
    exact h3
theorem Slot.store {w : World} {b : Nat} {cs ds : List Nat} (h : Slot w b cs) (hl : cs.length = ds.length) : Slot (w.setCells b 0 (fl ds)) b ds := by
  have h1 := heap_cells_same b 36 [] (fl ds) [] (fl cs) w (by rw [List.nil_append, List.append_nil]; exact h) (by rw [fl_length, fl_length, hl])
  rw [List.nil_append, List.append_nil] at h1
  exact h1
theorem Slot.apart {w : World} {b b' : Nat} {cs : List Nat} (h : Slot w b cs) (hne : b ≠ b') (o : Nat) (vs : List Value) : Slot (w.setCells b' o vs) b cs := by
  unfold Slot
  rw [heap_cells_other b' b hne]
  exact h
theorem below_cells {B b : Nat} {a w : World} (h : Below B a w) (hb : B ≤ b) (o : Nat) (vs : List Value) : Below B a (w.setCells b o vs) := by
  induction vs generalizing w o with
  | nil => exact h
  | cons v r ih => exact ih (h.setCell (p := ⟨b, o, none⟩) hb v) _
theorem fl_one (cs : List Nat) : (fl cs).toArray.all (·.oneCell') = true := by
  refine Array.all_eq_true_iff_forall_mem.2 fun v hv => ?_
  have : v ∈ fl cs := by simpa using hv
  obtain ⟨b, _, rfl⟩ := List.mem_map.1 this
  rfl
theorem flsize {cs : List Nat} (hl : cs.length = 19) : (Tryd.prog.info? 36).map (·.size) = some (fl cs).toArray.size := by
  rw [List.size_toArray, fl_length, hl]
  kernel_rfl
theorem flthere {w : World} {b : Nat} {cs : List Nat} (h : w.there b 0 19) (hl : cs.length = 19) : w.there b 0 (fl cs).toArray.size := by
  rw [List.size_toArray, fl_length, hl]
  exact h
/-- The zero road. -/
def z19 : List Nat := [0, 0, 0, 0, 0, 0, 0, 0, 0, 0, 0, 0, 0, 0, 0, 0, 0, 0, 0]
theorem z19_road : Road19 z19 := ⟨rfl, by decide⟩
/-- A row of values at the head of a block of the call's own. -/
def RowAt (w : World) (B : Nat) (xs : List Value) (v : Value) : Prop := ∃ g cap, v = .slice (some ⟨g, 0, none⟩) xs.length cap ∧ B ≤ g ∧ g < w.heap.size ∧ xs.length ≤ cap ∧ ∀ j u, xs[j]? = some u → w.cell? ⟨g, j, none⟩ = some u
theorem rowAt {w : World} {B : Nat} {e : TypeId} {xs : List Value} {v : Value} (h : w.ownsRow B e 1 v xs.length xs) (hn : 0 < xs.length) : RowAt w B xs v := by
  rcases h.2 with ⟨_, h0⟩ | ⟨g, cap, cur, rfl, h1, h2, h3, _⟩
  · omega
  · refine ⟨g, cap, rfl, h1, ?_, h3, fun j u hj => ?_⟩
    · rcases Nat.lt_or_ge g w.heap.size with q | q
      · exact q
      · rw [Array.getElem?_eq_none q] at h2; cases h2
    · have := h.cells (g := g) rfl j u hj
      rw [Addr.add_lit, Nat.zero_add] at this
      exact this
theorem results_cell {P : Program} {fn : Func} {t u : Tmp} {ty : TypeId} (h : fn.results = #[.cell t ty, .tmp u]) (tmps : Array Value) {p : Addr} {v : Value} {w : World} (hp : tmps.getD t undef = .pointer (some p)) (hl : (loadVar ty p).run P w = .ok v w) :
    (results fn tmps).run P w = .ok (.tuple #[v, tmps.getD u undef]) w := by
  have h1 : (asAddr (tmps.getD t undef)).run P w = .ok p w := by rw [hp]; rfl
  unfold results
  rw [h]
  simp only [List.mapM_toArray, List.mapM_cons, List.mapM_nil, Sem.run_bind, Sem.run_pure, Result.andThen_ok, Sem.run_map, h1, hl]
  rfl
end Go.Proofs.YtfeaddbehmodmaaDoor
