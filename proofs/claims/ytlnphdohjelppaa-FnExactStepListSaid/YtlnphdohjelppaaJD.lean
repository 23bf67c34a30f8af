/-
  THE LAW'S COPY OF A SLICE OF NUMBERS, walked. Conditions: those that stand in each.
-/
import Derived.Test.YtlnphdohjelppaaJB
import Derived.Laws.MakeOwn
namespace Go.Proofs.Ytlnphdohjelppaa
open Go.RowKit
set_option maxRecDepth 100000
theorem made1 (v : Value) (n : Nat) : madeCells #[v] n = (List.replicate n v).toArray := by
  apply Array.ext
  · simp [madeCells]
  · intro i h1 h2
    simp [madeCells, Nat.mod_one]
theorem add_block (a : Addr) (k : Nat) : (a.add k).block = a.block := by unfold Addr.add; split <;> rfl
/-- Block g holds the numbers xs. -/
def RowF (w : World) (g : Nat) (xs : List Nat) : Prop := w.heap[g]? = some (.cells (fl xs).toArray 22 (0, 0))
theorem RowF.lt {w : World} {g : Nat} {xs : List Nat} (h : RowF w g xs) : g < w.heap.size := by
  rcases Nat.lt_or_ge g w.heap.size with q | q
  · exact q
  · unfold RowF at h
    rw [Array.getElem?_eq_none q] at h
    cases h
theorem RowF.cell {w : World} {g : Nat} {xs : List Nat} (h : RowF w g xs) {k : Nat} (hk : k < xs.length) : w.cell? ⟨g, k, none⟩ = some (.float .f32 (xs.getD k 0)) := by
  rw [cell_of_row w g k _ 22 (0, 0) h, List.getElem?_toArray]
  unfold fl
  rw [List.getElem?_map, List.getElem?_eq_getElem hk, List.getD_eq_getElem?_getD, List.getElem?_eq_getElem hk]
  rfl
theorem RowF.below {w w' : World} {g B : Nat} {xs : List Nat} (h : RowF w g xs) (hb : Below B w w') (hB : g < B) : RowF w' g xs := by
  unfold RowF
  rw [hb.block g hB]
  exact h
theorem RowF.set {w : World} {g : Nat} {xs : List Nat} (h : RowF w g xs) (k x : Nat) : RowF (w.setCell ⟨g, k, none⟩ (.float .f32 x)) g (xs.set k x) := by
  have h1 := heap_setCell_same w g k _ 22 (.float .f32 x) h
  unfold RowF
  rw [h1, List.setIfInBounds_toArray]
  unfold fl
  rw [List.map_set]
theorem store_fl {w : World} {b k x : Nat} {u : Value} (h : w.cell? ⟨b, k, none⟩ = some u) (hf : w.frozen? ⟨b, k, none⟩ = false) : (store ⟨b, k, none⟩ (.float .f32 x)).run Try.prog w = .ok () (w.setCell ⟨b, k, none⟩ (.float .f32 x)) := by
  rw [run_store _ _ _ _ _ rfl, h]
  simp only [hf]
  rfl
/-- A slice of numbers that came in. -/
def ArgF (w : World) (v : Value) (xs : List Nat) : Prop := ∃ sa cap, v = .slice sa xs.length cap ∧ (0 < xs.length → ∃ a : Addr, sa = some a ∧ a.block < w.heap.size ∧ ∀ k, k < xs.length → w.cell? (a.add k) = some (.float .f32 (xs.getD k 0)))
theorem ArgF.below {w w' : World} {v : Value} {xs : List Nat} (h : ArgF w v xs) (hb : Below w.heap.size w w') : ArgF w' v xs := by
  obtain ⟨sa, cap, e, h⟩ := h
  refine ⟨sa, cap, e, fun h0 => ?_⟩
  obtain ⟨a, h1, h2, h3⟩ := h h0
  refine ⟨a, h1, Nat.lt_of_lt_of_le h2 hb.size, fun k hk => ?_⟩
  rw [hb.cell (p := a.add k) (by rw [add_block]; exact h2)]
  exact h3 k hk
/-- The first k numbers copied. -/
def cp (xs : List Nat) (k : Nat) : List Nat := xs.take k ++ List.replicate (xs.length - k) 0
theorem cp_length {xs : List Nat} {k : Nat} (h : k ≤ xs.length) : (cp xs k).length = xs.length := by
  unfold cp
  simp only [List.length_append, List.length_take, List.length_replicate]
  omega
theorem cp_all (xs : List Nat) : cp xs xs.length = xs := by simp [cp]
theorem cp_set {xs : List Nat} {k : Nat} (h : k < xs.length) : (cp xs k).set k (xs.getD k 0) = cp xs (k + 1) := by
  unfold cp
  have h1 : (xs.take k).length = k := by rw [List.length_take]; omega
  have h2 : xs.length - k = (xs.length - (k + 1)) + 1 := by omega
  rw [h2, List.replicate_succ, List.set_append_right _ _ (by omega), h1, Nat.sub_self, List.set_cons_zero, List.take_add_one, List.getElem?_eq_getElem h, List.getD_eq_getElem?_getD, List.getElem?_eq_getElem h, List.append_assoc]
  rfl
/-- What the copy is. -/
def RetF (w0 : World) (xs : List Nat) (r : Ending) (w' : World) : Prop := ∃ g, r = .returned (.slice (some ⟨g, 0, none⟩) xs.length xs.length) ∧ w0.heap.size ≤ g ∧ RowF w' g xs ∧ Below w0.heap.size w0 w'
set_option maxHeartbeats 800000
theorem toF (xs : List Nat) (hn : xs.length ≤ 1048576) (v : Value) (w : World) (h : ArgF w v xs) : Calls Try.prog 6 #[v] w (RetF w xs) := by
  obtain ⟨sa, cap, rfl, hs⟩ := h
  have hz : Try.t22.zero = some (.float .f32 0) := by kernel_rfl
  have hb4 : Try.t22.bytes = 4 := by kernel_rfl
  have hsz : Try.t22.size = 1 := by kernel_rfl
  obtain ⟨n, hnn⟩ : ∃ n, n = xs.length := ⟨_, rfl⟩
  have hmk : (Instr.makeSlice 26 (.int .i64 n) (.int .i64 n)).run Try.prog w = .ok (.slice (some ⟨w.heap.size, 0, none⟩) n n) (w.alloc (.cells (madeCells #[.float .f32 0] n) 22)) := by
    have := run_make (P := Try.prog) w 26 22 Try.t22 (.float .f32 0) Try.underlying26 Try.type22 hz .i64 .i64 n n (by omega) (Int.le_refl _) (by rw [hb4]; omega) (by omega)
    simpa [hsz, Value.cells] using this
  have hR0 : RowF (w.alloc (.cells (madeCells #[.float .f32 0] n) 22)) w.heap.size (cp xs 0) := by
    unfold RowF
    rw [heap_alloc_new, made1, hnn]
    simp [fl, cp]
  have hB0 : Below w.heap.size w (w.alloc (.cells (madeCells #[.float .f32 0] n) 22)) := (Below.refl _ _).alloc (Nat.le_refl _) _
  rw [← hnn] at hs ⊢
  have HN : Hid (n = xs.length) := hnn
  have HR : Hid (RowF (w.alloc (.cells (madeCells #[.float .f32 0] n) 22)) w.heap.size (cp xs 0)) := hR0
  have HB : Hid (Below w.heap.size w (w.alloc (.cells (madeCells #[.float .f32 0] n) 22))) := hB0
  have hn' : n ≤ 1048576 := by omega
  clear hnn hz hb4 hsz hR0 hB0
  go_enter Try.func6, Try.ntmps6
  go_wp2
  go_loopw [4] (fun vi wr => ∃ (k : Nat), vi = .int .i64 k ∧ k ≤ n ∧ Hid (RowF wr w.heap.size (cp xs k)) ∧ Hid (Below w.heap.size w wr))
    (fun vi _ => n - (intOf vi).toNat)
  case atStart => exact ⟨0, rfl, by omega, HR, HB⟩
  case round =>
    obtain ⟨k, rfl, hk, hr, hbw⟩ := hrel
    clear HR HB
    by_cases hkn : k < n
    · have hki : (k : Int) < (n : Int) := by omega
      obtain ⟨a, rfl, ha, hc⟩ := hs (by omega)
      have hkx : k < xs.length := by have := HN.out; omega
      have hck : wr.cell? (a.add k) = some (.float .f32 (xs.getD k 0)) := by
        rw [hbw.out.cell (p := a.add k) (by rw [add_block]; exact ha)]
        exact hc k (by omega)
      have hcell := hr.out.cell (k := k) (by rw [cp_length (by omega)]; exact hkx)
      have hfz := frozen_of_row wr w.heap.size k _ 22 hr.out
      have hst := store_fl (x := xs.getD k 0) hcell hfz
      have hRN : Hid (RowF (wr.setCell ⟨w.heap.size, k, none⟩ (.float .f32 (xs.getD k 0))) w.heap.size (cp xs (k + 1))) := by
        show RowF _ _ _
        rw [← cp_set hkx]
        exact hr.out.set k _
      have hBN : Hid (Below w.heap.size w (wr.setCell ⟨w.heap.size, k, none⟩ (.float .f32 (xs.getD k 0)))) := hbw.out.setCell (p := ⟨w.heap.size, k, none⟩) (Nat.le_refl _) _
      generalize xs.getD k 0 = c at *
      clear hs hc hcell hfz
      go_wp2
      refine ⟨⟨k + 1, (by first | rfl | (congr 1; omega)), by omega, hRN, hBN⟩, by simp only [intOf]; omega⟩
    · have hki : (n : Int) ≤ (k : Int) := by omega
      have HO : Hid (RowF wr w.heap.size xs) := by
        have h1 := hr.out
        have h2 : k = xs.length := by have := HN.out; omega
        rw [h2, cp_all] at h1
        exact h1
      clear hr
      go_wp2
      go_ret
      refine ⟨w.heap.size, ?_, Nat.le_refl _, HO.out, hbw.out⟩
      rw [← HN.out]
      rfl
end Go.Proofs.Ytlnphdohjelppaa
