/-
  THE LAW'S HELPERS ON A LIST OF PAIRS: marks laid into it, and looked for, walked. Conditions: those that stand in each.
-/
import Derived.Test.YtodlofeddllpiaaJE
namespace Go.Proofs.Ytodlofeddllpiaa
open Go.RowKit Go.Jm
set_option maxRecDepth 100000
/-- The first q cells marked. -/
def mkd (q : Nat) (xs : List Value) : List Value := (List.range q).map (fun (j : Nat) => Value.int .i64 ((j : Int) + 1)) ++ xs.drop q
theorem mkd_zero (xs : List Value) : mkd 0 xs = xs := by simp [mkd]
theorem mkd_length {q : Nat} {xs : List Value} (h : q ≤ xs.length) : (mkd q xs).length = xs.length := by
  unfold mkd
  simp only [List.length_append, List.length_map, List.length_range, List.length_drop]
  omega
theorem mkd_set {q : Nat} {xs : List Value} (h : q < xs.length) : (mkd q xs).set q (.int .i64 ((q : Int) + 1)) = mkd (q + 1) xs := by
  unfold mkd
  have e : xs.drop q = xs[q] :: xs.drop (q + 1) := List.drop_eq_getElem_cons h
  rw [e, List.set_append_right _ _ (by simp), List.range_succ]
  simp only [List.length_map, List.length_range, Nat.sub_self, List.set_cons_zero, List.map_append, List.map_cons, List.map_nil, List.append_assoc, List.cons_append, List.nil_append]
theorem mkd_get {q n : Nat} {xs : List Value} (h : q < n) : (mkd n xs)[q]? = some (.int .i64 ((q : Int) + 1)) := by
  unfold mkd
  rw [List.getElem?_append_left (by simp [h]), List.getElem?_map, List.getElem?_range h]
  rfl
set_option maxHeartbeats 800000
/-- What the marking leaves. -/
def RetM (w0 : World) (B n : Nat) (v : Value) (xs : List Value) (r : Ending) (w' : World) : Prop := r = .returned (.int .i64 (((n * 2 : Nat) : Int) + 1)) ∧ w'.ownsRow B 39 2 v n (mkd (n * 2) xs) ∧ Below B w0 w'
theorem markRow (n : Nat) (hn : n ≤ 16) (B : Nat) (v : Value) (xs : List Value) (w : World) (h : w.ownsRow B 39 2 v n xs) :
    Calls Try.prog 8 #[v, .int .i64 1] w (RetM w B n v xs) := by
  obtain ⟨sa, cap, rfl, hs⟩ := rowForm h
  have hxl : Hid (xs.length = n * 2) := h.1
  go_enter Try.func8, Try.ntmps8
  go_wp2
  go_loopw [1, 5] (fun v1 vi wr => ∃ (i q : Nat), v1 = .int .i64 ((q : Int) + 1) ∧ vi = .int .i64 i ∧ i ≤ n ∧ q ≤ 32 ∧ Hid (q = i * 2) ∧ Hid (wr.ownsRow B 39 2 (.slice sa n cap) n (mkd q xs)) ∧ Hid (Below B w wr))
    (fun _ vi _ => n - (intOf vi).toNat)
  case atStart => exact ⟨0, 0, rfl, rfl, by omega, by omega, rfl, by show World.ownsRow _ _ _ _ _ _ (mkd 0 xs); rw [mkd_zero]; exact h, Below.refl _ _⟩
  case round =>
    obtain ⟨i, q, rfl, rfl, hi, hq, hqi, hown, hbw⟩ := hrel
    clear h
    by_cases hin : i < n
    · have hii : (i : Int) < (n : Int) := by omega
      obtain ⟨g, rfl, hBg, hg⟩ := hs (by omega)
      clear hs
      go_wp2
      go_loopw [1, 6] (fun v1 vj wr => ∃ (j q' : Nat), v1 = .int .i64 ((q' : Int) + 1) ∧ vj = .int .i64 j ∧ j ≤ 2 ∧ q' ≤ 32 ∧ Hid (q' = i * 2 + j) ∧ Hid (wr.ownsRow B 39 2 (.slice (some ⟨g, 0, none⟩) n cap) n (mkd q' xs)) ∧ Hid (Below B w wr))
        (fun _ vj _ => 2 - (intOf vj).toNat)
      case atStart => exact ⟨0, q, rfl, rfl, by omega, hq, hqi, hown, hbw⟩
      case round =>
        obtain ⟨j, q', rfl, rfl, hj, hq', hqj, hown', hbw'⟩ := hrel
        clear hown hbw hqi hq
        by_cases hj2 : j < 2
        · have hji : (j : Int) < 2 := by omega
          have hqe : q' = i * 2 + j := hqj.out
          have hlt : q' < xs.length := by have := hxl.out; omega
          have hset := ownsSet hown'.out q' (.int .i64 ((q' : Int) + 1))
          rw [mkd_set hlt] at hset
          obtain ⟨u, hu⟩ : ∃ u, (mkd q' xs)[q']? = some u := ⟨_, List.getElem?_eq_getElem (by rw [mkd_length (by omega)]; exact hlt)⟩
          have hcell := ownsCell hown'.out _ hu
          have hfz := ownsFrozen hown'.out q'
          have HO : Hid ((wr.setCell ⟨g, i * 2 + j, none⟩ (.int .i64 ((q' : Int) + 1))).ownsRow B 39 2 (.slice (some ⟨g, 0, none⟩) n cap) n (mkd (q' + 1) xs)) := by rw [← hqe]; exact hset
          have HB : Hid (Below B w (wr.setCell ⟨g, i * 2 + j, none⟩ (.int .i64 ((q' : Int) + 1)))) := hbw'.out.setCell (p := ⟨g, i * 2 + j, none⟩) hBg _
          have HQ : Hid (q' + 1 = i * 2 + (j + 1)) := by show q' + 1 = _; omega
          have hq31 : q' < 32 := by have := hxl.out; omega
          have hcell' : wr.cell? ⟨g, i * 2 + j, none⟩ = some u := by rw [← hqe]; exact hcell
          have hfz' : wr.frozen? ⟨g, i * 2 + j, none⟩ = false := by rw [← hqe]; exact hfz
          clear hset hu hcell hfz hqe hqj hown' hbw'
          go_wp2
          refine ⟨⟨j + 1, q' + 1, (by first | rfl | (congr 1; omega)), (by first | rfl | (congr 1; omega)), by omega, by omega, HQ, HO, HB⟩, by simp only [intOf]; omega⟩
        · have hji : (2 : Int) ≤ (j : Int) := by omega
          have HQ : Hid (q' = (i + 1) * 2) := by have := hqj.out; show q' = _; omega
          clear hqj
          go_wp2
          refine ⟨⟨i + 1, q', rfl, (by first | rfl | (congr 1; omega)), by omega, hq', HQ, hown', hbw'⟩, by simp only [intOf]; omega⟩
    · have hii : (n : Int) ≤ (i : Int) := by omega
      have hqe : q = n * 2 := by have := hqi.out; omega
      have HO : Hid (wr.ownsRow B 39 2 (.slice sa n cap) n (mkd (n * 2) xs) ∧ Below B w wr) := by rw [← hqe]; exact ⟨hown.out, hbw.out⟩
      have HQ : Hid (q = n * 2) := hqe
      clear hown hbw hqe hqi
      go_wp2
      go_ret
      exact ⟨by rw [← HQ.out]; rfl, HO.out⟩
theorem heldRow (n : Nat) (hn : n ≤ 16) (B : Nat) (v : Value) (xs : List Value) (w : World) (h : w.ownsRow B 39 2 v n (mkd (n * 2) xs)) :
    Calls Try.prog 9 #[v, .int .i64 1] w (fun e w' => e = .returned (.int .i64 (((n * 2 : Nat) : Int) + 1)) ∧ w = w') := by
  obtain ⟨sa, cap, rfl, hs⟩ := rowForm h
  have H : Hid (w.ownsRow B 39 2 (.slice sa n cap) n (mkd (n * 2) xs)) := h
  clear h
  go_enter Try.func9, Try.ntmps9
  go_wp2
  go_loop [1, 5] (fun v1 vi => ∃ (i q : Nat), v1 = .int .i64 ((q : Int) + 1) ∧ vi = .int .i64 i ∧ i ≤ n ∧ q ≤ 32 ∧ Hid (q = i * 2))
    (fun _ vi => n - (intOf vi).toNat)
  case atStart => exact ⟨0, 0, rfl, rfl, by omega, by omega, rfl⟩
  case round =>
    obtain ⟨i, q, rfl, rfl, hi, hq, hqi⟩ := hrel
    by_cases hin : i < n
    · have hii : (i : Int) < (n : Int) := by omega
      obtain ⟨g, rfl, hBg, hg⟩ := hs (by omega)
      clear hs
      go_wp2
      go_loop [1, 6] (fun v1 vj => ∃ (j q' : Nat), v1 = .int .i64 ((q' : Int) + 1) ∧ vj = .int .i64 j ∧ j ≤ 2 ∧ q' ≤ 32 ∧ Hid (q' = i * 2 + j))
        (fun _ vj => 2 - (intOf vj).toNat)
      case atStart => exact ⟨0, q, rfl, rfl, by omega, hq, hqi⟩
      case round =>
        obtain ⟨j, q', rfl, rfl, hj, hq', hqj⟩ := hrel
        clear hqi hq
        by_cases hj2 : j < 2
        · have hji : (j : Int) < 2 := by omega
          have hqe : q' = i * 2 + j := hqj.out
          have hcell := ownsCell H.out _ (mkd_get (xs := xs) (q := q') (n := n * 2) (by omega))
          have HQ : Hid (q' + 1 = i * 2 + (j + 1)) := by show q' + 1 = _; omega
          have hq31 : q' < 32 := by omega
          have hcell' : w.cell? ⟨g, i * 2 + j, none⟩ = some (.int .i64 ((q' : Int) + 1)) := by rw [← hqe]; exact hcell
          clear hcell hqe hqj
          go_wp2
          refine ⟨⟨j + 1, q' + 1, (by first | rfl | (congr 1; omega)), (by first | rfl | (congr 1; omega)), by omega, by omega, HQ⟩, by simp only [intOf]; omega⟩
        · have hji : (2 : Int) ≤ (j : Int) := by omega
          have HQ : Hid (q' = (i + 1) * 2) := by have := hqj.out; show q' = _; omega
          clear hqj
          go_wp2
          refine ⟨⟨i + 1, q', rfl, (by first | rfl | (congr 1; omega)), by omega, hq', HQ⟩, by simp only [intOf]; omega⟩
    · have hii : (n : Int) ≤ (i : Int) := by omega
      have HQ : Hid (q = n * 2) := by have := hqi.out; show q = _; omega
      clear hqi
      go_wp2
      go_ret
      refine ⟨?_, rfl⟩
      have e : ((n : Int) * 2 + 1) = (q : Int) + 1 := by have := HQ.out; omega
      rw [e]
      rfl
end Go.Proofs.Ytodlofeddllpiaa
