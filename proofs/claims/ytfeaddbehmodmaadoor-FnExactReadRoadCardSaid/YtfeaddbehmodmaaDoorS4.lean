/-
  THE REFERENCE'S READING OF A ROAD, walked. Conditions: the text's length.
-/
import Derived.Test.YtfeaddbehmodmaaDoorRH
namespace Go.Proofs.YtfeaddbehmodmaaDoor
open Go.RowKit
set_option maxRecDepth 100000
/-- What the reference's inner reading hands back. -/
def RetRR (w0 : World) (o : Option (List Nat)) (r : Ending) (w' : World) : Prop :=
  (match o with
  | some ns => r = .returned (.tuple #[.agg (fl (arr ns)).toArray, .bool true])
  | none => ∃ cs, Road19 cs ∧ r = .returned (.tuple #[.agg (fl cs).toArray, .bool false])) ∧ Below w0.heap.size w0 w'
/-- Words at the head of a block. -/
def RetAt (w0 : World) (ws : List (List UInt8)) (N : Nat) (r : Ending) (w' : World) : Prop :=
  ∃ g cap, r = .returned (.slice (some ⟨g, 0, none⟩) (N + 1) cap) ∧ w0.heap.size ≤ g ∧ g < w'.heap.size ∧ N + 1 ≤ cap ∧ (∀ (j : Nat) y, ws[j]? = some y → w'.cell? ⟨g, j, none⟩ = some (.string (ba y))) ∧ Below w0.heap.size w0 w'
theorem splitAt (t : ByteArray) (hmax : t.size ≤ 1048576) {x : List UInt8} {ws : List (List UInt8)} (hsp : sp t.data.toList = x :: ws) (w : World) :
    Calls Tryd.prog 49 #[.string t, .int .u8 32] w (RetAt w (x :: ws) ws.length) := by
  refine (splitW t hmax w).mono ?_
  rintro e w1 ⟨v, rfl, hown, hb⟩
  have hl : (strV (sp t.data.toList)).length = ws.length + 1 := by rw [strV_length, hsp]; rfl
  obtain ⟨g, cap, rfl, h1, h2, h3, h4⟩ := rowAt hown (by omega)
  rw [hl] at h3
  refine ⟨g, cap, by rw [hl], h1, h2, h3, fun j y hy => h4 j _ ?_, hb⟩
  rw [hsp]
  unfold strV
  rw [List.getElem?_map, hy]
  rfl
/-- Nineteen floats at the head of a block. -/
def Row19 (w0 w : World) (ns : List Nat) (v : Value) : Prop := ∃ g cap, v = .slice (some ⟨g, 0, none⟩) 19 cap ∧ w0.heap.size ≤ g ∧ g < w.heap.size ∧ 19 ≤ cap ∧ ∀ k, k < 19 → w.cell? ⟨g, k, none⟩ = some (.float .f32 (ns.getD k 0))
theorem row19 {w0 w : World} {ns : List Nat} {v : Value} (hl : ns.length = 19) (h : w.ownsRow w0.heap.size 22 1 v ns.length (fl ns)) : Row19 w0 w ns v := by
  rw [← fl_length] at h
  obtain ⟨g, cap, rfl, h1, h2, h3, h4⟩ := rowAt h (by rw [fl_length]; omega)
  rw [fl_length, hl] at h3
  refine ⟨g, cap, by rw [fl_length, hl], h1, h2, h3, fun k hk => h4 k _ ?_⟩
  unfold fl
  rw [List.getElem?_map, List.getElem?_eq_getElem (by omega), List.getD_eq_getElem?_getD, List.getElem?_eq_getElem (by omega)]
  rfl
/-- A road's cells when k of its numbers have been laid. -/
def part (ns : List Nat) (k : Nat) : List Nat := (ns.drop 3).take k ++ List.replicate (16 - k) 0 ++ ns.take 3
theorem part_zero {ns : List Nat} (h : ns.length = 19) : part ns 0 = [0, 0, 0, 0, 0, 0, 0, 0, 0, 0, 0, 0, 0, 0, 0, 0, ns.getD 0 0, ns.getD 1 0, ns.getD 2 0] := by
  match ns, h with
  | a :: b :: c :: r, _ => rfl
theorem part_all {ns : List Nat} (h : ns.length = 19) : part ns 16 = arr ns := by
  unfold part arr
  rw [List.take_of_length_le (by rw [List.length_drop]; omega)]
  simp
theorem part_length {ns : List Nat} (h : ns.length = 19) {k : Nat} (hk : k ≤ 16) : (part ns k).length = 19 := by
  unfold part
  simp only [List.length_append, List.length_take, List.length_drop, List.length_replicate]
  omega
theorem part_succ {ns : List Nat} (h : ns.length = 19) {k : Nat} (hk : k < 16) : (part ns k).set k (ns.getD (3 + k) 0) = part ns (k + 1) := by
  unfold part
  have h1 : ((ns.drop 3).take k).length = k := by rw [List.length_take, List.length_drop]; omega
  have h2 : 16 - k = (16 - (k + 1)) + 1 := by omega
  have h3 : (ns.drop 3).take (k + 1) = (ns.drop 3).take k ++ [ns.getD (3 + k) 0] := by
    rw [List.take_add_one, List.getElem?_drop, List.getD_eq_getElem?_getD, List.getElem?_eq_getElem (by omega)]
    rfl
  rw [h3, h2, List.replicate_succ, List.append_assoc, List.set_append_right _ _ (by omega), h1, Nat.sub_self]
  simp
theorem Slot.set {w : World} {b : Nat} {cs : List Nat} (h : Slot w b cs) (k x : Nat) : Slot (w.setCell ⟨b, k, none⟩ (.float .f32 x)) b (cs.set k x) := by
  have h1 := heap_setCell_same w b k _ 36 (.float .f32 x) h
  unfold Slot
  rw [h1, List.setIfInBounds_toArray]
  unfold fl
  rw [List.map_set]
theorem store_fl {w : World} {b k x : Nat} {u : Value} (h : w.cell? ⟨b, k, none⟩ = some u) (hf : w.frozen? ⟨b, k, none⟩ = false) : (store ⟨b, k, none⟩ (.float .f32 x)).run Tryd.prog w = .ok () (w.setCell ⟨b, k, none⟩ (.float .f32 x)) := by
  rw [run_store _ _ _ _ _ rfl, h]
  simp only [hf]
  rfl
theorem zthere {w : World} {b : Nat} (h : w.there b 0 19) : w.there b 0 (Array.size #[Value.float .f32 0, Value.float .f32 0, Value.float .f32 0, Value.float .f32 0, Value.float .f32 0, Value.float .f32 0, Value.float .f32 0, Value.float .f32 0, Value.float .f32 0, Value.float .f32 0, Value.float .f32 0, Value.float .f32 0, Value.float .f32 0, Value.float .f32 0, Value.float .f32 0, Value.float .f32 0, Value.float .f32 0, Value.float .f32 0, Value.float .f32 0]) := h
theorem zsize : (Tryd.prog.info? 36).map (·.size) = some (Array.size #[Value.float .f32 0, Value.float .f32 0, Value.float .f32 0, Value.float .f32 0, Value.float .f32 0, Value.float .f32 0, Value.float .f32 0, Value.float .f32 0, Value.float .f32 0, Value.float .f32 0, Value.float .f32 0, Value.float .f32 0, Value.float .f32 0, Value.float .f32 0, Value.float .f32 0, Value.float .f32 0, Value.float .f32 0, Value.float .f32 0, Value.float .f32 0]) := flsize (cs := z19) rfl
theorem zone : Array.all #[Value.float .f32 0, Value.float .f32 0, Value.float .f32 0, Value.float .f32 0, Value.float .f32 0, Value.float .f32 0, Value.float .f32 0, Value.float .f32 0, Value.float .f32 0, Value.float .f32 0, Value.float .f32 0, Value.float .f32 0, Value.float .f32 0, Value.float .f32 0, Value.float .f32 0, Value.float .f32 0, Value.float .f32 0, Value.float .f32 0, Value.float .f32 0] (·.oneCell') = true := fl_one z19
theorem zstore {w : World} {b : Nat} {cs : List Nat} (h : Slot w b cs) (hl : cs.length = 19) : Slot (w.setCells b 0 (Array.toList #[Value.float .f32 0, Value.float .f32 0, Value.float .f32 0, Value.float .f32 0, Value.float .f32 0, Value.float .f32 0, Value.float .f32 0, Value.float .f32 0, Value.float .f32 0, Value.float .f32 0, Value.float .f32 0, Value.float .f32 0, Value.float .f32 0, Value.float .f32 0, Value.float .f32 0, Value.float .f32 0, Value.float .f32 0, Value.float .f32 0, Value.float .f32 0])) b z19 := h.store (ds := z19) hl
set_option maxHeartbeats 400000
theorem specRR (t : ByteArray) (hmax : t.size ≤ 1048576) (w : World) :
    Calls Tryd.prog 30 #[.string t] w (RetRR w (specR t.data.toList)) := by
  obtain ⟨x, ws, hsp⟩ : ∃ x ws, sp t.data.toList = x :: ws := List.exists_cons_of_ne_nil (spA_ne [] _)
  have hspec : specR t.data.toList = if x = [114, 111, 97, 100] ∧ ws.length = 19 then (match allN ws with | some ns => if okR (arr ns) = true then some ns else none | none => none) else none := by
    unfold specR
    rw [hsp]
    rfl
  have hs0 : Slot (w.alloc (.cells #[Value.float .f32 0, Value.float .f32 0, Value.float .f32 0, Value.float .f32 0, Value.float .f32 0, Value.float .f32 0, Value.float .f32 0, Value.float .f32 0, Value.float .f32 0, Value.float .f32 0, Value.float .f32 0, Value.float .f32 0, Value.float .f32 0, Value.float .f32 0, Value.float .f32 0, Value.float .f32 0, Value.float .f32 0, Value.float .f32 0, Value.float .f32 0] 36)) w.heap.size z19 := slot_new w z19
  have hbA : Below w.heap.size w (w.alloc (.cells #[Value.float .f32 0, Value.float .f32 0, Value.float .f32 0, Value.float .f32 0, Value.float .f32 0, Value.float .f32 0, Value.float .f32 0, Value.float .f32 0, Value.float .f32 0, Value.float .f32 0, Value.float .f32 0, Value.float .f32 0, Value.float .f32 0, Value.float .f32 0, Value.float .f32 0, Value.float .f32 0, Value.float .f32 0, Value.float .f32 0, Value.float .f32 0] 36)) := (Below.refl _ _).alloc (Nat.le_refl _) _
  obtain ⟨wA, hwA⟩ : ∃ wA, w.alloc (.cells #[Value.float .f32 0, Value.float .f32 0, Value.float .f32 0, Value.float .f32 0, Value.float .f32 0, Value.float .f32 0, Value.float .f32 0, Value.float .f32 0, Value.float .f32 0, Value.float .f32 0, Value.float .f32 0, Value.float .f32 0, Value.float .f32 0, Value.float .f32 0, Value.float .f32 0, Value.float .f32 0, Value.float .f32 0, Value.float .f32 0, Value.float .f32 0] 36) = wA := ⟨_, rfl⟩
  rw [hwA] at hs0 hbA
  have hP := splitAt t hmax hsp wA
  obtain ⟨N, hN⟩ : ∃ N, N = ws.length := ⟨_, rfl⟩
  rw [← hN] at hP hspec
  have HN : Hid (N = ws.length) := hN
  clear hN
  have hstore : ∀ w1, Below wA.heap.size wA w1 → w1.there w.heap.size 0 (Array.size #[Value.float .f32 0, Value.float .f32 0, Value.float .f32 0, Value.float .f32 0, Value.float .f32 0, Value.float .f32 0, Value.float .f32 0, Value.float .f32 0, Value.float .f32 0, Value.float .f32 0, Value.float .f32 0, Value.float .f32 0, Value.float .f32 0, Value.float .f32 0, Value.float .f32 0, Value.float .f32 0, Value.float .f32 0, Value.float .f32 0, Value.float .f32 0]) := fun w1 hb => zthere ((hs0.below hb hs0.lt).there rfl)
  have hend : ∀ w1 w2, Below wA.heap.size wA w1 → w1.setCells w.heap.size 0 (Array.toList #[Value.float .f32 0, Value.float .f32 0, Value.float .f32 0, Value.float .f32 0, Value.float .f32 0, Value.float .f32 0, Value.float .f32 0, Value.float .f32 0, Value.float .f32 0, Value.float .f32 0, Value.float .f32 0, Value.float .f32 0, Value.float .f32 0, Value.float .f32 0, Value.float .f32 0, Value.float .f32 0, Value.float .f32 0, Value.float .f32 0, Value.float .f32 0]) = w2 → Slot w2 w.heap.size z19 ∧ Below w.heap.size w w2 := fun w1 w2 hb e => by
    rw [← e]
    exact ⟨zstore (hs0.below hb hs0.lt) rfl, below_cells (hbA.trans (hb.mono hbA.size)) (Nat.le_refl _) 0 _⟩
  by_cases hx : x = [114, 111, 97, 100]
  · have hroad : ((ba x).toList == [114, 111, 97, 100]) = true := by
      rw [ByteArray.toList_eq]
      exact beq_iff_eq.2 hx
    by_cases h19 : N = 19
    · subst h19
      rw [if_pos ⟨hx, rfl⟩] at hspec
      have hP50 := fun g c (w1 : World) hg hc => specWords ws (by have := HN.out; omega) g 1 c w1 hg hc
      rw [← HN.out] at hP50
      cases hall : allN ws with
      | none =>
        rw [hall] at hspec hP50
        have HS : Hid (specR t.data.toList = none) := hspec
        clear hspec hx hsp hall
        go_enter Tryd.func30, Tryd.ntmps30
        go_wp2_with (first
          | (go_at_call 49; refine hP.mono ?_; rintro e w1 ⟨g, cap, rfl, hBg, hg, hcap, hcells, hb1⟩; have hc0 : w1.cell? ⟨g, 0, none⟩ = some (.string (ba x)) := hcells 0 x rfl; have HC : Hid (∀ (j : Nat) y, (x :: ws)[j]? = some y → w1.cell? ⟨g, j, none⟩ = some (.string (ba y))) := hcells; clear hcells)
          | (go_at_call 50; refine (hP50 g _ w1 hg (fun k y hy => by rw [Nat.add_comm]; exact HC.out (k + 1) y hy)).mono ?_; rintro e w3 ⟨⟨v, rfl⟩, hb3⟩)
          | ((with_reducible show Go.wpList _ _ _ (Go.Oper.mk _ (Go.Op.store 36 _ _) _ _ _ _ :: _) _ _); (refine wpList_store_mid rfl 36 (.tmp 2) (.tmp 29) rfl w.heap.size 0 _ rfl rfl (hstore _ (hb1.trans (hb3.mono hb1.size))) zsize zone ?_); generalize hW : World.setCells _ _ _ _ = w2))
        obtain ⟨hs2, hB2⟩ := hend _ _ (hb1.trans (hb3.mono hb1.size)) hW
        refine bodyPost_ret (results_cell rfl _ (p := ⟨w.heap.size, 0, none⟩) rfl (hs2.load rfl)) rfl ?_
        rw [HS.out]
        exact ⟨⟨z19, z19_road, rfl⟩, hB2⟩
      | some ns =>
        rw [hall] at hspec hP50
        have hnl : ns.length = 19 := by
          have := (allN_some hall).2
          have h2 : (txs ns).length = ws.length := by rw [this]
          unfold txs at h2
          rw [List.length_map] at h2
          have := HN.out
          omega
        have hnlt : ∀ b ∈ ns, b < Sx.bits .f32 := fun b hb => by
          rw [← (allN_some hall).1] at hb
          exact map_numX_lt ws b hb
        have HNS : Hid (ns.length = 19 ∧ ∀ b ∈ ns, b < Sx.bits .f32) := ⟨hnl, hnlt⟩
        have HS : Hid (specR t.data.toList = if okR (arr ns) = true then some ns else none) := hspec
        have hAt : ∀ {w0 w' : World} {v : Value}, w'.ownsRow w0.heap.size 22 1 v ns.length (fl ns) → Row19 w0 w' ns v := fun h => row19 HNS.out.1 h
        clear hspec hx hsp hall hnl hnlt
        go_enter Tryd.func30, Tryd.ntmps30
        go_wp2_with (first
          | (go_at_call 49; refine hP.mono ?_; rintro e w1 ⟨g, cap, rfl, hBg, hg, hcap, hcells, hb1⟩; have hc0 : w1.cell? ⟨g, 0, none⟩ = some (.string (ba x)) := hcells 0 x rfl; have HC : Hid (∀ (j : Nat) y, (x :: ws)[j]? = some y → w1.cell? ⟨g, j, none⟩ = some (.string (ba y))) := hcells; clear hcells)
          | (go_at_call 50; refine (hP50 g _ w1 hg (fun k y hy => by rw [Nat.add_comm]; exact HC.out (k + 1) y hy)).mono ?_; rintro e w3 ⟨⟨v, rfl, hown⟩, hb3⟩; obtain ⟨g2, cap2, rfl, hg2B, hg2, hcap2, hc2⟩ := hAt hown; clear hown))
        have HC2 : Hid (∀ k, k < 19 → w3.cell? ⟨g2, k, none⟩ = some (.float .f32 (ns.getD k 0))) := hc2
        clear hc2
        refine wp_region_noPanic ?_
        refine reg7 hg2 (HC2.out 0 (by omega)) (HC2.out 1 (by omega)) (HC2.out 2 (by omega)) (fun _ _ _ _ _ h => h) (fun w9 hs9 hb9 => ?_)
        refine NoPanic.normal ?_
        have HS9 : Hid (Slot w9 w3.heap.size [0, 0, 0, 0, 0, 0, 0, 0, 0, 0, 0, 0, 0, 0, 0, 0, ns.getD 0 0, ns.getD 1 0, ns.getD 2 0]) := hs9
        have HB9 : Hid (Below w3.heap.size w3 w9) := hb9
        clear hs9 hb9
        go_wp2
        have HB3 : Hid (Below wA.heap.size wA w3) := hb1.trans (hb3.mono hb1.size)
        have hlt3 : w.heap.size < w3.heap.size := Nat.lt_of_lt_of_le hs0.lt HB3.out.size
        go_loopw [8] (fun vi wr => ∃ (k : Nat), vi = .int .i64 k ∧ k ≤ 16 ∧ Hid (Slot wr w3.heap.size (part ns k)) ∧ Hid (Below w3.heap.size w3 wr))
          (fun vi _ => 16 - (intOf vi).toNat)
        case atStart => exact ⟨0, rfl, by omega, by show Slot _ _ (part ns 0); rw [part_zero HNS.out.1]; exact HS9.out, HB9⟩
        case round =>
          obtain ⟨k, rfl, hk, hsl, hbr⟩ := hrel
          clear HS9 HB9
          by_cases hk16 : k < 16
          · have hki : (k : Int) < 16 := by omega
            have hck : wr.cell? ⟨g2, 3 + k, none⟩ = some (.float .f32 (ns.getD (3 + k) 0)) := by
              rw [hbr.out.cell (p := ⟨g2, 3 + k, none⟩) hg2]
              exact HC2.out (3 + k) (by omega)
            have hpl := part_length HNS.out.1 (k := k) (by omega)
            have hcs : wr.cell? ⟨w3.heap.size, k, none⟩ = some (.float .f32 ((part ns k).getD k 0)) := by
              rw [hsl.out.cell]
              unfold fl
              rw [List.getElem?_map, List.getElem?_eq_getElem (by omega), List.getD_eq_getElem?_getD, List.getElem?_eq_getElem (by omega)]
              rfl
            have hfz : wr.frozen? ⟨w3.heap.size, k, none⟩ = false := frozen_of_row wr w3.heap.size k _ 36 hsl.out
            have HSN : Hid (Slot (wr.setCell ⟨w3.heap.size, k, none⟩ (.float .f32 (ns.getD (3 + k) 0))) w3.heap.size (part ns (k + 1))) := by
              show Slot _ _ _
              rw [← part_succ HNS.out.1 hk16]
              exact hsl.out.set k _
            have HBN : Hid (Below w3.heap.size w3 (wr.setCell ⟨w3.heap.size, k, none⟩ (.float .f32 (ns.getD (3 + k) 0)))) := hbr.out.setCell (p := ⟨w3.heap.size, k, none⟩) (Nat.le_refl _) _
            obtain ⟨y, hy⟩ : ∃ y, y = ns.getD (3 + k) 0 := ⟨_, rfl⟩
            rw [← hy] at hck HSN HBN
            have hst := store_fl (x := y) hcs hfz
            clear hpl hy hcs hfz
            go_wp2
            refine ⟨⟨k + 1, (by first | rfl | (congr 1; omega)), by omega, HSN, HBN⟩, by simp only [intOf]; omega⟩
          · have hki : (16 : Int) ≤ (k : Int) := by omega
            have hkk : k = 16 := by omega
            have HSL : Hid (Slot wr w3.heap.size (arr ns)) := by
              have := hsl.out
              rw [hkk, part_all HNS.out.1] at this
              exact this
            clear hsl hkk
            have hR19 : Road19 (arr ns) := (roadT_arr HNS.out.1 HNS.out.2).1
            have hsB := (hs0.below HB3.out hs0.lt).below hbr.out hlt3
            have hAw : w.heap.size ≤ w3.heap.size := Nat.le_of_lt hlt3
            have hbW : Below w.heap.size w wr := (hbA.trans (HB3.out.mono hbA.size)).trans (hbr.out.mono hAw)
            have HX : Hid (Road19 (arr ns) ∧ Slot wr w.heap.size z19 ∧ Below w.heap.size w wr) := ⟨hR19, hsB, hbW⟩
            clear hR19 hsB hbW
            go_wp2
            refine wp_region_noPanic ?_
            refine reg12 (cs := arr ns) HX.out.1 (ds := z19) rfl HSL.out HX.out.2.1 (Nat.ne_of_gt hlt3) (Nat.le_refl _) HX.out.2.2 (fun _ _ _ _ _ h => h) (fun w9 hs9 hb9 => ?_)
            refine NoPanic.normal ?_
            have HS9 : Hid (Slot w9 w.heap.size (arr ns)) := hs9
            have HB9 : Hid (Below w.heap.size w w9) := hb9
            clear hs9 hb9
            go_wp2
            refine bodyPost_ret (results_cell rfl _ (p := ⟨w.heap.size, 0, none⟩) rfl (HS9.out.load HX.out.1.1)) rfl ?_
            rw [HS.out]
            cases hok : okR (arr ns) with
            | true => exact ⟨rfl, HB9.out⟩
            | false => exact ⟨⟨arr ns, HX.out.1, rfl⟩, HB9.out⟩
    · rw [if_neg fun h => h19 h.2] at hspec
      have HS : Hid (specR t.data.toList = none) := hspec
      have hn20 : ¬ ((N : Int) + 1 = 20) := by omega
      clear hspec hx hsp h19
      go_enter Tryd.func30, Tryd.ntmps30
      go_wp2_with (first
        | (go_at_call 49; refine hP.mono ?_; rintro e w1 ⟨g, cap, rfl, hBg, hg, hcap, hcells, hb1⟩; have hc0 : w1.cell? ⟨g, 0, none⟩ = some (.string (ba x)) := hcells 0 x rfl; clear hcells)
        | ((with_reducible show Go.wpList _ _ _ (Go.Oper.mk _ (Go.Op.store 36 _ _) _ _ _ _ :: _) _ _); (refine wpList_store_mid rfl 36 (.tmp 2) (.tmp 20) rfl w.heap.size 0 _ rfl rfl (hstore _ hb1) zsize zone ?_); generalize hW : World.setCells _ _ _ _ = w2))
      obtain ⟨hs2, hB2⟩ := hend _ _ hb1 hW
      refine bodyPost_ret (results_cell rfl _ (p := ⟨w.heap.size, 0, none⟩) rfl (hs2.load rfl)) rfl ?_
      rw [HS.out]
      exact ⟨⟨z19, z19_road, rfl⟩, hB2⟩
  · rw [if_neg fun h => hx h.1] at hspec
    have HS : Hid (specR t.data.toList = none) := hspec
    have hne : ((ba x).toList == [114, 111, 97, 100]) = false := by
      rw [ByteArray.toList_eq]
      exact beq_eq_false_iff_ne.2 hx
    clear hspec hsp
    go_enter Tryd.func30, Tryd.ntmps30
    go_wp2_with (first
      | (go_at_call 49; refine hP.mono ?_; rintro e w1 ⟨g, cap, rfl, hBg, hg, hcap, hcells, hb1⟩; have hc0 : w1.cell? ⟨g, 0, none⟩ = some (.string (ba x)) := hcells 0 x rfl; clear hcells)
      | ((with_reducible show Go.wpList _ _ _ (Go.Oper.mk _ (Go.Op.store 36 _ _) _ _ _ _ :: _) _ _); (refine wpList_store_mid rfl 36 (.tmp 2) (.tmp 20) rfl w.heap.size 0 _ rfl rfl (hstore _ hb1) zsize zone ?_); generalize hW : World.setCells _ _ _ _ = w2))
    obtain ⟨hs2, hB2⟩ := hend _ _ hb1 hW
    refine bodyPost_ret (results_cell rfl _ (p := ⟨w.heap.size, 0, none⟩) rfl (hs2.load rfl)) rfl ?_
    rw [HS.out]
    exact ⟨⟨z19, z19_road, rfl⟩, hB2⟩
end Go.Proofs.YtfeaddbehmodmaaDoor
