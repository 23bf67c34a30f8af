/-
  THE REFERENCE'S CUT OF A TEXT AT ITS SPACES, walked. Conditions: the text's length.
-/
import Derived.Test.YtfeaddbehmodmaaDoorD
namespace Go.Proofs.YtfeaddbehmodmaaDoor
open Go.RowKit
set_option maxRecDepth 100000
/-- Words as values. -/
def strV (ws : List (List UInt8)) : List Value := ws.map fun x => Value.string (ba x)
theorem strV_length (ws : List (List UInt8)) : (strV ws).length = ws.length := by simp [strV]
theorem strV_snoc (ws : List (List UInt8)) (x : List UInt8) : strV (ws ++ [x]) = strV ws ++ [.string (ba x)] := by simp [strV]
theorem ext_ba (t : ByteArray) (f k : Nat) : t.extract f k = ba ((t.data.toList.take k).drop f) := by
  unfold ba
  have : (t.extract f k).data.toList = (t.data.toList.take k).drop f := by
    rw [Lib.extract_data]
    simp [List.drop_take]
  rw [← this]
/-- A row of words, the call's own. -/
def RetRow (w0 : World) (e : TypeId) (xs : List Value) (r : Ending) (w' : World) : Prop := ∃ v, r = .returned v ∧ w'.ownsRow w0.heap.size e 1 v xs.length xs ∧ Below w0.heap.size w0 w'
theorem rowEmpty (w0 w : World) (hb : w0.heap.size ≤ w.heap.size) (e : TypeId) : (w.alloc (.cells #[] e)).ownsRow w0.heap.size e 1 (.slice (some ⟨w.heap.size, 0, none⟩) 0 0) 0 [] :=
  ⟨rfl, .inr ⟨w.heap.size, 0, #[], rfl, hb, heap_alloc_new _ _, Nat.le_refl _, Nat.zero_le _, rfl, rfl⟩⟩
set_option maxHeartbeats 800000
theorem splitW (t : ByteArray) (hmax : t.size ≤ 1048576) (w : World) :
    Calls Tryd.prog 49 #[.string t, .int .u8 32] w (RetRow w 9 (strV (sp t.data.toList))) := by
  obtain ⟨i0, hi, hz0, hz1, hz2⟩ := info_parts info9
  obtain ⟨l, hL⟩ : ∃ l, l = t.data.toList := ⟨_, rfl⟩
  have hLn : l.length = t.size := by rw [hL, Lib.size_eq]
  have hext : ∀ f k, t.extract f k = ba ((l.take k).drop f) := fun f k => by rw [hL]; exact ext_ba t f k
  have hix : ∀ (k : Nat), k < t.size → ∀ w, (Instr.index 9 (.string t) (.int .i64 k)).run Tryd.prog w = .ok (.int .u8 (l.getD k 0).toNat) w := fun k hk w => by
    rw [run_index_string w 9 t .i64 k Tryd.underlying9, dif_pos (by omega)]
    simp only [Int.toNat_natCast]
    rw [getD_bytes t k (by omega), ← hL]
  rw [← hL]
  clear hL
  go_enter Tryd.func49, Tryd.ntmps49
  go_wp2
  have hE := rowEmpty w w (Nat.le_refl _) 9
  have hA : Below w.heap.size w (w.alloc (.cells #[] 9)) := (Below.refl _ _).alloc (Nat.le_refl _) _
  go_loopw [5, 6, 7] (fun v5 vf vi wr => ∃ (k f : Nat) (ws : List (List UInt8)), vf = .int .i64 f ∧ vi = .int .i64 k ∧ f ≤ k ∧ k ≤ t.size ∧ ws.length ≤ k ∧ Hid (sp l = ws ++ spA ((l.take k).drop f) (l.drop k)) ∧ Hid (wr.ownsRow w.heap.size 9 1 v5 ws.length (strV ws)) ∧ Hid (Below w.heap.size w wr))
    (fun _ _ vi _ => t.size - (intOf vi).toNat)
  case atStart => exact ⟨0, 0, [], rfl, rfl, by omega, by omega, by simp, rfl, hE, hA⟩
  case round =>
    obtain ⟨k, f, ws, rfl, rfl, hfk, hk, hws, hS, hown, hbw⟩ := hrel
    clear hE hA
    by_cases hkn : k < t.size
    · have hc := hix k hkn
      have hki : (k : Int) < (t.size : Int) := by omega
      have hdrop : l.drop k = l[k]'(by omega) :: l.drop (k + 1) := List.drop_eq_getElem_cons (by omega)
      have hget : l.getD k 0 = l[k]'(by omega) := by simp [List.getD, List.getElem?_eq_getElem (show k < l.length by omega)]
      have htk : l.take (k + 1) = l.take k ++ [l[k]'(by omega)] := by rw [List.take_add_one, List.getElem?_eq_getElem (show k < l.length by omega)]; rfl
      have hS' := hS.out
      rw [hdrop] at hS'
      rw [hget] at hc
      generalize l[k]'(by omega) = c at hc hS' htk
      clear hix hdrop hget hS
      by_cases h32 : c = 32
      · have hci : (c.toNat : Int) = 32 := by rw [h32]; rfl
        have hN : Hid (sp l = (ws ++ [(l.take k).drop f]) ++ spA ((l.take (k + 1)).drop (k + 1)) (l.drop (k + 1))) := by
          have : (l.take (k + 1)).drop (k + 1) = [] := List.drop_eq_nil_of_le (by rw [List.length_take]; omega)
          show sp l = _
          rw [hS', spA, if_pos h32, this, List.append_assoc]
          rfl
        have hx := hext f k
        clear hS' h32 htk hext
        go_wp2_with (first
          | (at_builtin
             refine wpList_append_own_at _ rfl (.tmp 20) (.tmp 25) _ rfl w.heap.size 9 i0 _ 1 16 Tryd.underlying59 hi hz0 hz1 hz2 rfl (by omega) _ ws.length _ rfl (hown.out.alloc _)
               ⟨wr.heap.size, 0, none⟩ 1 1 [.string (ba ((l.take k).drop f))] rfl rfl (cell_one_new _ _ _) (oneStr _) (by unfold maxLen; omega) (by omega) (by have := hbw.out.size; simp; omega) ?_
             intro v' w3 hown3 hgrow3 hnil3 hloc3))
        have hB3 : Hid (Below w.heap.size w w3) := (hbw.out.alloc hbw.out.size _).grown hgrow3 (by have := hbw.out.size; simp; omega) (ownBlock_ge hown.out)
        have hO3 : Hid (w3.ownsRow w.heap.size 9 1 v' (ws ++ [(l.take k).drop f]).length (strV (ws ++ [(l.take k).drop f]))) := by
          rw [strV_snoc, List.length_append]
          exact hown3
        refine ⟨⟨k + 1, k + 1, ws ++ [(l.take k).drop f], (by first | rfl | (congr 1; omega)), (by first | rfl | (congr 1; omega)), by omega, by omega, by simp; omega, hN, hO3, hB3⟩, by simp only [intOf]; omega⟩
      · have hci : ¬ ((c.toNat : Int) = 32) := fun e => h32 (UInt8.toNat_inj.1 (by have : c.toNat = 32 := by omega
                                                                                   exact this))
        have hN : Hid (sp l = ws ++ spA ((l.take (k + 1)).drop f) (l.drop (k + 1))) := by
          show sp l = _
          rw [hS', spA, if_neg h32, htk, List.drop_append_of_le_length (by rw [List.length_take]; omega)]
        clear hS' h32 htk hext
        go_wp2
        refine ⟨⟨k + 1, f, ws, rfl, (by first | rfl | (congr 1; omega)), by omega, by omega, by omega, hN, hown, hbw⟩, by simp only [intOf]; omega⟩
    · have hkk : k = t.size := by omega
      have hki : (t.size : Int) ≤ (k : Int) := by omega
      have hfi : (f : Int) ≤ (t.size : Int) := by omega
      have hx := hext f t.size
      have hN : Hid (sp l = ws ++ [(l.take t.size).drop f]) := by
        have := hS.out
        rw [hkk, List.drop_eq_nil_of_le (show l.length ≤ t.size by omega)] at this
        exact this
      clear hext hix hS
      go_wp2_with (first
        | (at_builtin
           refine wpList_append_own_at _ rfl (.tmp 29) (.tmp 33) _ rfl w.heap.size 9 i0 _ 1 16 Tryd.underlying59 hi hz0 hz1 hz2 rfl (by omega) _ ws.length _ rfl (hown.out.alloc _)
             ⟨wr.heap.size, 0, none⟩ 1 1 [.string (ba ((l.take t.size).drop f))] rfl rfl (cell_one_new _ _ _) (oneStr _) (by unfold maxLen; omega) (by omega) (by have := hbw.out.size; simp; omega) ?_
           intro v' w3 hown3 hgrow3 hnil3 hloc3))
      go_ret
      have hB3 : Below w.heap.size w w3 := (hbw.out.alloc hbw.out.size _).grown hgrow3 (by have := hbw.out.size; simp; omega) (ownBlock_ge hown.out)
      refine ⟨v', rfl, ?_, hB3⟩
      rw [hN.out, strV_length, strV_snoc, List.length_append]
      exact hown3
end Go.Proofs.YtfeaddbehmodmaaDoor
