/-
  THE READING OF A ROAD: what the reference takes and what the program takes come to the same (plain facts, no program). Conditions: those that stand in each.
-/
import Derived.Test.YtfeaddbehmodmaaDoorQ
import Derived.Test.YtfeaddbehmodmaaDoorL4
namespace Go.Proofs.YtfeaddbehmodmaaDoor
open Go.RowKit
set_option maxRecDepth 100000
/-- Nineteen numbers as read, as a road's cells. -/
def arr (ns : List Nat) : List Nat := ns.drop 3 ++ ns.take 3
/-- All words as numbers, if each is one. -/
def allN : List (List UInt8) → Option (List Nat)
  | [] => some []
  | w :: r => match specN w with | some n => (match allN r with | some l => some (n :: l) | none => none) | none => none
/-- What the reference reads. -/
def specR (t : List UInt8) : Option (List Nat) :=
  match sp t with
  | x :: ws => if x = [114, 111, 97, 100] ∧ ws.length = 19 then (match allN ws with | some ns => if okR (arr ns) = true then some ns else none | none => none) else none
  | [] => none
/-- What the program reads. -/
def implR (t : List UInt8) : Option (List Nat) :=
  match sp t with
  | _ :: ws => if ws.length = 19 then (if okR (arr (ws.map numX)) = true ∧ roadT (arr (ws.map numX)) = t then some (ws.map numX) else none) else none
  | [] => none
theorem nb_nb (x : Nat) : nb (nb x) = nb x := by
  unfold nb
  split
  · decide
  · rfl
theorem specN_hexk {x : Nat} (h : nb x < 4294967296) : specN (hexk 8 (nb x)) = some (nb x) := by
  have hr : rs 0 (hexk 8 (nb x)) = some (nb x) := by
    rw [rs_of_hexk]
    congr 1
    rw [Nat.zero_mul, Nat.zero_add]
    exact Nat.mod_eq_of_lt (by omega)
  unfold specN
  rw [if_pos (hexk_length _ _), hr]
  simp only
  rw [if_pos (nb_nb x)]
theorem specN_text {w : List UInt8} {n : Nat} (h : specN w = some n) : hexk 8 (nb n) = w ∧ numX w = n := by
  refine ⟨?_, by unfold numX; rw [h]⟩
  have := specN_readN h
  unfold readN at this
  split at this
  · cases this
  · split at this
    · split at this
      · rename_i hx
        cases this
        exact hx
      · cases this
    · cases this
theorem allN_some : ∀ {ws : List (List UInt8)} {ns : List Nat}, allN ws = some ns → ws.map numX = ns ∧ txs ns = ws
  | [], ns, h => by
    cases h
    exact ⟨rfl, rfl⟩
  | w :: r, ns, h => by
    unfold allN at h
    split at h
    · rename_i n hn
      split at h
      · rename_i l hl
        cases h
        obtain ⟨h1, h2⟩ := allN_some hl
        obtain ⟨h3, h4⟩ := specN_text hn
        refine ⟨by rw [List.map_cons, h1, h4], ?_⟩
        show hexk 8 (nb n) :: txs l = _
        rw [h3, h2]
      · cases h
    · cases h
theorem numX_small (w : List UInt8) : nb (numX w) < 4294967296 := nb_small (numX_lt w)
theorem allN_of : ∀ {ws : List (List UInt8)}, txs (ws.map numX) = ws → allN ws = some (ws.map numX)
  | [], _ => rfl
  | w :: r, h => by
    have h' : hexk 8 (nb (numX w)) :: txs (r.map numX) = w :: r := h
    injection h' with h1 h2
    have h3 := specN_hexk (numX_small w)
    rw [h1] at h3
    have h4 := (specN_text h3).2
    unfold allN
    rw [h3, allN_of h2]
    rw [List.map_cons, ← h4]
theorem dig_ne (n : Nat) : dig n ≠ 32 := by
  unfold dig
  have : n % 16 < 16 := Nat.mod_lt _ (by omega)
  generalize n % 16 = r at this ⊢
  match r, this with
  | 0, _ | 1, _ | 2, _ | 3, _ | 4, _ | 5, _ | 6, _ | 7, _ | 8, _ | 9, _ | 10, _ | 11, _ | 12, _ | 13, _ | 14, _ | 15, _ => decide
  | n + 16, q => exact absurd q (by omega)
theorem hexk_no : ∀ (k n : Nat), 32 ∉ hexk k n
  | 0, _ => by simp [hexk]
  | k + 1, n => by
    unfold hexk
    intro h
    rcases List.mem_append.1 h with h | h
    · exact hexk_no k _ h
    · exact dig_ne n (List.mem_singleton.1 h).symm
theorem txs_no {ns : List Nat} : ∀ w ∈ [114, 111, 97, 100] :: txs ns, 32 ∉ w := by
  intro w hw
  rcases List.mem_cons.1 hw with rfl | hw
  · decide
  · obtain ⟨n, _, rfl⟩ := List.mem_map.1 hw
    exact hexk_no 8 _
/-- A road's text out of its numbers as read. -/
theorem roadT_arr {ns : List Nat} (h : ns.length = 19) (hlt : ∀ b ∈ ns, b < Sx.bits .f32) : Road19 (arr ns) ∧ roadT (arr ns) = Lib.join ([114, 111, 97, 100] :: txs ns) [32] := by
  have hR : Road19 (arr ns) := by
    refine ⟨by unfold arr; simp [h], fun b hb => hlt b ?_⟩
    unfold arr at hb
    rcases List.mem_append.1 hb with hb | hb
    · exact List.mem_of_mem_drop hb
    · exact List.mem_of_mem_take hb
  refine ⟨hR, ?_⟩
  rw [← join_words hR]
  match ns, h with
  | a :: b :: c :: r, h =>
    have hr : r.length = 16 := by simpa using h
    have e16 : (r ++ [a, b, c]).getD 16 0 = a := by simp [List.getD_eq_getElem?_getD, hr]
    have e17 : (r ++ [a, b, c]).getD 17 0 = b := by simp [List.getD_eq_getElem?_getD, hr]
    have e18 : (r ++ [a, b, c]).getD 18 0 = c := by simp [List.getD_eq_getElem?_getD, hr]
    have et : (txs (r ++ [a, b, c])).take 16 = txs r := by
      unfold txs
      rw [← List.map_take, List.take_append_of_le_length (by omega), List.take_of_length_le (by omega)]
    show Lib.join ([114, 111, 97, 100] :: hx (r ++ [a, b, c]) 16 :: hx (r ++ [a, b, c]) 17 :: hx (r ++ [a, b, c]) 18 :: (txs (r ++ [a, b, c])).take 16) [32] = _
    unfold hx
    rw [e16, e17, e18, et]
    rfl
theorem map_numX_lt (ws : List (List UInt8)) : ∀ b ∈ ws.map numX, b < Sx.bits .f32 := by
  intro b hb
  obtain ⟨w, _, rfl⟩ := List.mem_map.1 hb
  exact numX_lt w
theorem reads_same (t : List UInt8) : implR t = specR t := by
  unfold implR specR
  have hj := sp_join t
  cases hs : sp t with
  | nil => rfl
  | cons x ws =>
    rw [hs] at hj
    simp only
    by_cases hl : ws.length = 19
    · rw [if_pos hl]
      obtain ⟨hR, hT⟩ := roadT_arr (ns := ws.map numX) (by rw [List.length_map]; exact hl) (map_numX_lt ws)
      by_cases hc : okR (arr (ws.map numX)) = true ∧ roadT (arr (ws.map numX)) = t
      · rw [if_pos hc]
        have h2 := sp_words (txs_no (ns := ws.map numX))
        rw [← hT, hc.2, hs] at h2
        injection h2 with h3 h4
        rw [if_pos ⟨h3, hl⟩, allN_of h4.symm]
        simp only
        rw [if_pos hc.1]
      · rw [if_neg hc]
        by_cases hx : x = [114, 111, 97, 100]
        · rw [if_pos ⟨hx, hl⟩]
          cases ha : allN ws with
          | none => rfl
          | some ns =>
            obtain ⟨h1, h2⟩ := allN_some ha
            rw [h1] at hc hT
            rw [h2, ← hx, hj] at hT
            simp only
            rw [if_neg fun g => hc ⟨g, hT⟩]
        · rw [if_neg fun g => hx g.1]
    · rw [if_neg hl, if_neg fun g => hl g.2]
end Go.Proofs.YtfeaddbehmodmaaDoor
