/-
  WORDS READ AS NUMBERS, the reference's and the program's, walked. Conditions: those that stand in each.
-/
import Derived.Test.YtfeaddbehmodmaaDoorS1
namespace Go.Proofs.YtfeaddbehmodmaaDoor
open Go.RowKit
set_option maxRecDepth 100000
theorem info22 : (Tryd.prog.info? 22).map (fun i => (i.zero, i.size, i.bytes)) = some (some (.float .f32 0), 1, 4) := by kernel_rfl
theorem oneFl (x : Nat) : ∀ u ∈ [Value.float .f32 x], u.oneCell' = true := by
  intro u hu
  obtain rfl : u = Value.float .f32 x := by simpa using hu
  rfl
theorem fl_snoc (ns : List Nat) (x : Nat) : fl (ns ++ [x]) = fl ns ++ [.float .f32 x] := by simp [fl]
theorem allN_cons (x : List UInt8) (r : List (List UInt8)) : allN (x :: r) = (specN x).bind fun n => (allN r).map (n :: ·) := by
  rw [allN]
  cases specN x with
  | none => rfl
  | some n => cases allN r <;> rfl
theorem allN_step {ws : List (List UInt8)} {ns : List Nat} {x : List UInt8} {r : List (List UInt8)} {n : Nat} (h : allN ws = (allN (x :: r)).map (ns ++ ·)) (hn : specN x = some n) : allN ws = (allN r).map ((ns ++ [n]) ++ ·) := by
  rw [h, allN_cons, hn, Option.bind_some, Option.map_map]
  congr 1
  funext l
  simp
theorem allN_stop {ws : List (List UInt8)} {ns : List Nat} {x : List UInt8} {r : List (List UInt8)} (h : allN ws = (allN (x :: r)).map (ns ++ ·)) (hn : specN x = none) : allN ws = none := by
  rw [h, allN_cons, hn]
  rfl
/-- What the reference's reading of words hands back. -/
def RetNs (w0 : World) (o : Option (List Nat)) (r : Ending) (w' : World) : Prop :=
  (match o with
  | some ns => ∃ v, r = .returned (.tuple #[v, .bool true]) ∧ w'.ownsRow w0.heap.size 22 1 v ns.length (fl ns)
  | none => ∃ v, r = .returned (.tuple #[v, .bool false])) ∧ Below w0.heap.size w0 w'
theorem out_some {l : List UInt8} {n x : Nat} {b : Bool} (h : SpecOut l x b) (hn : specN l = some n) : x = n ∧ b = true := by
  unfold SpecOut at h
  rw [hn] at h
  exact h
theorem out_no {l : List UInt8} {x : Nat} {b : Bool} (h : SpecOut l x b) (hn : specN l = none) : b = false := by
  unfold SpecOut at h
  rw [hn] at h
  exact h
theorem specRead2 (t : ByteArray) (w : World) : Calls Tryd.prog 22 #[.string t] w fun e w' => RetSpec t.data.toList e ∧ w = w' :=
  (specRead t w).mono fun _ _ ⟨h, e⟩ => ⟨h, e.symm⟩
set_option maxHeartbeats 800000
theorem specWords (ws : List (List UInt8)) (hmax : ws.length ≤ 1000000) (g o c : Nat) (w : World) (hg : g < w.heap.size)
    (hc : ∀ (k : Nat) x, ws[k]? = some x → w.cell? ⟨g, o + k, none⟩ = some (.string (ba x))) :
    Calls Tryd.prog 50 #[.slice (some ⟨g, o, none⟩) ws.length c] w (RetNs w (allN ws)) := by
  obtain ⟨i0, hi, hz0, hz1, hz2⟩ := info_parts info22
  obtain ⟨N, hN⟩ : ∃ N, N = ws.length := ⟨_, rfl⟩
  rw [← hN] at hmax ⊢
  go_enter Tryd.func50, Tryd.ntmps50
  go_wp2
  have hE := rowEmpty w w (Nat.le_refl _) 22
  have hA : Below w.heap.size w (w.alloc (.cells #[] 22)) := (Below.refl _ _).alloc (Nat.le_refl _) _
  have hS0 : Hid (allN ws = (allN (ws.drop 0)).map (([] : List Nat) ++ ·)) := by
    show allN ws = _
    rw [List.drop_zero]
    cases allN ws <;> rfl
  go_loopw [4, 5] (fun v4 vi wr => ∃ (k : Nat) (ns : List Nat), vi = .int .i64 k ∧ k ≤ N ∧ ns.length = k ∧ Hid (allN ws = (allN (ws.drop k)).map (ns ++ ·)) ∧ Hid (wr.ownsRow w.heap.size 22 1 v4 ns.length (fl ns)) ∧ Hid (Below w.heap.size w wr))
    (fun _ vi _ => N - (intOf vi).toNat)
  case atStart => exact ⟨0, [], rfl, by omega, rfl, hS0, hE, hA⟩
  case round =>
    obtain ⟨k, ns, rfl, hk, hns, hS, hown, hbw⟩ := hrel
    clear hE hA hS0
    by_cases hkn : k < N
    · have hki : (k : Int) < (N : Int) := by omega
      obtain ⟨x, hx⟩ : ∃ x, ws[k]? = some x := ⟨_, List.getElem?_eq_getElem (show k < ws.length by omega)⟩
      have hck : wr.cell? ⟨g, o + k, none⟩ = some (.string (ba x)) := by rw [hbw.out.cell (p := ⟨g, o + k, none⟩) hg]; exact hc k x hx
      have hdrop : ws.drop k = x :: ws.drop (k + 1) := by
        have := List.drop_eq_getElem_cons (show k < ws.length by omega)
        rw [this]
        congr 1
        rw [List.getElem?_eq_getElem (show k < ws.length by omega)] at hx
        exact Option.some.inj hx
      have hS' := hS.out
      rw [hdrop] at hS'
      have hba : (ba x).data.toList = x := rfl
      cases hsp : specN x with
      | some n =>
        have hSN : Hid (allN ws = (allN (ws.drop (k + 1))).map ((ns ++ [n]) ++ ·)) := allN_step hS' hsp
        have hR : ∀ e, RetSpec x e → e = .returned (.tuple #[.float .f32 n, .bool true]) := by
          rintro e ⟨a, b, rfl, h⟩
          obtain ⟨rfl, rfl⟩ := out_some h hsp
          rfl
        clear hS hS' hdrop hx hc hsp hN
        go_wp2_with (first
          | (go_at_call 22; refine (specRead2 (ba x) _).mono ?_; rintro e w2 ⟨hr, rfl⟩; obtain rfl := hR e hr; clear hr)
          | (at_builtin
             refine wpList_append_own_at _ rfl (.tmp 26) (.tmp 28) _ rfl w.heap.size 22 i0 _ 1 4 Tryd.underlying64 hi hz0 hz1 hz2 rfl (by omega) _ ns.length _ rfl (hown.out.alloc _)
               ⟨wr.heap.size, 0, none⟩ 1 1 [.float .f32 n] rfl rfl (cell_one_new _ _ _) (oneFl _) (by unfold maxLen; omega) (by omega) (by have := hbw.out.size; simp; omega) ?_
             intro v' w3 hown3 hgrow3 hnil3 hloc3))
        have hB3 : Hid (Below w.heap.size w w3) := (hbw.out.alloc hbw.out.size _).grown hgrow3 (by have := hbw.out.size; simp; omega) (ownBlock_ge hown.out)
        have hO3 : Hid (w3.ownsRow w.heap.size 22 1 v' (ns ++ [n]).length (fl (ns ++ [n]))) := by
          rw [fl_snoc, List.length_append]
          exact hown3
        refine ⟨⟨k + 1, ns ++ [n], (by first | rfl | (congr 1; omega)), by omega, by simp; omega, hSN, hO3, hB3⟩, by simp only [intOf]; omega⟩
      | none =>
        have hSN : Hid (allN ws = none) := allN_stop hS' hsp
        have hR : ∀ e, RetSpec x e → ∃ a, e = .returned (.tuple #[.float .f32 a, .bool false]) := by
          rintro e ⟨a, b, rfl, h⟩
          obtain rfl := out_no h hsp
          exact ⟨a, rfl⟩
        clear hS hS' hdrop hx hc hsp hN
        go_wp2_with (first
          | (go_at_call 22; refine (specRead2 (ba x) _).mono ?_; rintro e w2 ⟨hr, rfl⟩; obtain ⟨a, rfl⟩ := hR e hr; clear hr))
        go_ret2
        rw [hSN.out]
        exact ⟨⟨_, rfl⟩, hbw.out.alloc hbw.out.size _⟩
    · have hki : (N : Int) ≤ (k : Int) := by omega
      have hSN : Hid (allN ws = some ns) := by
        have := hS.out
        rw [List.drop_eq_nil_of_le (show ws.length ≤ k by omega)] at this
        show allN ws = some ns
        rw [this, allN, Option.map_some, List.append_nil]
      clear hN hS hc
      go_wp2
      go_ret2
      rw [hSN.out]
      exact ⟨⟨_, rfl, hown.out⟩, hbw.out⟩
end Go.Proofs.YtfeaddbehmodmaaDoor
