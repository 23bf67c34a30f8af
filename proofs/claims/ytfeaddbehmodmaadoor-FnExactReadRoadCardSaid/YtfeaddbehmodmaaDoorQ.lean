/-
  A TEXT CUT AT ITS SPACES: plain facts on lists of bytes, no program. Conditions: those that stand in each.
-/
import Derived.Test.YtfeaddbehmodmaaDoorN
import Derived.Lib.SplitLaws
import Derived.Lib.IndexLaws
namespace Go.Proofs.YtfeaddbehmodmaaDoor
open Go.RowKit
set_option maxRecDepth 100000
/-- What is left of a text, cut at its spaces, behind the piece so far. -/
def spA (cur : List UInt8) : List UInt8 → List (List UInt8)
  | [] => [cur]
  | c :: r => if c = 32 then cur :: spA [] r else spA (cur ++ [c]) r
/-- A text, cut at its spaces. -/
def sp (l : List UInt8) : List (List UInt8) := spA [] l
theorem spA_ne : ∀ (cur l : List UInt8), spA cur l ≠ []
  | _, [] => by simp [spA]
  | cur, c :: r => by
    unfold spA
    split
    · simp
    · exact spA_ne _ r
theorem spA_join : ∀ (cur l : List UInt8), Lib.join (spA cur l) [32] = cur ++ l
  | cur, [] => by simp [spA, Lib.join_one]
  | cur, c :: r => by
    unfold spA
    split
    · rename_i hc
      subst hc
      have ih := spA_join [] r
      obtain ⟨a, t, hat⟩ := List.exists_cons_of_ne_nil (spA_ne [] r)
      rw [hat] at ih ⊢
      rw [Lib.join_cons] at ih ⊢
      simp only [Lib.joinTail, List.map_cons, List.flatten_cons, List.nil_append] at ih ⊢
      rw [List.append_assoc, ih]
      rfl
    · rw [spA_join _ r, List.append_assoc]
      rfl
theorem sp_join (l : List UInt8) : Lib.join (sp l) [32] = l := by
  unfold sp
  rw [spA_join]
  rfl
theorem spA_free : ∀ (w cur : List UInt8), 32 ∉ w → spA cur w = [cur ++ w]
  | [], cur, _ => by simp [spA]
  | c :: r, cur, h => by
    have hc : c ≠ 32 := fun e => h (by rw [e]; exact List.mem_cons_self)
    rw [spA, if_neg hc, spA_free r _ (fun g => h (List.mem_cons_of_mem _ g)), List.append_assoc]
    rfl
theorem spA_cut : ∀ (w r cur : List UInt8), 32 ∉ w → spA cur (w ++ 32 :: r) = (cur ++ w) :: spA [] r
  | [], r, cur, _ => by simp [spA]
  | c :: t, r, cur, h => by
    have hc : c ≠ 32 := fun e => h (by rw [e]; exact List.mem_cons_self)
    rw [List.cons_append, spA, if_neg hc, spA_cut t r _ (fun g => h (List.mem_cons_of_mem _ g)), List.append_assoc]
    rfl
theorem spA_words : ∀ (r : List (List UInt8)) (x : List UInt8), 32 ∉ x → (∀ w ∈ r, 32 ∉ w) → spA [] (x ++ Lib.joinTail [32] r) = x :: r
  | [], x, h, _ => by simp [Lib.joinTail, spA_free x [] h]
  | y :: r, x, h, hr => by
    have ih := spA_words r y (hr y List.mem_cons_self) fun w hw => hr w (List.mem_cons_of_mem _ hw)
    have : x ++ Lib.joinTail [32] (y :: r) = x ++ 32 :: (y ++ Lib.joinTail [32] r) := by simp [Lib.joinTail]
    rw [this, spA_cut x _ [] h, ih]
    rfl
/-- Words that hold no space, put together and cut again. -/
theorem sp_words {x : List UInt8} {r : List (List UInt8)} (h : ∀ w ∈ x :: r, 32 ∉ w) : sp (Lib.join (x :: r) [32]) = x :: r := by
  unfold sp
  rw [Lib.join_cons]
  exact spA_words r x (h x List.mem_cons_self) fun w hw => h w (List.mem_cons_of_mem _ hw)
theorem splitK_sp : ∀ (k : Nat) (l : List UInt8), l.count 32 ≤ k → Lib.splitK [32] 0 k l = sp l
  | 0, l, h => by
    have h0 : 32 ∉ l := List.count_eq_zero.1 (Nat.le_zero.1 h)
    unfold sp
    rw [spA_free l [] h0]
    rfl
  | k + 1, l, h => by
    unfold Lib.splitK
    rw [Lib.index_one]
    by_cases hm : Lib.indexByte l 32 = -1
    · rw [if_pos (beq_iff_eq.2 hm)]
      have h0 : 32 ∉ l := fun g => by
        obtain ⟨j, hj, e⟩ := List.mem_iff_getElem.1 g
        exact Lib.indexByte_none hm j (by rw [List.getElem?_eq_getElem hj, e])
      unfold sp
      rw [spA_free l [] h0]
      rfl
    · rw [if_neg (fun e => hm (beq_iff_eq.1 e))]
      have hge := Lib.indexByte_ge l 32
      obtain ⟨i, hi⟩ : ∃ i : Nat, Lib.indexByte l 32 = i := ⟨(Lib.indexByte l 32).toNat, by omega⟩
      obtain ⟨h1, h2⟩ := Lib.indexByte_some hi
      rw [hi, Int.toNat_natCast, Nat.add_zero]
      have hlt : i < l.length := by
        rcases Nat.lt_or_ge i l.length with q | q
        · exact q
        · rw [List.getElem?_eq_none q] at h1; cases h1
      have hl : l = l.take i ++ 32 :: l.drop (i + 1) := by
        have e : l[i] = 32 := by rw [List.getElem?_eq_getElem hlt] at h1; exact Option.some.inj h1
        rw [← e, ← List.drop_eq_getElem_cons hlt, List.take_append_drop]
      have hn : 32 ∉ l.take i := fun g => by
        obtain ⟨j, hj, e⟩ := List.mem_iff_getElem.1 g
        rw [List.length_take] at hj
        refine h2 j (by omega) ?_
        rw [List.getElem_take] at e
        rw [List.getElem?_eq_getElem (by omega), e]
      have hc : (l.drop (i + 1)).count 32 ≤ k := by
        have h3 : l.count 32 = (l.take i ++ 32 :: l.drop (i + 1)).count 32 := by rw [← hl]
        rw [List.count_append, List.count_cons_self] at h3
        omega
      have hs : sp l = l.take i :: sp (l.drop (i + 1)) := by
        unfold sp
        conv => lhs; rw [hl]
        rw [spA_cut _ _ [] hn]
        rfl
      rw [hs]
      congr 1
      exact splitK_sp k _ hc
theorem splitB_sp (s : ByteArray) : (Lib.splitB ⟨#[32]⟩ 0 (Lib.countB s ⟨#[32]⟩) s).map (fun x => x.data.toList) = sp s.data.toList := by
  have h := Lib.splitB_data ⟨#[32]⟩ 0 (Lib.countB s ⟨#[32]⟩) s
  rw [h]
  refine splitK_sp _ _ ?_
  show _ ≤ Lib.count _ [32]
  rw [Lib.count_one]
  exact Nat.le_refl _
theorem sp_length (s : ByteArray) : (sp s.data.toList).length = Lib.countB s ⟨#[32]⟩ + 1 := by
  rw [← splitB_sp, List.length_map]
  exact Lib.splitB_all ⟨#[32]⟩ (by decide) 0 _ s rfl
end Go.Proofs.YtfeaddbehmodmaaDoor
