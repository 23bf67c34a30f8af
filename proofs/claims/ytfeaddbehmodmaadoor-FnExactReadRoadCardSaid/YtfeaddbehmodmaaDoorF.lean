/-
  FLAT ARGUMENTS (numbers, bools, structs and arrays of these): what their cells are, and that they read alike in every world. Conditions: none (a library text; it proves no given statement).
-/
import Derived.RowKit
import Derived.OpenShut
import Derived.JoinedOf
import Derived.ChangeCalls
import Derived.Test.YtfeaddbehmodmaaDoorProg
namespace Go.Proofs.YtfeaddbehmodmaaDoor
open Go.ChangeShapes Go.WideShapes
inductive K | f (k : FloatKind) | i (k : IntKind) | b
def bitsN (k : FloatKind) : Nat := 2 ^ k.format.width
def All2 {α β : Type} (R : α → β → Prop) : List α → List β → Prop
  | [], [] => True
  | a :: x, b :: y => R a b ∧ All2 R x y
  | _, _ => False
theorem All2.append {α β : Type} {R : α → β → Prop} : ∀ {a b : List α} {c d : List β}, All2 R a c → All2 R b d → All2 R (a ++ b) (c ++ d)
  | [], _, [], _, _, h => h
  | _ :: _, _, _ :: _, _, g, h => ⟨g.1, All2.append g.2 h⟩
  | [], _, _ :: _, _, g, _ => g.elim
  | _ :: _, _, [], _, g, _ => g.elim
/-! Flat types: the kinds of their cells. -/
def flatPs (P : Program) (go : TypeId → Option (List K)) : List (TypeId × Nat) → Nat → Option (List K)
  | [], _ => some []
  | (t, off) :: l, at' =>
    if off = at' then
      match go t with
      | some a => if a.length = P.cellsOf t then (match flatPs P go l (at' + a.length) with | some r => some (a ++ r) | none => none) else none
      | none => none
    else none
def pairsOf (P : Program) (t : TypeId) : Option (List (TypeId × Nat)) :=
  match P.underlying t with
  | some (.struct fs) => some (fs.toList.map fun f => (f.type, f.offset))
  | some (.array m e) => some ((List.range m).map fun i => (e, i * P.cellsOf e))
  | _ => none
def leafOf (P : Program) (t : TypeId) : Option K :=
  match P.underlying t with
  | some .bool => some .b
  | some (.int k) => some (.i k)
  | some (.float k) => some (.f k)
  | _ => none
def flat (P : Program) : Nat → TypeId → Option (List K)
  | 0, _ => none
  | n + 1, t =>
    match leafOf P t with
    | some k => some [k]
    | none =>
      match pairsOf P t with
      | some ps => (match flatPs P (flat P n) ps 0 with | some l => if l.length = P.cellsOf t then some l else none | none => none)
      | none => none

def leafOk : K → Value → Prop
  | .b, v => ∃ b, v = .bool b
  | .i k, v => ∃ n, v = .int k n
  | .f k, v => ∃ b, v = .float k b ∧ b < bitsN k

theorem mapM_nil_ps {α β : Type} {f g : α → Option (β × List MemPlace)} : ∀ {l : List α} {xs : List (β × List MemPlace)}, l.mapM f = some xs →
    (∀ a ∈ l, ∀ x, f a = some x → x.2 = [] ∧ g a = some x) → l.mapM g = some xs ∧ xs.flatMap (·.2) = []
  | [], xs, h, _ => by
    simp only [List.mapM_nil, Option.pure_def, Option.some.injEq] at h
    subst h; exact ⟨by simp, rfl⟩
  | a :: l, xs, h, hg => by
    rw [List.mapM_cons] at h
    cases ha : f a with
    | none => simp [ha] at h
    | some b =>
      cases hl : l.mapM f with
      | none => simp [ha, hl] at h
      | some bs =>
        simp [ha, hl] at h
        subst h
        obtain ⟨h1, h2⟩ := hg a List.mem_cons_self b ha
        obtain ⟨h3, h4⟩ := mapM_nil_ps hl fun x hx => hg x (List.mem_cons_of_mem _ hx)
        refine ⟨?_, by simp [h1, h4]⟩
        rw [List.mapM_cons]
        simp [h2, h3]

section
variable {H : Type} {enc : TypeId × Value → H} {P : Program}

abbrev inW (enc : TypeId × Value → H) (P : Program) (w : World) (base : Nat) (spare : Nat → Bool) (held : Bool) (n : Nat) (cs : List Value) (q : TypeId × Nat) : Option (DataW H × List MemPlace) :=
  DataW.trod enc P w base spare held n q.1 ((cs.drop q.2).take (P.cellsOf q.1))

theorem trod_pairs {w : World} {base : Nat} {spare : Nat → Bool} {held : Bool} {n : Nat} {t : TypeId} {cs : List Value} {ps : List (TypeId × Nat)} (hp : pairsOf P t = some ps) :
    DataW.trod enc P w base spare held (n + 1) t cs = if cs.length = P.cellsOf t then (ps.mapM (inW enc P w base spare held n cs)).map fun xs => (.agg (xs.map (·.1)), xs.flatMap (·.2)) else none := by
  unfold pairsOf at hp
  split at hp
  · rename_i fs hu
    simp only [Option.some.injEq] at hp
    subst hp
    unfold DataW.trod
    rw [hu]
    simp only [List.mapM_map]
    rfl
  · rename_i m e hu
    simp only [Option.some.injEq] at hp
    subst hp
    unfold DataW.trod
    rw [hu]
    simp only [List.mapM_map]
    rfl
  · cases hp

theorem pairs_cells {go : TypeId → Option (List K)} {f : TypeId × Nat → Option (DataW H × List MemPlace)} {cs : List Value}
    (hgo : ∀ q l x, go q.1 = some l → f q = some x → All2 leafOk l ((cs.drop q.2).take (P.cellsOf q.1))) :
    ∀ {ps : List (TypeId × Nat)} {o : Nat} {l : List K} {xs : List (DataW H × List MemPlace)}, flatPs P go ps o = some l → ps.mapM f = some xs → o + l.length = cs.length → All2 leafOk l (cs.drop o)
  | [], o, l, xs, h, _, hl => by
    simp only [flatPs, Option.some.injEq] at h
    subst h
    rw [List.drop_eq_nil_of_le (by simp at hl; omega)]; trivial
  | (t, off) :: ps, o, l, xs, h, hm, hl => by
    simp only [flatPs] at h
    split at h
    · rename_i ho
      subst ho
      split at h
      · rename_i a ha
        split at h
        · rename_i hal
          split at h
          · rename_i r hr
            simp only [Option.some.injEq] at h
            subst h
            rw [List.mapM_cons] at hm
            cases hb : f (t, off) with
            | none => simp [hb] at hm
            | some b =>
              cases hbs : ps.mapM f with
              | none => simp [hb, hbs] at hm
              | some bs =>
                have h1 := hgo (t, off) a b ha hb
                simp only [List.length_append] at hl
                have h2 := pairs_cells hgo (o := off + a.length) hr hbs (by omega)
                simp only at h1
                rw [← hal] at h1
                have := All2.append h1 h2
                rw [← List.drop_drop, List.take_append_drop] at this
                exact this
          · cases h
        · cases h
      · cases h
    · cases h

theorem mem_go {go : TypeId → Option (List K)} : ∀ {ps : List (TypeId × Nat)} {o : Nat} {l : List K}, flatPs P go ps o = some l → ∀ q ∈ ps, ∃ a, go q.1 = some a
  | [], _, _, _, q, hq => by cases hq
  | (t, off) :: ps, o, l, h, q, hq => by
    simp only [flatPs] at h
    split at h
    · split at h
      · rename_i a ha
        split at h
        · split at h
          · rename_i r hr
            rcases List.mem_cons.1 hq with rfl | hq
            · exact ⟨a, ha⟩
            · exact mem_go hr q hq
          · cases h
        · cases h
      · cases h
    · cases h

/-- What a flat type's cells read as: no places, in every world alike. -/
theorem flat_trod {w : World} {base : Nat} {spare : Nat → Bool} {held : Bool} : ∀ {n : Nat} {t : TypeId} {l : List K}, flat P n t = some l → ∀ {fuel : Nat} {cs : List Value} {x : DataW H × List MemPlace},
    DataW.trod enc P w base spare held fuel t cs = some x →
    x.2 = [] ∧ All2 leafOk l cs ∧ ∀ (w' : World) (base' : Nat) (spare' : Nat → Bool) (held' : Bool), DataW.trod enc P w' base' spare' held' fuel t cs = some x
  | 0, t, l, h, _, _, _, _ => by cases h
  | n + 1, t, l, h, 0, cs, x, hx => by simp [DataW.trod] at hx
  | n + 1, t, l, h, fuel + 1, cs, x, hx => by
    simp only [flat] at h
    split at h
    · rename_i k hk
      simp only [Option.some.injEq] at h
      subst h
      unfold leafOf at hk
      split at hk
      · rename_i hu
        cases hk
        obtain ⟨b, rfl, rfl⟩ := DataW.trod_bool hu hx
        exact ⟨rfl, ⟨⟨b, rfl⟩, trivial⟩, fun w' base' spare' held' => by simp [DataW.trod, hu]⟩
      · rename_i k hu
        cases hk
        obtain ⟨b, rfl, rfl, hw⟩ := DataW.trod_int hu hx
        exact ⟨rfl, ⟨⟨b, rfl⟩, trivial⟩, fun w' base' spare' held' => by simp [DataW.trod, hu, hw]⟩
      · rename_i k hu
        cases hk
        unfold DataW.trod at hx
        rw [hu] at hx
        split at hx
        all_goals first | (rename_i heq; cases heq; done) | skip
        · rename_i k1 k2 b heq
          simp only [Option.some.injEq, TypeDesc.float.injEq] at heq
          subst heq
          split at hx
          · rename_i hc
            obtain ⟨rfl, hw⟩ := hc
            simp only [Option.some.injEq] at hx
            subst hx
            refine ⟨rfl, ⟨⟨b, rfl, ?_⟩, trivial⟩, fun w' base' spare' held' => by unfold DataW.trod; rw [hu]; simp [hw]⟩
            cases k2 <;> exact of_decide_eq_true hw
          · cases hx
        all_goals first | cases hx | (simp_all; done)
      · cases hk
    · split at h
      · rename_i ps hp
        rw [trod_pairs hp] at hx
        split at h
        · rename_i l' hf
          split at h
          · rename_i hl
            cases h
            split at hx
            · rename_i hcl
              simp only [Option.map_eq_some_iff] at hx
              obtain ⟨xs, hm, rfl⟩ := hx
              have key : ∀ (q : TypeId × Nat) (a : List K) (y : DataW H × List MemPlace), flat P n q.1 = some a → inW enc P w base spare held fuel cs q = some y → _ := fun q a y ha hy => flat_trod ha hy
              refine ⟨?_, ?_, fun w' base' spare' held' => ?_⟩
              · exact (mapM_nil_ps (g := inW enc P w base spare held fuel cs) hm fun q hq y hy => let ⟨a, ha⟩ := mem_go hf q hq; ⟨(key q a y ha hy).1, hy⟩).2
              · exact pairs_cells (fun q a y ha hy => (key q a y ha hy).2.1) hf hm (by omega)
              · rw [trod_pairs hp, if_pos hcl, (mapM_nil_ps (g := inW enc P w' base' spare' held' fuel cs) hm fun q hq y hy => let ⟨a, ha⟩ := mem_go hf q hq; ⟨(key q a y ha hy).1, (key q a y ha hy).2.2 _ _ _ _⟩).1]
                rfl
            · cases hx
          · cases h
        · cases h
      · cases h

def isAgg (P : Program) (t : TypeId) : Bool := (pairsOf P t).isSome
theorem okWide_agg {w : World} {r : Go.Reach} {b0 : Nat} {t : TypeId} {v : Value} (ht : isAgg P t = true) (h : Value.okWide P w r b0 t v) : ∃ cs, v = .agg cs := by
  unfold isAgg pairsOf at ht
  split at ht
  · rename_i fs hu; simp only [Value.okWide, hu] at h; exact ⟨_, h.choose_spec.1⟩
  · rename_i m e hu; simp only [Value.okWide, hu] at h; exact ⟨_, h.choose_spec.1⟩
  · cases ht
theorem okWide_leaf {w : World} {r : Go.Reach} {b0 : Nat} {t : TypeId} {v : Value} {n : Nat} {q : K} (hf : flat P n t = some [q]) (ht : isAgg P t = false) (h : Value.okWide P w r b0 t v) : v.cells = #[v] := by
  cases n with
  | zero => cases hf
  | succ n =>
  simp only [flat] at hf
  split at hf
  · rename_i k hk
    unfold leafOf at hk
    split at hk
    · rename_i hu; obtain ⟨b, rfl⟩ := okWide_bool hu h; rfl
    · rename_i hu; obtain ⟨b, rfl⟩ := okWide_int hu h; rfl
    · rename_i hu
      simp only [Value.okWide, hu, Cell.okWide] at h
      cases v <;> first | rfl | simp_all [Cell.ok]
    · cases hk
  · unfold isAgg at ht
    split at hf
    · rename_i ps hp; rw [hp] at ht; cases ht
    · cases hf


end
end Go.Proofs.YtfeaddbehmodmaaDoor
