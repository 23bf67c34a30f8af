/-
  A LIBRARY TEXT: a symbolic walk over the form's own steps, with its soundness. It proves no given statement; its lemmas hold without conditions beside those that each names.
-/
import Derived.Test.YtlnphdohjelppaaSxB
import Derived.RowKit
import Derived.OpenShut
import Derived.JoinedOf
import Derived.ChangeCalls
/-! WHAT A FUNCTION COMES TO, SAID ONCE: a pattern of arguments and a result; used at each call. -/
namespace Go.Sx
open Go.RowKit

/-- The same, constants worked out, forced. -/
def E.subK {α : Type} (σ : List E) (e : E) (k : E → α) : α :=
  match e with
  | .at i => fE (subD σ i) k
  | .n z => k (.n z)
  | .u f a => a.subK σ fun a => mkU f a k
  | .b f x y => x.subK σ fun x => y.subK σ fun y => mkB f x y k
  | .lc _ _ => k (.n 0)
  | .wh p s i j => k (.wh p s (i.subL σ) j)
theorem subK_spec {α : Type} (σ : List E) : ∀ (e : E) (k : E → α), ∃ r, e.subK σ k = k r ∧ ∀ ρ, r.den ρ = e.den (subρ σ ρ)
  | .at i, k => ⟨subD σ i, by simp [E.subK, fE_eq], fun _ => by simp only [E.den, subρ]⟩
  | .n z, k => ⟨.n z, rfl, fun _ => by simp only [E.den]⟩
  | .u f a, k => by
    obtain ⟨r, h1, h2⟩ := subK_spec σ a fun a => mkU f a k
    obtain ⟨e, h3, h4⟩ := mkU_spec f r k
    refine ⟨e, ?_, fun ρ => ?_⟩
    · simp only [E.subK]; rw [h1, h3]
    · rw [h4, h2]; simp only [E.den]
  | .b f x y, k => by
    obtain ⟨r, h1, h2⟩ := subK_spec σ x fun x => y.subK σ fun y => mkB f x y k
    obtain ⟨q, h3, h4⟩ := subK_spec σ y fun y => mkB f r y k
    obtain ⟨e, h5, h6⟩ := mkB_spec f r q k
    refine ⟨e, ?_, fun ρ => ?_⟩
    · simp only [E.subK]; rw [h1, h3, h5]
    · rw [h6, h2, h4]; simp only [E.den]
  | .lc _ _, k => ⟨.n 0, rfl, fun _ => by simp only [E.den]⟩
  | .wh p s i j, k => ⟨.wh p s (i.subL σ) j, rfl, fun ρ => by simp only [E.den, subL_dens]⟩

/-- Of scalars alone. -/
def SC.scalar : SC → Bool | .s .. => true | _ => false
def SP.scalar : SP → Bool | .one x => x.scalar | .agg l => l.all SC.scalar
def SV.scalar : SV → Bool | .p x => x.scalar | .tup l => l.all SP.scalar

def SC.subK {α : Type} (σ : List E) (x : SC) (k : SC → α) : α := match x with | .s q e => e.subK σ fun e => k (.s q e) | x => k x
def subSCs {α : Type} (σ : List E) (l : List SC) (k : List SC → α) : α := match l with | [] => k [] | x :: l => x.subK σ fun x => subSCs σ l fun l => k (x :: l)
def SP.subK {α : Type} (σ : List E) (x : SP) (k : SP → α) : α := match x with | .one x => x.subK σ fun x => k (.one x) | .agg l => subSCs σ l fun l => k (.agg l)
def subSPs {α : Type} (σ : List E) (l : List SP) (k : List SP → α) : α := match l with | [] => k [] | x :: l => x.subK σ fun x => subSPs σ l fun l => k (x :: l)
def SV.subK {α : Type} (σ : List E) (x : SV) (k : SV → α) : α := match x with | .p x => x.subK σ fun x => k (.p x) | .tup l => subSPs σ l fun l => k (.tup l)

/-- 'r' says at env what 'x' says at env'. -/
def SaySC (env env' : Env) (r x : SC) : Prop := ∀ v, x.rep env' v → r.rep env v
def SaySP (env env' : Env) (r x : SP) : Prop := ∀ v, x.rep env' v → r.rep env v
def SaySV (env env' : Env) (r x : SV) : Prop := ∀ v, x.rep env' v → r.rep env v

theorem All2.chain {α β γ : Type} {R : α → β → Prop} {T : β → γ → Prop} {S : α → γ → Prop} (h : ∀ a b c, R a b → T b c → S a c) : ∀ {l : List α} {m : List β} {n : List γ}, All2 R l m → All2 T m n → All2 S l n
  | [], [], [], _, _ => trivial
  | _ :: _, _ :: _, _ :: _, g1, g2 => ⟨h _ _ _ g1.1 g2.1, All2.chain h g1.2 g2.2⟩
  | [], [], _ :: _, _, g => g.elim
  | [], _ :: _, _, g, _ => g.elim
  | _ :: _, [], _, g, _ => g.elim
  | _ :: _, _ :: _, [], _, g => g.elim

section
variable {env env' : Env} {σ : List E}
theorem SC.subK_spec (hρ : env'.ρ = subρ σ env.ρ) {α : Type} {x : SC} (hx : x.scalar = true) (k : SC → α) : ∃ r, x.subK σ k = k r ∧ SaySC env env' r x := by
  cases x with
  | s q e =>
    obtain ⟨r, h1, h2⟩ := Sx.subK_spec σ e fun e => k (.s q e)
    refine ⟨.s q r, h1, fun v hv => ?_⟩
    cases q <;> simpa [SC.rep, K.ok, h2, ← hρ] using hv
  | _ => cases hx
theorem subSCs_spec (hρ : env'.ρ = subρ σ env.ρ) {α : Type} : ∀ {l : List SC}, l.all SC.scalar = true → ∀ k : List SC → α, ∃ r, subSCs σ l k = k r ∧ All2 (SaySC env env') r l
  | [], _, k => ⟨[], rfl, trivial⟩
  | x :: l, h, k => by
    simp only [List.all_cons, Bool.and_eq_true] at h
    obtain ⟨r, h1, h2⟩ := SC.subK_spec hρ h.1 fun x => subSCs σ l fun l => k (x :: l)
    obtain ⟨q, h3, h4⟩ := subSCs_spec hρ h.2 fun l => k (r :: l)
    exact ⟨r :: q, by simp only [subSCs]; rw [h1, h3], h2, h4⟩
theorem SP.subK_spec (hρ : env'.ρ = subρ σ env.ρ) {α : Type} {x : SP} (hx : x.scalar = true) (k : SP → α) : ∃ r, x.subK σ k = k r ∧ SaySP env env' r x := by
  cases x with
  | one x =>
    obtain ⟨r, h1, h2⟩ := SC.subK_spec hρ (x := x) hx fun x => k (.one x)
    exact ⟨.one r, h1, h2⟩
  | agg l =>
    obtain ⟨r, h1, h2⟩ := subSCs_spec hρ (l := l) hx fun l => k (.agg l)
    exact ⟨.agg r, h1, fun v ⟨vs, e, g⟩ => ⟨vs, e, h2.chain (fun a b c q => q c) g⟩⟩
theorem subSPs_spec (hρ : env'.ρ = subρ σ env.ρ) {α : Type} : ∀ {l : List SP}, l.all SP.scalar = true → ∀ k : List SP → α, ∃ r, subSPs σ l k = k r ∧ All2 (SaySP env env') r l
  | [], _, k => ⟨[], rfl, trivial⟩
  | x :: l, h, k => by
    simp only [List.all_cons, Bool.and_eq_true] at h
    obtain ⟨r, h1, h2⟩ := SP.subK_spec hρ h.1 fun x => subSPs σ l fun l => k (x :: l)
    obtain ⟨q, h3, h4⟩ := subSPs_spec hρ h.2 fun l => k (r :: l)
    exact ⟨r :: q, by simp only [subSPs]; rw [h1, h3], h2, h4⟩
theorem SV.subK_spec (hρ : env'.ρ = subρ σ env.ρ) {α : Type} {x : SV} (hx : x.scalar = true) (k : SV → α) : ∃ r, x.subK σ k = k r ∧ SaySV env env' r x := by
  cases x with
  | p x =>
    obtain ⟨r, h1, h2⟩ := SP.subK_spec hρ (x := x) hx fun x => k (.p x)
    exact ⟨.p r, h1, h2⟩
  | tup l =>
    obtain ⟨r, h1, h2⟩ := subSPs_spec hρ (l := l) hx fun l => k (.tup l)
    exact ⟨.tup r, h1, fun v ⟨vs, e, g⟩ => ⟨vs, e, h2.chain (fun a b c q => q c) g⟩⟩
end

/-! A pattern against arguments: the atoms' terms are guessed, then checked. -/
def setL (σ : List E) (i : Nat) (e : E) : List E :=
  match σ, i with
  | _ :: σ, 0 => e :: σ
  | [], 0 => [e]
  | x :: σ, i + 1 => x :: setL σ i e
  | [], i + 1 => .n 0 :: setL [] i e
def guessSC (p x : SC) (σ : List E) : List E := match p, x with | .s _ (.at i), .s _ e => setL σ i e | _, _ => σ
def guessSCs : List SC → List SC → List E → List E | p :: ps, x :: xs, σ => guessSCs ps xs (guessSC p x σ) | _, _, σ => σ
def guessSV (hp : Heap) (mem : List (List SC)) (p x : SV) (σ : List E) : List E :=
  match p, x with
  | .p (.one (.ptr j _)), .p (.one (.ptr b _)) => match blkAt hp b with | some k => guessSCs (mem.getD j []) k.cells σ | none => σ
  | .p (.one p), .p (.one x) => guessSC p x σ
  | .p (.agg p), .p (.agg x) => guessSCs p x σ
  | _, _ => σ
def guess (hp : Heap) (mem : List (List SC)) : List SV → List SV → List E → List E | p :: ps, x :: xs, σ => guess hp mem ps xs (guessSV hp mem p x σ) | _, _, σ => σ

def matSC (σ : List E) (p x : SC) : Bool :=
  match p, x with
  | .s k e, .s k' e' => decide (k = k') && (e.sub σ).same e'
  | _, _ => false
def matSCs (σ : List E) : List SC → List SC → Bool | [], [] => true | p :: ps, x :: xs => matSC σ p x && matSCs σ ps xs | _, _ => false
/-- 'bs': where the pattern's blocks lie, by number. -/
def matSV (σ : List E) (bs : List Nat) (p x : SV) : Bool :=
  match p, x with
  | .p (.one (.ptr j off)), .p (.one (.ptr b off')) => (match bs[j]? with | some b' => Nat.beq b' b | none => false) && Nat.beq off off'
  | .p (.one p), .p (.one x) => matSC σ p x
  | .p (.agg p), .p (.agg x) => matSCs σ p x
  | _, _ => false
def matSVs (σ : List E) (bs : List Nat) : List SV → List SV → Bool | [], [] => true | p :: ps, x :: xs => matSV σ bs p x && matSVs σ bs ps xs | _, _ => false
def matMem (σ : List E) (hp : Heap) : List (List SC) → List Nat → Bool
  | [], [] => true
  | m :: ms, b :: bs => (match blkAt hp b with | some k => matSCs σ m k.cells | none => false) && matMem σ hp ms bs
  | _, _ => false
def ptrBs : List SV → List SV → List Nat
  | .p (.one (.ptr _ _)) :: ps, .p (.one (.ptr b _)) :: xs => b :: ptrBs ps xs
  | _ :: ps, _ :: xs => ptrBs ps xs
  | _, _ => []
def distinct : List Nat → Bool | [] => true | b :: bs => !bs.elem b && distinct bs

structure Summ where
  f : Nat
  args : List SV
  mem : List (List SC)
  res : SV

/-- The result of a call that fits. -/
def Summ.app {α : Type} (s : Summ) (args : List SV) (hp : Heap) (yes : SV → α) (no : Unit → α) : α :=
  fL (guess hp s.mem s.args args []) fun σ => fL (ptrBs s.args args) fun bs =>
  if matSVs σ bs s.args args && matMem σ hp s.mem bs && distinct bs && s.res.scalar then s.res.subK σ yes else no ()

def topF (fs : List Fact) (e : E) : E :=
  match e with
  | .b .less x y => match known fs (.b (.fc .lt .f32) y x) with | some true => y | some false => x | none => e
  | .b .great x y => match known fs (.b (.fc .lt .f32) x y) with | some true => y | some false => x | none => e
  | .u .held x =>
    match known fs (mb (.fc .lt .f32) x (.n 0)), known fs (mb (.fc .lt .f32) (.n 0x3f800000) x) with
    | some true, _ => .n 0
    | some false, some true => .n 0x3f800000
    | some false, some false => x
    | _, _ => e
  | e => e
theorem topF_den {ρ : Nat → Int} {fs : List Fact} (hF : Holds ρ fs) (e : E) : (topF fs e).den ρ = e.den ρ := by
  unfold topF
  split
  · rename_i x y
    split
    · rename_i hk
      have := known_spec hF hk
      simp only [E.den, F2.den, tru_b2i] at this ⊢
      simp [lessb, this]
    · rename_i hk
      have := known_spec hF hk
      simp only [E.den, F2.den, tru_b2i] at this ⊢
      simp [lessb, this]
    · rfl
  · rename_i x y
    split
    · rename_i hk
      have := known_spec hF hk
      simp only [E.den, F2.den, tru_b2i] at this ⊢
      simp [greatb, this]
    · rename_i hk
      have := known_spec hF hk
      simp only [E.den, F2.den, tru_b2i] at this ⊢
      simp [greatb, this]
    · rfl
  · rename_i x
    have e1 : ∀ b, known fs (mb (.fc .lt .f32) x (.n 0)) = some b → fCm .lt .f32 (x.den ρ).toNat 0 = b := fun b hk => by
      have := known_spec hF hk
      rwa [mb_den, F2.den, tru_b2i] at this
    have e2 : ∀ b, known fs (mb (.fc .lt .f32) (.n 0x3f800000) x) = some b → fCm .lt .f32 one32 (x.den ρ).toNat = b := fun b hk => by
      have := known_spec hF hk
      rwa [mb_den, F2.den, tru_b2i] at this
    split
    · rename_i hk; simp [E.den, F1.den, heldb, e1 _ hk]
    · rename_i hk hk2; simp [E.den, F1.den, heldb, e1 _ hk, e2 _ hk2]
    · rename_i hk hk2; simp [E.den, F1.den, heldb, e1 _ hk, e2 _ hk2]
    · rfl
  · rfl

/-- A summary's result, where a way has told which of two it is. -/
def topTree (fs : List Fact) (r : SV) : Tree (SV × List Fact) :=
  match r with
  | .p (.one (.s k (.b .great x y))) => fE (topF fs (.b .great x y)) fun e => .leaf (.p (.one (.s k e)), fs)
  | r => .leaf (r, fs)
theorem topTree_sel {ρ : Nat → Int} {fs fs' : List Fact} {q r : SV} (h : (topTree fs q).sel ρ = some (r, fs')) : fs' = fs ∧ (Holds ρ fs → ∀ (env : Env) (v : Value), env.ρ = ρ → q.rep env v → r.rep env v) := by
  unfold topTree at h
  split at h
  · rename_i k x y
    rw [fE_eq] at h
    simp only [Tree.sel, Option.some.injEq, Prod.mk.injEq] at h
    obtain ⟨rfl, rfl⟩ := h
    refine ⟨rfl, fun hF env v e hv => ?_⟩
    subst e
    have hd := topF_den hF (.b .great x y)
    cases k <;> simpa [SV.rep, SP.rep, SC.rep, K.ok, hd] using hv
  · simp only [Tree.sel, Option.some.injEq, Prod.mk.injEq] at h
    obtain ⟨rfl, rfl⟩ := h
    exact ⟨rfl, fun _ _ _ _ h => h⟩

def withSum (s : Summ) (cal : CalV) : CalV := fun f args hp fs =>
  if Nat.beq f s.f then s.app args hp (topTree fs) fun _ => cal f args hp fs else cal f args hp fs

def Summ.hp (s : Summ) : Heap := s.mem.map fun c => some ⟨c, false, none⟩

/-- What a summary promises. -/
def SumOk (P : Program) (s : Summ) : Prop :=
  ∀ (env : Env) (B : Nat) (w : World) (vals : Array Value), All2 (SV.rep env) s.args vals.toList → HRep env B w s.hp → (∀ j, s.hp.length ≤ j → env.β j = none) →
    CallTo P s.f vals w (fun y w' => s.res.rep env y ∧ Le w w')

section
variable {env : Env} {σ : List E} {bs : List Nat}
def patEnv (env : Env) (σ : List E) (bs : List Nat) : Env := { ρ := subρ σ env.ρ, β := fun j => (bs[j]?).bind env.β }

theorem matSC_rep {p x : SC} (h : matSC σ p x = true) {v : Value} (hv : x.rep env v) : p.rep (patEnv env σ bs) v := by
  unfold matSC at h
  split at h
  · rename_i k e k' e'
    simp only [Bool.and_eq_true, decide_eq_true_eq] at h
    obtain ⟨rfl, h⟩ := h
    have := E.same_eq h
    have hd : e'.den env.ρ = e.den (subρ σ env.ρ) := by rw [← this, sub_den]
    cases k <;> simpa [SC.rep, K.ok, patEnv, hd] using hv
  · cases h
theorem matSCs_rep : ∀ {ps xs : List SC}, matSCs σ ps xs = true → ∀ {vs : List Value}, All2 (SC.rep env) xs vs → All2 (SC.rep (patEnv env σ bs)) ps vs
  | [], [], _, [], _ => trivial
  | p :: ps, x :: xs, h, v :: vs, hv => by
    simp only [matSCs, Bool.and_eq_true] at h
    exact ⟨matSC_rep h.1 hv.1, matSCs_rep h.2 hv.2⟩
  | [], [], _, _ :: _, hv => hv.elim
  | _ :: _, _ :: _, _, [], hv => hv.elim
  | [], _ :: _, h, _, _ => by simp [matSCs] at h
  | _ :: _, [], h, _, _ => by simp [matSCs] at h
theorem matSV_rep {p x : SV} (h : matSV σ bs p x = true) {v : Value} (hv : x.rep env v) : p.rep (patEnv env σ bs) v := by
  unfold matSV at h
  split at h
  · rename_i j off b off'
    simp only [Bool.and_eq_true] at h
    obtain ⟨h1, h2⟩ := h
    have := Nat.eq_of_beq_eq_true h2; subst this
    obtain ⟨g, hg, e⟩ := hv
    split at h1
    · rename_i b' hb
      have := Nat.eq_of_beq_eq_true h1; subst this
      exact ⟨g, by simp [patEnv, hb, hg], e⟩
    · cases h1
  · exact matSC_rep h hv
  · obtain ⟨vs, e, g⟩ := hv
    exact ⟨vs, e, matSCs_rep h g⟩
  · cases h
theorem matSVs_rep : ∀ {ps xs : List SV}, matSVs σ bs ps xs = true → ∀ {vs : List Value}, All2 (SV.rep env) xs vs → All2 (SV.rep (patEnv env σ bs)) ps vs
  | [], [], _, [], _ => trivial
  | p :: ps, x :: xs, h, v :: vs, hv => by
    simp only [matSVs, Bool.and_eq_true] at h
    exact ⟨matSV_rep h.1 hv.1, matSVs_rep h.2 hv.2⟩
  | [], [], _, _ :: _, hv => hv.elim
  | _ :: _, _ :: _, _, [], hv => hv.elim
  | [], _ :: _, h, _, _ => by simp [matSVs] at h
  | _ :: _, [], h, _, _ => by simp [matSVs] at h
theorem matMem_at : ∀ {ms : List (List SC)} {bs : List Nat} {hp : Heap}, matMem σ hp ms bs = true → ms.length = bs.length ∧ ∀ (j : Nat) (m : List SC), ms[j]? = some m → ∃ b k, bs[j]? = some b ∧ blkAt hp b = some k ∧ matSCs σ m k.cells = true
  | [], [], _, _ => ⟨rfl, fun j m h => by simp at h⟩
  | m :: ms, b :: bs, hp, h => by
    simp only [matMem, Bool.and_eq_true] at h
    obtain ⟨h1, h2⟩ := h
    obtain ⟨h3, h4⟩ := matMem_at h2
    refine ⟨by simp [h3], fun j q hj => ?_⟩
    cases j with
    | zero =>
      simp only [List.getElem?_cons_zero, Option.some.injEq] at hj
      subst hj
      split at h1
      · rename_i k hk; exact ⟨b, k, rfl, hk, h1⟩
      · cases h1
    | succ j => exact h4 j q (by simpa using hj)
  | [], _ :: _, _, h => by simp [matMem] at h
  | _ :: _, [], _, h => by simp [matMem] at h
theorem distinct_at : ∀ {bs : List Nat}, distinct bs = true → ∀ {i j b : Nat}, bs[i]? = some b → bs[j]? = some b → i = j
  | [], _, i, j, b, h, _ => by simp at h
  | c :: bs, h, i, j, b, hi, hj => by
    simp only [distinct, Bool.and_eq_true, Bool.not_eq_true'] at h
    have hn : ∀ k, bs[k]? = some c → False := fun k hk => by
      have := List.mem_of_getElem? hk
      have h2 : bs.elem c = true := by simpa using this
      rw [h.1] at h2; cases h2
    cases i with
    | zero => cases j with
      | zero => rfl
      | succ j => simp at hi hj; subst hi; exact (hn j hj).elim
    | succ i => cases j with
      | zero => simp at hi hj; subst hj; exact (hn i hi).elim
      | succ j => simp at hi hj; rw [distinct_at h.2 hi hj]
end

theorem withSum_ok {P : Program} {cal : CalV} {s : Summ} (hs : SumOk P s) (hC : CalVOk P cal) : CalVOk P (withSum s cal) := by
  intro f args hp fs env B w vals r fs' hargs hH hF hfr h
  unfold withSum at h
  split at h
  · rename_i hf
    have := Nat.eq_of_beq_eq_true hf
    subst this
    unfold Summ.app at h
    simp only [fL_eq] at h
    split at h
    · rename_i hm
      simp only [Bool.and_eq_true] at hm
      obtain ⟨⟨⟨hm1, hm2⟩, hm3⟩, hm4⟩ := hm
      generalize guess hp s.mem s.args args [] = σ at *
      generalize ptrBs s.args args = bs at *
      obtain ⟨q, hq1, hq2⟩ := SV.subK_spec (env := env) (env' := patEnv env σ bs) (σ := σ) rfl hm4 (topTree fs)
      rw [hq1] at h
      obtain ⟨rfl, hsay⟩ := topTree_sel h
      obtain ⟨hlen, hmem⟩ := matMem_at hm2
      have hat : ∀ (j : Nat) (b : Blk), s.hp[j]? = some (some b) → ∃ m, s.mem[j]? = some m ∧ b = ⟨m, false, none⟩ := fun j b hb => by
        simp only [Summ.hp, List.getElem?_map, Option.map_eq_some_iff, Option.some.injEq] at hb
        obtain ⟨m, h1, h2⟩ := hb
        exact ⟨m, h1, h2.symm⟩
      have hH' : HRep (patEnv env σ bs) B w s.hp := by
        refine ⟨fun j b hb => ?_, fun i j b c g hb hc hne hi hj => ?_⟩
        · obtain ⟨m, h1, rfl⟩ := hat j b hb
          obtain ⟨b', k, h2, h3, h4⟩ := hmem j m h1
          obtain ⟨g, arr, T, h5, h6, h7, h8⟩ := hH.blk b' k (blkAt_spec h3)
          exact ⟨g, arr, T, by simp [patEnv, h2, h5], h6, (let ⟨m1, m2, e, q⟩ := h7; ⟨m1, m2, e, matSCs_rep h4 q⟩), (fun h => by cases h), fun r hr => by cases hr⟩
        · obtain ⟨m, h1, rfl⟩ := hat i b hb
          obtain ⟨m', h1', rfl⟩ := hat j c hc
          obtain ⟨b', k, h2, h3, h4⟩ := hmem i m h1
          obtain ⟨c', k', h2', h3', h4'⟩ := hmem j m' h1'
          have e1 : env.β b' = some g := by simpa [patEnv, h2] using hi
          have e2 : env.β c' = some g := by simpa [patEnv, h2'] using hj
          refine hH.apart b' c' k k' g (blkAt_spec h3) (blkAt_spec h3') (fun e => ?_) e1 e2
          subst e
          exact hne (distinct_at hm3 h2 h2')
      have hcall := hs (patEnv env σ bs) B w vals (matSVs_rep hm1 hargs) hH' (fun j hj => by
        have : bs.length ≤ j := by rw [← hlen]; simpa [Summ.hp] using hj
        simp [patEnv, List.getElem?_eq_none this])
      exact ⟨hF, hcall.mono fun y w' ⟨h2, h3⟩ => ⟨hsay hF env y rfl (hq2 y h2), h3⟩⟩
    · exact hC _ args hp fs env B w vals r fs' hargs hH hF hfr h
  · exact hC f args hp fs env B w vals r fs' hargs hH hF hfr h

theorem withSum_facts {cal : CalV} {s : Summ} (hC : CalVFacts cal) : CalVFacts (withSum s cal) := by
  intro ρ f args hp fs r fs' hF h
  unfold withSum at h
  split at h
  · unfold Summ.app at h
    simp only [fL_eq] at h
    split at h
    · rename_i hm
      simp only [Bool.and_eq_true] at hm
      obtain ⟨q, hq1, hq2⟩ := SV.subK_spec (env := ⟨ρ, fun _ => none⟩) (env' := patEnv ⟨ρ, fun _ => none⟩ (guess hp s.mem s.args args []) []) (σ := guess hp s.mem s.args args []) rfl hm.2 (topTree fs)
      rw [hq1] at h
      obtain ⟨rfl, hsay⟩ := topTree_sel h
      exact hF
    · exact hC ρ f args hp fs r fs' hF h
  · exact hC ρ f args hp fs r fs' hF h

/-! A summary out of a walk: each way's result is the summary's. -/
/-- The same on a way: as bools, or as numbers. -/
def likeSC (fs : List Fact) (t r : SC) : Bool :=
  match t, r with
  | .s .b e, .s .b e' => e.same e' || (match known fs e' with
      | some q => (match known fs e with | some p => p == q | none => false)
      | none => (match known (learn e' true fs) e with | some p => p | none => false) && (match known (learn e' false fs) e with | some p => !p | none => false))
  | .s k e, .s k' e' => decide (k = k') && (e.same e' || (topF fs e).same e')
  | _, _ => false
def likeSCs (fs : List Fact) : List SC → List SC → Bool | [], [] => true | t :: ts, r :: rs => likeSC fs t r && likeSCs fs ts rs | _, _ => false
def likeSP (fs : List Fact) (t r : SP) : Bool := match t, r with | .one t, .one r => likeSC fs t r | .agg t, .agg r => likeSCs fs t r | _, _ => false
def likeSPs (fs : List Fact) : List SP → List SP → Bool | [], [] => true | t :: ts, r :: rs => likeSP fs t r && likeSPs fs ts rs | _, _ => false
def likeSV (fs : List Fact) (t r : SV) : Bool := match t, r with | .p t, .p r => likeSP fs t r | .tup t, .tup r => likeSPs fs t r | _, _ => false

section
variable {env : Env} {fs : List Fact}
theorem likeSC_spec (hF : Holds env.ρ fs) {t r : SC} (h : likeSC fs t r = true) : SaySC env env t r := by
  intro v hv
  unfold likeSC at h
  split at h
  · rename_i e e'
    simp only [SC.rep, K.ok] at hv ⊢
    rw [hv]
    simp only [Bool.or_eq_true] at h
    rcases h with h | h
    · rw [E.same_eq h]
    · split at h
      · rename_i q hq
        split at h
        · rename_i p hp
          have h1 := known_spec hF hp
          have h2 := known_spec hF hq
          rw [h1, h2, of_decide_eq_true h]
        · cases h
      · simp only [Bool.and_eq_true] at h
        obtain ⟨g1, g2⟩ := h
        cases ht : tru (e'.den env.ρ) with
        | true =>
          split at g1
          · rename_i p hp
            rw [known_spec (learn_spec e' true hF ht) hp, g1]
          · cases g1
        | false =>
          split at g2
          · rename_i p hp
            rw [known_spec (learn_spec e' false hF ht) hp]
            simpa using g2
          · cases g2
  · rename_i k e k' e' _
    simp only [Bool.and_eq_true, Bool.or_eq_true, decide_eq_true_eq] at h
    obtain ⟨rfl, h⟩ := h
    have hd : e.den env.ρ = e'.den env.ρ := by
      rcases h with h | h
      · rw [E.same_eq h]
      · rw [← topF_den hF e, E.same_eq h]
    cases k <;> simpa [SC.rep, K.ok, hd] using hv
  · cases h
theorem likeSCs_spec (hF : Holds env.ρ fs) : ∀ {t r : List SC}, likeSCs fs t r = true → All2 (SaySC env env) t r
  | [], [], _ => trivial
  | t :: ts, r :: rs, h => by
    simp only [likeSCs, Bool.and_eq_true] at h
    exact ⟨likeSC_spec hF h.1, likeSCs_spec hF h.2⟩
  | [], _ :: _, h => by simp [likeSCs] at h
  | _ :: _, [], h => by simp [likeSCs] at h
theorem likeSP_spec (hF : Holds env.ρ fs) {t r : SP} (h : likeSP fs t r = true) : SaySP env env t r := by
  unfold likeSP at h
  split at h
  · exact likeSC_spec hF h
  · exact fun v ⟨vs, e, g⟩ => ⟨vs, e, (likeSCs_spec hF h).chain (fun _ _ _ q c => q _ c) g⟩
  · cases h
theorem likeSPs_spec (hF : Holds env.ρ fs) : ∀ {t r : List SP}, likeSPs fs t r = true → All2 (SaySP env env) t r
  | [], [], _ => trivial
  | t :: ts, r :: rs, h => by
    simp only [likeSPs, Bool.and_eq_true] at h
    exact ⟨likeSP_spec hF h.1, likeSPs_spec hF h.2⟩
  | [], _ :: _, h => by simp [likeSPs] at h
  | _ :: _, [], h => by simp [likeSPs] at h
theorem likeSV_spec (hF : Holds env.ρ fs) {t r : SV} (h : likeSV fs t r = true) : SaySV env env t r := by
  unfold likeSV at h
  split at h
  · exact likeSP_spec hF h
  · exact fun v ⟨vs, e, g⟩ => ⟨vs, e, (likeSPs_spec hF h).chain (fun _ _ _ q c => q _ c) g⟩
  · cases h
end

def Tree.all {α : Type} (p : α → Bool) : Tree α → Bool
  | .leaf a => p a
  | .br _ x y => x.all p && y.all p
  | .fail _ => false
theorem Tree.all_sel {α : Type} {p : α → Bool} {ρ : Nat → Int} : ∀ {t : Tree α}, t.all p = true → ∃ a, t.sel ρ = some a ∧ p a = true
  | .leaf a, h => ⟨a, rfl, h⟩
  | .br c x y, h => by
    simp only [Tree.all, Bool.and_eq_true] at h
    simp only [Tree.sel]
    split
    · exact all_sel h.1
    · exact all_sel h.2
  | .fail _, h => by cases h

/-- THE MAKING OF A SUMMARY: the callee is walked over the pattern; each way must come to the summary's result. -/
def Summ.check (P : Program) (cal : Cal) (fuel : Fuel) (s : Summ) : Bool := (callRun P cal fuel s.f s.args s.hp []).all fun r => likeSV r.2 s.res r.1
theorem sum_of {P : Program} {cal : Cal} (hN : NoNum P) (hC : CalOk P cal) (hCF : CalFacts cal) {fuel : Fuel} {s : Summ} (h : s.check P cal fuel = true) : SumOk P s := by
  intro env B w vals hargs hH hfr
  obtain ⟨⟨r, fs⟩, h1, h2⟩ := Tree.all_sel (ρ := env.ρ) h
  obtain ⟨h3, h5⟩ := callRun_ok hN hC hCF fuel s.f s.args s.hp [] env B w vals r fs hargs hH (Holds.nil _) hfr h1
  exact h5.mono fun y w' ⟨g2, g3⟩ => ⟨likeSV_spec h3 h2 y g2, g3⟩

/-- Each number among a pattern's atoms is one of its kind, one NaN for each. -/
def FitSC (ρ : Nat → Int) : SC → Prop | .s (.f k) e => ∃ b : Nat, b < bits k ∧ e.den ρ = (nz k b : Nat) | _ => True
def FitSP (ρ : Nat → Int) : SP → Prop | .one x => FitSC ρ x | .agg l => ∀ x ∈ l, FitSC ρ x
def FitSV (ρ : Nat → Int) : SV → Prop | .p x => FitSP ρ x | .tup l => ∀ x ∈ l, FitSP ρ x
theorem FitSC.of {env : Env} {x : SC} {v : Value} (h : x.rep env v) : FitSC env.ρ x := by
  cases x with
  | s k e =>
    cases k with
    | f k => obtain ⟨b, _, h1, h2⟩ := h; exact ⟨b, h1, h2.symm⟩
    | _ => trivial
  | _ => trivial
theorem All2.left {α β : Type} {R : α → β → Prop} : ∀ {l : List α} {m : List β}, All2 R l m → ∀ a ∈ l, ∃ b, R a b
  | _ :: _, _ :: _, h, a, ha => by
    rcases List.mem_cons.1 ha with rfl | ha
    · exact ⟨_, h.1⟩
    · exact All2.left h.2 a ha
  | [], [], _, a, ha => by cases ha
  | [], _ :: _, h, _, _ => h.elim
  | _ :: _, [], h, _, _ => h.elim
theorem FitSP.of {env : Env} {x : SP} {v : Value} (h : x.rep env v) : FitSP env.ρ x := by
  cases x with
  | one x => exact FitSC.of h
  | agg l => obtain ⟨vs, _, g⟩ := h; exact fun x hx => let ⟨_, q⟩ := All2.left g x hx; FitSC.of q
theorem FitSV.of {env : Env} {x : SV} {v : Value} (h : x.rep env v) : FitSV env.ρ x := by
  cases x with
  | p x => exact FitSP.of h
  | tup l => obtain ⟨vs, _, g⟩ := h; exact fun x hx => let ⟨_, q⟩ := All2.left g x hx; FitSP.of q

/-- A summary out of a walk's own tree, the ways compared by hand. -/
theorem sum_tree {P : Program} {cal : Cal} (hN : NoNum P) (hC : CalOk P cal) (hCF : CalFacts cal) {fuel : Fuel} {s : Summ} {T : Tree SV} (h : (callRun P cal fuel s.f s.args s.hp []).bind (fun r => .leaf r.1) = T)
    (hT : ∀ env : Env, (∀ x ∈ s.args, FitSV env.ρ x) → ∃ r, T.sel env.ρ = some r ∧ SaySV env env s.res r) : SumOk P s := by
  intro env B w vals hargs hH hfr
  obtain ⟨r, h1, h2⟩ := hT env fun x hx => let ⟨_, q⟩ := All2.left hargs x hx; FitSV.of q
  rw [← h, Tree.sel_bind] at h1
  cases hq : (callRun P cal fuel s.f s.args s.hp []).sel env.ρ with
  | none => rw [hq] at h1; cases h1
  | some q =>
  obtain ⟨r', fs⟩ := q
  rw [hq] at h1
  simp only [Option.bind_some, Tree.sel, Option.some.injEq] at h1
  subst h1
  obtain ⟨h3, h5⟩ := callRun_ok hN hC hCF fuel s.f s.args s.hp [] env B w vals r' fs hargs hH (Holds.nil _) hfr hq
  exact h5.mono fun y w' ⟨g2, g3⟩ => ⟨h2 y g2, g3⟩

/-- A LAW: over arguments that read as the pattern says, under what is known, it answers true. -/
def lawCheck (P : Program) (cal : Cal) (fuel : Fuel) (f : Nat) (args : List SV) (fs : List Fact) : Bool :=
  (callRun P cal fuel f args [] fs).all fun r => match r.1 with | .p (.one (.s .b e)) => (match known r.2 e with | some b => b | none => false) | _ => false
theorem law_of {P : Program} {cal : Cal} (hN : NoNum P) (hC : CalOk P cal) (hCF : CalFacts cal) {fuel : Fuel} {f : Nat} {args : List SV} {fs : List Fact} (h : lawCheck P cal fuel f args fs = true)
    {ρ : Nat → Int} {vals : Array Value} (w : World) (hF : Holds ρ fs) (hargs : All2 (SV.rep ⟨ρ, fun _ => none⟩) args vals.toList) :
    Calls P f vals w (fun e w' => e = .returned (.bool true) ∧ Le w w') := by
  obtain ⟨⟨r, fs'⟩, h1, h2⟩ := Tree.all_sel (ρ := ρ) h
  have hH : HRep ⟨ρ, fun _ => none⟩ 0 w [] := ⟨fun j b hb => by simp at hb, fun i j b c g hb => by simp at hb⟩
  obtain ⟨h3, h5⟩ := callRun_ok hN hC hCF fuel f args [] fs ⟨ρ, fun _ => none⟩ 0 w vals r fs' hargs hH hF (fun _ _ => rfl) h1
  have hb : ∃ fn c, P.funcs[f]? = some fn ∧ fn.body = some c := by
    unfold callRun at h1
    split at h1
    · rename_i fn hfn
      split at h1
      · rename_i c hc; exact ⟨fn, c, hfn, hc⟩
      · cases h1
    · cases h1
  obtain ⟨fn, c, hfn, hbody⟩ := hb
  have h6 : Calls P f vals w (fun e w' => ∃ y, e = .returned y ∧ r.rep ⟨ρ, fun _ => none⟩ y ∧ Le w w') := by
    rcases h5 with ⟨_, h5⟩ | ⟨y, w', h5, _⟩
    · exact h5
    · exfalso
      have h7 : ¬ fn.name = "runtime.NumGoroutine" := by simpa using hN _ _ hfn
      simp [callFunc, hfn, h7, hbody] at h5
  refine h6.mono fun e w' ⟨y, g1, g2, g3⟩ => ⟨?_, g3⟩
  split at h2
  · rename_i e' he
    simp only at he
    subst he
    split at h2
    · rename_i b hb
      have := known_spec h3 hb
      simp only [SV.rep, SP.rep, SC.rep, K.ok] at g2
      rw [g1, g2, this, h2]
    · cases h2
  · cases h2

end Go.Sx

/-! THE LEAVES: what the tests on one number come to, by hand. -/
namespace Go.Sx

def sF (i : Nat) : SV := .p (.one (.s (.f .f32) (.at i)))
def sD (i : Nat) : SV := .p (.one (.s (.f .f64) (.at i)))
def sI (i : Nat) : SV := .p (.one (.s (.i .i64) (.at i)))
def sB (e : E) : SV := .p (.one (.s .b e))
def eEq (x y : E) : E := .b (.fc .eq .f32) x y
def eLt (x y : E) : E := .b (.fc .lt .f32) x y
def eLe (x y : E) : E := .b (.fc .le .f32) x y

theorem say_num {env : Env} {k : K} {e e' : E} (h : e.den env.ρ = e'.den env.ρ) : SaySV env env (.p (.one (.s k e))) (.p (.one (.s k e'))) := by
  intro v hv
  cases k <;> simpa [SV.rep, SP.rep, SC.rep, K.ok, h] using hv
theorem say_bool {env : Env} {e e' : E} (h : tru (e.den env.ρ) = tru (e'.den env.ρ)) : SaySV env env (sB e) (sB e') := by
  intro v hv
  simp only [sB, SV.rep, SP.rep, SC.rep, K.ok] at hv ⊢
  rw [hv, h]

theorem fit_one {ρ : Nat → Int} {i : Nat} (h : FitSV ρ (sF i)) : ∃ b : Nat, b < 2 ^ 32 ∧ ρ i = b ∧ (isN .f32 b = true → b = qn .f32) := by
  obtain ⟨b, hb, e⟩ := h
  refine ⟨nz .f32 b, nz_lt hb, e, fun hn => ?_⟩
  rw [isN_nz] at hn; exact nz_of hn

theorem tru_not (z : Int) : tru (F1.den .not z) = !tru z := by simp [F1.den]

def tBits : Tree SV := .br (.u .not (eEq (.at 0) (.at 0))) (.leaf (.p (.one (.s (.i .u32) (.n 2143289344))))) (.leaf (.p (.one (.s (.i .u32) (.at 0)))))
theorem hand_bits (env : Env) (h : ∀ x ∈ [sF 0], FitSV env.ρ x) : ∃ r, tBits.sel env.ρ = some r ∧ SaySV env env (.p (.one (.s (.i .u32) (.at 0)))) r := by
  obtain ⟨b, hb, e, hn⟩ := fit_one (h (sF 0) (by simp))
  have hc : tru ((E.u .not (eEq (.at 0) (.at 0))).den env.ρ) = isN .f32 b := by
    simp only [E.den, eEq, tru_not, F2.den, tru_b2i, e, Int.toNat_natCast, eq_self, Bool.not_not]
  simp only [tBits, Tree.sel, hc]
  split
  · rename_i hN
    refine ⟨_, rfl, say_num ?_⟩
    simp only [E.den, e, hn hN]; rfl
  · exact ⟨_, rfl, say_num rfl⟩

def tSame : Tree SV := .br (.u .not (eEq (.at 0) (.at 0))) (.leaf (sB (.u .not (eEq (.at 1) (.at 1))))) (.br (.u .not (eEq (.at 1) (.at 1))) (.leaf (sB (.n 0))) (.leaf (sB (.b (.ic .eq) (.at 0) (.at 1)))))
theorem hand_same (env : Env) (h : ∀ x ∈ [sF 0, sF 1], FitSV env.ρ x) : ∃ r, tSame.sel env.ρ = some r ∧ SaySV env env (sB (.b (.ic .eq) (.at 0) (.at 1))) r := by
  obtain ⟨b, hb, e, hn⟩ := fit_one (h (sF 0) (by simp))
  obtain ⟨c, hc, f, hm⟩ := fit_one (h (sF 1) (by simp))
  have h1 : tru ((E.u .not (eEq (.at 0) (.at 0))).den env.ρ) = isN .f32 b := by
    simp only [E.den, eEq, tru_not, F2.den, tru_b2i, e, Int.toNat_natCast, eq_self, Bool.not_not]
  have h2 : tru ((E.u .not (eEq (.at 1) (.at 1))).den env.ρ) = isN .f32 c := by
    simp only [E.den, eEq, tru_not, F2.den, tru_b2i, f, Int.toNat_natCast, eq_self, Bool.not_not]
  have h3 : tru ((E.b (.ic .eq) (.at 0) (.at 1)).den env.ρ) = decide (b = c) := by
    simp only [E.den, F2.den, tru_b2i, icb, e, f]
    rw [Bool.eq_iff_iff]; simp only [decide_eq_true_eq]; omega
  simp only [tSame, Tree.sel, h1, h2]
  split
  · rename_i hN
    refine ⟨_, rfl, say_bool ?_⟩
    rw [h2, h3, hn hN]
    cases hM : isN .f32 c with
    | true => simp [hm hM]
    | false =>
      have : qn .f32 ≠ c := fun q => by rw [← q, isN_qn] at hM; cases hM
      simp [this]
  · rename_i hN
    split
    · rename_i hM
      refine ⟨_, rfl, say_bool ?_⟩
      rw [h3, hm hM]
      have : b ≠ qn .f32 := fun q => by rw [q, isN_qn] at hN; exact hN rfl
      simp [this, E.den, tru]
    · exact ⟨_, rfl, say_bool rfl⟩

def eFin : E := eEq (.b (.fa .sub .f32) (.at 0) (.at 0)) (.n 0)
theorem fin_den {ρ : Nat → Int} {b : Nat} (hb : b < 2 ^ 32) (e : ρ 0 = b) : tru (eFin.den ρ) = decide (b % 2 ^ 31 < 0x7f800000) := by
  rw [← finb_eq b hb]
  simp only [eFin, eEq, E.den, F2.den, tru_b2i, e, Int.toNat_natCast]
  rfl
theorem amt_den {ρ : Nat → Int} {b : Nat} (hb : b < 2 ^ 32) (e : ρ 0 = b) : tru ((E.u .amt (.at 0)).den ρ) = decide (b < 0x7f800000) := by
  simp only [E.den, F1.den, tru_b2i, e, Int.toNat_natCast, amtb_of hb]

def tAmtS : Tree SV := .br eFin (.br (eLt (.n 0) (.at 0)) (.leaf (sB (.n 1))) (.leaf (sB (.b (.ic .eq) (.at 0) (.n 0))))) (.leaf (sB (.n 0)))
theorem hand_amtS (env : Env) (h : ∀ x ∈ [sF 0], FitSV env.ρ x) : ∃ r, tAmtS.sel env.ρ = some r ∧ SaySV env env (sB (.u .amt (.at 0))) r := by
  obtain ⟨b, hb, e, hn⟩ := fit_one (h (sF 0) (by simp))
  have h2 : tru ((eLt (.n 0) (.at 0)).den env.ρ) = (decide (b ≤ 0x7f800000) && decide (b ≠ 0)) := by
    simp only [eLt, E.den, F2.den, tru_b2i, e, Int.toNat_natCast, Int.toNat_zero, lt_zero b hb]
  have h3 : tru ((E.b (.ic .eq) (.at 0) (.n 0)).den env.ρ) = decide (b = 0) := by
    simp only [E.den, F2.den, tru_b2i, icb, e]
    rw [Bool.eq_iff_iff]; simp
  simp only [tAmtS, Tree.sel, fin_den hb e, h2]
  split
  · rename_i hf
    simp only [decide_eq_true_eq] at hf
    split
    · rename_i hg
      simp only [Bool.and_eq_true, decide_eq_true_eq] at hg
      refine ⟨_, rfl, say_bool ?_⟩
      rw [amt_den hb e]
      have : b < 0x7f800000 := by omega
      simp [this, E.den, tru]
    · rename_i hg
      simp only [Bool.and_eq_true, decide_eq_true_eq] at hg
      refine ⟨_, rfl, say_bool ?_⟩
      rw [amt_den hb e, h3]
      rw [Bool.eq_iff_iff]; simp only [decide_eq_true_eq]
      omega
  · rename_i hf
    simp only [decide_eq_true_eq] at hf
    refine ⟨_, rfl, say_bool ?_⟩
    rw [amt_den hb e]
    have : ¬ b < 0x7f800000 := by omega
    simp [this, E.den, tru]

def tAmtI : Tree SV := .br (eLe (.n 0) (.at 0)) (.br eFin (.leaf (sB (.u .not (.b (.ic .lt) (.u (.wrap .i64) (.u .cv (.at 0))) (.n 0))))) (.leaf (sB (.n 0)))) (.leaf (sB (.n 0)))
theorem wrap_neg (n : Nat) (h : n < 2 ^ 64) : decide (IntKind.i64.wrap n < 0) = decide (2 ^ 63 ≤ n) := by
  have e64 : (2 ^ IntKind.i64.bits : Int) = 18446744073709551616 := by decide
  have e63 : (2 ^ (IntKind.i64.bits - 1) : Int) = 9223372036854775808 := by decide
  have es : IntKind.i64.signed = true := rfl
  rw [Bool.eq_iff_iff]
  simp only [decide_eq_true_eq, IntKind.wrap, e64, e63, es, Bool.true_and]
  split <;> omega
theorem hand_amtI (env : Env) (h : ∀ x ∈ [sF 0], FitSV env.ρ x) : ∃ r, tAmtI.sel env.ρ = some r ∧ SaySV env env (sB (.u .amt (.at 0))) r := by
  obtain ⟨b, hb, e, hn⟩ := fit_one (h (sF 0) (by simp))
  have h2 : tru ((eLe (.n 0) (.at 0)).den env.ρ) = (decide (b ≤ 0x7f800000) || decide (b = 2 ^ 31)) := by
    simp only [eLe, E.den, F2.den, tru_b2i, e, Int.toNat_natCast, Int.toNat_zero, le_zero b hb]
  simp only [tAmtI, Tree.sel, fin_den hb e, h2]
  split
  · rename_i hg
    simp only [Bool.or_eq_true, decide_eq_true_eq] at hg
    split
    · rename_i hf
      simp only [decide_eq_true_eq] at hf
      refine ⟨_, rfl, say_bool ?_⟩
      have hnn : isN .f32 b = false := by rw [isN32]; simp; omega
      obtain ⟨h4, h5⟩ := cv_sign b hb hnn
      rw [amt_den hb e]
      simp only [E.den, F1.den, F2.den, tru_b2i, icb, e, Int.toNat_natCast]
      rw [wrap_neg _ h5]
      rw [Bool.eq_iff_iff]
      simp only [decide_eq_true_eq, Bool.not_eq_true', decide_eq_false_iff_not]
      omega
    · rename_i hf
      simp only [decide_eq_true_eq] at hf
      refine ⟨_, rfl, say_bool ?_⟩
      rw [amt_den hb e]
      have : ¬ b < 0x7f800000 := by omega
      simp [this, E.den, tru]
  · rename_i hg
    simp only [Bool.or_eq_true, decide_eq_true_eq] at hg
    refine ⟨_, rfl, say_bool ?_⟩
    rw [amt_den hb e]
    have : ¬ b < 0x7f800000 := by omega
    simp [this, E.den, tru]

theorem eq_zero (b : Nat) (hb : b < 2 ^ 32) : fCm .eq .f32 b 0 = (decide (b = 0) || decide (b = 2 ^ 31)) := by
  have h1 := le_zero b hb
  have h2 := lt_zero b hb
  unfold fCm at h1 h2 ⊢
  rw [order_swap .f32 0 b]
  cases ho : FloatKind.f32.format.order 0 b with
  | none =>
    rw [ho] at h1
    have h1' : (decide (b ≤ 0x7f800000) || decide (b = 2 ^ 31)) = false := h1.symm
    simp only [Bool.or_eq_false_iff, decide_eq_false_iff_not] at h1'
    have e1 : ¬ b = 0 := by omega
    have e2 : ¬ b = 2 ^ 31 := h1'.2
    simp [e1, e2]
  | some o =>
    rw [ho] at h1 h2
    cases o with
    | lt =>
      have h2' : (decide (b ≤ 0x7f800000) && decide (b ≠ 0)) = true := h2.symm
      simp only [Bool.and_eq_true, decide_eq_true_eq] at h2'
      have e1 : ¬ b = 0 := h2'.2
      have e2 : ¬ b = 2 ^ 31 := by omega
      simp [e1, e2, Ordering.swap]
    | eq =>
      have h1' : (decide (b ≤ 0x7f800000) || decide (b = 2 ^ 31)) = true := h1.symm
      have h2' : (decide (b ≤ 0x7f800000) && decide (b ≠ 0)) = false := h2.symm
      simp only [Bool.or_eq_true, decide_eq_true_eq, Bool.and_eq_false_iff, decide_eq_false_iff_not] at h1' h2'
      have : b = 0 ∨ b = 2 ^ 31 := by omega
      rcases this with e | e <;> subst e <;> rfl
    | gt =>
      have h1' : (decide (b ≤ 0x7f800000) || decide (b = 2 ^ 31)) = false := h1.symm
      simp only [Bool.or_eq_false_iff, decide_eq_false_iff_not] at h1'
      have e1 : ¬ b = 0 := by omega
      have e2 : ¬ b = 2 ^ 31 := h1'.2
      simp [e1, e2, Ordering.swap]
def tNothing : Tree SV := .br (eEq (.at 0) (.n 0)) (.leaf (sB (.u .not (.b (.ic .lt) (.u (.wrap .i64) (.u .cv (.at 0))) (.n 0))))) (.leaf (sB (.n 0)))
def eNothing (e : E) : E := .b .and (.u .amt e) (eEq e (.n 0))
theorem hand_nothing (env : Env) (h : ∀ x ∈ [sF 0], FitSV env.ρ x) : ∃ r, tNothing.sel env.ρ = some r ∧ SaySV env env (sB (eNothing (.at 0))) r := by
  obtain ⟨b, hb, e, hn⟩ := fit_one (h (sF 0) (by simp))
  have h2 : tru ((eEq (.at 0) (.n 0)).den env.ρ) = (decide (b = 0) || decide (b = 2 ^ 31)) := by
    simp only [eEq, E.den, F2.den, tru_b2i, e, Int.toNat_natCast, Int.toNat_zero, eq_zero b hb]
  have h3 : tru ((eNothing (.at 0)).den env.ρ) = (decide (b < 0x7f800000) && (decide (b = 0) || decide (b = 2 ^ 31))) := by
    have h4 := amt_den hb e
    simp only [E.den] at h4
    simp only [eEq, E.den] at h2
    simp only [eNothing, eEq, E.den, F2.den, tru_b2i] at h2 ⊢
    rw [h4, h2]
  simp only [tNothing, Tree.sel, h2]
  split
  · rename_i hf
    refine ⟨_, rfl, say_bool ?_⟩
    rw [h3]
    simp only [Bool.or_eq_true, decide_eq_true_eq] at hf
    have hnn : isN .f32 b = false := by rw [isN32]; simp; omega
    obtain ⟨h4, h5⟩ := cv_sign b hb hnn
    simp only [E.den, F1.den, F2.den, tru_b2i, icb, e, Int.toNat_natCast]
    rw [wrap_neg _ h5]
    rw [Bool.eq_iff_iff]
    simp only [decide_eq_true_eq, Bool.not_eq_true', decide_eq_false_iff_not, Bool.and_eq_true, Bool.or_eq_true]
    omega
  · rename_i hf
    refine ⟨_, rfl, say_bool ?_⟩
    rw [h3]
    simp only [Bool.or_eq_true, decide_eq_true_eq] at hf
    have e1 : ¬ b = 0 := fun q => hf (.inl q)
    have e2 : ¬ b = 2 ^ 31 := fun q => hf (.inr q)
    have e1' := decide_eq_false e1
    have e2' := decide_eq_false e2
    rw [e1', e2']
    simp [E.den, tru]

/-! Summaries at every depth. -/
def withSums (sums : List Summ) (cal : CalV) : CalV := match sums with | [] => cal | s :: l => withSum s (withSums l cal)
def deep (P : Program) (ext : List (Nat × Ext)) (sums : List Summ) : Nat → Cal
  | 0 => ⟨calNone, fun _ => none, fun _ => false⟩
  | n + 1 => ⟨calExt ext (withSums sums (callRun P (deep P ext sums n) (fuelOf ext))), callW P (deep P ext sums n) (fuelOf ext) (inlsOf ext), fun f => nElem f (repsOf ext)⟩
def AllOk (P : Program) (sums : List Summ) : Prop := ∀ s ∈ sums, SumOk P s
theorem AllOk.nil (P : Program) : AllOk P [] := fun _ h => by cases h
theorem AllOk.cons {P : Program} {s : Summ} {l : List Summ} (h : SumOk P s) (g : AllOk P l) : AllOk P (s :: l) := fun x hx => by
  rcases List.mem_cons.1 hx with rfl | hx
  · exact h
  · exact g x hx
theorem withSums_ok {P : Program} : ∀ {sums : List Summ} {cal : CalV}, AllOk P sums → CalVOk P cal → CalVOk P (withSums sums cal)
  | [], _, _, hC => hC
  | s :: _, _, hs, hC => withSum_ok (hs s List.mem_cons_self) (withSums_ok (fun x hx => hs x (List.mem_cons_of_mem _ hx)) hC)
theorem withSums_facts : ∀ {sums : List Summ} {cal : CalV}, CalVFacts cal → CalVFacts (withSums sums cal)
  | [], _, hC => hC
  | _ :: l, _, hC => withSum_facts (withSums_facts (sums := l) hC)
theorem deep_facts (P : Program) (ext : List (Nat × Ext)) (sums : List Summ) : ∀ n, CalFacts (deep P ext sums n)
  | 0 => ⟨calNone_facts, fun _ _ _ _ _ _ _ _ _ h => by cases h⟩
  | n + 1 => ⟨calExt_facts (withSums_facts (callRun_facts (deep_facts P ext sums n) (fuelOf ext))), callW_facts (deep_facts P ext sums n) (fuelOf ext) (inlsOf ext)⟩
theorem deep_ok {P : Program} (hN : NoNum P) {ext : List (Nat × Ext)} (hX : ExtOk P ext) {sums : List Summ} (hS : AllOk P sums) : ∀ n, CalOk P (deep P ext sums n)
  | 0 => ⟨calNone_ok P, fun _ _ _ _ _ _ _ _ _ _ _ _ h => (by cases h), fun _ h => by cases h⟩
  | n + 1 => ⟨calExt_ok hX (withSums_ok hS (callRun_ok hN (deep_ok hN hX hS n) (deep_facts P ext sums n) (fuelOf ext))), callW_ok hN (deep_ok hN hX hS n) (deep_facts P ext sums n) (fuelOf ext) (inlsOf ext), fun f h => let ⟨p, hp, e, q⟩ := repsOf_mem h; e ▸ (hX p hp).1 q⟩

/-- Hints stand beside the functions without a body. -/
theorem ExtOk.hints {P : Program} {ext : List (Nat × Ext)} (hX : ExtOk P ext) {l : List (Nat × Ext)} (h : (l.all fun p => !p.2.isFn && !p.2.isRept) = true) : ExtOk P (ext ++ l) := by
  intro p hp
  rcases List.mem_append.1 hp with g | g
  · exact hX p g
  · have := List.all_eq_true.1 h p g
    simp only [Bool.and_eq_true, Bool.not_eq_true'] at this
    exact ⟨fun q => (by rw [this.2] at q; cases q), fun q => (by rw [this.1] at q; cases q)⟩
theorem ExtOk.rept {P : Program} {ext : List (Nat × Ext)} (hX : ExtOk P ext) {f : Nat} (h : ReptOk P f) : ExtOk P (ext ++ [(f, .rept)]) := by
  intro p hp
  rcases List.mem_append.1 hp with g | g
  · exact hX p g
  · simp only [List.mem_singleton] at g
    subst g
    exact ⟨fun _ => h, fun q => by cases q⟩
def cellsAt (b : Nat) (l : List Nat) : List (Loc × K) := l.map fun i => (.cell b i, .f .f32)

/-- One summary more. -/
theorem AllOk.add {P : Program} (hN : NoNum P) {ext : List (Nat × Ext)} (hX : ExtOk P ext) {sums : List Summ} (hS : AllOk P sums) {s : Summ} {n : Nat} (h : s.check P (deep P ext sums n) 40 = true) : AllOk P (s :: sums) :=
  .cons (sum_of hN (deep_ok hN hX hS n) (deep_facts P ext sums n) h) hS
theorem AllOk.tree {P : Program} (hN : NoNum P) {ext : List (Nat × Ext)} (hX : ExtOk P ext) {sums : List Summ} (hS : AllOk P sums) {s : Summ} {n : Nat} {T : Tree SV}
    (h : (callRun P (deep P ext sums n) 40 s.f s.args s.hp []).bind (fun r => .leaf r.1) = T)
    (hT : ∀ env : Env, (∀ x ∈ s.args, FitSV env.ρ x) → ∃ r, T.sel env.ρ = some r ∧ SaySV env env s.res r) : AllOk P (s :: sums) :=
  .cons (sum_tree hN (deep_ok hN hX hS n) (deep_facts P ext sums n) h hT) hS

theorem noNum_of {P : Program} (h : P.funcs.all (fun fn => !(fn.name == "runtime.NumGoroutine")) = true) : NoNum P := by
  intro f fn hf
  rw [Array.all_eq_true] at h
  have hlt : f < P.funcs.size := by
    rcases Nat.lt_or_ge f P.funcs.size with g | g
    · exact g
    · rw [Array.getElem?_eq_none g] at hf; cases hf
  have := h f hlt
  rw [Array.getElem?_eq_getElem hlt] at hf
  cases hf
  simpa using this

/-! Patterns. -/
def fls (k n : Nat) : List SC := (List.range n).map fun i => .s (.f .f32) (.at (k + i))
def fAgg (k n : Nat) : SV := .p (.agg (fls k n))
def conj (l : List E) (e : E) : E := match l with | [] => e | x :: l => .b .and x (conj l e)
def shrs (k n : Nat) : List E := (List.range n).map fun i => .u .shr (.at (k + i))
def okRoad (k : Nat) : E := conj (shrs k 18) (conj [eLe (.n 0x3c800000) (.at (k + 16)), eLe (.n 0x3c800000) (.at (k + 17)), .u .amt (.at (k + 18)), eLe (.n 0x3e800000) (.at (k + 18))] (eLe (.at (k + 18)) (.n 0x41000000)))

end Go.Sx

/-! THE ROW AROUND A LAW: arguments of flat types (numbers, bools, structs and arrays of these) read as a pattern; a law's check gives its row. -/
namespace Go.Sx
open Go.ChangeShapes Go.WideShapes

/-! Flat types: the kinds of their cells. -/
def flatPs (P : Program) (go : TypeId → Option (List K)) : List (TypeId × Nat) → Nat → Option (List K)
  | [], _ => some []
  | (t, off) :: l, at' =>
    if off = at' then
      match go t with
      | some a => if a.length = P.cellsOf t then (match flatPs P go l (at' + a.length) with | some r => some (a ++ r) | none => none) else none
      | none => none
    else none
def pairsOf (P : Program) (t : TypeId) : Option (List (TypeId × Nat)) :=
  match P.underlying t with
  | some (.struct fs) => some (fs.toList.map fun f => (f.type, f.offset))
  | some (.array m e) => some ((List.range m).map fun i => (e, i * P.cellsOf e))
  | _ => none
def leafOf (P : Program) (t : TypeId) : Option K :=
  match P.underlying t with
  | some .bool => some .b
  | some (.int k) => some (.i k)
  | some (.float k) => some (.f k)
  | _ => none
def flat (P : Program) : Nat → TypeId → Option (List K)
  | 0, _ => none
  | n + 1, t =>
    match leafOf P t with
    | some k => some [k]
    | none =>
      match pairsOf P t with
      | some ps => (match flatPs P (flat P n) ps 0 with | some l => if l.length = P.cellsOf t then some l else none | none => none)
      | none => none

def leafOk : K → Value → Prop
  | .b, v => ∃ b, v = .bool b
  | .i k, v => ∃ n, v = .int k n
  | .f k, v => ∃ b, v = .float k b ∧ b < bits k

theorem mapM_nil_ps {α β : Type} {f g : α → Option (β × List MemPlace)} : ∀ {l : List α} {xs : List (β × List MemPlace)}, l.mapM f = some xs →
    (∀ a ∈ l, ∀ x, f a = some x → x.2 = [] ∧ g a = some x) → l.mapM g = some xs ∧ xs.flatMap (·.2) = []
  | [], xs, h, _ => by
    simp only [List.mapM_nil, Option.pure_def, Option.some.injEq] at h
    subst h; exact ⟨by simp, rfl⟩
  | a :: l, xs, h, hg => by
    rw [List.mapM_cons] at h
    cases ha : f a with
    | none => simp [ha] at h
    | some b =>
      cases hl : l.mapM f with
      | none => simp [ha, hl] at h
      | some bs =>
        simp [ha, hl] at h
        subst h
        obtain ⟨h1, h2⟩ := hg a List.mem_cons_self b ha
        obtain ⟨h3, h4⟩ := mapM_nil_ps hl fun x hx => hg x (List.mem_cons_of_mem _ hx)
        refine ⟨?_, by simp [h1, h4]⟩
        rw [List.mapM_cons]
        simp [h2, h3]

section
variable {H : Type} {enc : TypeId × Value → H} {P : Program}

abbrev inW (enc : TypeId × Value → H) (P : Program) (w : World) (base : Nat) (spare : Nat → Bool) (held : Bool) (n : Nat) (cs : List Value) (q : TypeId × Nat) : Option (DataW H × List MemPlace) :=
  DataW.trod enc P w base spare held n q.1 ((cs.drop q.2).take (P.cellsOf q.1))

theorem trod_pairs {w : World} {base : Nat} {spare : Nat → Bool} {held : Bool} {n : Nat} {t : TypeId} {cs : List Value} {ps : List (TypeId × Nat)} (hp : pairsOf P t = some ps) :
    DataW.trod enc P w base spare held (n + 1) t cs = if cs.length = P.cellsOf t then (ps.mapM (inW enc P w base spare held n cs)).map fun xs => (.agg (xs.map (·.1)), xs.flatMap (·.2)) else none := by
  unfold pairsOf at hp
  split at hp
  · rename_i fs hu
    simp only [Option.some.injEq] at hp
    subst hp
    unfold DataW.trod
    rw [hu]
    simp only [List.mapM_map]
    rfl
  · rename_i m e hu
    simp only [Option.some.injEq] at hp
    subst hp
    unfold DataW.trod
    rw [hu]
    simp only [List.mapM_map]
    rfl
  · cases hp

theorem pairs_cells {go : TypeId → Option (List K)} {f : TypeId × Nat → Option (DataW H × List MemPlace)} {cs : List Value}
    (hgo : ∀ q l x, go q.1 = some l → f q = some x → All2 leafOk l ((cs.drop q.2).take (P.cellsOf q.1))) :
    ∀ {ps : List (TypeId × Nat)} {o : Nat} {l : List K} {xs : List (DataW H × List MemPlace)}, flatPs P go ps o = some l → ps.mapM f = some xs → o + l.length = cs.length → All2 leafOk l (cs.drop o)
  | [], o, l, xs, h, _, hl => by
    simp only [flatPs, Option.some.injEq] at h
    subst h
    rw [List.drop_eq_nil_of_le (by simp at hl; omega)]; trivial
  | (t, off) :: ps, o, l, xs, h, hm, hl => by
    simp only [flatPs] at h
    split at h
    · rename_i ho
      subst ho
      split at h
      · rename_i a ha
        split at h
        · rename_i hal
          split at h
          · rename_i r hr
            simp only [Option.some.injEq] at h
            subst h
            rw [List.mapM_cons] at hm
            cases hb : f (t, off) with
            | none => simp [hb] at hm
            | some b =>
              cases hbs : ps.mapM f with
              | none => simp [hb, hbs] at hm
              | some bs =>
                have h1 := hgo (t, off) a b ha hb
                simp only [List.length_append] at hl
                have h2 := pairs_cells hgo (o := off + a.length) hr hbs (by omega)
                simp only at h1
                rw [← hal] at h1
                have := All2.append h1 h2
                rw [← List.drop_drop, List.take_append_drop] at this
                exact this
          · cases h
        · cases h
      · cases h
    · cases h

theorem mem_go {go : TypeId → Option (List K)} : ∀ {ps : List (TypeId × Nat)} {o : Nat} {l : List K}, flatPs P go ps o = some l → ∀ q ∈ ps, ∃ a, go q.1 = some a
  | [], _, _, _, q, hq => by cases hq
  | (t, off) :: ps, o, l, h, q, hq => by
    simp only [flatPs] at h
    split at h
    · split at h
      · rename_i a ha
        split at h
        · split at h
          · rename_i r hr
            rcases List.mem_cons.1 hq with rfl | hq
            · exact ⟨a, ha⟩
            · exact mem_go hr q hq
          · cases h
        · cases h
      · cases h
    · cases h

/-- What a flat type's cells read as: no places, in every world alike. -/
theorem flat_trod {w : World} {base : Nat} {spare : Nat → Bool} {held : Bool} : ∀ {n : Nat} {t : TypeId} {l : List K}, flat P n t = some l → ∀ {fuel : Nat} {cs : List Value} {x : DataW H × List MemPlace},
    DataW.trod enc P w base spare held fuel t cs = some x →
    x.2 = [] ∧ All2 leafOk l cs ∧ ∀ (w' : World) (base' : Nat) (spare' : Nat → Bool) (held' : Bool), DataW.trod enc P w' base' spare' held' fuel t cs = some x
  | 0, t, l, h, _, _, _, _ => by cases h
  | n + 1, t, l, h, 0, cs, x, hx => by simp [DataW.trod] at hx
  | n + 1, t, l, h, fuel + 1, cs, x, hx => by
    simp only [flat] at h
    split at h
    · rename_i k hk
      simp only [Option.some.injEq] at h
      subst h
      unfold leafOf at hk
      split at hk
      · rename_i hu
        cases hk
        obtain ⟨b, rfl, rfl⟩ := DataW.trod_bool hu hx
        exact ⟨rfl, ⟨⟨b, rfl⟩, trivial⟩, fun w' base' spare' held' => by simp [DataW.trod, hu]⟩
      · rename_i k hu
        cases hk
        obtain ⟨b, rfl, rfl, hw⟩ := DataW.trod_int hu hx
        exact ⟨rfl, ⟨⟨b, rfl⟩, trivial⟩, fun w' base' spare' held' => by simp [DataW.trod, hu, hw]⟩
      · rename_i k hu
        cases hk
        unfold DataW.trod at hx
        rw [hu] at hx
        split at hx
        all_goals first | (rename_i heq; cases heq; done) | skip
        · rename_i k1 k2 b heq
          simp only [Option.some.injEq, TypeDesc.float.injEq] at heq
          subst heq
          split at hx
          · rename_i hc
            obtain ⟨rfl, hw⟩ := hc
            simp only [Option.some.injEq] at hx
            subst hx
            refine ⟨rfl, ⟨⟨b, rfl, ?_⟩, trivial⟩, fun w' base' spare' held' => by unfold DataW.trod; rw [hu]; simp [hw]⟩
            cases k2 <;> exact of_decide_eq_true hw
          · cases hx
        all_goals first | cases hx | (simp_all; done)
      · cases hk
    · split at h
      · rename_i ps hp
        rw [trod_pairs hp] at hx
        split at h
        · rename_i l' hf
          split at h
          · rename_i hl
            cases h
            split at hx
            · rename_i hcl
              simp only [Option.map_eq_some_iff] at hx
              obtain ⟨xs, hm, rfl⟩ := hx
              have key : ∀ (q : TypeId × Nat) (a : List K) (y : DataW H × List MemPlace), flat P n q.1 = some a → inW enc P w base spare held fuel cs q = some y → _ := fun q a y ha hy => flat_trod ha hy
              refine ⟨?_, ?_, fun w' base' spare' held' => ?_⟩
              · exact (mapM_nil_ps (g := inW enc P w base spare held fuel cs) hm fun q hq y hy => let ⟨a, ha⟩ := mem_go hf q hq; ⟨(key q a y ha hy).1, hy⟩).2
              · exact pairs_cells (fun q a y ha hy => (key q a y ha hy).2.1) hf hm (by omega)
              · rw [trod_pairs hp, if_pos hcl, (mapM_nil_ps (g := inW enc P w' base' spare' held' fuel cs) hm fun q hq y hy => let ⟨a, ha⟩ := mem_go hf q hq; ⟨(key q a y ha hy).1, (key q a y ha hy).2.2 _ _ _ _⟩).1]
                rfl
            · cases hx
          · cases h
        · cases h
      · cases h

/-! Patterns of arguments. -/
def kAt : List K → Nat → List SC | [], _ => [] | q :: l, i => .s q (.at i) :: kAt l (i + 1)
def isAgg (P : Program) (t : TypeId) : Bool := (pairsOf P t).isSome
/-- A value of the type: its cells' kinds from k on. -/
def patOf (P : Program) (n : Nat) (t : TypeId) (k : Nat) : Option (SV × List K) :=
  match flat P n t with
  | some l => if isAgg P t then some (.p (.agg (kAt l k)), l) else match l with | [q] => some (.p (.one (.s q (.at k))), l) | _ => none
  | none => none
def pats (P : Program) (n : Nat) : List TypeId → Nat → Option (List SV)
  | [], _ => some []
  | t :: ts, k => match patOf P n t k with | some (p, l) => (match pats P n ts (k + l.length) with | some r => some (p :: r) | none => none) | none => none

def leafInt : Value → Int | .bool b => b2i b | .int _ n => n | .float k b => nz k b | _ => 0
def rho (cs : List Value) : Nat → Int := fun i => leafInt (cs.getD i .nilFunc)

theorem kAt_rep {ρ : Nat → Int} {β : Nat → Option Nat} : ∀ {l : List K} {k : Nat} {cs : List Value}, All2 leafOk l cs → (∀ i v, cs[i]? = some v → ρ (k + i) = leafInt v) → All2 (SC.rep ⟨ρ, β⟩) (kAt l k) cs
  | [], _, [], _, _ => trivial
  | q :: l, k, v :: cs, h, hρ => by
    refine ⟨?_, kAt_rep h.2 fun i v' hv => ?_⟩
    · have h0 := hρ 0 v rfl
      simp only [Nat.add_zero] at h0
      cases q with
      | b => obtain ⟨b, rfl⟩ := h.1; simp [SC.rep, K.ok, E.den, h0, leafInt]
      | i k' => obtain ⟨n, rfl⟩ := h.1; simp [SC.rep, K.ok, E.den, h0, leafInt]
      | f k' => obtain ⟨b, rfl, hb⟩ := h.1; exact ⟨b, rfl, hb, by simp [E.den, h0, leafInt]⟩
    · have := hρ (i + 1) v' (by simpa using hv)
      rw [show k + 1 + i = k + (i + 1) by omega]; exact this
  | [], _, _ :: _, h, _ => h.elim
  | _ :: _, _, [], h, _ => h.elim

theorem okWide_agg {w : World} {r : Go.Reach} {b0 : Nat} {t : TypeId} {v : Value} (ht : isAgg P t = true) (h : Value.okWide P w r b0 t v) : ∃ cs, v = .agg cs := by
  unfold isAgg pairsOf at ht
  split at ht
  · rename_i fs hu; simp only [Value.okWide, hu] at h; exact ⟨_, h.choose_spec.1⟩
  · rename_i m e hu; simp only [Value.okWide, hu] at h; exact ⟨_, h.choose_spec.1⟩
  · cases ht
theorem okWide_leaf {w : World} {r : Go.Reach} {b0 : Nat} {t : TypeId} {v : Value} {n : Nat} {q : K} (hf : flat P n t = some [q]) (ht : isAgg P t = false) (h : Value.okWide P w r b0 t v) : v.cells = #[v] := by
  cases n with
  | zero => cases hf
  | succ n =>
  simp only [flat] at hf
  split at hf
  · rename_i k hk
    unfold leafOf at hk
    split at hk
    · rename_i hu; obtain ⟨b, rfl⟩ := okWide_bool hu h; rfl
    · rename_i hu; obtain ⟨b, rfl⟩ := okWide_int hu h; rfl
    · rename_i hu
      simp only [Value.okWide, hu, Cell.okWide] at h
      cases v <;> first | rfl | simp_all [Cell.ok]
    · cases hk
  · unfold isAgg at ht
    split at hf
    · rename_i ps hp; rw [hp] at ht; cases ht
    · cases hf

theorem pats_rep {w : World} {base : Nat} {spare : Nat → Bool} {held : Bool} {r : Go.Reach} {b0 n : Nat} {β : Nat → Option Nat} {ρ : Nat → Int} : ∀ {ts : List TypeId} {k : Nat} {args : List SV} {vs : List Value} {ds : List (DataW H)} {ps : List MemPlace},
    pats P n ts k = some args → DataW.TrodAll enc P w base spare held ts vs ds ps → (∀ (j : Nat) t v, ts[j]? = some t → vs[j]? = some v → Value.okWide P w r b0 t v) →
    (∀ i v, (vs.flatMap fun v => v.cells.toList)[i]? = some v → ρ (k + i) = leafInt v) →
    ps = [] ∧ All2 (SV.rep ⟨ρ, β⟩) args vs ∧ ∀ (w' : World) (base' : Nat) (spare' : Nat → Bool) (held' : Bool), DataW.TrodAll enc P w' base' spare' held' ts vs ds []
  | [], k, args, vs, ds, ps, hp, hT, _, _ => by
    obtain ⟨rfl, rfl, rfl⟩ := trodAll_nil hT
    simp only [pats, Option.some.injEq] at hp
    subst hp
    exact ⟨rfl, trivial, fun _ _ _ _ => trodAll_mk0⟩
  | t :: ts, k, args, vs, ds, ps, hp, hT, hval, hρ => by
    obtain ⟨v, vs, d, ds, p, q, rfl, rfl, rfl, h1, h2⟩ := trodAll_cons hT
    simp only [pats] at hp
    split at hp
    · rename_i pt l hpt
      split at hp
      · rename_i rest hrest
        cases hp
        obtain ⟨fuel, hf⟩ := h1
        unfold patOf at hpt
        split at hpt
        · rename_i l' hl
          obtain ⟨e1, e2, e3⟩ := flat_trod hl hf
          simp only at e1
          subst e1
          have hlen : v.cells.toList.length = l'.length := e2.length.symm
          have hv0 := hval 0 t v rfl rfl
          have hrep : pt.rep ⟨ρ, β⟩ v ∧ l = l' := by
            have hk := kAt_rep (ρ := ρ) (β := β) (k := k) e2 fun i x hx => hρ i x (by
              have hlt : i < v.cells.toList.length := by
                rcases Nat.lt_or_ge i v.cells.toList.length with g | g
                · exact g
                · rw [List.getElem?_eq_none g] at hx; cases hx
              simp only [List.flatMap_cons]
              rw [List.getElem?_append_left hlt]; exact hx)
            split at hpt
            · rename_i ha
              cases hpt
              obtain ⟨cs, rfl⟩ := okWide_agg ha hv0
              exact ⟨⟨cs, rfl, hk⟩, rfl⟩
            · rename_i ha
              split at hpt
              · rename_i q'
                cases hpt
                have hc := okWide_leaf hl (by simpa using ha) hv0
                rw [hc] at hk
                exact ⟨hk.1, rfl⟩
              · cases hpt
          obtain ⟨hrep, rfl⟩ := hrep
          obtain ⟨g1, g2, g3⟩ := pats_rep hrest h2 (fun j t' v' ht hv => hval (j + 1) t' v' (by simpa using ht) (by simpa using hv)) fun i x hx => by
            have := hρ (l.length + i) x (by
              simp only [List.flatMap_cons]
              rw [List.getElem?_append_right (by omega), hlen, Nat.add_sub_cancel_left]; exact hx)
            rw [Nat.add_assoc]; exact this
          subst g1
          exact ⟨rfl, ⟨hrep, g2⟩, fun w' b' s' h' => ⟨[], [], ⟨fuel, e3 w' b' s' h'⟩, g3 w' b' s' h', rfl⟩⟩
        · cases hpt
      · cases hp
    · cases hp
end

/-- What a law must bring. -/
def LawOk (P : Program) (f : FuncId) (args : List SV) : Prop := ∀ (ρ : Nat → Int) (vals : Array Value) (w : World), All2 (SV.rep ⟨ρ, fun _ => none⟩) args vals.toList → Calls P f vals w (fun e w' => e = .returned (.bool true) ∧ Le w w')
def yes {H : Type} (ds : List (DataW H)) : Left H := { results := [.lit (.bool true)], args := ds }

/-- A LAW's ROW, over flat arguments. -/
theorem lifted_law {H : Type} {enc : TypeId × Value → H} {C : Checked} {os : Os} {f : FuncId} {fn : Func} {s : ChangeSpec} {n : Nat} {args : List SV} {tb : TypeId} {conds : List PathCond}
    (own : ownKnob C.prog.godebug = none) (started : os.Started) (noInit : C.prog.inits.idxOf? f = none) (hfn : C.prog.funcs[f]? = some fn)
    (hv : s.vars = []) (hr : fn.resultTypes = #[tb]) (htb : C.prog.underlying tb = some .bool) (hp : pats C.prog n fn.params.toList 0 = some args)
    (hs : ∀ ds : List (DataW H), ds.length = fn.params.toList.length → s.fn H ds = yes ds)
    (law : LawOk C.prog f args)
    (witness : ∃ (w : World) (tape : Tape) (i : Input), w.os = os ∧ (w.forCall tape i).Shaped C.prog ∧ i.vars = [] ∧ Input.okWide C.prog (w.forCall tape i) .any w.heap.size f i ∧
      s.pre6 enc C.prog fn conds false (w.forCall tape i).memory i.args ∧ ({} : Assume).holds C.prog (lone (Frame.enter C.prog f i.args .normal) [] (w.forCall tape i))) :
    ReturnsInHanded {} C os f .any (s.pre6 enc C.prog fn conds false) (s.post enc C.prog fn false true false false) := by
  refine returnsInHanded_of_change own started noInit hfn witness ?_
  intro W base vals ds gs before hval hW hcnd _
  have hW' := hW
  obtain ⟨p, q, hA, hV, rfl, hfz, hnd⟩ := hW
  rw [hv] at hV
  obtain ⟨rfl, rfl⟩ := trodVars_none hV
  obtain ⟨h1, h2, h3⟩ := pats_rep (enc := enc) (r := .any) (b0 := base) (β := fun _ => none) (ρ := rho (vals.toList.flatMap fun v => v.cells.toList)) hp hA
    (fun j t v ht hv => hval j t v (by simpa using ht) (by simpa using hv)) (fun i v hiv => by simp only [Nat.zero_add, rho]; rw [List.getD_eq_getElem?_getD, hiv]; rfl)
  have hlen := (Go.trodAll_length hA).2
  refine (law _ vals W h2).mono fun e w' ⟨he, hle⟩ => ⟨.bool true, he, ?_⟩
  have e1 : s.fn H (ds ++ []) = yes ds := by rw [List.append_nil]; exact hs ds hlen
  refine ⟨ds, [], p ++ [], [], [], [], hW', ?_, ?_, ?_, hle.frame _, fun h => by cases h⟩
  · rw [e1, hr]
    exact trodAll_cons_mk (RowKit.shut_bool htb _) trodAll_mk0
  · rw [e1]; exact h3 _ _ _ _
  · rw [e1, hv]; rfl

/-! An argument's number, told apart. -/
def putSC (i : Nat) (c : Int) : SC → SC | .s (.i k) (.at j) => if Nat.beq i j then .s (.i k) (.n c) else .s (.i k) (.at j) | x => x
def putSV (i : Nat) (c : Int) : SV → SV | .p (.one x) => .p (.one (putSC i c x)) | .p (.agg l) => .p (.agg (l.map (putSC i c))) | x => x
theorem putSC_rep {env : Env} {i : Nat} {c : Int} (h : env.ρ i = c) {x : SC} {v : Value} (hx : x.rep env v) : (putSC i c x).rep env v := by
  unfold putSC
  split
  · split
    · rename_i hb
      have := Nat.eq_of_beq_eq_true hb
      subst this
      simp only [SC.rep, K.ok, E.den] at hx ⊢
      rw [hx, h]
    · exact hx
  · exact hx
theorem putSCs_rep {env : Env} {i : Nat} {c : Int} (h : env.ρ i = c) : ∀ {l : List SC} {vs : List Value}, All2 (SC.rep env) l vs → All2 (SC.rep env) (l.map (putSC i c)) vs
  | [], [], _ => trivial
  | _ :: _, _ :: _, g => ⟨putSC_rep h g.1, putSCs_rep h g.2⟩
  | [], _ :: _, g => g.elim
  | _ :: _, [], g => g.elim
theorem putSV_rep {env : Env} {i : Nat} {c : Int} (h : env.ρ i = c) {x : SV} {v : Value} (hx : x.rep env v) : (putSV i c x).rep env v := by
  unfold putSV
  split
  · exact putSC_rep h hx
  · obtain ⟨vs, e, g⟩ := hx
    exact ⟨vs, e, putSCs_rep h g⟩
  · exact hx
theorem putAll_rep {env : Env} {i : Nat} {c : Int} (h : env.ρ i = c) : ∀ {l : List SV} {vs : List Value}, All2 (SV.rep env) l vs → All2 (SV.rep env) (l.map (putSV i c)) vs
  | [], [], _ => trivial
  | _ :: _, _ :: _, g => ⟨putSV_rep h g.1, putAll_rep h g.2⟩
  | [], _ :: _, g => g.elim
  | _ :: _, [], g => g.elim

/-- The ways a law is cut into before it is walked. -/
inductive Cut
  | walk
  | on (e : E) (y n : Cut)
  | num (i : Nat) (lo : Int) (m : Nat) (each out : Cut)
def lawCut (P : Program) (cal : Cal) (fuel : Fuel) (f : Nat) : Cut → List SV → List Fact → Bool
  | .walk, args, fs => lawCheck P cal fuel f args fs
  | .on e y n, args, fs => lawCut P cal fuel f y args (learn e true fs) && lawCut P cal fuel f n args (learn e false fs)
  | .num i lo m each out, args, fs =>
    ((List.range m).all fun j => lawCut P cal fuel f each (args.map (putSV i (lo + j))) fs) &&
    (lawCut P cal fuel f out args (learn (.b (.ic .le) (.n lo) (.at i)) false fs) &&
     lawCut P cal fuel f out args (learn (.b (.ic .le) (.at i) (.n (lo + m - 1))) false (learn (.b (.ic .le) (.n lo) (.at i)) true fs)))

theorem law_cut {P : Program} {cal : Cal} (hN : NoNum P) (hC : CalOk P cal) (hCF : CalFacts cal) {fuel : Fuel} {f : Nat} {ρ : Nat → Int} {vals : Array Value} (w : World) : ∀ {c : Cut} {args : List SV} {fs : List Fact},
    lawCut P cal fuel f c args fs = true → Holds ρ fs → All2 (SV.rep ⟨ρ, fun _ => none⟩) args vals.toList → Calls P f vals w (fun e w' => e = .returned (.bool true) ∧ Le w w')
  | .walk, args, fs, h, hF, ha => law_of hN hC hCF h w hF ha
  | .on e y n, args, fs, h, hF, ha => by
    simp only [lawCut, Bool.and_eq_true] at h
    cases ht : tru (e.den ρ) with
    | true => exact law_cut hN hC hCF w h.1 (learn_spec e true hF ht) ha
    | false => exact law_cut hN hC hCF w h.2 (learn_spec e false hF ht) ha
  | .num i lo m each out, args, fs, h, hF, ha => by
    simp only [lawCut, Bool.and_eq_true, List.all_eq_true, List.mem_range] at h
    obtain ⟨h1, h2, h3⟩ := h
    have d1 : tru ((E.b (.ic .le) (.n lo) (.at i)).den ρ) = decide (lo ≤ ρ i) := by simp only [E.den, F2.den, tru_b2i, icb]; congr
    have d2 : tru ((E.b (.ic .le) (.at i) (.n (lo + m - 1))).den ρ) = decide (ρ i ≤ lo + m - 1) := by simp only [E.den, F2.den, tru_b2i, icb]; congr
    by_cases g1 : lo ≤ ρ i
    · have q1 := learn_spec (.b (.ic .le) (.n lo) (.at i)) true hF (by rw [d1]; simpa using g1)
      by_cases g2 : ρ i ≤ lo + m - 1
      · have hj := h1 (ρ i - lo).toNat (by omega)
        rw [show lo + ((ρ i - lo).toNat : Int) = ρ i by omega] at hj
        exact law_cut hN hC hCF w hj hF (putAll_rep rfl ha)
      · exact law_cut hN hC hCF w h3 (learn_spec _ false q1 (by rw [d2]; simpa using g2)) ha
    · exact law_cut hN hC hCF w h2 (learn_spec _ false hF (by rw [d1]; simpa using g1)) ha

theorem lawOk_cut {P : Program} (hN : NoNum P) {ext : List (Nat × Ext)} (hX : ExtOk P ext) {sums : List Summ} (hS : AllOk P sums) {n : Nat} {fuel : Fuel} {f : Nat} {args : List SV} (c : Cut)
    (h : lawCut P (deep P ext sums n) fuel f c args [] = true) : LawOk P f args := fun ρ _ w ha => law_cut hN (deep_ok hN hX hS n) (deep_facts P ext sums n) w h (Holds.nil ρ) ha

/-- A part of a law's inputs. -/
def CutOk (P : Program) (f : FuncId) (args : List SV) (fs : List Fact) : Prop := ∀ (ρ : Nat → Int) (vals : Array Value) (w : World), Holds ρ fs → All2 (SV.rep ⟨ρ, fun _ => none⟩) args vals.toList → Calls P f vals w (fun e w' => e = .returned (.bool true) ∧ Le w w')
theorem cutOk_of {P : Program} (hN : NoNum P) {ext : List (Nat × Ext)} (hX : ExtOk P ext) {sums : List Summ} (hS : AllOk P sums) {n : Nat} {fuel : Fuel} {f : Nat} {args : List SV} {fs : List Fact} (c : Cut)
    (h : lawCut P (deep P ext sums n) fuel f c args fs = true) : CutOk P f args fs := fun _ _ w hF ha => law_cut hN (deep_ok hN hX hS n) (deep_facts P ext sums n) w h hF ha
theorem lawOk_of {P : Program} {f : FuncId} {args : List SV} (h : CutOk P f args []) : LawOk P f args := fun ρ vals w ha => h ρ vals w (Holds.nil ρ) ha
theorem cutOk_on {P : Program} {f : FuncId} {args : List SV} {fs : List Fact} (e : E) (h1 : CutOk P f args (learn e true fs)) (h2 : CutOk P f args (learn e false fs)) : CutOk P f args fs := fun ρ vals w hF ha => by
  cases ht : tru (e.den ρ) with
  | true => exact h1 ρ vals w (learn_spec e true hF ht) ha
  | false => exact h2 ρ vals w (learn_spec e false hF ht) ha
def below' (i : Nat) (lo : Int) (fs : List Fact) : List Fact := learn (.b (.ic .le) (.n lo) (.at i)) false fs
def above' (i : Nat) (lo : Int) (m : Nat) (fs : List Fact) : List Fact := learn (.b (.ic .le) (.at i) (.n (lo + m - 1))) false (learn (.b (.ic .le) (.n lo) (.at i)) true fs)
theorem cutOk_num {P : Program} {f : FuncId} {args : List SV} {fs : List Fact} (i : Nat) (lo : Int) (m : Nat) (h : ∀ j : Nat, j < m → CutOk P f (args.map (putSV i (lo + j))) fs)
    (h1 : CutOk P f args (below' i lo fs)) (h2 : CutOk P f args (above' i lo m fs)) : CutOk P f args fs := fun ρ vals w hF ha => by
  have d1 : tru ((E.b (.ic .le) (.n lo) (.at i)).den ρ) = decide (lo ≤ ρ i) := by simp only [E.den, F2.den, tru_b2i, icb]; congr
  have d2 : tru ((E.b (.ic .le) (.at i) (.n (lo + m - 1))).den ρ) = decide (ρ i ≤ lo + m - 1) := by simp only [E.den, F2.den, tru_b2i, icb]; congr
  by_cases g1 : lo ≤ ρ i
  · have q1 := learn_spec (.b (.ic .le) (.n lo) (.at i)) true hF (by rw [d1]; simpa using g1)
    by_cases g2 : ρ i ≤ lo + m - 1
    · have hj := h (ρ i - lo).toNat (by omega) ρ vals w hF
      rw [show lo + ((ρ i - lo).toNat : Int) = ρ i by omega] at hj
      exact hj (putAll_rep rfl ha)
    · exact h2 ρ vals w (learn_spec _ false q1 (by rw [d2]; simpa using g2)) ha
  · exact h1 ρ vals w (learn_spec _ false hF (by rw [d1]; simpa using g1)) ha

def jun (k : Nat) : List SC := kAt (.i .i64 :: .i .i64 :: List.replicate 20 (.f .f32)) k
def sameAll (n : Nat) : E := conj ((List.range (n - 1)).map fun i => .b (.ic .eq) (.at i) (.at (n + i))) (.b (.ic .eq) (.at (n - 1)) (.at (n + n - 1)))
def junAt (c d : Nat) : List SC := .s (.i .i64) (.n c) :: .s (.i .i64) (.n d) :: kAt (List.replicate 20 (.f .f32)) 2
def fAdd (x y : E) : E := .b (.fa .add .f32) x y
def okJun (c d : Nat) : E :=
  conj ((List.range 4).flatMap fun i =>
    ((List.range 4).flatMap fun j => (.u .shr (.at (2 + 4 * i + j))) :: (if i < c && j < d then [] else [eEq (.at (2 + 4 * i + j)) (.n 0)])) ++
    (if i < c then
      let sum := fAdd (fAdd (fAdd (.at (2 + 4 * i)) (.at (3 + 4 * i))) (.at (4 + 4 * i))) (.at (5 + 4 * i))
      [eLe (.n 0x3f7fbe77) sum, eLe sum (.n 0x3f8020c5), .u .amt (.at (18 + i)), eLe (.n 0x3c800000) (.at (18 + i)), eLe (.at (18 + i)) (.n 0x42800000)]
    else [eNothing (.at (18 + i))])) (.n 1)
/-- For the witness: zeros. -/
def zeroV (P : Program) (n : Nat) (t : TypeId) : Value :=
  match flat P n t with
  | some l =>
    let cs := l.map fun q => match q with | .b => Value.bool false | .i k => .int k 0 | .f k => .float k 0
    if isAgg P t then .agg cs.toArray else cs.getD 0 .nilFunc
  | none => .nilFunc

end Go.Sx

/-! PATTERNS of the laws of roads, more. -/
namespace Go.Sx
def fMul (x y : E) : E := .b (.fa .mul .f32) x y
def fSub (x y : E) : E := .b (.fa .sub .f32) x y
def bestE : E := .b (.fa .quo .f32) (.at 17) (fAdd (.at 16) (.at 17))
def mostE : E := fMul (.at 16) bestE
def takesE (i : Nat) : E := .b .less (fMul (.at 17) (fSub (.n 0x3f800000) (.at i))) mostE
/-- No cell takes more than nearly nothing. -/
def fullE : E := conj ((List.range 16).map fun i => .u .not (.b (.fc .lt .f32) (.n 0x3a800000) (takesE i))) (.n 1)
end Go.Sx
