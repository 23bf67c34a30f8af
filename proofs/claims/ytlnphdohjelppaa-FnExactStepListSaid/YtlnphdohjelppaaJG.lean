/-
  THE PROGRAM'S STEPS OVER A LIST, walked. Conditions: those that stand in each.
-/
import Derived.Test.YtlnphdohjelppaaJRL
namespace Go.Proofs.Ytlnphdohjelppaa
open Go.RowKit
set_option maxRecDepth 100000
/-- The road behind k steps; what came in all; what went in all. -/
noncomputable def stR (ρ : Nat → Int) (xs ys : List Nat) : Nat → (Nat → Int)
  | 0 => ρ
  | k + 1 => stepR (stR ρ xs ys k) ((Sx.nz .f32 (xs.getD k 0) : Nat) : Int) ((Sx.nz .f32 (ys.getD k 0) : Nat) : Int)
noncomputable def inS (ρ : Nat → Int) (xs ys : List Nat) : Nat → Int
  | 0 => ((Sx.nz .f32 0 : Nat) : Int)
  | k + 1 => sumV (inS ρ xs ys k) (cameV (stR ρ xs ys k) ((Sx.nz .f32 (xs.getD k 0) : Nat) : Int) ((Sx.nz .f32 (ys.getD k 0) : Nat) : Int))
noncomputable def outS (ρ : Nat → Int) (xs ys : List Nat) : Nat → Int
  | 0 => ((Sx.nz .f32 0 : Nat) : Int)
  | k + 1 => sumV (outS ρ xs ys k) (wentV (stR ρ xs ys k) ((Sx.nz .f32 (xs.getD k 0) : Nat) : Int) ((Sx.nz .f32 (ys.getD k 0) : Nat) : Int))
theorem results_cell4 {P : Program} {fn : Func} {t u1 u2 u3 : Tmp} {ty : TypeId} (h : fn.results = #[.cell t ty, .tmp u1, .tmp u2, .tmp u3]) (tmps : Array Value) {p : Addr} {v : Value} {w : World} (hp : tmps.getD t undef = .pointer (some p)) (hl : (loadVar ty p).run P w = .ok v w) :
    (results fn tmps).run P w = .ok (.tuple #[v, tmps.getD u1 undef, tmps.getD u2 undef, tmps.getD u3 undef]) w := by
  have h1 : (asAddr (tmps.getD t undef)).run P w = .ok p w := by rw [hp]; rfl
  unfold results
  rw [h]
  simp only [List.mapM_toArray, List.mapM_cons, List.mapM_nil, Sem.run_bind, Sem.run_pure, Result.andThen_ok, Sem.run_map, h1, hl]
  rfl
set_option maxHeartbeats 1600000
theorem zthere {w : World} {b : Nat} (h : w.there b 0 19) : w.there b 0 (Array.size #[Value.float .f32 0, Value.float .f32 0, Value.float .f32 0, Value.float .f32 0, Value.float .f32 0, Value.float .f32 0, Value.float .f32 0, Value.float .f32 0, Value.float .f32 0, Value.float .f32 0, Value.float .f32 0, Value.float .f32 0, Value.float .f32 0, Value.float .f32 0, Value.float .f32 0, Value.float .f32 0, Value.float .f32 0, Value.float .f32 0, Value.float .f32 0]) := h
theorem zsize : (Try.prog.info? 29).map (·.size) = some (Array.size #[Value.float .f32 0, Value.float .f32 0, Value.float .f32 0, Value.float .f32 0, Value.float .f32 0, Value.float .f32 0, Value.float .f32 0, Value.float .f32 0, Value.float .f32 0, Value.float .f32 0, Value.float .f32 0, Value.float .f32 0, Value.float .f32 0, Value.float .f32 0, Value.float .f32 0, Value.float .f32 0, Value.float .f32 0, Value.float .f32 0, Value.float .f32 0]) := flsize (cs := z19) rfl
theorem zone : Array.all #[Value.float .f32 0, Value.float .f32 0, Value.float .f32 0, Value.float .f32 0, Value.float .f32 0, Value.float .f32 0, Value.float .f32 0, Value.float .f32 0, Value.float .f32 0, Value.float .f32 0, Value.float .f32 0, Value.float .f32 0, Value.float .f32 0, Value.float .f32 0, Value.float .f32 0, Value.float .f32 0, Value.float .f32 0, Value.float .f32 0, Value.float .f32 0] (·.oneCell') = true := fl_one z19
theorem zstore {w : World} {b : Nat} {cs : List Nat} (h : Slot w b cs) (hl : cs.length = 19) : Slot (w.setCells b 0 (Array.toList #[Value.float .f32 0, Value.float .f32 0, Value.float .f32 0, Value.float .f32 0, Value.float .f32 0, Value.float .f32 0, Value.float .f32 0, Value.float .f32 0, Value.float .f32 0, Value.float .f32 0, Value.float .f32 0, Value.float .f32 0, Value.float .f32 0, Value.float .f32 0, Value.float .f32 0, Value.float .f32 0, Value.float .f32 0, Value.float .f32 0, Value.float .f32 0])) b z19 := h.store (ds := z19) hl
/-- What all the steps hand back. -/
def RetL (w0 : World) (ρ : Nat → Int) (xs ys : List Nat) (n : Nat) (r : Ending) (w' : World) : Prop :=
  ∃ (cs : List Nat) (a b : Nat), r = .returned (.tuple #[.agg (fl cs).toArray, .float .f32 a, .float .f32 b, .int .i64 0]) ∧ Road19 cs ∧ rho cs = stR ρ xs ys n ∧ a < Sx.bits .f32 ∧ b < Sx.bits .f32 ∧ ((Sx.nz .f32 a : Nat) : Int) = inS ρ xs ys n ∧ ((Sx.nz .f32 b : Nat) : Int) = outS ρ xs ys n ∧ Below w0.heap.size w0 w'
theorem listI {bs : List Nat} (h : Road19 bs) (xs ys : List Nat) (hn : xs.length ≤ 1048576) (hxy : ys.length = xs.length) (hx : ∀ b ∈ xs, b < Sx.bits .f32) (hy : ∀ b ∈ ys, b < Sx.bits .f32) (g1 g2 : Nat) (w : World) (h1 : RowF w g1 xs) (h2 : RowF w g2 ys) :
    Calls Try.prog 19 #[.agg (fl bs).toArray, .slice (some ⟨g1, 0, none⟩) xs.length xs.length, .slice (some ⟨g2, 0, none⟩) xs.length xs.length] w (RetL w (rho bs) xs ys xs.length) := by
  have H1 : Hid (RowF w g1 xs) := h1
  have H2 : Hid (RowF w g2 ys) := h2
  have HX : Hid (ys.length = xs.length ∧ (∀ b ∈ xs, b < Sx.bits .f32) ∧ ∀ b ∈ ys, b < Sx.bits .f32) := ⟨hxy, hx, hy⟩
  have hs0 : Slot (w.alloc (.cells (fl bs).toArray 29)) w.heap.size bs := slot_new w bs
  have hbA : Below w.heap.size w (w.alloc (.cells (fl bs).toArray 29)) := (Below.refl _ _).alloc (Nat.le_refl _) _
  obtain ⟨wA, hwA⟩ : ∃ wA, w.alloc (.cells (fl bs).toArray 29) = wA := ⟨_, rfl⟩
  rw [hwA] at hs0 hbA
  obtain ⟨n, hnn⟩ : ∃ n, n = xs.length := ⟨_, rfl⟩
  rw [← hnn] at hn ⊢
  have HN : Hid (n = xs.length) := hnn
  clear h1 h2 hx hy hxy hnn
  go_enter Try.func19, Try.ntmps19
  go_wp2
  have hsB : Slot (wA.alloc (.cells #[Value.float .f32 0, Value.float .f32 0, Value.float .f32 0, Value.float .f32 0, Value.float .f32 0, Value.float .f32 0, Value.float .f32 0, Value.float .f32 0, Value.float .f32 0, Value.float .f32 0, Value.float .f32 0, Value.float .f32 0, Value.float .f32 0, Value.float .f32 0, Value.float .f32 0, Value.float .f32 0, Value.float .f32 0, Value.float .f32 0, Value.float .f32 0] 29)) wA.heap.size z19 := slot_new wA z19
  have hsA : Slot (wA.alloc (.cells #[Value.float .f32 0, Value.float .f32 0, Value.float .f32 0, Value.float .f32 0, Value.float .f32 0, Value.float .f32 0, Value.float .f32 0, Value.float .f32 0, Value.float .f32 0, Value.float .f32 0, Value.float .f32 0, Value.float .f32 0, Value.float .f32 0, Value.float .f32 0, Value.float .f32 0, Value.float .f32 0, Value.float .f32 0, Value.float .f32 0, Value.float .f32 0] 29)) w.heap.size bs := hs0.alloc _
  have hbB : Below w.heap.size w (wA.alloc (.cells #[Value.float .f32 0, Value.float .f32 0, Value.float .f32 0, Value.float .f32 0, Value.float .f32 0, Value.float .f32 0, Value.float .f32 0, Value.float .f32 0, Value.float .f32 0, Value.float .f32 0, Value.float .f32 0, Value.float .f32 0, Value.float .f32 0, Value.float .f32 0, Value.float .f32 0, Value.float .f32 0, Value.float .f32 0, Value.float .f32 0, Value.float .f32 0] 29)) := hbA.alloc hbA.size _
  have hlt : w.heap.size < wA.heap.size := hs0.lt
  have HS : Hid (Slot (wA.alloc (.cells #[Value.float .f32 0, Value.float .f32 0, Value.float .f32 0, Value.float .f32 0, Value.float .f32 0, Value.float .f32 0, Value.float .f32 0, Value.float .f32 0, Value.float .f32 0, Value.float .f32 0, Value.float .f32 0, Value.float .f32 0, Value.float .f32 0, Value.float .f32 0, Value.float .f32 0, Value.float .f32 0, Value.float .f32 0, Value.float .f32 0, Value.float .f32 0] 29)) w.heap.size bs ∧ Slot (wA.alloc (.cells #[Value.float .f32 0, Value.float .f32 0, Value.float .f32 0, Value.float .f32 0, Value.float .f32 0, Value.float .f32 0, Value.float .f32 0, Value.float .f32 0, Value.float .f32 0, Value.float .f32 0, Value.float .f32 0, Value.float .f32 0, Value.float .f32 0, Value.float .f32 0, Value.float .f32 0, Value.float .f32 0, Value.float .f32 0, Value.float .f32 0, Value.float .f32 0] 29)) wA.heap.size z19 ∧ Below w.heap.size w (wA.alloc (.cells #[Value.float .f32 0, Value.float .f32 0, Value.float .f32 0, Value.float .f32 0, Value.float .f32 0, Value.float .f32 0, Value.float .f32 0, Value.float .f32 0, Value.float .f32 0, Value.float .f32 0, Value.float .f32 0, Value.float .f32 0, Value.float .f32 0, Value.float .f32 0, Value.float .f32 0, Value.float .f32 0, Value.float .f32 0, Value.float .f32 0, Value.float .f32 0] 29))) := ⟨hsA, hsB, hbB⟩
  have H0 : Hid (Road19 bs ∧ rho bs = stR (rho bs) xs ys 0 ∧ (0 : Nat) < Sx.bits .f32 ∧ (0 : Nat) < Sx.bits .f32 ∧ ((Sx.nz .f32 0 : Nat) : Int) = inS (rho bs) xs ys 0 ∧ ((Sx.nz .f32 0 : Nat) : Int) = outS (rho bs) xs ys 0) := ⟨h, rfl, by decide, by decide, rfl, rfl⟩
  clear hsB hsA hbB hs0 hbA h
  go_loopw [10, 11, 17] (fun va vb vi wr => ∃ (k a b : Nat) (cs : List Nat), va = .float .f32 a ∧ vb = .float .f32 b ∧ vi = .int .i64 k ∧ k ≤ n ∧ Hid (Road19 cs ∧ rho cs = stR (rho bs) xs ys k ∧ a < Sx.bits .f32 ∧ b < Sx.bits .f32 ∧ ((Sx.nz .f32 a : Nat) : Int) = inS (rho bs) xs ys k ∧ ((Sx.nz .f32 b : Nat) : Int) = outS (rho bs) xs ys k) ∧ Hid (Slot wr w.heap.size cs ∧ Slot wr wA.heap.size z19 ∧ Below w.heap.size w wr))
    (fun _ _ vi _ => n - (intOf vi).toNat)
  case atStart => exact ⟨0, 0, 0, bs, rfl, rfl, rfl, by omega, H0, HS⟩
  case round =>
    obtain ⟨k, a, b, cs, rfl, rfl, rfl, hk, hv, hsl⟩ := hrel
    clear H0 HS
    by_cases hkn : k < n
    · have hki : (k : Int) < (n : Int) := by omega
      have hkx : k < xs.length := by have := HN.out; omega
      have hky : k < ys.length := by rw [HX.out.1]; exact hkx
      have hc1 : ∀ w', Below w.heap.size w w' → w'.cell? ⟨g1, k, none⟩ = some (.float .f32 (xs.getD k 0)) := fun w' hb => by rw [hb.cell (p := ⟨g1, k, none⟩) H1.out.lt]; exact H1.out.cell hkx
      have hc2 : ∀ w', Below w.heap.size w w' → w'.cell? ⟨g2, k, none⟩ = some (.float .f32 (ys.getD k 0)) := fun w' hb => by rw [hb.cell (p := ⟨g2, k, none⟩) H2.out.lt]; exact H2.out.cell hky
      have HC : Hid ((∀ w', Below w.heap.size w w' → w'.cell? ⟨g1, k, none⟩ = some (.float .f32 (xs.getD k 0))) ∧ ∀ w', Below w.heap.size w w' → w'.cell? ⟨g2, k, none⟩ = some (.float .f32 (ys.getD k 0))) := ⟨hc1, hc2⟩
      have HL : Hid (xs.getD k 0 < Sx.bits .f32 ∧ ys.getD k 0 < Sx.bits .f32) := ⟨HX.out.2.1 _ (getD_mem hkx), HX.out.2.2 _ (getD_mem hky)⟩
      clear hc1 hc2 hky
      go_wp2
      refine wp_region_noPanic ?_
      refine regL (cs := cs) hv.out.1 HL.out.1 HL.out.2 hki (Nat.le_refl _) hsl.out.1 HC.out.1 HC.out.2 hsl.out.2.2 (fun _ _ _ _ _ h => h) (fun cs' a' b' w1 w9 hR' hr' ha' hb' hva hvb hw1 hw9 hs9 hb9 => ?_)
      refine NoPanic.normal ?_
      obtain ⟨_, hrc, ha0, hb0, hva0, hvb0⟩ := hv.out
      have hz9 : Slot w9 wA.heap.size z19 := by
        rw [hw9]
        exact (hsl.out.2.1.below hw1 hsl.out.2.1.lt).apart (Nat.ne_of_gt hlt) 0 _
      have HS9 : Hid (Slot w9 w.heap.size cs' ∧ Slot w9 wA.heap.size z19 ∧ Below w.heap.size w w9) := ⟨hs9, hz9, hb9⟩
      have hr1 : rho cs' = stR (rho bs) xs ys (k + 1) := by
        rw [hr', hrc]
        rfl
      have HV : Hid (Road19 cs' ∧ rho cs' = stR (rho bs) xs ys (k + 1) ∧ a < Sx.bits .f32 ∧ b < Sx.bits .f32 ∧ a' < Sx.bits .f32 ∧ b' < Sx.bits .f32 ∧
          sumV ((Sx.nz .f32 a : Nat) : Int) ((Sx.nz .f32 a' : Nat) : Int) = inS (rho bs) xs ys (k + 1) ∧ sumV ((Sx.nz .f32 b : Nat) : Int) ((Sx.nz .f32 b' : Nat) : Int) = outS (rho bs) xs ys (k + 1)) := by
        refine ⟨hR', hr1, ha0, hb0, ha', hb', ?_, ?_⟩
        · rw [hva0, hva, hrc]
          rfl
        · rw [hvb0, hvb, hrc]
          rfl
      clear hR' hr' ha' hb' hva hvb hw1 hw9 hs9 hb9 hrc ha0 hb0 hva0 hvb0 hz9 hr1 hv hsl
      go_wp2
      obtain ⟨z1, v1, k1, hz1, hn1, hb1⟩ := addF HV.out.2.2.1 HV.out.2.2.2.2.1 w9
      rw [k1]
      go_wp2
      obtain ⟨z2, v2, k2, hz2, hn2, hb2⟩ := addF HV.out.2.2.2.1 HV.out.2.2.2.2.2.1 v1
      rw [k2]
      have HE : Hid (Road19 cs' ∧ rho cs' = stR (rho bs) xs ys (k + 1) ∧ z1 < Sx.bits .f32 ∧ z2 < Sx.bits .f32 ∧ ((Sx.nz .f32 z1 : Nat) : Int) = inS (rho bs) xs ys (k + 1) ∧ ((Sx.nz .f32 z2 : Nat) : Int) = outS (rho bs) xs ys (k + 1)) :=
        ⟨HV.out.1, HV.out.2.1, hz1, hz2, hn1.trans HV.out.2.2.2.2.2.2.1, hn2.trans HV.out.2.2.2.2.2.2.2⟩
      have hbv : Below w9.heap.size w9 v2 := hb1.trans (hb2.mono hb1.size)
      have HT : Hid (Slot v2 w.heap.size cs' ∧ Slot v2 wA.heap.size z19 ∧ Below w.heap.size w v2) := ⟨HS9.out.1.below hbv HS9.out.1.lt, HS9.out.2.1.below hbv HS9.out.2.1.lt, HS9.out.2.2.trans (hbv.mono HS9.out.2.2.size)⟩
      clear hz1 hn1 hb1 hz2 hn2 hb2 hbv k1 k2
      go_wp2
      refine ⟨⟨k + 1, z1, z2, cs', rfl, rfl, (by first | rfl | (congr 1; omega)), by omega, HE, HT⟩, by simp only [intOf]; omega⟩
    · have hki : (n : Int) ≤ (k : Int) := by omega
      have hkk : k = n := by omega
      have hsl' := hsl.out
      have HR : Hid (Road19 cs) := hv.out.1
      go_wp2_with (first
        | ((with_reducible show Go.wpList _ _ _ (Go.Oper.mk _ (Go.Op.load 29 _) _ _ _ _ :: _) _ _); refine wpList_load_mid rfl 29 (.tmp 3) rfl _ _ rfl (fl cs) _ hsl'.1.range Try.underlying29 rfl (flsize HR.out.1) ?_)
        | ((with_reducible show Go.wpList _ _ _ (Go.Oper.mk _ (Go.Op.store 29 (Go.Operand.tmp 6) _) _ _ _ _ :: _) _ _); refine wpList_store_mid rfl 29 (.tmp 6) (.tmp 41) rfl wA.heap.size 0 (fl cs).toArray rfl rfl (flthere (hsl'.2.1.there rfl) HR.out.1) (flsize HR.out.1) (fl_one _) ?_; generalize hW : World.setCells _ _ _ _ = w13))
      have hs13 : Slot w13 wA.heap.size cs := by rw [← hW]; exact hsl'.2.1.store HR.out.1.symm
      have hb13 : Below w.heap.size w w13 := by rw [← hW]; exact below_cells hsl'.2.2 (Nat.le_of_lt hlt) 0 _
      refine bodyPost_ret (results_cell4 rfl _ (p := ⟨wA.heap.size, 0, none⟩) rfl (hs13.load HR.out.1)) rfl ?_
      have hvo := hv.out
      rw [hkk] at hvo
      exact ⟨cs, a, b, rfl, hvo.1, hvo.2.1, hvo.2.2.1, hvo.2.2.2.1, hvo.2.2.2.2.1, hvo.2.2.2.2.2, hb13⟩
end Go.Proofs.Ytlnphdohjelppaa
