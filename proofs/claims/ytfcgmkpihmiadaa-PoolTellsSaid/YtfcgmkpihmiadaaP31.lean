/-
  A part of the proof of a statement of a chapter's seat; conditions: stated at each theorem.
-/
import Derived.Test.YtfcgmkpihmiadaaP30
set_option linter.unusedVariables false
set_option linter.unusedSectionVars false
set_option linter.unusedSimpArgs false
set_option linter.unusedVariables false
set_option maxRecDepth 100000
set_option maxHeartbeats 4000000
namespace Go.Proofs.Ytfcgmkpihmiadaa
open Go.Az Go
/-! ### Sums over numbers -/
/-! ### New jobs are not over -/
/-! ### What a pick does to a pool -/
structure QS (p : Pl) (n : Nat) (b : Bool) (q : Pq) : Prop where
  e0 : q.e = 0
  inv : Inv q.p
  us : q.p.us = p.us
  wl : q.p.ws.length = p.ws.length
  o : p.out ≤ q.p.out
  l : q.l = range' p.out (q.p.out - p.out).toNat
  cs : (q.w = 0 ∧ busyB p (p.ws.getD n wk0) = false ∧ q.p = p) ∨ (q.w = 4 ∧ b = true ∧ busyB p (p.ws.getD n wk0) = true ∧ q.p.out = p.out) ∨ (1 ≤ q.w ∧ q.w ≤ 3 ∧ b = false ∧ busyB p (p.ws.getD n wk0) = true)
  left : leftN q.p = leftN p - (if 1 ≤ q.w ∧ q.w ≤ 3 then 1 else 0) + (if q.w = 4 then dF (p.ws.getD n wk0) else 0)
  att : (∀ i, i < p.ts.length → (p.ts.getD i tk0).a < 1099511627776) → attS q.p.ts = attS p.ts + (if q.w = 4 then 1 else 0)
  atb : ∀ i, (q.p.ts.getD i tk0).a ≤ max 0 (p.ts.getD i tk0).a + 1
theorem pick1_stop {p : Pl} {n : Nat} {b : Bool} {k : Pk} (h : Inv p) (s : PS p n b k) (hw : k.w ≠ 3) : ¬ emC (pick1 p n k) := by
  rintro ⟨h1, h2⟩
  have h1' : p.out < k.l.length := h1
  have h2' : (k.l.getD p.out.toNat tk0).o = true := h2
  rw [s.same hw] at h2'
  rw [s.len] at h1'
  have := h.oe
  have := overN_at p.ts (by omega)
  rw [show overN p.ts = p.out.toNat by omega, h2'] at this
  cases this
theorem pick1_len {p : Pl} {n : Nat} {b : Bool} {k : Pk} (h : Inv p) (s : PS p n b k) : ((pick1 p n k).ts.length : Int) = admN (pick1 p n k) := by
  show (k.l.length : Int) = min (p.us.length : Int) (p.out + ((p.ws.set ((n : Int).toNat) ⟨k.j, k.d⟩).length : Int) + 2)
  rw [s.len, h.le, List.length_set]; rfl
theorem pickQ_at {p : Pl} (h : Inv p) {n : Nat} (hn : n < p.ws.length) (b : Bool) : pickQ p n b = ⟨(emi (p.us.length + 1) (pick1 p n (pickK p n b)) []).p, (pickK p n b).w, (emi (p.us.length + 1) (pick1 p n (pickK p n b)) []).l, 0⟩ := by
  rw [pickQ, if_neg (by rw [(inv_iff p).2 h]; simp), if_neg (by omega)]
/-! ### What is left -/
theorem dF_lt {p : Pl} (h : Inv p) {k : Nat} (hk : k < p.ws.length) : 0 ≤ dF (p.ws.getD k wk0) := by
  have := (ck_ok (h.ck k hk)).2.2.2.2.2
  unfold dF
  split
  · rename_i h0; have := this h0; omega
  · exact Int.le_refl _
/-- What workers have done of each job. -/
def inS (ws : List Wk) (i : Int) : Int := sumF (fun w => if w.j = i then w.d + 1 else 0) ws
theorem sumF_zero (n : Nat) : sumF (fun _ : Nat => (0 : Int)) (List.range n) = 0 := by
  induction n with
  | zero => rfl
  | succ n ih => rw [List.range_succ, sumF_app, ih]; rfl
theorem sumF_add (f g : Nat → Int) : ∀ l : List Nat, sumF (fun i => f i + g i) l = sumF f l + sumF g l
  | [] => rfl
  | x :: l => by simp only [sumF, sumF_add f g l]; omega
theorem sumF_sub (f g : Nat → Int) : ∀ l : List Nat, sumF (fun i => f i - g i) l = sumF f l - sumF g l
  | [] => rfl
  | x :: l => by simp only [sumF, sumF_sub f g l]; omega
theorem swap_sum (c : Nat → Prop) [DecidablePred c] (N : Nat) : ∀ ws : List Wk, (∀ k, k < ws.length → 0 ≤ (ws.getD k wk0).j → (ws.getD k wk0).j < N ∧ c (ws.getD k wk0).j.toNat) → sumF (fun (i : Nat) => if c i then inS ws i else 0) (List.range N) = sumF dF ws
  | [], _ => by
    rw [show (fun (i : Nat) => if c i then inS [] (i : Int) else 0) = fun _ => (0 : Int) by funext i; simp [inS, sumF]]
    exact sumF_zero N
  | w :: r, h => by
    have ih := swap_sum c N r (fun k hk => by have := h (k + 1) (by simp; omega); simpa using this)
    have h0 := h 0 (by simp)
    simp only [List.getD_cons_zero] at h0
    have e : (fun (i : Nat) => if c i then inS (w :: r) (i : Int) else 0) = fun (i : Nat) => (if c i then (if w.j = (i : Int) then w.d + 1 else 0) else 0) + (if c i then inS r (i : Int) else 0) := by
      funext i
      by_cases hc : c i
      · simp only [if_pos hc]; rfl
      · simp only [if_neg hc]; rfl
    rw [e, sumF_add, ih]
    show _ = dF w + sumF dF r
    congr 1
    by_cases hj : 0 ≤ w.j
    · have hh := h0 hj
      rw [sumF_chg _ (fun _ => (0 : Int)) w.j.toNat (fun i hi => by
        by_cases hc : c i
        · rw [if_pos hc, if_neg (by omega)]
        · rw [if_neg hc]), sumF_zero, if_pos (by omega), if_pos hh.2, if_pos (by omega), dF, if_pos hj]
      omega
    · rw [sumF_eq _ (fun _ => (0 : Int)) N (fun i hi => by
        by_cases hc : c i
        · rw [if_pos hc, if_neg (by omega)]
        · rw [if_neg hc]), sumF_zero, dF, if_neg hj]
def ovr (ts : List Tk) (i : Nat) : Prop := i < ts.length ∧ (ts.getD i tk0).o = true
instance (ts : List Tk) (i : Nat) : Decidable (ovr ts i) := by unfold ovr; infer_instance
/-- What is left, job by job. -/
def uR (p : Pl) (i : Nat) : Int := if ovr p.ts i then 0 else p.us.getD i 0 + 1 - inS p.ws i
theorem left_ref {p : Pl} (h : Inv p) : sumF (uR p) (List.range p.us.length) = leftN p := by
  have hle := h.le
  have hal := admN_le p
  have := swap_sum (fun i => ¬ ovr p.ts i) p.us.length p.ws (fun k hk h0 => by
    have hc := ck_ok (h.ck k hk)
    have h1 := hc.2.2.2.1
    have h2 := hc.2.2.2.2.2 h0
    refine ⟨by omega, fun hh => ?_⟩
    have := hh.2
    rw [h2.2.2.2] at this; cases this)
  rw [leftN, ← this, ← sumF_sub]
  refine sumF_eq _ _ _ fun i hi => ?_
  have e : uN p.us p.ts i = if ovr p.ts i then 0 else p.us.getD i 0 + 1 := rfl
  rw [e]
  unfold uR
  by_cases ho : ovr p.ts i
  · rw [if_pos ho, if_pos ho, if_neg (by simpa using ho)]; rfl
  · rw [if_neg ho, if_neg ho, if_pos ho]
/-- What a worker has done of a job is less than the job. -/
theorem inS_lt {p : Pl} (h : Inv p) (i : Nat) (hi : i < p.us.length) (ho : ¬ ovr p.ts i) : 0 ≤ inS p.ws i ∧ inS p.ws i ≤ p.us.getD i 0 := by
  have hz : ∀ ws : List Wk, cnt ws i = 0 → inS ws i = 0 := by
    intro ws hc
    have := cnt_zero.1 hc
    induction ws with
    | nil => rfl
    | cons w r ih =>
      have h0 := this 0 (by simp)
      simp only [List.getD_cons_zero] at h0
      show (if w.j = (i : Int) then w.d + 1 else 0) + inS r i = 0
      rw [if_neg h0, ih (by rw [cnt_zero]; intro k hk; have := this (k + 1) (by simp; omega); simpa using this) (fun k hk => by have := this (k + 1) (by simp; omega); simpa using this)]
      rfl
  have hu := h.gb i hi
  by_cases hl : i < p.ts.length
  · have hcl := h.cl i hl
    by_cases hc : cnt p.ws i = 0
    · rw [hz _ hc]; omega
    · have h1 : cnt p.ws i = 1 := by
        rw [hcl.1] at hc ⊢
        unfold wantT at hc ⊢
        split at hc
        · rename_i hh; rw [if_pos hh]
        · exact absurd rfl hc
      obtain ⟨k, hk, hkj⟩ : ∃ k, k < p.ws.length ∧ (p.ws.getD k wk0).j = i := by
        by_cases hh : ∃ k, k < p.ws.length ∧ (p.ws.getD k wk0).j = i
        · exact hh
        · exact absurd (cnt_zero.2 fun k hk e => hh ⟨k, hk, e⟩) hc
      have h2 : cnt (p.ws.set k ⟨-1, 0⟩) i = 0 := by
        rw [cnt_set hk, hkj, if_pos rfl, if_neg (by simp only []; omega)]; omega
      have h3 := hz _ h2
      have h4 : inS (p.ws.set k ⟨-1, 0⟩) i = inS p.ws i - (if (p.ws.getD k wk0).j = (i : Int) then (p.ws.getD k wk0).d + 1 else 0) + (if (-1 : Int) = (i : Int) then 0 + 1 else 0) := sumF_set _ wk0 p.ws k _ hk
      rw [h3, hkj, if_pos rfl, if_neg (by omega)] at h4
      have h5 := (ck_ok (h.ck k hk)).2.2.2.2.2 (by omega)
      rw [hkj, Int.toNat_natCast, hcl.2] at h5
      omega
  · have hc : cnt p.ws i = 0 := cnt_zero.2 fun k hk => by
      have := (ck_ok (h.ck k hk)).2.2.2.1
      omega
    rw [hz _ hc]; omega
theorem uR_nn {p : Pl} (h : Inv p) (i : Nat) (hi : i < p.us.length) : 0 ≤ uR p i ∧ (¬ ovr p.ts i → 1 ≤ uR p i) := by
  unfold uR
  by_cases ho : ovr p.ts i
  · rw [if_pos ho]; exact ⟨Int.le_refl _, fun hh => absurd ho hh⟩
  · rw [if_neg ho]
    have := inS_lt h i hi ho
    exact ⟨by omega, fun _ => by omega⟩
end Go.Proofs.Ytfcgmkpihmiadaa
