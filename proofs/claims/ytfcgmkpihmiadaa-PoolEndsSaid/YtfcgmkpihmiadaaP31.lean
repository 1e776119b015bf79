/-
  A part of the proof of a statement of a chapter's seat; conditions: stated at each theorem.
-/
import Derived.Test.YtfcgmkpihmiadaaP30
set_option linter.unusedVariables false
set_option linter.unusedSectionVars false
set_option linter.unusedSimpArgs false
set_option linter.unusedVariables false
set_option maxRecDepth 100000
set_option maxHeartbeats 4000000
namespace Go.Proofs.Ytfcgmkpihmiadaa
open Go.Az Go
/-! ### Sums over numbers -/
theorem sumF_rngT {α : Type} (f : α → Int) (d : α) (l : List α) : ∀ N, N ≤ l.length → sumF f (l.take N) = sumF (fun i => f (l.getD i d)) (List.range N)
  | 0, _ => by simp [sumF]
  | N + 1, h => by rw [sumF_take f d (by omega), sumF_rngT f d l N (by omega), List.range_succ, sumF_app]; simp [sumF]
theorem sumF_rng {α : Type} (f : α → Int) (d : α) (hd : f d = 0) (l : List α) : ∀ N, l.length ≤ N → sumF f l = sumF (fun i => f (l.getD i d)) (List.range N)
  | 0, h => by have : l = [] := List.length_eq_zero_iff.1 (by omega); subst this; rfl
  | N + 1, h => by
    by_cases he : l.length = N + 1
    · have := sumF_rngT f d l (N + 1) (by omega)
      rwa [List.take_of_length_le (by omega)] at this
    · rw [sumF_rng f d hd l N (by omega), List.range_succ, sumF_app]
      simp only [sumF]
      rw [List.getD_eq_getElem?_getD, List.getElem?_eq_none (by omega)]
      simp [hd]
/-! ### New jobs are not over -/
theorem adm_new : ∀ (n : Nat) (p : Pl) (i : Nat), Mid p → p.ts.length ≤ i → ((adm n p).ts.getD i tk0).o = false ∧ ((adm n p).ts.getD i tk0).a = 0
  | 0, p, i, h, hi => by simp only [adm]; rw [List.getD_eq_getElem?_getD, List.getElem?_eq_none hi]; exact ⟨rfl, rfl⟩
  | n + 1, p, i, h, hi => by
    by_cases h1 : (p.ts.length : Int) < admN p
    · rw [adm_go h1]
      have hm := h.add h1
      by_cases he : i = p.ts.length
      · have e := adm_pre n ⟨p.us, p.ws, p.ts ++ [newT (p.us.getD p.ts.length 0)], p.out⟩ i (by simp only [List.length_append, List.length_singleton]; omega)
        rw [e]
        simp only []
        rw [he, getD_appR]
        have h3 := h.gu
        have h2 := admN_le p
        have hb := h.gb p.ts.length (by omega)
        rw [newT_ok (by omega)]
        exact ⟨rfl, rfl⟩
      · exact adm_new n _ i hm (by simp only [List.length_append, List.length_singleton]; omega)
    · rw [adm_no h1, List.getD_eq_getElem?_getD, List.getElem?_eq_none hi]; exact ⟨rfl, rfl⟩
theorem emi_new : ∀ (n : Nat) (p : Pl) (l : List Int) (i : Nat), Mid p → p.ts.length ≤ i → ((emi n p l).p.ts.getD i tk0).o = false ∧ ((emi n p l).p.ts.getD i tk0).a = 0
  | 0, p, l, i, h, hi => by simp only [emi]; rw [List.getD_eq_getElem?_getD, List.getElem?_eq_none hi]; exact ⟨rfl, rfl⟩
  | n + 1, p, l, i, h, hi => by
    by_cases hc : emC p
    · rw [emi_go hc]
      have hm := h.emN hc
      have hk := adm_keep p.us.length ⟨p.us, p.ws, p.ts, p.out + 1⟩
      by_cases he : i < (emN p).ts.length
      · have e := (emi_pre n (emN p) (l ++ [p.out]) i he)
        rw [e]
        refine adm_new _ _ i ?_ hi
        exact ⟨h.gn, h.gu, h.gb, h.jb, h.ck, by have := h.o0; simp only []; omega, by have := hc.1; simp only []; omega, fun i hi => by
          by_cases he : (i : Int) = p.out
          · have := hc.2
            rw [show p.out.toNat = i by omega] at this; exact this
          · exact h.ov i (by simp only [] at hi; omega), by
          have := h.ln
          simp only [admN] at this ⊢
          omega, h.cl⟩
      · exact emi_new n _ _ i hm.1 (by omega)
    · rw [emi_no hc, List.getD_eq_getElem?_getD, List.getElem?_eq_none hi]; exact ⟨rfl, rfl⟩
where
  emi_pre : ∀ (n : Nat) (p : Pl) (l : List Int) (i : Nat), i < p.ts.length → (emi n p l).p.ts.getD i tk0 = p.ts.getD i tk0
  | 0, p, l, i, h => rfl
  | n + 1, p, l, i, h => by
    by_cases hc : emC p
    · have hk := adm_keep p.us.length ⟨p.us, p.ws, p.ts, p.out + 1⟩
      rw [emi_go hc, emi_pre n (emN p) _ i (Nat.lt_of_lt_of_le h hk.2.2.2)]
      exact adm_pre _ _ i h
    · rw [emi_no hc]
/-! ### What a pick does to a pool -/
structure QS (p : Pl) (n : Nat) (b : Bool) (q : Pq) : Prop where
  e0 : q.e = 0
  inv : Inv q.p
  us : q.p.us = p.us
  wl : q.p.ws.length = p.ws.length
  o : p.out ≤ q.p.out
  l : q.l = range' p.out (q.p.out - p.out).toNat
  cs : (q.w = 0 ∧ busyB p (p.ws.getD n wk0) = false ∧ q.p = p) ∨ (q.w = 4 ∧ b = true ∧ busyB p (p.ws.getD n wk0) = true ∧ q.p.out = p.out) ∨ (1 ≤ q.w ∧ q.w ≤ 3 ∧ b = false ∧ busyB p (p.ws.getD n wk0) = true)
  left : leftN q.p = leftN p - (if 1 ≤ q.w ∧ q.w ≤ 3 then 1 else 0) + (if q.w = 4 then dF (p.ws.getD n wk0) else 0)
  att : (∀ i, i < p.ts.length → (p.ts.getD i tk0).a < 1099511627776) → attS q.p.ts = attS p.ts + (if q.w = 4 then 1 else 0)
  atb : ∀ i, (q.p.ts.getD i tk0).a ≤ max 0 (p.ts.getD i tk0).a + 1
theorem pick1_stop {p : Pl} {n : Nat} {b : Bool} {k : Pk} (h : Inv p) (s : PS p n b k) (hw : k.w ≠ 3) : ¬ emC (pick1 p n k) := by
  rintro ⟨h1, h2⟩
  have h1' : p.out < k.l.length := h1
  have h2' : (k.l.getD p.out.toNat tk0).o = true := h2
  rw [s.same hw] at h2'
  rw [s.len] at h1'
  have := h.oe
  have := overN_at p.ts (by omega)
  rw [show overN p.ts = p.out.toNat by omega, h2'] at this
  cases this
theorem pick1_len {p : Pl} {n : Nat} {b : Bool} {k : Pk} (h : Inv p) (s : PS p n b k) : ((pick1 p n k).ts.length : Int) = admN (pick1 p n k) := by
  show (k.l.length : Int) = min (p.us.length : Int) (p.out + ((p.ws.set ((n : Int).toNat) ⟨k.j, k.d⟩).length : Int) + 2)
  rw [s.len, h.le, List.length_set]; rfl
theorem pickQ_at {p : Pl} (h : Inv p) {n : Nat} (hn : n < p.ws.length) (b : Bool) : pickQ p n b = ⟨(emi (p.us.length + 1) (pick1 p n (pickK p n b)) []).p, (pickK p n b).w, (emi (p.us.length + 1) (pick1 p n (pickK p n b)) []).l, 0⟩ := by
  rw [pickQ, if_neg (by rw [(inv_iff p).2 h]; simp), if_neg (by omega)]
theorem pickQ_spec {p : Pl} (h : Inv p) {n : Nat} (hn : n < p.ws.length) (b : Bool) : QS p n b (pickQ p n b) := by
  have s := pick_spec h hn (b := b)
  rw [pickQ_at h hn b]
  generalize pickK p n b = k at *
  have hl := pick1_len h s
  obtain ⟨a1, a2, a3, a4, a5, a6, a7⟩ := emi_spec (p.us.length + 1) (pick1 p n k) [] s.mid hl (by
    show (p.us.length : Int) < ((p.us.length + 1 : Nat) : Int) + p.out
    have := h.o0; omega)
  have a8 := fun i hi => emi_new (p.us.length + 1) (pick1 p n k) [] i s.mid hi
  have hst : k.w ≠ 3 → emi (p.us.length + 1) (pick1 p n k) [] = ⟨pick1 p n k, []⟩ := fun hw => emi_no (pick1_stop h s hw)
  generalize hE : emi (p.us.length + 1) (pick1 p n k) [] = E at *
  have e1 : (pick1 p n k).us = p.us := rfl
  have e2 : (pick1 p n k).out = p.out := rfl
  have e3 : (pick1 p n k).ts = k.l := rfl
  have e4 : (pick1 p n k).ws.length = p.ws.length := List.length_set
  have hgo : ∀ i, (E.p.ts.getD i tk0).o = (k.l.getD i tk0).o ∧ (E.p.ts.getD i tk0).a = (k.l.getD i tk0).a := fun i => by
    by_cases hi : i < k.l.length
    · have := a7 i hi
      rw [e3] at this
      rw [this]; exact ⟨rfl, rfl⟩
    · have := a8 i (by rw [e3]; omega)
      rw [this.1, this.2, List.getD_eq_getElem?_getD, List.getElem?_eq_none (by omega)]; exact ⟨rfl, rfl⟩
  have hlE : leftN E.p = leftN (pick1 p n k) := by
    unfold leftN
    rw [a2, a3]
    congr 1
    refine sumF_eq _ _ _ fun i hi => ?_
    unfold uN
    rw [e3]
    have hg := (hgo i).1
    have hlen : k.l.length ≤ E.p.ts.length := a6
    by_cases ho : (k.l.getD i tk0).o = true
    · have hik : i < k.l.length := by
        by_cases hik : i < k.l.length
        · exact hik
        · rw [List.getD_eq_getElem?_getD, List.getElem?_eq_none (by omega)] at ho; cases ho
      rw [if_pos ⟨by omega, by rw [hg]; exact ho⟩, if_pos ⟨hik, ho⟩]
    · rw [if_neg (by rw [hg]; exact fun hh => ho hh.2), if_neg (fun hh => ho hh.2)]
  have hlA : attS E.p.ts = attS k.l := by
    unfold attS
    rw [sumF_rng Tk.a tk0 rfl E.p.ts _ (Nat.le_refl _), sumF_rng Tk.a tk0 rfl k.l E.p.ts.length a6]
    exact sumF_eq _ _ _ fun i hi => (hgo i).2
  refine ⟨rfl, a1, a2, by rw [a3]; exact e4, a4, a5, ?_, ?_, fun hab => ?_, fun i => ?_⟩
  · rcases s.cs with ⟨h1, h2, h3⟩ | ⟨h1, h2, h3⟩ | h1
    · refine .inl ⟨h1, h2, ?_⟩
      have := hst (by omega)
      rw [this]; exact h3
    · refine .inr (.inl ⟨h1, h2, h3, ?_⟩)
      have := hst (by omega)
      rw [this]; rfl
    · exact .inr (.inr h1)
  · show leftN E.p = _
    rw [hlE]; exact s.left
  · show attS E.p.ts = _
    rw [hlA]; exact s.att hab
  · show (E.p.ts.getD i tk0).a ≤ _
    rw [(hgo i).2]
    by_cases hi : i < p.ts.length
    · have := s.atb i hi; omega
    · rw [List.getD_eq_getElem?_getD, List.getElem?_eq_none (by rw [s.len]; omega)]
      show (0 : Int) ≤ _
      omega
/-! ### What is left -/
theorem dF_lt {p : Pl} (h : Inv p) {k : Nat} (hk : k < p.ws.length) : 0 ≤ dF (p.ws.getD k wk0) := by
  have := (ck_ok (h.ck k hk)).2.2.2.2.2
  unfold dF
  split
  · rename_i h0; have := this h0; omega
  · exact Int.le_refl _
/-- What workers have done of each job. -/
def inS (ws : List Wk) (i : Int) : Int := sumF (fun w => if w.j = i then w.d + 1 else 0) ws
theorem sumF_zero (n : Nat) : sumF (fun _ : Nat => (0 : Int)) (List.range n) = 0 := by
  induction n with
  | zero => rfl
  | succ n ih => rw [List.range_succ, sumF_app, ih]; rfl
theorem sumF_add (f g : Nat → Int) : ∀ l : List Nat, sumF (fun i => f i + g i) l = sumF f l + sumF g l
  | [] => rfl
  | x :: l => by simp only [sumF, sumF_add f g l]; omega
theorem sumF_sub (f g : Nat → Int) : ∀ l : List Nat, sumF (fun i => f i - g i) l = sumF f l - sumF g l
  | [] => rfl
  | x :: l => by simp only [sumF, sumF_sub f g l]; omega
theorem swap_sum (c : Nat → Prop) [DecidablePred c] (N : Nat) : ∀ ws : List Wk, (∀ k, k < ws.length → 0 ≤ (ws.getD k wk0).j → (ws.getD k wk0).j < N ∧ c (ws.getD k wk0).j.toNat) → sumF (fun (i : Nat) => if c i then inS ws i else 0) (List.range N) = sumF dF ws
  | [], _ => by
    rw [show (fun (i : Nat) => if c i then inS [] (i : Int) else 0) = fun _ => (0 : Int) by funext i; simp [inS, sumF]]
    exact sumF_zero N
  | w :: r, h => by
    have ih := swap_sum c N r (fun k hk => by have := h (k + 1) (by simp; omega); simpa using this)
    have h0 := h 0 (by simp)
    simp only [List.getD_cons_zero] at h0
    have e : (fun (i : Nat) => if c i then inS (w :: r) (i : Int) else 0) = fun (i : Nat) => (if c i then (if w.j = (i : Int) then w.d + 1 else 0) else 0) + (if c i then inS r (i : Int) else 0) := by
      funext i
      by_cases hc : c i
      · simp only [if_pos hc]; rfl
      · simp only [if_neg hc]; rfl
    rw [e, sumF_add, ih]
    show _ = dF w + sumF dF r
    congr 1
    by_cases hj : 0 ≤ w.j
    · have hh := h0 hj
      rw [sumF_chg _ (fun _ => (0 : Int)) w.j.toNat (fun i hi => by
        by_cases hc : c i
        · rw [if_pos hc, if_neg (by omega)]
        · rw [if_neg hc]), sumF_zero, if_pos (by omega), if_pos hh.2, if_pos (by omega), dF, if_pos hj]
      omega
    · rw [sumF_eq _ (fun _ => (0 : Int)) N (fun i hi => by
        by_cases hc : c i
        · rw [if_pos hc, if_neg (by omega)]
        · rw [if_neg hc]), sumF_zero, dF, if_neg hj]
def ovr (ts : List Tk) (i : Nat) : Prop := i < ts.length ∧ (ts.getD i tk0).o = true
instance (ts : List Tk) (i : Nat) : Decidable (ovr ts i) := by unfold ovr; infer_instance
/-- What is left, job by job. -/
def uR (p : Pl) (i : Nat) : Int := if ovr p.ts i then 0 else p.us.getD i 0 + 1 - inS p.ws i
theorem left_ref {p : Pl} (h : Inv p) : sumF (uR p) (List.range p.us.length) = leftN p := by
  have hle := h.le
  have hal := admN_le p
  have := swap_sum (fun i => ¬ ovr p.ts i) p.us.length p.ws (fun k hk h0 => by
    have hc := ck_ok (h.ck k hk)
    have h1 := hc.2.2.2.1
    have h2 := hc.2.2.2.2.2 h0
    refine ⟨by omega, fun hh => ?_⟩
    have := hh.2
    rw [h2.2.2.2] at this; cases this)
  rw [leftN, ← this, ← sumF_sub]
  refine sumF_eq _ _ _ fun i hi => ?_
  have e : uN p.us p.ts i = if ovr p.ts i then 0 else p.us.getD i 0 + 1 := rfl
  rw [e]
  unfold uR
  by_cases ho : ovr p.ts i
  · rw [if_pos ho, if_pos ho, if_neg (by simpa using ho)]; rfl
  · rw [if_neg ho, if_neg ho, if_pos ho]
/-- What a worker has done of a job is less than the job. -/
theorem inS_lt {p : Pl} (h : Inv p) (i : Nat) (hi : i < p.us.length) (ho : ¬ ovr p.ts i) : 0 ≤ inS p.ws i ∧ inS p.ws i ≤ p.us.getD i 0 := by
  have hz : ∀ ws : List Wk, cnt ws i = 0 → inS ws i = 0 := by
    intro ws hc
    have := cnt_zero.1 hc
    induction ws with
    | nil => rfl
    | cons w r ih =>
      have h0 := this 0 (by simp)
      simp only [List.getD_cons_zero] at h0
      show (if w.j = (i : Int) then w.d + 1 else 0) + inS r i = 0
      rw [if_neg h0, ih (by rw [cnt_zero]; intro k hk; have := this (k + 1) (by simp; omega); simpa using this) (fun k hk => by have := this (k + 1) (by simp; omega); simpa using this)]
      rfl
  have hu := h.gb i hi
  by_cases hl : i < p.ts.length
  · have hcl := h.cl i hl
    by_cases hc : cnt p.ws i = 0
    · rw [hz _ hc]; omega
    · have h1 : cnt p.ws i = 1 := by
        rw [hcl.1] at hc ⊢
        unfold wantT at hc ⊢
        split at hc
        · rename_i hh; rw [if_pos hh]
        · exact absurd rfl hc
      obtain ⟨k, hk, hkj⟩ : ∃ k, k < p.ws.length ∧ (p.ws.getD k wk0).j = i := by
        by_cases hh : ∃ k, k < p.ws.length ∧ (p.ws.getD k wk0).j = i
        · exact hh
        · exact absurd (cnt_zero.2 fun k hk e => hh ⟨k, hk, e⟩) hc
      have h2 : cnt (p.ws.set k ⟨-1, 0⟩) i = 0 := by
        rw [cnt_set hk, hkj, if_pos rfl, if_neg (by simp only []; omega)]; omega
      have h3 := hz _ h2
      have h4 : inS (p.ws.set k ⟨-1, 0⟩) i = inS p.ws i - (if (p.ws.getD k wk0).j = (i : Int) then (p.ws.getD k wk0).d + 1 else 0) + (if (-1 : Int) = (i : Int) then 0 + 1 else 0) := sumF_set _ wk0 p.ws k _ hk
      rw [h3, hkj, if_pos rfl, if_neg (by omega)] at h4
      have h5 := (ck_ok (h.ck k hk)).2.2.2.2.2 (by omega)
      rw [hkj, Int.toNat_natCast, hcl.2] at h5
      omega
  · have hc : cnt p.ws i = 0 := cnt_zero.2 fun k hk => by
      have := (ck_ok (h.ck k hk)).2.2.2.1
      omega
    rw [hz _ hc]; omega
theorem sumF_nn (f : Nat → Int) : ∀ n, (∀ i, i < n → 0 ≤ f i) → 0 ≤ sumF f (List.range n) ∧ ∀ i, i < n → f i ≤ sumF f (List.range n)
  | 0, _ => ⟨Int.le_refl _, fun i hi => by omega⟩
  | n + 1, h => by
    have ih := sumF_nn f n (fun i hi => h i (by omega))
    rw [List.range_succ, sumF_app]
    have := h n (by omega)
    simp only [sumF]
    refine ⟨by omega, fun i hi => ?_⟩
    by_cases he : i = n
    · subst he; omega
    · have := ih.2 i (by omega); omega
theorem uR_nn {p : Pl} (h : Inv p) (i : Nat) (hi : i < p.us.length) : 0 ≤ uR p i ∧ (¬ ovr p.ts i → 1 ≤ uR p i) := by
  unfold uR
  by_cases ho : ovr p.ts i
  · rw [if_pos ho]; exact ⟨Int.le_refl _, fun hh => absurd ho hh⟩
  · rw [if_neg ho]
    have := inS_lt h i hi ho
    exact ⟨by omega, fun _ => by omega⟩
theorem left_nn {p : Pl} (h : Inv p) : 0 ≤ leftN p := by
  rw [← left_ref h]
  exact (sumF_nn _ _ fun i hi => (uR_nn h i hi).1).1
/-- Nothing is left just where all is emitted. -/
theorem left_over {p : Pl} (h : Inv p) : leftN p = 0 ↔ p.out = p.us.length := by
  have hle := h.le
  have hgn := h.gn
  rw [← left_ref h]
  have hs := sumF_nn _ _ fun i hi => (uR_nn h i hi).1
  constructor
  · intro h0
    have hall : ∀ i, i < p.us.length → ovr p.ts i := fun i hi => by
      by_cases ho : ovr p.ts i
      · exact ho
      · have h1 := (uR_nn h i hi).2 ho
        have h2 := hs.2 i hi
        omega
    have hl : p.ts.length = p.us.length := by
      have h1 := admN_le p
      have h2 : p.us.length ≤ p.ts.length := by
        rcases Nat.lt_or_ge p.ts.length p.us.length with h3 | h3
        · exact absurd (hall _ h3).1 (by omega)
        · exact h3
      omega
    have := overN_eq (ts := p.ts) (n := p.us.length) (fun i hi => (hall i hi).2) (by omega) (fun hh => by omega)
    rw [h.oe, this]
  · intro h0
    rw [sumF_eq _ (fun _ => (0 : Int)) _ (fun i hi => ?_), sumF_zero]
    have h1 := h.o1
    exact if_pos ⟨by omega, h.ov i (by omega)⟩
/-- As long as something is left, some worker has something to do. -/
theorem busy_some {p : Pl} (h : Inv p) (h0 : p.out ≠ p.us.length) : ∃ k, k < p.ws.length ∧ busyB p (p.ws.getD k wk0) = true := by
  have hgn := h.gn
  have hle := h.le
  by_cases hf : 0 ≤ fr p.ts 0
  · exact ⟨0, by omega, decide_eq_true (.inr hf)⟩
  by_cases hk : ∃ k, k < p.ws.length ∧ 0 ≤ (p.ws.getD k wk0).j
  · obtain ⟨k, hk, hj⟩ := hk
    exact ⟨k, hk, decide_eq_true (.inl hj)⟩
  exfalso
  have hfree : ∀ (l : List Tk) (i : Int), 0 ≤ i → ¬ 0 ≤ fr l i → ∀ m, m < l.length → (l.getD m tk0).f = false := by
    intro l
    induction l with
    | nil => intro i _ _ m hm; simp at hm
    | cons t r ih =>
      intro i hi hn m hm
      rw [fr] at hn
      split at hn
      · omega
      · rename_i hf
        cases m with
        | zero => simpa using hf
        | succ m => exact ih (i + 1) (by omega) hn m (by simpa using hm)
  have hall : ∀ m, m < p.ts.length → (p.ts.getD m tk0).o = true := fun m hm => by
    have h1 := hfree p.ts 0 (by omega) hf m hm
    have h2 := (h.cl m hm).1
    have h3 : cnt p.ws m = 0 := cnt_zero.2 fun k hk' e => hk ⟨k, hk', by omega⟩
    rw [h3] at h2
    by_cases ho : (p.ts.getD m tk0).o = true
    · exact ho
    · rw [wantT, if_pos ⟨h1, by simpa using ho⟩] at h2
      cases h2
  have := overN_eq (ts := p.ts) (n := p.ts.length) (fun i hi => hall i hi) (Nat.le_refl _) (fun hh => by omega)
  have h4 := h.oe
  rw [this] at h4
  unfold admN at hle
  omega
end Go.Proofs.Ytfcgmkpihmiadaa
