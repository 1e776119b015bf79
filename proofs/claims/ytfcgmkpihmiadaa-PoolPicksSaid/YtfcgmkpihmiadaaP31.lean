/-
  A part of the proof of a statement of a chapter's seat; conditions: stated at each theorem.
-/
import Derived.Test.YtfcgmkpihmiadaaP30
set_option linter.unusedVariables false
set_option linter.unusedSectionVars false
set_option linter.unusedSimpArgs false
set_option linter.unusedVariables false
set_option maxRecDepth 100000
set_option maxHeartbeats 4000000
namespace Go.Proofs.Ytfcgmkpihmiadaa
open Go.Az Go
/-! ### Sums over numbers -/
theorem sumF_rngT {α : Type} (f : α → Int) (d : α) (l : List α) : ∀ N, N ≤ l.length → sumF f (l.take N) = sumF (fun i => f (l.getD i d)) (List.range N)
  | 0, _ => by simp [sumF]
  | N + 1, h => by rw [sumF_take f d (by omega), sumF_rngT f d l N (by omega), List.range_succ, sumF_app]; simp [sumF]
theorem sumF_rng {α : Type} (f : α → Int) (d : α) (hd : f d = 0) (l : List α) : ∀ N, l.length ≤ N → sumF f l = sumF (fun i => f (l.getD i d)) (List.range N)
  | 0, h => by have : l = [] := List.length_eq_zero_iff.1 (by omega); subst this; rfl
  | N + 1, h => by
    by_cases he : l.length = N + 1
    · have := sumF_rngT f d l (N + 1) (by omega)
      rwa [List.take_of_length_le (by omega)] at this
    · rw [sumF_rng f d hd l N (by omega), List.range_succ, sumF_app]
      simp only [sumF]
      rw [List.getD_eq_getElem?_getD, List.getElem?_eq_none (by omega)]
      simp [hd]
/-! ### New jobs are not over -/
theorem adm_new : ∀ (n : Nat) (p : Pl) (i : Nat), Mid p → p.ts.length ≤ i → ((adm n p).ts.getD i tk0).o = false ∧ ((adm n p).ts.getD i tk0).a = 0
  | 0, p, i, h, hi => by simp only [adm]; rw [List.getD_eq_getElem?_getD, List.getElem?_eq_none hi]; exact ⟨rfl, rfl⟩
  | n + 1, p, i, h, hi => by
    by_cases h1 : (p.ts.length : Int) < admN p
    · rw [adm_go h1]
      have hm := h.add h1
      by_cases he : i = p.ts.length
      · have e := adm_pre n ⟨p.us, p.ws, p.ts ++ [newT (p.us.getD p.ts.length 0)], p.out⟩ i (by simp only [List.length_append, List.length_singleton]; omega)
        rw [e]
        simp only []
        rw [he, getD_appR]
        have h3 := h.gu
        have h2 := admN_le p
        have hb := h.gb p.ts.length (by omega)
        rw [newT_ok (by omega)]
        exact ⟨rfl, rfl⟩
      · exact adm_new n _ i hm (by simp only [List.length_append, List.length_singleton]; omega)
    · rw [adm_no h1, List.getD_eq_getElem?_getD, List.getElem?_eq_none hi]; exact ⟨rfl, rfl⟩
theorem emi_new : ∀ (n : Nat) (p : Pl) (l : List Int) (i : Nat), Mid p → p.ts.length ≤ i → ((emi n p l).p.ts.getD i tk0).o = false ∧ ((emi n p l).p.ts.getD i tk0).a = 0
  | 0, p, l, i, h, hi => by simp only [emi]; rw [List.getD_eq_getElem?_getD, List.getElem?_eq_none hi]; exact ⟨rfl, rfl⟩
  | n + 1, p, l, i, h, hi => by
    by_cases hc : emC p
    · rw [emi_go hc]
      have hm := h.emN hc
      have hk := adm_keep p.us.length ⟨p.us, p.ws, p.ts, p.out + 1⟩
      by_cases he : i < (emN p).ts.length
      · have e := (emi_pre n (emN p) (l ++ [p.out]) i he)
        rw [e]
        refine adm_new _ _ i ?_ hi
        exact ⟨h.gn, h.gu, h.gb, h.jb, h.ck, by have := h.o0; simp only []; omega, by have := hc.1; simp only []; omega, fun i hi => by
          by_cases he : (i : Int) = p.out
          · have := hc.2
            rw [show p.out.toNat = i by omega] at this; exact this
          · exact h.ov i (by simp only [] at hi; omega), by
          have := h.ln
          simp only [admN] at this ⊢
          omega, h.cl⟩
      · exact emi_new n _ _ i hm.1 (by omega)
    · rw [emi_no hc, List.getD_eq_getElem?_getD, List.getElem?_eq_none hi]; exact ⟨rfl, rfl⟩
where
  emi_pre : ∀ (n : Nat) (p : Pl) (l : List Int) (i : Nat), i < p.ts.length → (emi n p l).p.ts.getD i tk0 = p.ts.getD i tk0
  | 0, p, l, i, h => rfl
  | n + 1, p, l, i, h => by
    by_cases hc : emC p
    · have hk := adm_keep p.us.length ⟨p.us, p.ws, p.ts, p.out + 1⟩
      rw [emi_go hc, emi_pre n (emN p) _ i (Nat.lt_of_lt_of_le h hk.2.2.2)]
      exact adm_pre _ _ i h
    · rw [emi_no hc]
/-! ### What a pick does to a pool -/
structure QS (p : Pl) (n : Nat) (b : Bool) (q : Pq) : Prop where
  e0 : q.e = 0
  inv : Inv q.p
  us : q.p.us = p.us
  wl : q.p.ws.length = p.ws.length
  o : p.out ≤ q.p.out
  l : q.l = range' p.out (q.p.out - p.out).toNat
  cs : (q.w = 0 ∧ busyB p (p.ws.getD n wk0) = false ∧ q.p = p) ∨ (q.w = 4 ∧ b = true ∧ busyB p (p.ws.getD n wk0) = true ∧ q.p.out = p.out) ∨ (1 ≤ q.w ∧ q.w ≤ 3 ∧ b = false ∧ busyB p (p.ws.getD n wk0) = true)
  left : leftN q.p = leftN p - (if 1 ≤ q.w ∧ q.w ≤ 3 then 1 else 0) + (if q.w = 4 then dF (p.ws.getD n wk0) else 0)
  att : (∀ i, i < p.ts.length → (p.ts.getD i tk0).a < 1099511627776) → attS q.p.ts = attS p.ts + (if q.w = 4 then 1 else 0)
  atb : ∀ i, (q.p.ts.getD i tk0).a ≤ max 0 (p.ts.getD i tk0).a + 1
theorem pick1_stop {p : Pl} {n : Nat} {b : Bool} {k : Pk} (h : Inv p) (s : PS p n b k) (hw : k.w ≠ 3) : ¬ emC (pick1 p n k) := by
  rintro ⟨h1, h2⟩
  have h1' : p.out < k.l.length := h1
  have h2' : (k.l.getD p.out.toNat tk0).o = true := h2
  rw [s.same hw] at h2'
  rw [s.len] at h1'
  have := h.oe
  have := overN_at p.ts (by omega)
  rw [show overN p.ts = p.out.toNat by omega, h2'] at this
  cases this
theorem pick1_len {p : Pl} {n : Nat} {b : Bool} {k : Pk} (h : Inv p) (s : PS p n b k) : ((pick1 p n k).ts.length : Int) = admN (pick1 p n k) := by
  show (k.l.length : Int) = min (p.us.length : Int) (p.out + ((p.ws.set ((n : Int).toNat) ⟨k.j, k.d⟩).length : Int) + 2)
  rw [s.len, h.le, List.length_set]; rfl
theorem pickQ_at {p : Pl} (h : Inv p) {n : Nat} (hn : n < p.ws.length) (b : Bool) : pickQ p n b = ⟨(emi (p.us.length + 1) (pick1 p n (pickK p n b)) []).p, (pickK p n b).w, (emi (p.us.length + 1) (pick1 p n (pickK p n b)) []).l, 0⟩ := by
  rw [pickQ, if_neg (by rw [(inv_iff p).2 h]; simp), if_neg (by omega)]
theorem pickQ_spec {p : Pl} (h : Inv p) {n : Nat} (hn : n < p.ws.length) (b : Bool) : QS p n b (pickQ p n b) := by
  have s := pick_spec h hn (b := b)
  rw [pickQ_at h hn b]
  generalize pickK p n b = k at *
  have hl := pick1_len h s
  obtain ⟨a1, a2, a3, a4, a5, a6, a7⟩ := emi_spec (p.us.length + 1) (pick1 p n k) [] s.mid hl (by
    show (p.us.length : Int) < ((p.us.length + 1 : Nat) : Int) + p.out
    have := h.o0; omega)
  have a8 := fun i hi => emi_new (p.us.length + 1) (pick1 p n k) [] i s.mid hi
  have hst : k.w ≠ 3 → emi (p.us.length + 1) (pick1 p n k) [] = ⟨pick1 p n k, []⟩ := fun hw => emi_no (pick1_stop h s hw)
  generalize hE : emi (p.us.length + 1) (pick1 p n k) [] = E at *
  have e1 : (pick1 p n k).us = p.us := rfl
  have e2 : (pick1 p n k).out = p.out := rfl
  have e3 : (pick1 p n k).ts = k.l := rfl
  have e4 : (pick1 p n k).ws.length = p.ws.length := List.length_set
  have hgo : ∀ i, (E.p.ts.getD i tk0).o = (k.l.getD i tk0).o ∧ (E.p.ts.getD i tk0).a = (k.l.getD i tk0).a := fun i => by
    by_cases hi : i < k.l.length
    · have := a7 i hi
      rw [e3] at this
      rw [this]; exact ⟨rfl, rfl⟩
    · have := a8 i (by rw [e3]; omega)
      rw [this.1, this.2, List.getD_eq_getElem?_getD, List.getElem?_eq_none (by omega)]; exact ⟨rfl, rfl⟩
  have hlE : leftN E.p = leftN (pick1 p n k) := by
    unfold leftN
    rw [a2, a3]
    congr 1
    refine sumF_eq _ _ _ fun i hi => ?_
    unfold uN
    rw [e3]
    have hg := (hgo i).1
    have hlen : k.l.length ≤ E.p.ts.length := a6
    by_cases ho : (k.l.getD i tk0).o = true
    · have hik : i < k.l.length := by
        by_cases hik : i < k.l.length
        · exact hik
        · rw [List.getD_eq_getElem?_getD, List.getElem?_eq_none (by omega)] at ho; cases ho
      rw [if_pos ⟨by omega, by rw [hg]; exact ho⟩, if_pos ⟨hik, ho⟩]
    · rw [if_neg (by rw [hg]; exact fun hh => ho hh.2), if_neg (fun hh => ho hh.2)]
  have hlA : attS E.p.ts = attS k.l := by
    unfold attS
    rw [sumF_rng Tk.a tk0 rfl E.p.ts _ (Nat.le_refl _), sumF_rng Tk.a tk0 rfl k.l E.p.ts.length a6]
    exact sumF_eq _ _ _ fun i hi => (hgo i).2
  refine ⟨rfl, a1, a2, by rw [a3]; exact e4, a4, a5, ?_, ?_, fun hab => ?_, fun i => ?_⟩
  · rcases s.cs with ⟨h1, h2, h3⟩ | ⟨h1, h2, h3⟩ | h1
    · refine .inl ⟨h1, h2, ?_⟩
      have := hst (by omega)
      rw [this]; exact h3
    · refine .inr (.inl ⟨h1, h2, h3, ?_⟩)
      have := hst (by omega)
      rw [this]; rfl
    · exact .inr (.inr h1)
  · show leftN E.p = _
    rw [hlE]; exact s.left
  · show attS E.p.ts = _
    rw [hlA]; exact s.att hab
  · show (E.p.ts.getD i tk0).a ≤ _
    rw [(hgo i).2]
    by_cases hi : i < p.ts.length
    · have := s.atb i hi; omega
    · rw [List.getD_eq_getElem?_getD, List.getElem?_eq_none (by rw [s.len]; omega)]
      show (0 : Int) ≤ _
      omega
/-! ### What is left -/
theorem dF_lt {p : Pl} (h : Inv p) {k : Nat} (hk : k < p.ws.length) : 0 ≤ dF (p.ws.getD k wk0) := by
  have := (ck_ok (h.ck k hk)).2.2.2.2.2
  unfold dF
  split
  · rename_i h0; have := this h0; omega
  · exact Int.le_refl _
/-- What workers have done of each job. -/
def inS (ws : List Wk) (i : Int) : Int := sumF (fun w => if w.j = i then w.d + 1 else 0) ws
def ovr (ts : List Tk) (i : Nat) : Prop := i < ts.length ∧ (ts.getD i tk0).o = true
instance (ts : List Tk) (i : Nat) : Decidable (ovr ts i) := by unfold ovr; infer_instance
/-- What is left, job by job. -/
def uR (p : Pl) (i : Nat) : Int := if ovr p.ts i then 0 else p.us.getD i 0 + 1 - inS p.ws i
end Go.Proofs.Ytfcgmkpihmiadaa
