/-
  A part of the proof of a statement of a chapter's seat; conditions: stated at each theorem.
-/
import Derived.Test.YtgbddbiimffplaaN14
set_option linter.unusedVariables false
set_option linter.unusedSectionVars false
set_option linter.unusedSimpArgs false
set_option linter.unusedVariables false
set_option maxRecDepth 100000
set_option maxHeartbeats 8000000
namespace Go.Proofs.Ytgbddbiimffplaa
open Go.Az Go
/-! ### Log and Next; what a right table is like -/
theorem dcQ_at {n : Nat} {ps : List Int} (he : dE n ps = 0) {i : Nat} (hi : i < (dcQ n ps).length) : 0 ≤ ((dcQ n ps).getD i ce0).b ∧ ((dcQ n ps).getD i ce0).b ≤ 12 ∧ 0 ≤ ((dcQ n ps).getD i ce0).x ∧ ((dcQ n ps).getD i ce0).x ≤ 4096 := by
  obtain ⟨m, hm, h5, h12, hok, hl1, hl2, hlast⟩ := dE_ok he
  have hm' : n = m := by omega
  subst hm'
  have hz := okZ_pos hok.okz
  have e := pow_z n
  have hll := dist_len rfl hok
  have hd : dcQ n ps = dcd n ps (sprd (2 ^ n) ps) := by rw [dcQ, if_pos he, Int.toNat_natCast]
  rw [hd, dcd_len] at hi
  rw [hd, dcd_at hi]
  obtain ⟨k, c⟩ := cel_of hok (i := i) (by omega)
  have c6 := c.h0
  have c7 := c.hn
  obtain ⟨c8, c9⟩ := c.pw
  simp only [celA, Int.toNat_natCast]
  omega
theorem dwn_fit {L : Int} {m : Nat} {t : List Ce} : ∀ (i : Nat) (ps : List Int) (b : Int), dwn L m t i ps b = 0 → ∃ qs, fitQ L qs t = true
  | 0, ps, b, h => by rw [dwn] at h; cases h
  | i + 1, ps, b, h => by
    rw [dwn] at h
    split at h
    · cases h
    · split at h
      · exact ⟨_, ‹_›⟩
      · exact dwn_fit i _ _ h
theorem fit_eq {L : Int} {ps : List Int} {t : List Ce} (h : fitQ L ps t = true) : dE L ps = 0 ∧ dcQ L ps = t := by
  simp only [fitQ, Bool.and_eq_true, decide_eq_true_eq] at h
  exact ⟨h.1, sameC_iff.1 h.2⟩
theorem chk_at {t : List Ce} (h : chkQ t = 0) {i : Nat} (hi : i < t.length) : 0 ≤ (t.getD i ce0).b ∧ (t.getD i ce0).b ≤ 12 ∧ 0 ≤ (t.getD i ce0).x ∧ (t.getD i ce0).x ≤ 4096 := by
  rw [chkQ] at h
  split at h
  · split at h
    · rename_i h1 h2
      have e := sameC_iff.1 h2.2
      have hol : oneL (syA t 0) = [⟨syA t 0, 0, 0⟩] := by
        have := h2.1
        unfold oneE at this
        unfold oneL
        split
        · rename_i hh; rw [if_pos hh] at this; cases this
        · rfl
      rw [hol] at e
      generalize syA t 0 = y at *
      subst e
      have : i = 0 := by simp only [List.length_cons, List.length_nil] at hi; omega
      subst this
      simp
    · cases h
  · split at h
    · cases h
    · split at h
      · cases h
      · rename_i h1 h2 h3
        have hf : ∃ qs, fitQ (hiF t.length) qs t = true := by
          rw [chkM] at h
          split at h
          · exact ⟨_, ‹_›⟩
          · exact dwn_fit _ _ _ h
        obtain ⟨qs, hq⟩ := hf
        obtain ⟨he, hE⟩ := fit_eq hq
        obtain ⟨m, hm, _⟩ := dE_ok he
        rw [hm] at he hE
        rw [← hE] at hi ⊢
        exact dcQ_at he hi
noncomputable def logQ (t : List Ce) : Int × Int := if chkQ t = 0 then (hiF t.length, 0) else (0, chkQ t)
theorem log17 {h : Hp} {s : AV} {t : List Ce} [a : EC h s t] (hlen : t.length ≤ 512) : ACalls Try.prog 17 [s] h (fun r h' => r = .tup [I (logQ t).1, I (logQ t).2] ∧ Sep h h' []) := by
  have pss := a.p.sl
  have S0 := Sep.nil h
  have c20 := fun (_ : Unit) => check20 (h := h) (s := s) (t := t) hlen
  have c36 := high_any (t.length : Int) (by omega) (by omega)
  rw [logQ]
  by_cases he : chkQ t = 0
  · rw [if_pos he]
    rw [he] at c20
    clear he
    generalize hiF t.length = L at *
    refine acalls_of_wk hm Try.func17 rfl ?_
    simp only [Try.ntmps17, List.length_cons, List.length_nil, Nat.reduceAdd, Nat.reduceSub, List.reduceReplicate, List.cons_append, List.nil_append]
    show wk _ _ none _ _ ⟨_, []⟩ _
    with_reducible refine s_seq ?_
    with_reducible refine s_reg ?_
    refine sassign ?_
    simp only [pu', p0', c1', c0', i1', z0', b8_nat]
    refine sassign ?_
    simp only [pu', p0', c1', c0', i1', z0', b8_nat]
    with_reducible refine s_end ?_
    with_reducible refine s_then ?_
    with_reducible refine s_seq ?_
    with_reducible refine s_seq ?_
    with_reducible refine s_reg ?_
    refine smove ?_
    simp only [pu', p0', c1', c0', i1', z0', b8_nat]
    refine sC (hx := rfl) ((c20 ()).mono ?_)
    rintro _ m20 _ ⟨rfl, S1⟩
    simp only [pu', p0', c1', c0', i1', n0', n3', n1', n2', a2', a1', a0', n4', Nat.reduceAdd, z0', n5', sa0, sa1, sa2, sa3, sa4, sa5, sa6, sa7, sa8, sa9, sa10, sa11]
    refine sassign ?_
    simp only [pu', p0', c1', c0', i1', z0', b8_nat]
    with_reducible refine s_end ?_
    with_reducible refine s_then ?_
    with_reducible refine s_seq ?_
    with_reducible refine s_reg ?_
    refine smove ?_
    simp only [pu', p0', c1', c0', i1', z0', b8_nat]
    refine sNe (fun hb => ?_) (fun hb => ?_)
    replace hb := dT' hb
    (exfalso; omega)
    replace hb := dF' hb
    simp only [pu', p0', c1', c0', i1', z0', b8_nat]
    with_reducible refine s_end ?_
    with_reducible refine s_then ?_
    refine sCF ?_
    with_reducible refine s_skip ?_
    with_reducible refine s_then ?_
    with_reducible refine s_seq ?_
    with_reducible refine s_reg ?_
    refine smove ?_
    simp only [pu', p0', c1', c0', i1', z0', b8_nat]
    refine slenE ?_
    simp only [pu', p0', c1', c0', i1', z0', b8_nat]
    refine sK (hx := rfl) (c36) ?_
    simp only [pu', p0', c1', c0', i1', z0', b8_nat]
    refine sassign ?_
    simp only [pu', p0', c1', c0', i1', z0', b8_nat]
    refine sassign ?_
    simp only [pu', p0', c1', c0', i1', z0', b8_nat]
    with_reducible refine s_end ?_
    with_reducible refine s_then ?_
    with_reducible refine s_ret ?_
    all_goals
      all_goals try with_reducible refine w_n ?_
      all_goals refine w_2 rfl (by first | exact v_t (by rfl) | exact v_c1 (C1.p) (by rfl) (HA.p) (by rfl) | exact v_cF (CA.p) (by rfl) (HA.p) (by rfl)) (by first | exact v_t (by rfl) | exact v_c1 (C1.p) (by rfl) (HA.p) (by rfl) | exact v_cF (CA.p) (by rfl) (HA.p) (by rfl)) ?_
      exact ⟨rfl, S1⟩
  · rw [if_neg he]
    generalize chkQ t = e at *
    refine acalls_of_wk hm Try.func17 rfl ?_
    simp only [Try.ntmps17, List.length_cons, List.length_nil, Nat.reduceAdd, Nat.reduceSub, List.reduceReplicate, List.cons_append, List.nil_append]
    show wk _ _ none _ _ ⟨_, []⟩ _
    focus
      with_reducible refine s_seq ?_
      with_reducible refine s_reg ?_
      refine sassign ?_
      simp only [pu', p0', c1', c0', i1', z0', b8_nat]
      refine sassign ?_
      simp only [pu', p0', c1', c0', i1', z0', b8_nat]
      with_reducible refine s_end ?_
      with_reducible refine s_then ?_
      with_reducible refine s_seq ?_
      with_reducible refine s_seq ?_
      with_reducible refine s_reg ?_
      refine smove ?_
      simp only [pu', p0', c1', c0', i1', z0', b8_nat]
      refine sC (hx := rfl) ((c20 ()).mono ?_)
      rintro _ m20 _ ⟨rfl, S1⟩
      simp only [pu', p0', c1', c0', i1', n0', n3', n1', n2', a2', a1', a0', n4', Nat.reduceAdd, z0', n5', sa0, sa1, sa2, sa3, sa4, sa5, sa6, sa7, sa8, sa9, sa10, sa11]
      refine sassign ?_
      simp only [pu', p0', c1', c0', i1', z0', b8_nat]
      with_reducible refine s_end ?_
      with_reducible refine s_then ?_
      with_reducible refine s_seq ?_
      with_reducible refine s_reg ?_
      refine smove ?_
      simp only [pu', p0', c1', c0', i1', z0', b8_nat]
      refine sNe (fun hb => ?_) (fun hb => ?_)
      replace hb := dT' hb
      simp only [pu', p0', c1', c0', i1', z0', b8_nat]
      with_reducible refine s_end ?_
      with_reducible refine s_then ?_
      refine sCT ?_
      with_reducible refine s_seq ?_
      with_reducible refine s_reg ?_
      refine smove ?_
      simp only [pu', p0', c1', c0', i1', z0', b8_nat]
      refine sassign ?_
      simp only [pu', p0', c1', c0', i1', z0', b8_nat]
      refine sassign ?_
      simp only [pu', p0', c1', c0', i1', z0', b8_nat]
      with_reducible refine s_end ?_
      with_reducible refine s_then ?_
      with_reducible refine s_ret ?_
      with_reducible refine s_thenR ?_
      rotate_left 1
      replace hb := dF' hb
      exact absurd (by with_reducible assumption) hb
    all_goals
      all_goals try with_reducible refine w_n ?_
      all_goals refine w_2 rfl (by first | exact v_t (by rfl) | exact v_c1 (C1.p) (by rfl) (HA.p) (by rfl) | exact v_cF (CA.p) (by rfl) (HA.p) (by rfl)) (by first | exact v_t (by rfl) | exact v_c1 (C1.p) (by rfl) (HA.p) (by rfl) | exact v_cF (CA.p) (by rfl) (HA.p) (by rfl)) ?_
      exact ⟨rfl, S1⟩
noncomputable def nxtQ (t : List Ce) (i v : Int) : Int × Int :=
  if chkQ t = 0 then (if i < 0 ∨ (t.length : Int) ≤ i ∨ v < 0 ∨ 2 ^ (t.getD i.toNat ce0).b.toNat ≤ v then (0, 2) else ((t.getD i.toNat ce0).x + v, 0)) else (0, chkQ t)
theorem next19 {h : Hp} {s : AV} {t : List Ce} [a : EC h s t] (i v : Int) (hlen : t.length ≤ 512) : ACalls Try.prog 19 [s, I i, I v] h (fun r h' => r = .tup [I (nxtQ t i v).1, I (nxtQ t i v).2] ∧ Sep h h' []) := by
  have pss := a.p.sl
  have S0 := Sep.nil h
  have c20 := fun (_ : Unit) => check20 (h := h) (s := s) (t := t) hlen
  rw [nxtQ]
  by_cases he : chkQ t = 0
  · rw [if_pos he]
    have hat := fun k => chk_at he (i := k)
    rw [he] at c20
    clear he
    by_cases h1 : i < 0
    · rw [if_pos (.inl h1)]
      refine acalls_of_wk hm Try.func19 rfl ?_
      simp only [Try.ntmps19, List.length_cons, List.length_nil, Nat.reduceAdd, Nat.reduceSub, List.reduceReplicate, List.cons_append, List.nil_append]
      show wk _ _ none _ _ ⟨_, []⟩ _
      focus
        with_reducible refine s_seq ?_
        with_reducible refine s_reg ?_
        refine sassign ?_
        simp only [pu', p0', c1', c0', i1', z0', b8_nat]
        refine sassign ?_
        simp only [pu', p0', c1', c0', i1', z0', b8_nat]
        with_reducible refine s_end ?_
        with_reducible refine s_then ?_
        with_reducible refine s_seq ?_
        with_reducible refine s_seq ?_
        with_reducible refine s_reg ?_
        refine smove ?_
        simp only [pu', p0', c1', c0', i1', z0', b8_nat]
        refine sC (hx := rfl) ((c20 ()).mono ?_)
        rintro _ m20 _ ⟨rfl, S1⟩
        simp only [pu', p0', c1', c0', i1', n0', n3', n1', n2', a2', a1', a0', n4', Nat.reduceAdd, z0', n5', sa0, sa1, sa2, sa3, sa4, sa5, sa6, sa7, sa8, sa9, sa10, sa11]
        refine sassign ?_
        simp only [pu', p0', c1', c0', i1', z0', b8_nat]
        with_reducible refine s_end ?_
        with_reducible refine s_then ?_
        with_reducible refine s_seq ?_
        with_reducible refine s_reg ?_
        refine smove ?_
        simp only [pu', p0', c1', c0', i1', z0', b8_nat]
        refine sNe (fun hb => ?_) (fun hb => ?_)
        replace hb := dT' hb
        (exfalso; omega)
        replace hb := dF' hb
        simp only [pu', p0', c1', c0', i1', z0', b8_nat]
        with_reducible refine s_end ?_
        with_reducible refine s_then ?_
        refine sCF ?_
        with_reducible refine s_skip ?_
        with_reducible refine s_then ?_
        with_reducible refine s_seq ?_
        with_reducible refine s_seq ?_
        with_reducible refine s_reg ?_
        refine smove ?_
        simp only [pu', p0', c1', c0', i1', z0', b8_nat]
        refine sLt (fun hb => ?_) (fun hb => ?_)
        replace hb := dT' hb
        simp only [pu', p0', c1', c0', i1', z0', b8_nat]
        refine smove ?_
        simp only [pu', p0', c1', c0', i1', z0', b8_nat]
        refine sN ?_
        simp only [pu', p0', c1', c0', i1', z0', b8_nat]
        refine sN ?_
        simp only [pu', p0', c1', c0', i1', z0', b8_nat]
        refine sN ?_
        simp only [pu', p0', c1', c0', i1', z0', b8_nat]
        refine sN ?_
        simp only [pu', p0', c1', c0', i1', z0', b8_nat]
        refine spickT ?_
        simp only [pu', p0', c1', c0', i1', z0', b8_nat]
        refine smove ?_
        simp only [pu', p0', c1', c0', i1', z0', b8_nat]
        refine sN ?_
        simp only [pu', p0', c1', c0', i1', z0', b8_nat]
        refine sN ?_
        simp only [pu', p0', c1', c0', i1', z0', b8_nat]
        refine spickT ?_
        simp only [pu', p0', c1', c0', i1', z0', b8_nat]
        refine smove ?_
        simp only [pu', p0', c1', c0', i1', z0', b8_nat]
        refine sN ?_
        simp only [pu', p0', c1', c0', i1', z0', b8_nat]
        refine sN ?_
        simp only [pu', p0', c1', c0', i1', z0', b8_nat]
        refine sN ?_
        simp only [pu', p0', c1', c0', i1', z0', b8_nat]
        refine sN ?_
        simp only [pu', p0', c1', c0', i1', z0', b8_nat]
        refine sN ?_
        simp only [pu', p0', c1', c0', i1', z0', b8_nat]
        refine sN ?_
        simp only [pu', p0', c1', c0', i1', z0', b8_nat]
        refine sN ?_
        simp only [pu', p0', c1', c0', i1', z0', b8_nat]
        refine sN ?_
        simp only [pu', p0', c1', c0', i1', z0', b8_nat]
        refine sN ?_
        simp only [pu', p0', c1', c0', i1', z0', b8_nat]
        refine spickT ?_
        simp only [pu', p0', c1', c0', i1', z0', b8_nat]
        with_reducible refine s_end ?_
        with_reducible refine s_then ?_
        refine sCT ?_
        with_reducible refine s_seq ?_
        with_reducible refine s_reg ?_
        refine sassign ?_
        simp only [pu', p0', c1', c0', i1', z0', b8_nat]
        refine sassign ?_
        simp only [pu', p0', c1', c0', i1', z0', b8_nat]
        with_reducible refine s_end ?_
        with_reducible refine s_then ?_
        with_reducible refine s_ret ?_
        with_reducible refine s_thenR ?_
        rotate_left 1
        replace hb := dF' hb
        exact absurd (by with_reducible assumption) hb
      all_goals
        all_goals try with_reducible refine w_n ?_
        all_goals refine w_2 rfl (by first | exact v_t (by rfl) | exact v_c1 (C1.p) (by rfl) (HA.p) (by rfl) | exact v_cF (CA.p) (by rfl) (HA.p) (by rfl)) (by first | exact v_t (by rfl) | exact v_c1 (C1.p) (by rfl) (HA.p) (by rfl) | exact v_cF (CA.p) (by rfl) (HA.p) (by rfl)) ?_
        exact ⟨rfl, S1⟩
    · by_cases h2 : (t.length : Int) ≤ i
      · rw [if_pos (.inr (.inl h2))]
        refine acalls_of_wk hm Try.func19 rfl ?_
        simp only [Try.ntmps19, List.length_cons, List.length_nil, Nat.reduceAdd, Nat.reduceSub, List.reduceReplicate, List.cons_append, List.nil_append]
        show wk _ _ none _ _ ⟨_, []⟩ _
        focus
          with_reducible refine s_seq ?_
          with_reducible refine s_reg ?_
          refine sassign ?_
          simp only [pu', p0', c1', c0', i1', z0', b8_nat]
          refine sassign ?_
          simp only [pu', p0', c1', c0', i1', z0', b8_nat]
          with_reducible refine s_end ?_
          with_reducible refine s_then ?_
          with_reducible refine s_seq ?_
          with_reducible refine s_seq ?_
          with_reducible refine s_reg ?_
          refine smove ?_
          simp only [pu', p0', c1', c0', i1', z0', b8_nat]
          refine sC (hx := rfl) ((c20 ()).mono ?_)
          rintro _ m20 _ ⟨rfl, S1⟩
          simp only [pu', p0', c1', c0', i1', n0', n3', n1', n2', a2', a1', a0', n4', Nat.reduceAdd, z0', n5', sa0, sa1, sa2, sa3, sa4, sa5, sa6, sa7, sa8, sa9, sa10, sa11]
          refine sassign ?_
          simp only [pu', p0', c1', c0', i1', z0', b8_nat]
          with_reducible refine s_end ?_
          with_reducible refine s_then ?_
          with_reducible refine s_seq ?_
          with_reducible refine s_reg ?_
          refine smove ?_
          simp only [pu', p0', c1', c0', i1', z0', b8_nat]
          refine sNe (fun hb => ?_) (fun hb => ?_)
          replace hb := dT' hb
          (exfalso; omega)
          replace hb := dF' hb
          simp only [pu', p0', c1', c0', i1', z0', b8_nat]
          with_reducible refine s_end ?_
          with_reducible refine s_then ?_
          refine sCF ?_
          with_reducible refine s_skip ?_
          with_reducible refine s_then ?_
          with_reducible refine s_seq ?_
          with_reducible refine s_seq ?_
          with_reducible refine s_reg ?_
          refine smove ?_
          simp only [pu', p0', c1', c0', i1', z0', b8_nat]
          refine sLt (fun hb => ?_) (fun hb => ?_)
          replace hb := dT' hb
          (exfalso; omega)
          replace hb := dF' hb
          simp only [pu', p0', c1', c0', i1', z0', b8_nat]
          refine smove ?_
          simp only [pu', p0', c1', c0', i1', z0', b8_nat]
          refine smove ?_
          simp only [pu', p0', c1', c0', i1', z0', b8_nat]
          refine smove ?_
          simp only [pu', p0', c1', c0', i1', z0', b8_nat]
          refine slenE ?_
          simp only [pu', p0', c1', c0', i1', z0', b8_nat]
          refine sGe (fun hb => ?_) (fun hb => ?_)
          replace hb := dT' hb
          simp only [pu', p0', c1', c0', i1', z0', b8_nat]
          refine spickF ?_
          simp only [pu', p0', c1', c0', i1', z0', b8_nat]
          refine smove ?_
          simp only [pu', p0', c1', c0', i1', z0', b8_nat]
          refine sN ?_
          simp only [pu', p0', c1', c0', i1', z0', b8_nat]
          refine sN ?_
          simp only [pu', p0', c1', c0', i1', z0', b8_nat]
          refine spickT ?_
          simp only [pu', p0', c1', c0', i1', z0', b8_nat]
          refine smove ?_
          simp only [pu', p0', c1', c0', i1', z0', b8_nat]
          refine sN ?_
          simp only [pu', p0', c1', c0', i1', z0', b8_nat]
          refine sN ?_
          simp only [pu', p0', c1', c0', i1', z0', b8_nat]
          refine sN ?_
          simp only [pu', p0', c1', c0', i1', z0', b8_nat]
          refine sN ?_
          simp only [pu', p0', c1', c0', i1', z0', b8_nat]
          refine sN ?_
          simp only [pu', p0', c1', c0', i1', z0', b8_nat]
          refine sN ?_
          simp only [pu', p0', c1', c0', i1', z0', b8_nat]
          refine sN ?_
          simp only [pu', p0', c1', c0', i1', z0', b8_nat]
          refine sN ?_
          simp only [pu', p0', c1', c0', i1', z0', b8_nat]
          refine sN ?_
          simp only [pu', p0', c1', c0', i1', z0', b8_nat]
          refine spickT ?_
          simp only [pu', p0', c1', c0', i1', z0', b8_nat]
          with_reducible refine s_end ?_
          with_reducible refine s_then ?_
          refine sCT ?_
          with_reducible refine s_seq ?_
          with_reducible refine s_reg ?_
          refine sassign ?_
          simp only [pu', p0', c1', c0', i1', z0', b8_nat]
          refine sassign ?_
          simp only [pu', p0', c1', c0', i1', z0', b8_nat]
          with_reducible refine s_end ?_
          with_reducible refine s_then ?_
          with_reducible refine s_ret ?_
          with_reducible refine s_thenR ?_
          rotate_left 1
          replace hb := dF' hb
          exact absurd (by with_reducible assumption) hb
        all_goals
          all_goals try with_reducible refine w_n ?_
          all_goals refine w_2 rfl (by first | exact v_t (by rfl) | exact v_c1 (C1.p) (by rfl) (HA.p) (by rfl) | exact v_cF (CA.p) (by rfl) (HA.p) (by rfl)) (by first | exact v_t (by rfl) | exact v_c1 (C1.p) (by rfl) (HA.p) (by rfl) | exact v_cF (CA.p) (by rfl) (HA.p) (by rfl)) ?_
          exact ⟨rfl, S1⟩
      · by_cases h3 : v < 0
        · rw [if_pos (.inr (.inr (.inl h3)))]
          refine acalls_of_wk hm Try.func19 rfl ?_
          simp only [Try.ntmps19, List.length_cons, List.length_nil, Nat.reduceAdd, Nat.reduceSub, List.reduceReplicate, List.cons_append, List.nil_append]
          show wk _ _ none _ _ ⟨_, []⟩ _
          focus
            with_reducible refine s_seq ?_
            with_reducible refine s_reg ?_
            refine sassign ?_
            simp only [pu', p0', c1', c0', i1', z0', b8_nat]
            refine sassign ?_
            simp only [pu', p0', c1', c0', i1', z0', b8_nat]
            with_reducible refine s_end ?_
            with_reducible refine s_then ?_
            with_reducible refine s_seq ?_
            with_reducible refine s_seq ?_
            with_reducible refine s_reg ?_
            refine smove ?_
            simp only [pu', p0', c1', c0', i1', z0', b8_nat]
            refine sC (hx := rfl) ((c20 ()).mono ?_)
            rintro _ m20 _ ⟨rfl, S1⟩
            simp only [pu', p0', c1', c0', i1', n0', n3', n1', n2', a2', a1', a0', n4', Nat.reduceAdd, z0', n5', sa0, sa1, sa2, sa3, sa4, sa5, sa6, sa7, sa8, sa9, sa10, sa11]
            refine sassign ?_
            simp only [pu', p0', c1', c0', i1', z0', b8_nat]
            with_reducible refine s_end ?_
            with_reducible refine s_then ?_
            with_reducible refine s_seq ?_
            with_reducible refine s_reg ?_
            refine smove ?_
            simp only [pu', p0', c1', c0', i1', z0', b8_nat]
            refine sNe (fun hb => ?_) (fun hb => ?_)
            replace hb := dT' hb
            (exfalso; omega)
            replace hb := dF' hb
            simp only [pu', p0', c1', c0', i1', z0', b8_nat]
            with_reducible refine s_end ?_
            with_reducible refine s_then ?_
            refine sCF ?_
            with_reducible refine s_skip ?_
            with_reducible refine s_then ?_
            with_reducible refine s_seq ?_
            with_reducible refine s_seq ?_
            with_reducible refine s_reg ?_
            refine smove ?_
            simp only [pu', p0', c1', c0', i1', z0', b8_nat]
            refine sLt (fun hb => ?_) (fun hb => ?_)
            replace hb := dT' hb
            (exfalso; omega)
            replace hb := dF' hb
            simp only [pu', p0', c1', c0', i1', z0', b8_nat]
            refine smove ?_
            simp only [pu', p0', c1', c0', i1', z0', b8_nat]
            refine smove ?_
            simp only [pu', p0', c1', c0', i1', z0', b8_nat]
            refine smove ?_
            simp only [pu', p0', c1', c0', i1', z0', b8_nat]
            refine slenE ?_
            simp only [pu', p0', c1', c0', i1', z0', b8_nat]
            refine sGe (fun hb => ?_) (fun hb => ?_)
            replace hb := dT' hb
            (exfalso; omega)
            replace hb := dF' hb
            simp only [pu', p0', c1', c0', i1', z0', b8_nat]
            refine spickF ?_
            simp only [pu', p0', c1', c0', i1', z0', b8_nat]
            refine smove ?_
            simp only [pu', p0', c1', c0', i1', z0', b8_nat]
            refine smove ?_
            simp only [pu', p0', c1', c0', i1', z0', b8_nat]
            refine sLt (fun hb => ?_) (fun hb => ?_)
            replace hb := dT' hb
            simp only [pu', p0', c1', c0', i1', z0', b8_nat]
            refine spickF ?_
            simp only [pu', p0', c1', c0', i1', z0', b8_nat]
            refine smove ?_
            simp only [pu', p0', c1', c0', i1', z0', b8_nat]
            refine sN ?_
            simp only [pu', p0', c1', c0', i1', z0', b8_nat]
            refine sN ?_
            simp only [pu', p0', c1', c0', i1', z0', b8_nat]
            refine sN ?_
            simp only [pu', p0', c1', c0', i1', z0', b8_nat]
            refine sN ?_
            simp only [pu', p0', c1', c0', i1', z0', b8_nat]
            refine sN ?_
            simp only [pu', p0', c1', c0', i1', z0', b8_nat]
            refine sN ?_
            simp only [pu', p0', c1', c0', i1', z0', b8_nat]
            refine sN ?_
            simp only [pu', p0', c1', c0', i1', z0', b8_nat]
            refine sN ?_
            simp only [pu', p0', c1', c0', i1', z0', b8_nat]
            refine sN ?_
            simp only [pu', p0', c1', c0', i1', z0', b8_nat]
            refine spickT ?_
            simp only [pu', p0', c1', c0', i1', z0', b8_nat]
            with_reducible refine s_end ?_
            with_reducible refine s_then ?_
            refine sCT ?_
            with_reducible refine s_seq ?_
            with_reducible refine s_reg ?_
            refine sassign ?_
            simp only [pu', p0', c1', c0', i1', z0', b8_nat]
            refine sassign ?_
            simp only [pu', p0', c1', c0', i1', z0', b8_nat]
            with_reducible refine s_end ?_
            with_reducible refine s_then ?_
            with_reducible refine s_ret ?_
            with_reducible refine s_thenR ?_
            rotate_left 1
            replace hb := dF' hb
            exact absurd (by with_reducible assumption) hb
          all_goals
            all_goals try with_reducible refine w_n ?_
            all_goals refine w_2 rfl (by first | exact v_t (by rfl) | exact v_c1 (C1.p) (by rfl) (HA.p) (by rfl) | exact v_cF (CA.p) (by rfl) (HA.p) (by rfl)) (by first | exact v_t (by rfl) | exact v_c1 (C1.p) (by rfl) (HA.p) (by rfl) | exact v_cF (CA.p) (by rfl) (HA.p) (by rfl)) ?_
            exact ⟨rfl, S1⟩
        · obtain ⟨b1, b2, b3, b4⟩ := hat i.toNat (by omega)
          have hp : (2 : Int) ^ (t.getD i.toNat ce0).b.toNat ≤ 4096 := by
            have h5 : 2 ^ (t.getD i.toNat ce0).b.toNat ≤ 2 ^ 12 := Nat.pow_le_pow_right (by omega) (by omega)
            have h6 := pow_z (t.getD i.toNat ce0).b.toNat
            omega
          have hp1 : (0 : Int) < (2 : Int) ^ (t.getD i.toNat ce0).b.toNat := Int.pow_pos (by omega)
          by_cases h4 : 2 ^ (t.getD i.toNat ce0).b.toNat ≤ v
          · rw [if_pos (.inr (.inr (.inr h4)))]
            refine acalls_of_wk hm Try.func19 rfl ?_
            simp only [Try.ntmps19, List.length_cons, List.length_nil, Nat.reduceAdd, Nat.reduceSub, List.reduceReplicate, List.cons_append, List.nil_append]
            show wk _ _ none _ _ ⟨_, []⟩ _
            focus
              with_reducible refine s_seq ?_
              with_reducible refine s_reg ?_
              refine sassign ?_
              simp only [pu', p0', c1', c0', i1', z0', b8_nat]
              refine sassign ?_
              simp only [pu', p0', c1', c0', i1', z0', b8_nat]
              with_reducible refine s_end ?_
              with_reducible refine s_then ?_
              with_reducible refine s_seq ?_
              with_reducible refine s_seq ?_
              with_reducible refine s_reg ?_
              refine smove ?_
              simp only [pu', p0', c1', c0', i1', z0', b8_nat]
              refine sC (hx := rfl) ((c20 ()).mono ?_)
              rintro _ m20 _ ⟨rfl, S1⟩
              simp only [pu', p0', c1', c0', i1', n0', n3', n1', n2', a2', a1', a0', n4', Nat.reduceAdd, z0', n5', sa0, sa1, sa2, sa3, sa4, sa5, sa6, sa7, sa8, sa9, sa10, sa11]
              refine sassign ?_
              simp only [pu', p0', c1', c0', i1', z0', b8_nat]
              with_reducible refine s_end ?_
              with_reducible refine s_then ?_
              with_reducible refine s_seq ?_
              with_reducible refine s_reg ?_
              refine smove ?_
              simp only [pu', p0', c1', c0', i1', z0', b8_nat]
              refine sNe (fun hb => ?_) (fun hb => ?_)
              replace hb := dT' hb
              (exfalso; omega)
              replace hb := dF' hb
              simp only [pu', p0', c1', c0', i1', z0', b8_nat]
              with_reducible refine s_end ?_
              with_reducible refine s_then ?_
              refine sCF ?_
              with_reducible refine s_skip ?_
              with_reducible refine s_then ?_
              with_reducible refine s_seq ?_
              with_reducible refine s_seq ?_
              with_reducible refine s_reg ?_
              refine smove ?_
              simp only [pu', p0', c1', c0', i1', z0', b8_nat]
              refine sLt (fun hb => ?_) (fun hb => ?_)
              replace hb := dT' hb
              (exfalso; omega)
              replace hb := dF' hb
              simp only [pu', p0', c1', c0', i1', z0', b8_nat]
              refine smove ?_
              simp only [pu', p0', c1', c0', i1', z0', b8_nat]
              refine smove ?_
              simp only [pu', p0', c1', c0', i1', z0', b8_nat]
              refine smove ?_
              simp only [pu', p0', c1', c0', i1', z0', b8_nat]
              refine slenE ?_
              simp only [pu', p0', c1', c0', i1', z0', b8_nat]
              refine sGe (fun hb => ?_) (fun hb => ?_)
              replace hb := dT' hb
              (exfalso; omega)
              replace hb := dF' hb
              simp only [pu', p0', c1', c0', i1', z0', b8_nat]
              refine spickF ?_
              simp only [pu', p0', c1', c0', i1', z0', b8_nat]
              refine smove ?_
              simp only [pu', p0', c1', c0', i1', z0', b8_nat]
              refine smove ?_
              simp only [pu', p0', c1', c0', i1', z0', b8_nat]
              refine sLt (fun hb => ?_) (fun hb => ?_)
              replace hb := dT' hb
              (exfalso; omega)
              replace hb := dF' hb
              simp only [pu', p0', c1', c0', i1', z0', b8_nat]
              refine spickF ?_
              simp only [pu', p0', c1', c0', i1', z0', b8_nat]
              refine smove ?_
              simp only [pu', p0', c1', c0', i1', z0', b8_nat]
              refine smove ?_
              simp only [pu', p0', c1', c0', i1', z0', b8_nat]
              refine smove ?_
              simp only [pu', p0', c1', c0', i1', z0', b8_nat]
              refine smove ?_
              simp only [pu', p0', c1', c0', i1', z0', b8_nat]
              refine sidxE ?_
              simp only [pu', p0', c1', c0', i1', z0', b8_nat]
              refine sfadE ?_
              simp only [pu', p0', c1', c0', i1', z0', b8_nat]
              refine sloadF ?_
              simp only [pu', p0', c1', c0', i1', z0', b8_nat]
              refine sconv ?_
              simp only [pu', p0', c1', c0', i1', z0', b8_nat]
              refine sshl1 ?_
              simp only [pu', p0', c1', c0', i1', z0', b8_nat]
              refine sGe (fun hb => ?_) (fun hb => ?_)
              replace hb := dT' hb
              simp only [pu', p0', c1', c0', i1', z0', b8_nat]
              refine spickF ?_
              simp only [pu', p0', c1', c0', i1', z0', b8_nat]
              with_reducible refine s_end ?_
              with_reducible refine s_then ?_
              refine sCT ?_
              with_reducible refine s_seq ?_
              with_reducible refine s_reg ?_
              refine sassign ?_
              simp only [pu', p0', c1', c0', i1', z0', b8_nat]
              refine sassign ?_
              simp only [pu', p0', c1', c0', i1', z0', b8_nat]
              with_reducible refine s_end ?_
              with_reducible refine s_then ?_
              with_reducible refine s_ret ?_
              with_reducible refine s_thenR ?_
              rotate_left 1
              replace hb := dF' hb
              exact absurd (by with_reducible assumption) hb
            all_goals
              all_goals try with_reducible refine w_n ?_
              all_goals refine w_2 rfl (by first | exact v_t (by rfl) | exact v_c1 (C1.p) (by rfl) (HA.p) (by rfl) | exact v_cF (CA.p) (by rfl) (HA.p) (by rfl)) (by first | exact v_t (by rfl) | exact v_c1 (C1.p) (by rfl) (HA.p) (by rfl) | exact v_cF (CA.p) (by rfl) (HA.p) (by rfl)) ?_
              exact ⟨rfl, S1⟩
          · rw [if_neg (by omega)]
            refine acalls_of_wk hm Try.func19 rfl ?_
            simp only [Try.ntmps19, List.length_cons, List.length_nil, Nat.reduceAdd, Nat.reduceSub, List.reduceReplicate, List.cons_append, List.nil_append]
            show wk _ _ none _ _ ⟨_, []⟩ _
            with_reducible refine s_seq ?_
            with_reducible refine s_reg ?_
            refine sassign ?_
            simp only [pu', p0', c1', c0', i1', z0', b8_nat]
            refine sassign ?_
            simp only [pu', p0', c1', c0', i1', z0', b8_nat]
            with_reducible refine s_end ?_
            with_reducible refine s_then ?_
            with_reducible refine s_seq ?_
            with_reducible refine s_seq ?_
            with_reducible refine s_reg ?_
            refine smove ?_
            simp only [pu', p0', c1', c0', i1', z0', b8_nat]
            refine sC (hx := rfl) ((c20 ()).mono ?_)
            rintro _ m20 _ ⟨rfl, S1⟩
            simp only [pu', p0', c1', c0', i1', n0', n3', n1', n2', a2', a1', a0', n4', Nat.reduceAdd, z0', n5', sa0, sa1, sa2, sa3, sa4, sa5, sa6, sa7, sa8, sa9, sa10, sa11]
            refine sassign ?_
            simp only [pu', p0', c1', c0', i1', z0', b8_nat]
            with_reducible refine s_end ?_
            with_reducible refine s_then ?_
            with_reducible refine s_seq ?_
            with_reducible refine s_reg ?_
            refine smove ?_
            simp only [pu', p0', c1', c0', i1', z0', b8_nat]
            refine sNe (fun hb => ?_) (fun hb => ?_)
            replace hb := dT' hb
            (exfalso; omega)
            replace hb := dF' hb
            simp only [pu', p0', c1', c0', i1', z0', b8_nat]
            with_reducible refine s_end ?_
            with_reducible refine s_then ?_
            refine sCF ?_
            with_reducible refine s_skip ?_
            with_reducible refine s_then ?_
            with_reducible refine s_seq ?_
            with_reducible refine s_seq ?_
            with_reducible refine s_reg ?_
            refine smove ?_
            simp only [pu', p0', c1', c0', i1', z0', b8_nat]
            refine sLt (fun hb => ?_) (fun hb => ?_)
            replace hb := dT' hb
            (exfalso; omega)
            replace hb := dF' hb
            simp only [pu', p0', c1', c0', i1', z0', b8_nat]
            refine smove ?_
            simp only [pu', p0', c1', c0', i1', z0', b8_nat]
            refine smove ?_
            simp only [pu', p0', c1', c0', i1', z0', b8_nat]
            refine smove ?_
            simp only [pu', p0', c1', c0', i1', z0', b8_nat]
            refine slenE ?_
            simp only [pu', p0', c1', c0', i1', z0', b8_nat]
            refine sGe (fun hb => ?_) (fun hb => ?_)
            replace hb := dT' hb
            (exfalso; omega)
            replace hb := dF' hb
            simp only [pu', p0', c1', c0', i1', z0', b8_nat]
            refine spickF ?_
            simp only [pu', p0', c1', c0', i1', z0', b8_nat]
            refine smove ?_
            simp only [pu', p0', c1', c0', i1', z0', b8_nat]
            refine smove ?_
            simp only [pu', p0', c1', c0', i1', z0', b8_nat]
            refine sLt (fun hb => ?_) (fun hb => ?_)
            replace hb := dT' hb
            (exfalso; omega)
            replace hb := dF' hb
            simp only [pu', p0', c1', c0', i1', z0', b8_nat]
            refine spickF ?_
            simp only [pu', p0', c1', c0', i1', z0', b8_nat]
            refine smove ?_
            simp only [pu', p0', c1', c0', i1', z0', b8_nat]
            refine smove ?_
            simp only [pu', p0', c1', c0', i1', z0', b8_nat]
            refine smove ?_
            simp only [pu', p0', c1', c0', i1', z0', b8_nat]
            refine smove ?_
            simp only [pu', p0', c1', c0', i1', z0', b8_nat]
            refine sidxE ?_
            simp only [pu', p0', c1', c0', i1', z0', b8_nat]
            refine sfadE ?_
            simp only [pu', p0', c1', c0', i1', z0', b8_nat]
            refine sloadF ?_
            simp only [pu', p0', c1', c0', i1', z0', b8_nat]
            refine sconv ?_
            simp only [pu', p0', c1', c0', i1', z0', b8_nat]
            refine sshl1 ?_
            simp only [pu', p0', c1', c0', i1', z0', b8_nat]
            refine sGe (fun hb => ?_) (fun hb => ?_)
            replace hb := dT' hb
            (exfalso; omega)
            replace hb := dF' hb
            simp only [pu', p0', c1', c0', i1', z0', b8_nat]
            refine spickF ?_
            simp only [pu', p0', c1', c0', i1', z0', b8_nat]
            with_reducible refine s_end ?_
            with_reducible refine s_then ?_
            refine sCF ?_
            with_reducible refine s_skip ?_
            with_reducible refine s_then ?_
            with_reducible refine s_seq ?_
            with_reducible refine s_reg ?_
            refine smove ?_
            simp only [pu', p0', c1', c0', i1', z0', b8_nat]
            refine smove ?_
            simp only [pu', p0', c1', c0', i1', z0', b8_nat]
            refine sidxE ?_
            simp only [pu', p0', c1', c0', i1', z0', b8_nat]
            refine sfadE ?_
            simp only [pu', p0', c1', c0', i1', z0', b8_nat]
            refine sloadF ?_
            simp only [pu', p0', c1', c0', i1', z0', b8_nat]
            refine smove ?_
            simp only [pu', p0', c1', c0', i1', z0', b8_nat]
            refine sadd ?_
            simp only [pu', p0', c1', c0', i1', z0', b8_nat]
            refine sassign ?_
            simp only [pu', p0', c1', c0', i1', z0', b8_nat]
            refine sassign ?_
            simp only [pu', p0', c1', c0', i1', z0', b8_nat]
            with_reducible refine s_end ?_
            with_reducible refine s_then ?_
            with_reducible refine s_ret ?_
            all_goals
              all_goals try with_reducible refine w_n ?_
              all_goals refine w_2 rfl (by first | exact v_t (by rfl) | exact v_c1 (C1.p) (by rfl) (HA.p) (by rfl) | exact v_cF (CA.p) (by rfl) (HA.p) (by rfl)) (by first | exact v_t (by rfl) | exact v_c1 (C1.p) (by rfl) (HA.p) (by rfl) | exact v_cF (CA.p) (by rfl) (HA.p) (by rfl)) ?_
              exact ⟨rfl, S1⟩
  · rw [if_neg he]
    generalize chkQ t = e at *
    refine acalls_of_wk hm Try.func19 rfl ?_
    simp only [Try.ntmps19, List.length_cons, List.length_nil, Nat.reduceAdd, Nat.reduceSub, List.reduceReplicate, List.cons_append, List.nil_append]
    show wk _ _ none _ _ ⟨_, []⟩ _
    focus
      with_reducible refine s_seq ?_
      with_reducible refine s_reg ?_
      refine sassign ?_
      simp only [pu', p0', c1', c0', i1', z0', b8_nat]
      refine sassign ?_
      simp only [pu', p0', c1', c0', i1', z0', b8_nat]
      with_reducible refine s_end ?_
      with_reducible refine s_then ?_
      with_reducible refine s_seq ?_
      with_reducible refine s_seq ?_
      with_reducible refine s_reg ?_
      refine smove ?_
      simp only [pu', p0', c1', c0', i1', z0', b8_nat]
      refine sC (hx := rfl) ((c20 ()).mono ?_)
      rintro _ m20 _ ⟨rfl, S1⟩
      simp only [pu', p0', c1', c0', i1', n0', n3', n1', n2', a2', a1', a0', n4', Nat.reduceAdd, z0', n5', sa0, sa1, sa2, sa3, sa4, sa5, sa6, sa7, sa8, sa9, sa10, sa11]
      refine sassign ?_
      simp only [pu', p0', c1', c0', i1', z0', b8_nat]
      with_reducible refine s_end ?_
      with_reducible refine s_then ?_
      with_reducible refine s_seq ?_
      with_reducible refine s_reg ?_
      refine smove ?_
      simp only [pu', p0', c1', c0', i1', z0', b8_nat]
      refine sNe (fun hb => ?_) (fun hb => ?_)
      replace hb := dT' hb
      simp only [pu', p0', c1', c0', i1', z0', b8_nat]
      with_reducible refine s_end ?_
      with_reducible refine s_then ?_
      refine sCT ?_
      with_reducible refine s_seq ?_
      with_reducible refine s_reg ?_
      refine smove ?_
      simp only [pu', p0', c1', c0', i1', z0', b8_nat]
      refine sassign ?_
      simp only [pu', p0', c1', c0', i1', z0', b8_nat]
      refine sassign ?_
      simp only [pu', p0', c1', c0', i1', z0', b8_nat]
      with_reducible refine s_end ?_
      with_reducible refine s_then ?_
      with_reducible refine s_ret ?_
      with_reducible refine s_thenR ?_
      rotate_left 1
      replace hb := dF' hb
      exact absurd (by with_reducible assumption) hb
    all_goals
      all_goals try with_reducible refine w_n ?_
      all_goals refine w_2 rfl (by first | exact v_t (by rfl) | exact v_c1 (C1.p) (by rfl) (HA.p) (by rfl) | exact v_cF (CA.p) (by rfl) (HA.p) (by rfl)) (by first | exact v_t (by rfl) | exact v_c1 (C1.p) (by rfl) (HA.p) (by rfl) | exact v_cF (CA.p) (by rfl) (HA.p) (by rfl)) ?_
      exact ⟨rfl, S1⟩
end Go.Proofs.Ytgbddbiimffplaa
