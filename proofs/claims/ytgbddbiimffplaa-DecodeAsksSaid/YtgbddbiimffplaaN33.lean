/-
  A part of the proof of a statement of a chapter's seat; conditions: stated at each theorem.
-/
import Derived.Test.YtgbddbiimffplaaN32
set_option linter.unusedVariables false
set_option linter.unusedSectionVars false
set_option linter.unusedSimpArgs false
set_option linter.unusedVariables false
set_option maxRecDepth 100000
set_option maxHeartbeats 8000000
namespace Go.Proofs.Ytgbddbiimffplaa
open Go.Az Go
theorem rlog24 {h : Hp} {s : AV} {t : List Ce} [a : EC h s t] (hlen : t.length ≤ 512) : ACalls Try.prog 24 [s] h (fun r h' => r = .tup [I (logQ t).1, I (logQ t).2] ∧ Sep h h' []) := by
  have pss := a.p.sl
  have S0 := Sep.nil h
  have c23 := fun (_ : Unit) => rcheck23 (h := h) (s := s) (t := t) hlen
  have c22 := rhigh_any (t.length : Int) (by omega)
  rw [logQ]
  by_cases he : chkQ t = 0
  · rw [if_pos he]
    rw [he] at c23
    clear he
    generalize hiF t.length = L at *
    refine acalls_of_wk hm Try.func24 rfl ?_
    simp only [Try.ntmps24, List.length_cons, List.length_nil, Nat.reduceAdd, Nat.reduceSub, List.reduceReplicate, List.cons_append, List.nil_append]
    show wk _ _ none _ _ ⟨_, []⟩ _
    with_reducible refine s_seq ?_
    with_reducible refine s_reg ?_
    refine sassign ?_
    simp only [pu', p0', c1', c0', i1', z0', b8_nat]
    refine sassign ?_
    simp only [pu', p0', c1', c0', i1', z0', b8_nat]
    with_reducible refine s_end ?_
    with_reducible refine s_then ?_
    with_reducible refine s_seq ?_
    with_reducible refine s_reg ?_
    refine smove ?_
    simp only [pu', p0', c1', c0', i1', z0', b8_nat]
    refine sC (hx := rfl) ((c23 ()).mono ?_)
    rintro _ m23 _ ⟨rfl, S1⟩
    simp only [pu', p0', c1', c0', i1', n0', n3', n1', n2', a2', a1', a0', n4', Nat.reduceAdd, z0', n5', sa0, sa1, sa2, sa3, sa4, sa5, sa6, sa7, sa8, sa9, sa10, sa11]
    refine sassign ?_
    simp only [pu', p0', c1', c0', i1', z0', b8_nat]
    with_reducible refine s_end ?_
    with_reducible refine s_then ?_
    with_reducible refine s_seq ?_
    with_reducible refine s_seq ?_
    with_reducible refine s_reg ?_
    refine smove ?_
    simp only [pu', p0', c1', c0', i1', z0', b8_nat]
    refine sNe (fun hb => ?_) (fun hb => ?_)
    replace hb := dT' hb
    (exfalso; omega)
    replace hb := dF' hb
    simp only [pu', p0', c1', c0', i1', z0', b8_nat]
    with_reducible refine s_end ?_
    with_reducible refine s_then ?_
    refine sCF ?_
    with_reducible refine s_skip ?_
    with_reducible refine s_then ?_
    with_reducible refine s_seq ?_
    with_reducible refine s_reg ?_
    refine smove ?_
    simp only [pu', p0', c1', c0', i1', z0', b8_nat]
    refine slenE ?_
    simp only [pu', p0', c1', c0', i1', z0', b8_nat]
    refine sK (hx := rfl) (c22) ?_
    simp only [pu', p0', c1', c0', i1', z0', b8_nat]
    refine sassign ?_
    simp only [pu', p0', c1', c0', i1', z0', b8_nat]
    refine sassign ?_
    simp only [pu', p0', c1', c0', i1', z0', b8_nat]
    with_reducible refine s_end ?_
    with_reducible refine s_then ?_
    with_reducible refine s_ret ?_
    all_goals
      all_goals try with_reducible refine w_n ?_
      all_goals refine w_2 rfl (by first | exact v_t (by rfl) | exact v_c1 (C1.p) (by rfl) (HA.p) (by rfl) | exact v_cF (CA.p) (by rfl) (HA.p) (by rfl)) (by first | exact v_t (by rfl) | exact v_c1 (C1.p) (by rfl) (HA.p) (by rfl) | exact v_cF (CA.p) (by rfl) (HA.p) (by rfl)) ?_
      exact ⟨rfl, S1⟩
  · rw [if_neg he]
    generalize chkQ t = e at *
    refine acalls_of_wk hm Try.func24 rfl ?_
    simp only [Try.ntmps24, List.length_cons, List.length_nil, Nat.reduceAdd, Nat.reduceSub, List.reduceReplicate, List.cons_append, List.nil_append]
    show wk _ _ none _ _ ⟨_, []⟩ _
    focus
      with_reducible refine s_seq ?_
      with_reducible refine s_reg ?_
      refine sassign ?_
      simp only [pu', p0', c1', c0', i1', z0', b8_nat]
      refine sassign ?_
      simp only [pu', p0', c1', c0', i1', z0', b8_nat]
      with_reducible refine s_end ?_
      with_reducible refine s_then ?_
      with_reducible refine s_seq ?_
      with_reducible refine s_reg ?_
      refine smove ?_
      simp only [pu', p0', c1', c0', i1', z0', b8_nat]
      refine sC (hx := rfl) ((c23 ()).mono ?_)
      rintro _ m23 _ ⟨rfl, S1⟩
      simp only [pu', p0', c1', c0', i1', n0', n3', n1', n2', a2', a1', a0', n4', Nat.reduceAdd, z0', n5', sa0, sa1, sa2, sa3, sa4, sa5, sa6, sa7, sa8, sa9, sa10, sa11]
      refine sassign ?_
      simp only [pu', p0', c1', c0', i1', z0', b8_nat]
      with_reducible refine s_end ?_
      with_reducible refine s_then ?_
      with_reducible refine s_seq ?_
      with_reducible refine s_seq ?_
      with_reducible refine s_reg ?_
      refine smove ?_
      simp only [pu', p0', c1', c0', i1', z0', b8_nat]
      refine sNe (fun hb => ?_) (fun hb => ?_)
      replace hb := dT' hb
      simp only [pu', p0', c1', c0', i1', z0', b8_nat]
      with_reducible refine s_end ?_
      with_reducible refine s_then ?_
      refine sCT ?_
      with_reducible refine s_seq ?_
      with_reducible refine s_reg ?_
      refine smove ?_
      simp only [pu', p0', c1', c0', i1', z0', b8_nat]
      refine sassign ?_
      simp only [pu', p0', c1', c0', i1', z0', b8_nat]
      refine sassign ?_
      simp only [pu', p0', c1', c0', i1', z0', b8_nat]
      with_reducible refine s_end ?_
      with_reducible refine s_then ?_
      with_reducible refine s_ret ?_
      with_reducible refine s_thenR ?_
      rotate_left 1
      replace hb := dF' hb
      exact absurd (by with_reducible assumption) hb
    all_goals
      all_goals try with_reducible refine w_n ?_
      all_goals refine w_2 rfl (by first | exact v_t (by rfl) | exact v_c1 (C1.p) (by rfl) (HA.p) (by rfl) | exact v_cF (CA.p) (by rfl) (HA.p) (by rfl)) (by first | exact v_t (by rfl) | exact v_c1 (C1.p) (by rfl) (HA.p) (by rfl) | exact v_cF (CA.p) (by rfl) (HA.p) (by rfl)) ?_
      exact ⟨rfl, S1⟩
theorem rfirst28 {h : Hp} {s : AV} {t : List Ce} [a : EC h s t] (y : Int) (hlen : t.length ≤ 512) : ACalls Try.prog 28 [s, I y] h (fun r h' => r = .tup [I (fstQ t y).1, I (fstQ t y).2] ∧ Sep h h' []) := by
  have pss := a.p.sl
  have S0 := Sep.nil h
  have c23 := fun (_ : Unit) => rcheck23 (h := h) (s := s) (t := t) hlen
  obtain ⟨q, hq⟩ : ∃ q, q = fstQ t y := ⟨_, rfl⟩
  rw [← hq]
  rw [fstQ] at hq
  by_cases he : chkQ t = 0
  · rw [if_pos he] at hq
    rw [he] at c23
    clear he
    refine acalls_of_wk hm Try.func28 rfl ?_
    simp only [Try.ntmps28, List.length_cons, List.length_nil, Nat.reduceAdd, Nat.reduceSub, List.reduceReplicate, List.cons_append, List.nil_append]
    show wk _ _ none _ _ ⟨_, []⟩ _
    with_reducible refine s_seq ?_
    with_reducible refine s_reg ?_
    refine sassign ?_
    simp only [pu', p0', c1', c0', i1', z0', b8_nat]
    refine sassign ?_
    simp only [pu', p0', c1', c0', i1', z0', b8_nat]
    with_reducible refine s_end ?_
    with_reducible refine s_then ?_
    with_reducible refine s_seq ?_
    with_reducible refine s_reg ?_
    refine smove ?_
    simp only [pu', p0', c1', c0', i1', z0', b8_nat]
    refine sC (hx := rfl) ((c23 ()).mono ?_)
    rintro _ m23 _ ⟨rfl, S1⟩
    simp only [pu', p0', c1', c0', i1', n0', n3', n1', n2', a2', a1', a0', n4', Nat.reduceAdd, z0', n5', sa0, sa1, sa2, sa3, sa4, sa5, sa6, sa7, sa8, sa9, sa10, sa11]
    refine sassign ?_
    simp only [pu', p0', c1', c0', i1', z0', b8_nat]
    with_reducible refine s_end ?_
    with_reducible refine s_then ?_
    with_reducible refine s_seq ?_
    with_reducible refine s_seq ?_
    with_reducible refine s_reg ?_
    refine smove ?_
    simp only [pu', p0', c1', c0', i1', z0', b8_nat]
    refine sNe (fun hb => ?_) (fun hb => ?_)
    replace hb := dT' hb
    (exfalso; omega)
    replace hb := dF' hb
    simp only [pu', p0', c1', c0', i1', z0', b8_nat]
    with_reducible refine s_end ?_
    with_reducible refine s_then ?_
    refine sCF ?_
    with_reducible refine s_skip ?_
    with_reducible refine s_then ?_
    with_reducible refine s_seq ?_
    with_reducible refine s_seq ?_
    with_reducible refine s_reg ?_
    refine sassign ?_
    simp only [pu', p0', c1', c0', i1', z0', b8_nat]
    with_reducible refine s_end ?_
    with_reducible refine s_then ?_
    with_reducible refine s_block ?_
    refine s_loop hm (fun (b : FiB) s' => [s, I y, s' 2, s' 3, s' 4, s' 5, s' 6, I b.i, s' 8, s' 9, s' 10, s' 11, s' 12, s' 13, s' 14, s' 15, s' 16, s' 17, s' 18, s' 19, s' 20, s' 21, s' 22, s' 23, s' 24, s' 25, s' 26]) (fun b => b.G) (fun b => b.i ≤ t.length ∧ fnd t y (t.length - b.i) b.i = q ∧ Sep h b.G []) (fun b => t.length - b.i) ⟨0, _⟩ (by rfl) rfl ⟨Nat.zero_le _, hq.symm, S1⟩ ?_
    clear S1 hq
    rintro ⟨i, G⟩ s' ⟨hi, hf, S1⟩
    simp only [] at hi hf S1 ⊢
    by_cases hil : i < t.length
    · rw [show t.length - i = (t.length - (i + 1)) + 1 by omega, fnd] at hf
      by_cases hy : syA t i = y
      · rw [if_pos hy] at hf
        subst hf
        simp only [syA] at hy
        focus
          with_reducible refine s_seq ?_
          with_reducible refine s_seq ?_
          with_reducible refine s_reg ?_
          refine smove ?_
          simp only [pu', p0', c1', c0', i1', z0', b8_nat]
          refine smove ?_
          simp only [pu', p0', c1', c0', i1', z0', b8_nat]
          refine slenE ?_
          simp only [pu', p0', c1', c0', i1', z0', b8_nat]
          refine sLt (fun hb => ?_) (fun hb => ?_)
          replace hb := dT' hb
          simp only [pu', p0', c1', c0', i1', z0', b8_nat]
          with_reducible refine s_end ?_
          with_reducible refine s_then ?_
          refine sCT ?_
          with_reducible refine s_skip ?_
          with_reducible refine s_then ?_
          with_reducible refine s_seq ?_
          with_reducible refine s_block ?_
          with_reducible refine s_seq ?_
          with_reducible refine s_reg ?_
          refine smove ?_
          simp only [pu', p0', c1', c0', i1', z0', b8_nat]
          refine smove ?_
          simp only [pu', p0', c1', c0', i1', z0', b8_nat]
          refine sidxE ?_
          simp only [pu', p0', c1', c0', i1', z0', b8_nat]
          refine sfadE ?_
          simp only [pu', p0', c1', c0', i1', z0', b8_nat]
          refine sloadF ?_
          simp only [pu', p0', c1', c0', i1', z0', b8_nat]
          refine smove ?_
          simp only [pu', p0', c1', c0', i1', z0', b8_nat]
          refine sEq (fun hb => ?_) (fun hb => ?_)
          replace hb := dT' hb
          simp only [pu', p0', c1', c0', i1', z0', b8_nat]
          with_reducible refine s_end ?_
          with_reducible refine s_then ?_
          refine sCT ?_
          with_reducible refine s_seq ?_
          with_reducible refine s_reg ?_
          refine smove ?_
          simp only [pu', p0', c1', c0', i1', z0', b8_nat]
          refine sassign ?_
          simp only [pu', p0', c1', c0', i1', z0', b8_nat]
          refine sassign ?_
          simp only [pu', p0', c1', c0', i1', z0', b8_nat]
          with_reducible refine s_end ?_
          with_reducible refine s_then ?_
          with_reducible refine s_ret ?_
          with_reducible refine s_blkR ?_
          with_reducible refine s_thenR ?_
          with_reducible refine l_ret ?_
          with_reducible refine s_blkR ?_
          with_reducible refine s_thenR ?_
          rotate_left 1
          replace hb := dF' hb
          exact absurd (by with_reducible assumption) hb
          replace hb := dF' hb
          (exfalso; omega)
        all_goals
          all_goals try with_reducible refine w_n ?_
          all_goals refine w_2 rfl (by first | exact v_t (by rfl) | exact v_c1 (C1.p) (by rfl) (HA.p) (by rfl) | exact v_cF (CA.p) (by rfl) (HA.p) (by rfl)) (by first | exact v_t (by rfl) | exact v_c1 (C1.p) (by rfl) (HA.p) (by rfl) | exact v_cF (CA.p) (by rfl) (HA.p) (by rfl)) ?_
          exact ⟨rfl, Sep.sub inferInstance (by repeat' first | exact List.Sublist.refl _ | exact List.sublist_append_left _ _ | exact List.nil_sublist _ | refine List.Sublist.cons_cons _ ?_ | refine List.Sublist.cons _ ?_ | refine List.Sublist.trans ?_ (List.sublist_append_left _ _))⟩
      · rw [if_neg hy] at hf
        simp only [syA] at hy
        focus
          with_reducible refine s_seq ?_
          with_reducible refine s_seq ?_
          with_reducible refine s_reg ?_
          refine smove ?_
          simp only [pu', p0', c1', c0', i1', z0', b8_nat]
          refine smove ?_
          simp only [pu', p0', c1', c0', i1', z0', b8_nat]
          refine slenE ?_
          simp only [pu', p0', c1', c0', i1', z0', b8_nat]
          refine sLt (fun hb => ?_) (fun hb => ?_)
          replace hb := dT' hb
          simp only [pu', p0', c1', c0', i1', z0', b8_nat]
          with_reducible refine s_end ?_
          with_reducible refine s_then ?_
          refine sCT ?_
          with_reducible refine s_skip ?_
          with_reducible refine s_then ?_
          with_reducible refine s_seq ?_
          with_reducible refine s_block ?_
          with_reducible refine s_seq ?_
          with_reducible refine s_reg ?_
          refine smove ?_
          simp only [pu', p0', c1', c0', i1', z0', b8_nat]
          refine smove ?_
          simp only [pu', p0', c1', c0', i1', z0', b8_nat]
          refine sidxE ?_
          simp only [pu', p0', c1', c0', i1', z0', b8_nat]
          refine sfadE ?_
          simp only [pu', p0', c1', c0', i1', z0', b8_nat]
          refine sloadF ?_
          simp only [pu', p0', c1', c0', i1', z0', b8_nat]
          refine smove ?_
          simp only [pu', p0', c1', c0', i1', z0', b8_nat]
          refine sEq (fun hb => ?_) (fun hb => ?_)
          replace hb := dT' hb
          (exfalso; omega)
          replace hb := dF' hb
          simp only [pu', p0', c1', c0', i1', z0', b8_nat]
          with_reducible refine s_end ?_
          with_reducible refine s_then ?_
          refine sCF ?_
          with_reducible refine s_skip ?_
          with_reducible refine s_blkN ?_
          with_reducible refine s_then ?_
          with_reducible refine s_reg ?_
          refine smove ?_
          simp only [pu', p0', c1', c0', i1', z0', b8_nat]
          refine sadd ?_
          simp only [pu', p0', c1', c0', i1', z0', b8_nat]
          refine sassign ?_
          simp only [pu', p0', c1', c0', i1', z0', b8_nat]
          with_reducible refine s_end ?_
          rotate_left 1
          replace hb := dF' hb
          (exfalso; omega)
        all_goals
          refine l_next ⟨i + 1, _⟩ ⟨by simp only []; omega, hf, Sep.sub inferInstance (by repeat' first | exact List.Sublist.refl _ | exact List.sublist_append_left _ _ | exact List.nil_sublist _ | refine List.Sublist.cons_cons _ ?_ | refine List.Sublist.cons _ ?_ | refine List.Sublist.trans ?_ (List.sublist_append_left _ _))⟩ (by simp only []; omega) (by rfl) rfl
    · rw [show t.length - i = 0 by omega, fnd] at hf
      subst hf
      with_reducible refine s_seq ?_
      with_reducible refine s_seq ?_
      with_reducible refine s_reg ?_
      refine smove ?_
      simp only [pu', p0', c1', c0', i1', z0', b8_nat]
      refine smove ?_
      simp only [pu', p0', c1', c0', i1', z0', b8_nat]
      refine slenE ?_
      simp only [pu', p0', c1', c0', i1', z0', b8_nat]
      refine sLt (fun hb => ?_) (fun hb => ?_)
      replace hb := dT' hb
      (exfalso; omega)
      replace hb := dF' hb
      simp only [pu', p0', c1', c0', i1', z0', b8_nat]
      with_reducible refine s_end ?_
      with_reducible refine s_then ?_
      refine sCF ?_
      with_reducible refine s_exit ?_
      with_reducible refine s_thenE ?_
      with_reducible refine l_exit ?_
      with_reducible refine s_blkE ?_
      with_reducible refine s_then ?_
      with_reducible refine s_seq ?_
      with_reducible refine s_reg ?_
      refine sassign ?_
      simp only [pu', p0', c1', c0', i1', z0', b8_nat]
      refine sassign ?_
      simp only [pu', p0', c1', c0', i1', z0', b8_nat]
      with_reducible refine s_end ?_
      with_reducible refine s_then ?_
      with_reducible refine s_ret ?_
      all_goals
        all_goals try with_reducible refine w_n ?_
        all_goals refine w_2 rfl (by first | exact v_t (by rfl) | exact v_c1 (C1.p) (by rfl) (HA.p) (by rfl) | exact v_cF (CA.p) (by rfl) (HA.p) (by rfl)) (by first | exact v_t (by rfl) | exact v_c1 (C1.p) (by rfl) (HA.p) (by rfl) | exact v_cF (CA.p) (by rfl) (HA.p) (by rfl)) ?_
        exact ⟨rfl, Sep.sub inferInstance (by repeat' first | exact List.Sublist.refl _ | exact List.sublist_append_left _ _ | exact List.nil_sublist _ | refine List.Sublist.cons_cons _ ?_ | refine List.Sublist.cons _ ?_ | refine List.Sublist.trans ?_ (List.sublist_append_left _ _))⟩
  · rw [if_neg he] at hq
    subst hq
    generalize chkQ t = e at *
    refine acalls_of_wk hm Try.func28 rfl ?_
    simp only [Try.ntmps28, List.length_cons, List.length_nil, Nat.reduceAdd, Nat.reduceSub, List.reduceReplicate, List.cons_append, List.nil_append]
    show wk _ _ none _ _ ⟨_, []⟩ _
    focus
      with_reducible refine s_seq ?_
      with_reducible refine s_reg ?_
      refine sassign ?_
      simp only [pu', p0', c1', c0', i1', z0', b8_nat]
      refine sassign ?_
      simp only [pu', p0', c1', c0', i1', z0', b8_nat]
      with_reducible refine s_end ?_
      with_reducible refine s_then ?_
      with_reducible refine s_seq ?_
      with_reducible refine s_reg ?_
      refine smove ?_
      simp only [pu', p0', c1', c0', i1', z0', b8_nat]
      refine sC (hx := rfl) ((c23 ()).mono ?_)
      rintro _ m23 _ ⟨rfl, S1⟩
      simp only [pu', p0', c1', c0', i1', n0', n3', n1', n2', a2', a1', a0', n4', Nat.reduceAdd, z0', n5', sa0, sa1, sa2, sa3, sa4, sa5, sa6, sa7, sa8, sa9, sa10, sa11]
      refine sassign ?_
      simp only [pu', p0', c1', c0', i1', z0', b8_nat]
      with_reducible refine s_end ?_
      with_reducible refine s_then ?_
      with_reducible refine s_seq ?_
      with_reducible refine s_seq ?_
      with_reducible refine s_reg ?_
      refine smove ?_
      simp only [pu', p0', c1', c0', i1', z0', b8_nat]
      refine sNe (fun hb => ?_) (fun hb => ?_)
      replace hb := dT' hb
      simp only [pu', p0', c1', c0', i1', z0', b8_nat]
      with_reducible refine s_end ?_
      with_reducible refine s_then ?_
      refine sCT ?_
      with_reducible refine s_seq ?_
      with_reducible refine s_reg ?_
      refine smove ?_
      simp only [pu', p0', c1', c0', i1', z0', b8_nat]
      refine sassign ?_
      simp only [pu', p0', c1', c0', i1', z0', b8_nat]
      refine sassign ?_
      simp only [pu', p0', c1', c0', i1', z0', b8_nat]
      with_reducible refine s_end ?_
      with_reducible refine s_then ?_
      with_reducible refine s_ret ?_
      with_reducible refine s_thenR ?_
      rotate_left 1
      replace hb := dF' hb
      exact absurd (by with_reducible assumption) hb
    all_goals
      all_goals try with_reducible refine w_n ?_
      all_goals refine w_2 rfl (by first | exact v_t (by rfl) | exact v_c1 (C1.p) (by rfl) (HA.p) (by rfl) | exact v_cF (CA.p) (by rfl) (HA.p) (by rfl)) (by first | exact v_t (by rfl) | exact v_c1 (C1.p) (by rfl) (HA.p) (by rfl) | exact v_cF (CA.p) (by rfl) (HA.p) (by rfl)) ?_
      exact ⟨rfl, Sep.sub inferInstance (by repeat' first | exact List.Sublist.refl _ | exact List.sublist_append_left _ _ | exact List.nil_sublist _ | refine List.Sublist.cons_cons _ ?_ | refine List.Sublist.cons _ ?_ | refine List.Sublist.trans ?_ (List.sublist_append_left _ _))⟩
end Go.Proofs.Ytgbddbiimffplaa
