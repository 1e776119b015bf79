/-
  A part of the proof of a statement of a chapter's seat; conditions: stated at each theorem.
-/
import Derived.Test.YtfhbbpdnmdbjbaaK11
set_option linter.unusedSimpArgs false
set_option linter.unusedVariables false
set_option linter.unusedSectionVars false
set_option maxRecDepth 100000
set_option maxHeartbeats 8000000
namespace Go.Proofs.Ytfhbbpdnmdbjbaa
open Go.Az Go
theorem pick_len (j d : Int) (l : List Tk) (b : Bool) : (pickP j d l b).l.length ≤ l.length := by
  unfold pickP
  repeat' split
  all_goals simp
theorem busyR_shape (j d : Int) (l : List Tk) : ∃ b e, busyR j d l = .tup [B b, I e] := by unfold busyR; split <;> exact ⟨_, _, rfl⟩
theorem leftR_shape (j d : Int) (l : List Tk) : ∃ b e, leftR j d l = .tup [I b, I e] := by
  unfold leftR
  repeat' split
  all_goals exact ⟨_, _, rfl⟩
theorem nextR_shape (l : List Tk) : ∃ n b e, nextR l = .tup [I n, B b, I e] := by
  unfold nextR
  repeat' split
  all_goals exact ⟨_, _, _, rfl⟩
theorem same_yes (h : Hp) (s1 s2 : AV) (l : List Tk) (hS1 : TS h s1 l) (hS2 : TS h s2 l) (hlen : l.length ≤ 1099511627776) : ACalls Try.prog 18 [s1, s2] h (fun r h' => r = B true ∧ h' = h) :=
  (same_any h s1 s2 l l hS1 hS2 hlen).mono fun r h' _ hh => by rw [hh.1, hh.2]; exact ⟨by rw [decide_eq_true rfl], rfl⟩
theorem law4 (j d : Int) (b : Bool) (h : Hp) (s : AV) (l : List Tk) (hS : TS h s l) : ACalls Try.prog 4 [WA j d, s, B b] h (fun r _ => r = B true) := by
  by_cases hl : (40 < l.length ∧ l.length < 4096) ∨ 4098 < l.length
  · have hl2 : l.length ≤ 1099511627776 ∨ 1099511627776 < l.length := by omega
    refine acalls_of_wk hm Try.func4 rfl ?_
    simp only [Try.ntmps4, List.length_cons, List.length_nil, Nat.reduceAdd, Nat.reduceSub, List.reduceReplicate, List.cons_append, List.nil_append]
    show wk _ _ none _ _ ⟨_, []⟩ _
    have el1 := mkEL encT_ok tk0 hS
    focus
      with_reducible refine s_seq ?_
      with_reducible refine s_reg ?_
      refine sboxA ?_
      simp only [pu', p0', c1', c0', i1', n0', n3', n1', n2', a2', a1', a0', n4', Nat.reduceAdd, z0', n5', sa0, sa1, sa2, sa3, sa4, sa5, sa6, sa7, sa8, sa9, sa10, sa11]
      refine sassign ?_
      simp only [pu', p0', c1', c0', i1', z0']
      with_reducible refine s_end ?_
      with_reducible refine s_then ?_
      with_reducible refine s_seq ?_
      with_reducible refine s_seq ?_
      with_reducible refine s_reg ?_
      refine smove ?_
      simp only [pu', p0', c1', c0', i1', z0']
      refine slenE ?_
      simp only [pu', p0', c1', c0', i1', z0']
      refine sGt (fun hb => ?_) (fun hb => ?_)
      replace hb := dT' hb
      simp only [pu', p0', c1', c0', i1', z0']
      refine smove ?_
      simp only [pu', p0', c1', c0', i1', z0']
      refine smove ?_
      simp only [pu', p0', c1', c0', i1', z0']
      refine slenE ?_
      simp only [pu', p0', c1', c0', i1', z0']
      refine sLt (fun hb => ?_) (fun hb => ?_)
      replace hb := dT' hb
      simp only [pu', p0', c1', c0', i1', z0']
      refine spickT ?_
      simp only [pu', p0', c1', c0', i1', z0']
      refine smove ?_
      simp only [pu', p0', c1', c0', i1', z0']
      refine sN ?_
      simp only [pu', p0', c1', c0', i1', z0']
      refine sN ?_
      simp only [pu', p0', c1', c0', i1', z0']
      refine sN ?_
      simp only [pu', p0', c1', c0', i1', z0']
      refine spickT ?_
      simp only [pu', p0', c1', c0', i1', z0']
      with_reducible refine s_end ?_
      with_reducible refine s_then ?_
      refine sCT ?_
      with_reducible refine s_seq ?_
      with_reducible refine s_reg ?_
      refine sK (awake_any) ?_
      simp only [pu', p0', c1', c0', i1', z0']
      refine sassign ?_
      simp only [pu', p0', c1', c0', i1', z0']
      with_reducible refine s_end ?_
      with_reducible refine s_then ?_
      with_reducible refine s_ret ?_
      with_reducible refine s_thenR ?_
      rotate_left 1
      replace hb := dF' hb
      simp only [pu', p0', c1', c0', i1', z0']
      refine spickT ?_
      simp only [pu', p0', c1', c0', i1', z0']
      refine smove ?_
      simp only [pu', p0', c1', c0', i1', z0']
      refine smove ?_
      simp only [pu', p0', c1', c0', i1', z0']
      refine slenE ?_
      simp only [pu', p0', c1', c0', i1', z0']
      refine sGt (fun hb => ?_) (fun hb => ?_)
      replace hb := dT' hb
      simp only [pu', p0', c1', c0', i1', z0']
      refine spickF ?_
      simp only [pu', p0', c1', c0', i1', z0']
      with_reducible refine s_end ?_
      with_reducible refine s_then ?_
      refine sCT ?_
      with_reducible refine s_seq ?_
      with_reducible refine s_reg ?_
      refine sK (awake_any) ?_
      simp only [pu', p0', c1', c0', i1', z0']
      refine sassign ?_
      simp only [pu', p0', c1', c0', i1', z0']
      with_reducible refine s_end ?_
      with_reducible refine s_then ?_
      with_reducible refine s_ret ?_
      with_reducible refine s_thenR ?_
      rotate_left 1
      replace hb := dF' hb
      (exfalso; omega)
      replace hb := dF' hb
      (exfalso; omega)
    all_goals try with_reducible refine w_n ?_
    all_goals refine w_1 rfl (by first | exact v_t (by rfl) | exact v_c1 (C1.p) (by rfl) (HA.p) (by rfl) | exact v_cF (CA.p) (by rfl) (HA.p) (by rfl)) ?_
    all_goals rfl
  · have hlen : l.length ≤ 1099511627776 := by omega
    have hpl := pick_len j d l b
    obtain ⟨x1, x2, hbz⟩ := busyR_shape j d l
    obtain ⟨y1, y2, hy⟩ := leftR_shape j d l
    obtain ⟨z1, z2, z3, hz⟩ := nextR_shape l
    refine acalls_of_wk hm Try.func4 rfl ?_
    simp only [Try.ntmps4, List.length_cons, List.length_nil, Nat.reduceAdd, Nat.reduceSub, List.reduceReplicate, List.cons_append, List.nil_append]
    show wk _ _ none _ _ ⟨_, []⟩ _
    have el2 := mkEL encT_ok tk0 hS
    focus
      with_reducible refine s_seq ?_
      with_reducible refine s_reg ?_
      refine sboxA ?_
      simp only [pu', p0', c1', c0', i1', n0', n3', n1', n2', a2', a1', a0', n4', Nat.reduceAdd, z0', n5', sa0, sa1, sa2, sa3, sa4, sa5, sa6, sa7, sa8, sa9, sa10, sa11]
      refine sassign ?_
      simp only [pu', p0', c1', c0', i1', z0']
      with_reducible refine s_end ?_
      with_reducible refine s_then ?_
      with_reducible refine s_seq ?_
      with_reducible refine s_seq ?_
      with_reducible refine s_reg ?_
      refine smove ?_
      simp only [pu', p0', c1', c0', i1', z0']
      refine slenE ?_
      simp only [pu', p0', c1', c0', i1', z0']
      refine sGt (fun hb => ?_) (fun hb => ?_)
      replace hb := dT' hb
      simp only [pu', p0', c1', c0', i1', z0']
      refine smove ?_
      simp only [pu', p0', c1', c0', i1', z0']
      refine smove ?_
      simp only [pu', p0', c1', c0', i1', z0']
      refine slenE ?_
      simp only [pu', p0', c1', c0', i1', z0']
      refine sLt (fun hb => ?_) (fun hb => ?_)
      replace hb := dT' hb
      (exfalso; omega)
      replace hb := dF' hb
      simp only [pu', p0', c1', c0', i1', z0']
      refine spickT ?_
      simp only [pu', p0', c1', c0', i1', z0']
      refine smove ?_
      simp only [pu', p0', c1', c0', i1', z0']
      refine smove ?_
      simp only [pu', p0', c1', c0', i1', z0']
      refine slenE ?_
      simp only [pu', p0', c1', c0', i1', z0']
      refine sGt (fun hb => ?_) (fun hb => ?_)
      replace hb := dT' hb
      (exfalso; omega)
      replace hb := dF' hb
      simp only [pu', p0', c1', c0', i1', z0']
      refine spickF ?_
      simp only [pu', p0', c1', c0', i1', z0']
      with_reducible refine s_end ?_
      with_reducible refine s_then ?_
      refine sCF ?_
      with_reducible refine s_skip ?_
      with_reducible refine s_then ?_
      with_reducible refine s_seq ?_
      with_reducible refine s_reg ?_
      refine smove ?_
      simp only [pu', p0', c1', c0', i1', z0']
      rotate_left 1
      replace hb := dF' hb
      simp only [pu', p0', c1', c0', i1', z0']
      refine smove ?_
      simp only [pu', p0', c1', c0', i1', z0']
      refine sN ?_
      simp only [pu', p0', c1', c0', i1', z0']
      refine sN ?_
      simp only [pu', p0', c1', c0', i1', z0']
      refine sN ?_
      simp only [pu', p0', c1', c0', i1', z0']
      refine spickF ?_
      simp only [pu', p0', c1', c0', i1', z0']
      refine smove ?_
      simp only [pu', p0', c1', c0', i1', z0']
      refine smove ?_
      simp only [pu', p0', c1', c0', i1', z0']
      refine slenE ?_
      simp only [pu', p0', c1', c0', i1', z0']
      refine sGt (fun hb => ?_) (fun hb => ?_)
      replace hb := dT' hb
      (exfalso; omega)
      replace hb := dF' hb
      simp only [pu', p0', c1', c0', i1', z0']
      refine spickF ?_
      simp only [pu', p0', c1', c0', i1', z0']
      with_reducible refine s_end ?_
      with_reducible refine s_then ?_
      refine sCF ?_
      with_reducible refine s_skip ?_
      with_reducible refine s_then ?_
      with_reducible refine s_seq ?_
      with_reducible refine s_reg ?_
      refine smove ?_
      simp only [pu', p0', c1', c0', i1', z0']
      rotate_left 1
    all_goals
      refine sC ((own_any _ s l (hS.ext (ext_app _ _)) hlen).mono ?_)
      rintro s1 _ _ hR1
      obtain ⟨o1, rfl, hE1⟩ := hR1.shapeE encT_ok
      try simp only [List.append_assoc, List.cons_append, List.nil_append] at hE1
      simp only [Fr.put, List.set_cons_succ, List.set_cons_zero, Int.toNat_natCast, List.length_append, List.length_set, List.length_cons, List.length_nil, List.nil_append, List.cons_append, List.append_assoc, List.length_replicate, Nat.reduceAdd, Nat.zero_add, Nat.add_assoc, sa0, sa1, sa2, sa3, sa4, sa5, sa6, sa7, sa8, sa9, sa10, sa11]
      refine sassign ?_
      simp only [pu', p0', c1', c0', i1', z0']
      with_reducible refine s_end ?_
      with_reducible refine s_then ?_
      with_reducible refine s_seq ?_
      with_reducible refine s_reg ?_
      refine sloadW ?_
      simp only [pu', p0', c1', c0', i1', z0']
      refine smove ?_
      simp only [pu', p0', c1', c0', i1', z0']
      refine smove ?_
      simp only [pu', p0', c1', c0', i1', z0']
      refine sC ((pick_any _ _ _ _ _ _ (hE1 _) hlen).mono ?_)
      rintro _ _ _ ⟨s2, rfl, hR2⟩
      obtain ⟨o2, rfl, hE2⟩ := hR2.shapeE encT_ok
      try simp only [List.append_assoc, List.cons_append, List.nil_append] at hE2
      simp only [Fr.put, List.set_cons_succ, List.set_cons_zero, Int.toNat_natCast, List.length_append, List.length_set, List.length_cons, List.length_nil, List.nil_append, List.cons_append, List.append_assoc, List.length_replicate, Nat.reduceAdd, Nat.zero_add, Nat.add_assoc, sa0, sa1, sa2, sa3, sa4, sa5, sa6, sa7, sa8, sa9, sa10, sa11]
      refine smove ?_
      simp only [pu', p0', c1', c0', i1', z0']
      refine sext ?_
      simp only [pu', p0', c1', c0', i1', z0']
      refine sext ?_
      simp only [pu', p0', c1', c0', i1', z0']
      refine sext ?_
      simp only [pu', p0', c1', c0', i1', z0']
      refine sext ?_
      simp only [pu', p0', c1', c0', i1', z0']
      refine salloc ?_
      simp only [pu', p0', c1', c0', i1', n0', n3', n1', n2', a2', a1', a0', n4', Nat.reduceAdd, z0', n5', sa0, sa1, sa2, sa3, sa4, sa5, sa6, sa7, sa8, sa9, sa10, sa11]
      refine sstoreF ?_
      simp only [pu', p0', c1', c0', i1', n0', n3', n1', n2', a2', a1', a0', n4', Nat.reduceAdd, z0', n5', sa0, sa1, sa2, sa3, sa4, sa5, sa6, sa7, sa8, sa9, sa10, sa11]
      refine sassign ?_
      simp only [pu', p0', c1', c0', i1', z0']
      refine sassign ?_
      simp only [pu', p0', c1', c0', i1', z0']
      refine sassign ?_
      simp only [pu', p0', c1', c0', i1', z0']
      with_reducible refine s_end ?_
      with_reducible refine s_then ?_
      with_reducible refine s_seq ?_
      with_reducible refine s_reg ?_
      refine sloadW ?_
      simp only [pu', p0', c1', c0', i1', z0']
      refine smove ?_
      simp only [pu', p0', c1', c0', i1', z0']
      refine smove ?_
      simp only [pu', p0', c1', c0', i1', z0']
      refine sC ((rpick_any _ _ _ _ _ _ (hS.ext (ext_app _ _)) hlen).mono ?_)
      rintro _ _ _ ⟨s3, rfl, hR3⟩
      obtain ⟨o3, rfl, hE3⟩ := hR3.shapeE encT_ok
      try simp only [List.append_assoc, List.cons_append, List.nil_append] at hE3
      simp only [Fr.put, List.set_cons_succ, List.set_cons_zero, Int.toNat_natCast, List.length_append, List.length_set, List.length_cons, List.length_nil, List.nil_append, List.cons_append, List.append_assoc, List.length_replicate, Nat.reduceAdd, Nat.zero_add, Nat.add_assoc, sa0, sa1, sa2, sa3, sa4, sa5, sa6, sa7, sa8, sa9, sa10, sa11]
      generalize pickP j d l b = p at *
      have c1 := fun X (a : TS X s1 l) => busy_any j d X s1 l a hlen
      have c2 := fun X (a : TS X s l) => rbusy_any j d X s l a hlen
      have c3 := fun X (a : TS X s1 l) => left_any j d X s1 l a hlen
      have c4 := fun X (a : TS X s l) => rleft_any j d X s l a hlen
      have c5 := fun X (a : TS X s1 l) => next_any X s1 l a hlen
      have c6 := fun X (a : TS X s l) => rnextT_any X s l a hlen
      simp only [hbz] at c1 c2
      simp only [hy] at c3 c4
      simp only [hz] at c5 c6
      focus
        refine smove ?_
        simp only [pu', p0', c1', c0', i1', z0']
        refine sext ?_
        simp only [pu', p0', c1', c0', i1', z0']
        refine sext ?_
        simp only [pu', p0', c1', c0', i1', z0']
        refine sext ?_
        simp only [pu', p0', c1', c0', i1', z0']
        refine sext ?_
        simp only [pu', p0', c1', c0', i1', z0']
        refine salloc ?_
        simp only [pu', p0', c1', c0', i1', n0', n3', n1', n2', a2', a1', a0', n4', Nat.reduceAdd, z0', n5', sa0, sa1, sa2, sa3, sa4, sa5, sa6, sa7, sa8, sa9, sa10, sa11]
        refine sstoreF ?_
        simp only [pu', p0', c1', c0', i1', n0', n3', n1', n2', a2', a1', a0', n4', Nat.reduceAdd, z0', n5', sa0, sa1, sa2, sa3, sa4, sa5, sa6, sa7, sa8, sa9, sa10, sa11]
        refine sassign ?_
        simp only [pu', p0', c1', c0', i1', z0']
        refine sassign ?_
        simp only [pu', p0', c1', c0', i1', z0']
        refine sassign ?_
        simp only [pu', p0', c1', c0', i1', z0']
        with_reducible refine s_end ?_
        with_reducible refine s_then ?_
        with_reducible refine s_seq ?_
        with_reducible refine s_seq ?_
        (refine s_regQ (id := 6) [(0, true), (1, true), (2, true), (3, true), (4, true), (5, true), (6, false), (7, true), (8, true), (9, true), (10, true), (11, true), (12, true), (13, true), (14, true), (15, true), (16, true), (17, true), (18, true), (19, true), (20, true), (21, true), (23, true), (24, true), (22, false), (25, false), (26, true), (27, true)] (by kernel_rfl) (by conv => lhs; simp only [pickO, List.getElem?_cons_succ, List.getElem?_cons_zero]) ?_)
        refine qloadW ?_
        simp only [pu', p0', c1', c0', i1', z0']
        refine qloadW ?_
        simp only [pu', p0', c1', c0', i1', z0']
        refine qbn (fun hb => ?_) (fun hb => ?_)
        simp only [decide_eq_true_eq, Int.toNat_natCast, decide_eq_false_iff_not, Bool.not_eq_true', Bool.not_eq_false', not_true_eq_false, not_false_eq_true, beq_self_eq_true, Bool.and_true, Bool.true_and, Bool.and_false, Bool.false_and, Bool.and_eq_true, Bool.and_eq_false_iff, beq_iff_eq, beq_eq_false_iff_ne, ne_eq, Bool.not_true, Bool.not_false, Bool.true_eq_false, Bool.false_eq_true, Bool.not_eq_true, Bool.not_eq_false, and_true, true_and, and_false, false_and, or_false, false_or, or_true, true_or] at hb
        simp only [decide_eq_true_eq, Int.toNat_natCast, decide_eq_false_iff_not, Bool.not_eq_true', Bool.not_eq_false', not_true_eq_false, not_false_eq_true, beq_self_eq_true, Bool.and_true, Bool.true_and, Bool.and_false, Bool.false_and, Bool.and_eq_true, Bool.and_eq_false_iff, beq_iff_eq, beq_eq_false_iff_ne, ne_eq, Bool.not_true, Bool.not_false, Bool.true_eq_false, Bool.false_eq_true, Bool.not_eq_true, Bool.not_eq_false, and_true, true_and, and_false, false_and, or_false, false_or, or_true, true_or] at hb
        simp only [pu', p0', c1', c0', i1', z0']
        refine qmove ?_
        simp only [pu', p0', c1', c0', i1', z0']
        refine qmove ?_
        simp only [pu', p0', c1', c0', i1', z0']
        refine qmove ?_
        simp only [pu', p0', c1', c0', i1', z0']
        refine qM (same_yes _ _ _ p.l (hE2 _) (hE3 _) (by omega)) ?_
        simp only [pu', p0', c1', c0', i1', z0']
        refine qnotT ?_
        simp only [pu', p0', c1', c0', i1', z0']
        refine qpickF ?_
        simp only [pu', p0', c1', c0', i1', z0']
        refine qmove ?_
        simp only [pu', p0', c1', c0', i1', z0']
        refine qmove ?_
        simp only [pu', p0', c1', c0', i1', z0']
        refine qmove ?_
        simp only [pu', p0', c1', c0', i1', z0']
        refine qNe (fun hb => ?_) (fun hb => ?_)
        replace hb := dT' hb
        (exfalso; omega)
        replace hb := dF' hb
        simp only [pu', p0', c1', c0', i1', z0']
        refine qpickF ?_
        simp only [pu', p0', c1', c0', i1', z0']
        refine qmove ?_
        simp only [pu', p0', c1', c0', i1', z0']
        refine qmove ?_
        simp only [pu', p0', c1', c0', i1', z0']
        refine qmove ?_
        simp only [pu', p0', c1', c0', i1', z0']
        refine qNe (fun hb => ?_) (fun hb => ?_)
        replace hb := dT' hb
        (exfalso; omega)
        replace hb := dF' hb
        simp only [pu', p0', c1', c0', i1', z0']
        refine qpickF ?_
        simp only [pu', p0', c1', c0', i1', z0']
        refine qmove ?_
        simp only [pu', p0', c1', c0', i1', z0']
        refine qloadW ?_
        simp only [pu', p0', c1', c0', i1', z0']
        refine qmove ?_
        simp only [pu', p0', c1', c0', i1', z0']
        refine qloadW ?_
        simp only [pu', p0', c1', c0', i1', z0']
        refine qmove ?_
        simp only [pu', p0', c1', c0', i1', z0']
        refine qM (check_any j d _ s1 l (hE1 _) hlen) ?_
        simp only [pu', p0', c1', c0', i1', z0']
        refine qM (rcheck_any j d _ s l (hS.ext (ext_app _ _)) hlen) ?_
        simp only [pu', p0', c1', c0', i1', z0']
        refine qNe (fun hb => ?_) (fun hb => ?_)
        replace hb := dT' hb
        (exfalso; omega)
        replace hb := dF' hb
        simp only [pu', p0', c1', c0', i1', z0']
        refine qpickF ?_
        simp only [pu', p0', c1', c0', i1', z0']
        with_reducible refine q_end ?_
        with_reducible refine s_then ?_
        refine sCF ?_
        with_reducible refine s_skip ?_
        with_reducible refine s_then ?_
        with_reducible refine s_seq ?_
        with_reducible refine s_reg ?_
        refine sloadW ?_
        simp only [pu', p0', c1', c0', i1', z0']
        refine smove ?_
        simp only [pu', p0', c1', c0', i1', z0']
        refine sM (c1 _ (hE1 _)) ?_
        simp only [pu', p0', c1', c0', i1', z0']
        refine smove ?_
        simp only [pu', p0', c1', c0', i1', z0']
        refine sext ?_
        simp only [pu', p0', c1', c0', i1', z0']
        refine sext ?_
        simp only [pu', p0', c1', c0', i1', z0']
        refine sassign ?_
        simp only [pu', p0', c1', c0', i1', z0']
        refine sassign ?_
        simp only [pu', p0', c1', c0', i1', z0']
        with_reducible refine s_end ?_
        with_reducible refine s_then ?_
        with_reducible refine s_seq ?_
        with_reducible refine s_reg ?_
        refine sloadW ?_
        simp only [pu', p0', c1', c0', i1', z0']
        refine smove ?_
        simp only [pu', p0', c1', c0', i1', z0']
        refine sM (c2 _ (hS.ext (ext_app _ _))) ?_
        simp only [pu', p0', c1', c0', i1', z0']
        refine smove ?_
        simp only [pu', p0', c1', c0', i1', z0']
        refine sext ?_
        simp only [pu', p0', c1', c0', i1', z0']
        refine sext ?_
        simp only [pu', p0', c1', c0', i1', z0']
        refine sassign ?_
        simp only [pu', p0', c1', c0', i1', z0']
        refine sassign ?_
        simp only [pu', p0', c1', c0', i1', z0']
        with_reducible refine s_end ?_
        with_reducible refine s_then ?_
        with_reducible refine s_seq ?_
        with_reducible refine s_seq ?_
        with_reducible refine s_reg ?_
        refine smove ?_
        simp only [pu', p0', c1', c0', i1', z0']
        refine smove ?_
        simp only [pu', p0', c1', c0', i1', z0']
        refine sneB (fun hb => ?_) (fun hb => ?_)
        simp only [decide_eq_true_eq, Int.toNat_natCast, decide_eq_false_iff_not, Bool.not_eq_true', Bool.not_eq_false', not_true_eq_false, not_false_eq_true, beq_self_eq_true, Bool.and_true, Bool.true_and, Bool.and_false, Bool.false_and, Bool.and_eq_true, Bool.and_eq_false_iff, beq_iff_eq, beq_eq_false_iff_ne, ne_eq, Bool.not_true, Bool.not_false, Bool.true_eq_false, Bool.false_eq_true, Bool.not_eq_true, Bool.not_eq_false, and_true, true_and, and_false, false_and, or_false, false_or, or_true, true_or] at hb
        simp only [decide_eq_true_eq, Int.toNat_natCast, decide_eq_false_iff_not, Bool.not_eq_true', Bool.not_eq_false', not_true_eq_false, not_false_eq_true, beq_self_eq_true, Bool.and_true, Bool.true_and, Bool.and_false, Bool.false_and, Bool.and_eq_true, Bool.and_eq_false_iff, beq_iff_eq, beq_eq_false_iff_ne, ne_eq, Bool.not_true, Bool.not_false, Bool.true_eq_false, Bool.false_eq_true, Bool.not_eq_true, Bool.not_eq_false, and_true, true_and, and_false, false_and, or_false, false_or, or_true, true_or] at hb
        simp only [pu', p0', c1', c0', i1', z0']
        refine smove ?_
        simp only [pu', p0', c1', c0', i1', z0']
        refine smove ?_
        simp only [pu', p0', c1', c0', i1', z0']
        refine smove ?_
        simp only [pu', p0', c1', c0', i1', z0']
        refine sNe (fun hb => ?_) (fun hb => ?_)
        replace hb := dT' hb
        (exfalso; omega)
        replace hb := dF' hb
        simp only [pu', p0', c1', c0', i1', z0']
        refine spickF ?_
        simp only [pu', p0', c1', c0', i1', z0']
        with_reducible refine s_end ?_
        with_reducible refine s_then ?_
        refine sCF ?_
        with_reducible refine s_skip ?_
        with_reducible refine s_then ?_
        with_reducible refine s_seq ?_
        with_reducible refine s_reg ?_
        refine sloadW ?_
        simp only [pu', p0', c1', c0', i1', z0']
        refine smove ?_
        simp only [pu', p0', c1', c0', i1', z0']
        refine sM (c3 _ (hE1 _)) ?_
        simp only [pu', p0', c1', c0', i1', z0']
        refine smove ?_
        simp only [pu', p0', c1', c0', i1', z0']
        refine sext ?_
        simp only [pu', p0', c1', c0', i1', z0']
        refine sext ?_
        simp only [pu', p0', c1', c0', i1', z0']
        refine sassign ?_
        simp only [pu', p0', c1', c0', i1', z0']
        refine sassign ?_
        simp only [pu', p0', c1', c0', i1', z0']
        with_reducible refine s_end ?_
        with_reducible refine s_then ?_
        with_reducible refine s_seq ?_
        with_reducible refine s_reg ?_
        refine sloadW ?_
        simp only [pu', p0', c1', c0', i1', z0']
        refine smove ?_
        simp only [pu', p0', c1', c0', i1', z0']
        refine sM (c4 _ (hS.ext (ext_app _ _))) ?_
        simp only [pu', p0', c1', c0', i1', z0']
        refine smove ?_
        simp only [pu', p0', c1', c0', i1', z0']
        refine sext ?_
        simp only [pu', p0', c1', c0', i1', z0']
        refine sext ?_
        simp only [pu', p0', c1', c0', i1', z0']
        refine sassign ?_
        simp only [pu', p0', c1', c0', i1', z0']
        refine sassign ?_
        simp only [pu', p0', c1', c0', i1', z0']
        with_reducible refine s_end ?_
        with_reducible refine s_then ?_
        with_reducible refine s_seq ?_
        with_reducible refine s_seq ?_
        with_reducible refine s_reg ?_
        refine smove ?_
        simp only [pu', p0', c1', c0', i1', z0']
        refine smove ?_
        simp only [pu', p0', c1', c0', i1', z0']
        refine sNe (fun hb => ?_) (fun hb => ?_)
        replace hb := dT' hb
        (exfalso; omega)
        replace hb := dF' hb
        simp only [pu', p0', c1', c0', i1', z0']
        refine smove ?_
        simp only [pu', p0', c1', c0', i1', z0']
        refine smove ?_
        simp only [pu', p0', c1', c0', i1', z0']
        refine smove ?_
        simp only [pu', p0', c1', c0', i1', z0']
        refine sNe (fun hb => ?_) (fun hb => ?_)
        replace hb := dT' hb
        (exfalso; omega)
        replace hb := dF' hb
        simp only [pu', p0', c1', c0', i1', z0']
        refine spickF ?_
        simp only [pu', p0', c1', c0', i1', z0']
        with_reducible refine s_end ?_
        with_reducible refine s_then ?_
        refine sCF ?_
        with_reducible refine s_skip ?_
        with_reducible refine s_then ?_
        with_reducible refine s_seq ?_
        with_reducible refine s_reg ?_
        refine smove ?_
        simp only [pu', p0', c1', c0', i1', z0']
        refine sM (c5 _ (hE1 _)) ?_
        simp only [pu', p0', c1', c0', i1', z0']
        refine smove ?_
        simp only [pu', p0', c1', c0', i1', z0']
        refine sext ?_
        simp only [pu', p0', c1', c0', i1', z0']
        refine sext ?_
        simp only [pu', p0', c1', c0', i1', z0']
        refine sext ?_
        simp only [pu', p0', c1', c0', i1', z0']
        refine sassign ?_
        simp only [pu', p0', c1', c0', i1', z0']
        refine sassign ?_
        simp only [pu', p0', c1', c0', i1', z0']
        refine sassign ?_
        simp only [pu', p0', c1', c0', i1', z0']
        with_reducible refine s_end ?_
        with_reducible refine s_then ?_
        with_reducible refine s_seq ?_
        with_reducible refine s_reg ?_
        refine smove ?_
        simp only [pu', p0', c1', c0', i1', z0']
        refine sM (c6 _ (hS.ext (ext_app _ _))) ?_
        simp only [pu', p0', c1', c0', i1', z0']
        refine smove ?_
        simp only [pu', p0', c1', c0', i1', z0']
        refine sext ?_
        simp only [pu', p0', c1', c0', i1', z0']
        refine sext ?_
        simp only [pu', p0', c1', c0', i1', z0']
        refine sext ?_
        simp only [pu', p0', c1', c0', i1', z0']
        refine sassign ?_
        simp only [pu', p0', c1', c0', i1', z0']
        refine sassign ?_
        simp only [pu', p0', c1', c0', i1', z0']
        refine sassign ?_
        simp only [pu', p0', c1', c0', i1', z0']
        with_reducible refine s_end ?_
        with_reducible refine s_then ?_
        with_reducible refine s_seq ?_
        with_reducible refine s_reg ?_
        refine smove ?_
        simp only [pu', p0', c1', c0', i1', z0']
        refine smove ?_
        simp only [pu', p0', c1', c0', i1', z0']
        refine sEq (fun hb => ?_) (fun hb => ?_)
        replace hb := dT' hb
        simp only [pu', p0', c1', c0', i1', z0']
        refine smove ?_
        simp only [pu', p0', c1', c0', i1', z0']
        refine smove ?_
        simp only [pu', p0', c1', c0', i1', z0']
        refine smove ?_
        simp only [pu', p0', c1', c0', i1', z0']
        refine seqB (fun hb => ?_) (fun hb => ?_)
        simp only [decide_eq_true_eq, Int.toNat_natCast, decide_eq_false_iff_not, Bool.not_eq_true', Bool.not_eq_false', not_true_eq_false, not_false_eq_true, beq_self_eq_true, Bool.and_true, Bool.true_and, Bool.and_false, Bool.false_and, Bool.and_eq_true, Bool.and_eq_false_iff, beq_iff_eq, beq_eq_false_iff_ne, ne_eq, Bool.not_true, Bool.not_false, Bool.true_eq_false, Bool.false_eq_true, Bool.not_eq_true, Bool.not_eq_false, and_true, true_and, and_false, false_and, or_false, false_or, or_true, true_or] at hb
        simp only [pu', p0', c1', c0', i1', z0']
        refine spickT ?_
        simp only [pu', p0', c1', c0', i1', z0']
        refine smove ?_
        simp only [pu', p0', c1', c0', i1', z0']
        refine smove ?_
        simp only [pu', p0', c1', c0', i1', z0']
        refine smove ?_
        simp only [pu', p0', c1', c0', i1', z0']
        refine sEq (fun hb => ?_) (fun hb => ?_)
        replace hb := dT' hb
        simp only [pu', p0', c1', c0', i1', z0']
        refine spickT ?_
        simp only [pu', p0', c1', c0', i1', z0']
        refine smove ?_
        simp only [pu', p0', c1', c0', i1', z0']
        refine smove ?_
        simp only [pu', p0', c1', c0', i1', z0']
        refine smove ?_
        simp only [pu', p0', c1', c0', i1', z0']
        refine sM (same_yes _ _ _ l (hE1 _) (hS.ext (ext_app _ _)) hlen) ?_
        simp only [pu', p0', c1', c0', i1', z0']
        refine spickT ?_
        simp only [pu', p0', c1', c0', i1', z0']
        refine smove ?_
        simp only [pu', p0', c1', c0', i1', z0']
        refine sK (awake_any) ?_
        simp only [pu', p0', c1', c0', i1', z0']
        refine spickT ?_
        simp only [pu', p0', c1', c0', i1', z0']
        refine sassign ?_
        simp only [pu', p0', c1', c0', i1', z0']
        with_reducible refine s_end ?_
        with_reducible refine s_then ?_
        with_reducible refine s_ret ?_
        rotate_left 1
        replace hb := dF' hb
        exact absurd rfl hb
        simp only [decide_eq_true_eq, Int.toNat_natCast, decide_eq_false_iff_not, Bool.not_eq_true', Bool.not_eq_false', not_true_eq_false, not_false_eq_true, beq_self_eq_true, Bool.and_true, Bool.true_and, Bool.and_false, Bool.false_and, Bool.and_eq_true, Bool.and_eq_false_iff, beq_iff_eq, beq_eq_false_iff_ne, ne_eq, Bool.not_true, Bool.not_false, Bool.true_eq_false, Bool.false_eq_true, Bool.not_eq_true, Bool.not_eq_false, and_true, true_and, and_false, false_and, or_false, false_or, or_true, true_or] at hb
        replace hb := dF' hb
        exact absurd rfl hb
      all_goals try with_reducible refine w_n ?_
      all_goals refine w_1 rfl (by first | exact v_t (by rfl) | exact v_c1 (C1.p) (by rfl) (HA.p) (by rfl) | exact v_cF (CA.p) (by rfl) (HA.p) (by rfl)) ?_
      all_goals rfl
end Go.Proofs.Ytfhbbpdnmdbjbaa
