/-
  A part of the proof of a statement of a chapter's seat; conditions: stated at each theorem.
-/
import Derived.Test.YtfhbbpdnmdbjbaaK6
set_option linter.unusedSimpArgs false
set_option linter.unusedVariables false
set_option linter.unusedSectionVars false
set_option maxRecDepth 100000
set_option maxHeartbeats 4000000
namespace Go.Proofs.Ytfhbbpdnmdbjbaa
open Go.Az Go
def checkE (j d : Int) (l : List Tk) : Int :=
  if jobsE l ≠ 0 then jobsE l else if j < -1 ∨ (l.length : Int) ≤ j then 2 else if j = -1 then (if d = 0 then 0 else 10)
  else if d < 0 ∨ (l.getD j.toNat tk0).u ≤ d then 2 else if (l.getD j.toNat tk0).f = true ∨ (l.getD j.toNat tk0).o = true then 10 else 0
section
variable {j d : Int} {l : List Tk}
theorem ck1 (h : jobsE l ≠ 0) : checkE j d l = jobsE l := by rw [checkE, if_pos h]
theorem ck2 (h : jobsE l = 0) (h1 : j < -1 ∨ (l.length : Int) ≤ j) : checkE j d l = 2 := by rw [checkE, if_neg (by simpa using h), if_pos h1]
theorem ck3 (h : jobsE l = 0) (h1 : ¬ (j < -1 ∨ (l.length : Int) ≤ j)) (h2 : j = -1) (h3 : d = 0) : checkE j d l = 0 := by rw [checkE, if_neg (by simpa using h), if_neg h1, if_pos h2, if_pos h3]
theorem ck4 (h : jobsE l = 0) (h1 : ¬ (j < -1 ∨ (l.length : Int) ≤ j)) (h2 : j = -1) (h3 : d ≠ 0) : checkE j d l = 10 := by rw [checkE, if_neg (by simpa using h), if_neg h1, if_pos h2, if_neg h3]
theorem ck5 (h : jobsE l = 0) (h1 : ¬ (j < -1 ∨ (l.length : Int) ≤ j)) (h2 : j ≠ -1) (h3 : d < 0 ∨ (l.getD j.toNat tk0).u ≤ d) : checkE j d l = 2 := by rw [checkE, if_neg (by simpa using h), if_neg h1, if_neg h2, if_pos h3]
theorem ck6 (h : jobsE l = 0) (h1 : ¬ (j < -1 ∨ (l.length : Int) ≤ j)) (h2 : j ≠ -1) (h3 : ¬ (d < 0 ∨ (l.getD j.toNat tk0).u ≤ d)) (h4 : (l.getD j.toNat tk0).f = true ∨ (l.getD j.toNat tk0).o = true) : checkE j d l = 10 := by rw [checkE, if_neg (by simpa using h), if_neg h1, if_neg h2, if_neg h3, if_pos h4]
theorem ck7 (h : jobsE l = 0) (h1 : ¬ (j < -1 ∨ (l.length : Int) ≤ j)) (h2 : j ≠ -1) (h3 : ¬ (d < 0 ∨ (l.getD j.toNat tk0).u ≤ d)) (h4 : (l.getD j.toNat tk0).f = false) (h5 : (l.getD j.toNat tk0).o = false) : checkE j d l = 0 := by
  rw [checkE, if_neg (by simpa using h), if_neg h1, if_neg h2, if_neg h3, if_neg (by rw [h4, h5]; simp)]
/-- What is known of a worker that is right. -/
theorem ck_ok (h : checkE j d l = 0) : jobsE l = 0 ∧ l.length ≤ 4096 ∧ -1 ≤ j ∧ j < l.length ∧ (j = -1 → d = 0) ∧ (0 ≤ j → 0 ≤ d ∧ d < (l.getD j.toNat tk0).u ∧ (l.getD j.toNat tk0).f = false ∧ (l.getD j.toNat tk0).o = false) := by
  unfold checkE at h
  by_cases h0 : jobsE l = 0
  · rw [if_neg (by simpa using h0)] at h
    have hl : l.length ≤ 4096 := by
      unfold jobsE at h0
      split at h0
      · cases h0
      · omega
    split at h
    · cases h
    · rename_i h1
      split at h
      · rename_i h2
        split at h
        · rename_i h3
          exact ⟨h0, hl, by omega, by omega, fun _ => h3, fun h => by omega⟩
        · cases h
      · rename_i h2
        split at h
        · cases h
        · rename_i h3
          split at h
          · cases h
          · rename_i h4
            refine ⟨h0, hl, by omega, by omega, fun h => absurd h h2, fun _ => ⟨by omega, by omega, ?_, ?_⟩⟩
            · cases hf : (l.getD j.toNat tk0).f
              · rfl
              · exact absurd (.inl hf) h4
            · cases hf : (l.getD j.toNat tk0).o
              · rfl
              · exact absurd (.inr hf) h4
  · rw [if_pos (by simpa using h0)] at h; exact absurd h h0
end
theorem check_any (j d : Int) (h : Hp) (s : AV) (l : List Tk) (hS : TS h s l) (hlen : l.length ≤ 1099511627776) : ACalls Try.prog 19 [WA j d, s] h (fun r h' => r = I (checkE j d l) ∧ h' = h) := by
  refine acalls_back ?_
  refine acalls_of_wk hm Try.func19 rfl ?_
  simp only [Try.ntmps19, List.length_cons, List.length_nil, Nat.reduceAdd, Nat.reduceSub, List.reduceReplicate, List.cons_append, List.nil_append]
  show wk _ _ none _ _ ⟨_, []⟩ _
  have el1 := mkEL encT_ok tk0 hS
  focus
    with_reducible refine s_seq ?_
    with_reducible refine s_reg ?_
    refine sboxA ?_
    simp only [pu', p0', c1', c0', i1', n0', n3', n1', n2', a2', a1', a0', n4', Nat.reduceAdd, z0', n5', sa0, sa1, sa2, sa3, sa4, sa5, sa6, sa7, sa8, sa9, sa10, sa11]
    refine sassign ?_
    simp only [pu', p0', c1', c0', i1', z0']
    with_reducible refine s_end ?_
    with_reducible refine s_then ?_
    with_reducible refine s_seq ?_
    with_reducible refine s_seq ?_
    with_reducible refine s_reg ?_
    refine smove ?_
    simp only [pu', p0', c1', c0', i1', z0']
    refine sM (right_any _ _ _ (hS.ext (ext_app _ _)) hlen) ?_
    simp only [pu', p0', c1', c0', i1', z0']
    refine sassign ?_
    simp only [pu', p0', c1', c0', i1', z0']
    with_reducible refine s_end ?_
    with_reducible refine s_then ?_
    with_reducible refine s_seq ?_
    with_reducible refine s_reg ?_
    refine smove ?_
    simp only [pu', p0', c1', c0', i1', z0']
    refine sNe (fun hb => ?_) (fun hb => ?_)
    replace hb := dT' hb
    simp only [pu', p0', c1', c0', i1', z0']
    with_reducible refine s_end ?_
    with_reducible refine s_then ?_
    refine sCT ?_
    with_reducible refine s_seq ?_
    with_reducible refine s_reg ?_
    refine smove ?_
    simp only [pu', p0', c1', c0', i1', z0']
    refine sassign ?_
    simp only [pu', p0', c1', c0', i1', z0']
    with_reducible refine s_end ?_
    with_reducible refine s_then ?_
    with_reducible refine s_ret ?_
    with_reducible refine s_thenR ?_
    rotate_left 1
    replace hb := dF' hb
    simp only [pu', p0', c1', c0', i1', z0']
    with_reducible refine s_end ?_
    with_reducible refine s_then ?_
    refine sCF ?_
    with_reducible refine s_skip ?_
    with_reducible refine s_then ?_
    with_reducible refine s_seq ?_
    with_reducible refine s_block ?_
    with_reducible refine s_seq ?_
    with_reducible refine s_reg ?_
    refine sfad ?_
    simp only [pu', p0', c1', c0', i1', z0']
    refine sload1 ?_
    simp only [pu', p0', c1', c0', i1', z0']
    refine sLt (fun hb => ?_) (fun hb => ?_)
    replace hb := dT' hb
    simp only [pu', p0', c1', c0', i1', z0']
    refine smove ?_
    simp only [pu', p0', c1', c0', i1', z0']
    refine sN ?_
    simp only [pu', p0', c1', c0', i1', z0']
    refine sN ?_
    simp only [pu', p0', c1', c0', i1', z0']
    refine sN ?_
    simp only [pu', p0', c1', c0', i1', z0']
    refine sN ?_
    simp only [pu', p0', c1', c0', i1', z0']
    refine sN ?_
    simp only [pu', p0', c1', c0', i1', z0']
    refine spickT ?_
    simp only [pu', p0', c1', c0', i1', z0']
    refine sassign ?_
    simp only [pu', p0', c1', c0', i1', z0']
    with_reducible refine s_end ?_
    with_reducible refine s_then ?_
    refine sCT ?_
    with_reducible refine s_seq ?_
    with_reducible refine s_reg ?_
    refine sassign ?_
    simp only [pu', p0', c1', c0', i1', z0']
    with_reducible refine s_end ?_
    with_reducible refine s_then ?_
    with_reducible refine s_ret ?_
    with_reducible refine s_blkR ?_
    with_reducible refine s_thenR ?_
    rotate_left 1
    replace hb := dF' hb
    simp only [pu', p0', c1', c0', i1', z0']
    refine smove ?_
    simp only [pu', p0', c1', c0', i1', z0']
    refine sfad ?_
    simp only [pu', p0', c1', c0', i1', z0']
    refine sload1 ?_
    simp only [pu', p0', c1', c0', i1', z0']
    refine smove ?_
    simp only [pu', p0', c1', c0', i1', z0']
    refine slenE ?_
    simp only [pu', p0', c1', c0', i1', z0']
    refine sGe (fun hb => ?_) (fun hb => ?_)
    replace hb := dT' hb
    simp only [pu', p0', c1', c0', i1', z0']
    refine spickF ?_
    simp only [pu', p0', c1', c0', i1', z0']
    refine sassign ?_
    simp only [pu', p0', c1', c0', i1', z0']
    with_reducible refine s_end ?_
    with_reducible refine s_then ?_
    refine sCT ?_
    with_reducible refine s_seq ?_
    with_reducible refine s_reg ?_
    refine sassign ?_
    simp only [pu', p0', c1', c0', i1', z0']
    with_reducible refine s_end ?_
    with_reducible refine s_then ?_
    with_reducible refine s_ret ?_
    with_reducible refine s_blkR ?_
    with_reducible refine s_thenR ?_
    rotate_left 1
    replace hb := dF' hb
    simp only [pu', p0', c1', c0', i1', z0']
    refine spickF ?_
    simp only [pu', p0', c1', c0', i1', z0']
    refine sassign ?_
    simp only [pu', p0', c1', c0', i1', z0']
    with_reducible refine s_end ?_
    with_reducible refine s_then ?_
    refine sCF ?_
    with_reducible refine s_seq ?_
    (refine s_regQ (id := 6) [(0, true), (1, true), (2, true), (3, true), (4, true), (5, false), (6, true), (7, true), (8, true)] (by kernel_rfl) (by conv => lhs; simp only [pickO, List.getElem?_cons_succ, List.getElem?_cons_zero]) ?_)
    refine qfad ?_
    simp only [pu', p0', c1', c0', i1', z0']
    refine qload1 ?_
    simp only [pu', p0', c1', c0', i1', z0']
    refine qLt (fun hb => ?_) (fun hb => ?_)
    replace hb := dT' hb
    simp only [pu', p0', c1', c0', i1', z0']
    refine qmove ?_
    simp only [pu', p0', c1', c0', i1', z0']
    refine qloadW ?_
    simp only [pu', p0', c1', c0', i1', z0']
    refine qK (idle_any) ?_
    simp only [pu', p0', c1', c0', i1', z0']
    refine qbn (fun hb => ?_) (fun hb => ?_)
    simp only [decide_eq_true_eq, Int.toNat_natCast, decide_eq_false_iff_not, Bool.not_eq_true', Bool.not_eq_false', not_true_eq_false, not_false_eq_true, beq_self_eq_true, Bool.and_true, Bool.true_and, Bool.and_false, Bool.false_and, Bool.and_eq_true, Bool.and_eq_false_iff, beq_iff_eq, beq_eq_false_iff_ne, ne_eq, Bool.not_true, Bool.not_false, Bool.true_eq_false, Bool.false_eq_true, Bool.not_eq_true, Bool.not_eq_false, and_true, true_and, and_false, false_and, or_false, false_or, or_true, true_or] at hb
    simp only [pu', p0', c1', c0', i1', z0']
    refine qpickT ?_
    simp only [pu', p0', c1', c0', i1', z0']
    refine qassign ?_
    simp only [pu', p0', c1', c0', i1', z0']
    with_reducible refine q_end ?_
    with_reducible refine s_then ?_
    refine sCT ?_
    with_reducible refine s_seq ?_
    with_reducible refine s_reg ?_
    refine sassign ?_
    simp only [pu', p0', c1', c0', i1', z0']
    with_reducible refine s_end ?_
    with_reducible refine s_then ?_
    with_reducible refine s_ret ?_
    with_reducible refine s_blkR ?_
    with_reducible refine s_thenR ?_
    rotate_left 1
    simp only [decide_eq_true_eq, Int.toNat_natCast, decide_eq_false_iff_not, Bool.not_eq_true', Bool.not_eq_false', not_true_eq_false, not_false_eq_true, beq_self_eq_true, Bool.and_true, Bool.true_and, Bool.and_false, Bool.false_and, Bool.and_eq_true, Bool.and_eq_false_iff, beq_iff_eq, beq_eq_false_iff_ne, ne_eq, Bool.not_true, Bool.not_false, Bool.true_eq_false, Bool.false_eq_true, Bool.not_eq_true, Bool.not_eq_false, and_true, true_and, and_false, false_and, or_false, false_or, or_true, true_or] at hb
    simp only [pu', p0', c1', c0', i1', z0']
    refine qpickT ?_
    simp only [pu', p0', c1', c0', i1', z0']
    refine qassign ?_
    simp only [pu', p0', c1', c0', i1', z0']
    with_reducible refine q_end ?_
    with_reducible refine s_then ?_
    refine sCF ?_
    with_reducible refine s_seq ?_
    with_reducible refine s_reg ?_
    refine sfad ?_
    simp only [pu', p0', c1', c0', i1', z0']
    refine sload1 ?_
    simp only [pu', p0', c1', c0', i1', z0']
    refine sLt (fun hb => ?_) (fun hb => ?_)
    replace hb := dT' hb
    simp only [pu', p0', c1', c0', i1', z0']
    refine sassign ?_
    simp only [pu', p0', c1', c0', i1', z0']
    with_reducible refine s_end ?_
    with_reducible refine s_then ?_
    refine sCT ?_
    with_reducible refine s_seq ?_
    with_reducible refine s_reg ?_
    refine sassign ?_
    simp only [pu', p0', c1', c0', i1', z0']
    with_reducible refine s_end ?_
    with_reducible refine s_then ?_
    with_reducible refine s_ret ?_
    with_reducible refine s_blkR ?_
    with_reducible refine s_thenR ?_
    rotate_left 1
    replace hb := dF' hb
    exact absurd (by with_reducible assumption) hb
    replace hb := dF' hb
    simp only [pu', p0', c1', c0', i1', z0']
    refine qmove ?_
    simp only [pu', p0', c1', c0', i1', z0']
    refine qN ?_
    simp only [pu', p0', c1', c0', i1', z0']
    refine qN ?_
    simp only [pu', p0', c1', c0', i1', z0']
    refine qN ?_
    simp only [pu', p0', c1', c0', i1', z0']
    refine qpickF ?_
    simp only [pu', p0', c1', c0', i1', z0']
    refine qassign ?_
    simp only [pu', p0', c1', c0', i1', z0']
    with_reducible refine q_end ?_
    with_reducible refine s_then ?_
    refine sCF ?_
    with_reducible refine s_seq ?_
    with_reducible refine s_reg ?_
    refine sfad ?_
    simp only [pu', p0', c1', c0', i1', z0']
    refine sload1 ?_
    simp only [pu', p0', c1', c0', i1', z0']
    refine sLt (fun hb => ?_) (fun hb => ?_)
    replace hb := dT' hb
    (exfalso; omega)
    replace hb := dF' hb
    simp only [pu', p0', c1', c0', i1', z0']
    refine sassign ?_
    simp only [pu', p0', c1', c0', i1', z0']
    with_reducible refine s_end ?_
    with_reducible refine s_then ?_
    refine sCF ?_
    with_reducible refine s_skip ?_
    with_reducible refine s_blkN ?_
    with_reducible refine s_then ?_
    with_reducible refine s_seq ?_
    with_reducible refine s_seq ?_
    with_reducible refine s_reg ?_
    refine smove ?_
    simp only [pu', p0', c1', c0', i1', z0']
    refine sfad ?_
    simp only [pu', p0', c1', c0', i1', z0']
    refine sload1 ?_
    simp only [pu', p0', c1', c0', i1', z0']
    refine sidxE ?_
    simp only [pu', p0', c1', c0', i1', z0']
    refine sloadE ?_
    simp only [pu', p0', c1', c0', i1', z0']
    refine salloc ?_
    simp only [pu', p0', c1', c0', i1', n0', n3', n1', n2', a2', a1', a0', n4', Nat.reduceAdd, z0', n5', sa0, sa1, sa2, sa3, sa4, sa5, sa6, sa7, sa8, sa9, sa10, sa11]
    refine sstoreF ?_
    simp only [pu', p0', c1', c0', i1', n0', n3', n1', n2', a2', a1', a0', n4', Nat.reduceAdd, z0', n5', sa0, sa1, sa2, sa3, sa4, sa5, sa6, sa7, sa8, sa9, sa10, sa11]
    with_reducible refine s_end ?_
    with_reducible refine s_then ?_
    with_reducible refine s_block ?_
    with_reducible refine s_seq ?_
    with_reducible refine s_reg ?_
    refine sfad ?_
    simp only [pu', p0', c1', c0', i1', z0']
    refine sload1 ?_
    simp only [pu', p0', c1', c0', i1', z0']
    refine sLt (fun hb => ?_) (fun hb => ?_)
    replace hb := dT' hb
    simp only [pu', p0', c1', c0', i1', z0']
    refine smove ?_
    simp only [pu', p0', c1', c0', i1', z0']
    refine sN ?_
    simp only [pu', p0', c1', c0', i1', z0']
    refine sN ?_
    simp only [pu', p0', c1', c0', i1', z0']
    refine sN ?_
    simp only [pu', p0', c1', c0', i1', z0']
    refine sN ?_
    simp only [pu', p0', c1', c0', i1', z0']
    refine sN ?_
    simp only [pu', p0', c1', c0', i1', z0']
    refine spickT ?_
    simp only [pu', p0', c1', c0', i1', z0']
    refine sassign ?_
    simp only [pu', p0', c1', c0', i1', z0']
    with_reducible refine s_end ?_
    with_reducible refine s_then ?_
    refine sCT ?_
    with_reducible refine s_seq ?_
    with_reducible refine s_reg ?_
    refine sassign ?_
    simp only [pu', p0', c1', c0', i1', z0']
    with_reducible refine s_end ?_
    with_reducible refine s_then ?_
    with_reducible refine s_ret ?_
    with_reducible refine s_blkR ?_
    with_reducible refine s_thenR ?_
    rotate_left 1
    replace hb := dF' hb
    simp only [pu', p0', c1', c0', i1', z0']
    refine smove ?_
    simp only [pu', p0', c1', c0', i1', z0']
    refine sfad ?_
    simp only [pu', p0', c1', c0', i1', z0']
    refine sload1 ?_
    simp only [pu', p0', c1', c0', i1', z0']
    refine sfad ?_
    simp only [pu', p0', c1', c0', i1', z0']
    refine sload1 ?_
    simp only [pu', p0', c1', c0', i1', z0']
    refine sGe (fun hb => ?_) (fun hb => ?_)
    replace hb := dT' hb
    simp only [pu', p0', c1', c0', i1', z0']
    refine spickF ?_
    simp only [pu', p0', c1', c0', i1', z0']
    refine sassign ?_
    simp only [pu', p0', c1', c0', i1', z0']
    with_reducible refine s_end ?_
    with_reducible refine s_then ?_
    refine sCT ?_
    with_reducible refine s_seq ?_
    with_reducible refine s_reg ?_
    refine sassign ?_
    simp only [pu', p0', c1', c0', i1', z0']
    with_reducible refine s_end ?_
    with_reducible refine s_then ?_
    with_reducible refine s_ret ?_
    with_reducible refine s_blkR ?_
    with_reducible refine s_thenR ?_
    rotate_left 1
    replace hb := dF' hb
    simp only [pu', p0', c1', c0', i1', z0']
    refine spickF ?_
    simp only [pu', p0', c1', c0', i1', z0']
    refine sassign ?_
    simp only [pu', p0', c1', c0', i1', z0']
    with_reducible refine s_end ?_
    with_reducible refine s_then ?_
    refine sCF ?_
    with_reducible refine s_seq ?_
    with_reducible refine s_reg ?_
    refine sfad ?_
    simp only [pu', p0', c1', c0', i1', z0']
    refine sloadB1 (fun hb => ?_) (fun hb => ?_)
    simp only [pu', p0', c1', c0', i1', z0']
    refine smove ?_
    simp only [pu', p0', c1', c0', i1', z0']
    refine sN ?_
    simp only [pu', p0', c1', c0', i1', z0']
    refine sN ?_
    simp only [pu', p0', c1', c0', i1', z0']
    refine spickT ?_
    simp only [pu', p0', c1', c0', i1', z0']
    refine sassign ?_
    simp only [pu', p0', c1', c0', i1', z0']
    with_reducible refine s_end ?_
    with_reducible refine s_then ?_
    refine sCT ?_
    with_reducible refine s_seq ?_
    with_reducible refine s_reg ?_
    refine sassign ?_
    simp only [pu', p0', c1', c0', i1', z0']
    with_reducible refine s_end ?_
    with_reducible refine s_then ?_
    with_reducible refine s_ret ?_
    with_reducible refine s_blkR ?_
    with_reducible refine s_thenR ?_
    rotate_left 1
    simp only [pu', p0', c1', c0', i1', z0']
    refine smove ?_
    simp only [pu', p0', c1', c0', i1', z0']
    refine sfad ?_
    simp only [pu', p0', c1', c0', i1', z0']
    refine sloadB1 (fun hb => ?_) (fun hb => ?_)
    simp only [pu', p0', c1', c0', i1', z0']
    refine spickF ?_
    simp only [pu', p0', c1', c0', i1', z0']
    refine sassign ?_
    simp only [pu', p0', c1', c0', i1', z0']
    with_reducible refine s_end ?_
    with_reducible refine s_then ?_
    refine sCT ?_
    with_reducible refine s_seq ?_
    with_reducible refine s_reg ?_
    refine sassign ?_
    simp only [pu', p0', c1', c0', i1', z0']
    with_reducible refine s_end ?_
    with_reducible refine s_then ?_
    with_reducible refine s_ret ?_
    with_reducible refine s_blkR ?_
    with_reducible refine s_thenR ?_
    rotate_left 1
    simp only [pu', p0', c1', c0', i1', z0']
    refine spickF ?_
    simp only [pu', p0', c1', c0', i1', z0']
    refine sassign ?_
    simp only [pu', p0', c1', c0', i1', z0']
    with_reducible refine s_end ?_
    with_reducible refine s_then ?_
    refine sCF ?_
    with_reducible refine s_skip ?_
    with_reducible refine s_blkN ?_
    with_reducible refine s_then ?_
    with_reducible refine s_seq ?_
    with_reducible refine s_reg ?_
    refine sassign ?_
    simp only [pu', p0', c1', c0', i1', z0']
    with_reducible refine s_end ?_
    with_reducible refine s_then ?_
    with_reducible refine s_ret ?_
    rotate_left 1
  all_goals
    ((try with_reducible refine w_n ?_); refine w_1 rfl (by first | exact v_t (by rfl) | exact v_c1 (C1.p) (by rfl) (HA.p) (by rfl) | exact v_cF (CA.p) (by rfl) (HA.p) (by rfl)) ?_)
    refine ⟨rfl, ext_app _ _, ?_, trivial⟩
    first
      | rw [ck1 (by omega)]; done
      | rw [ck2 (by omega) (by omega)]; done
      | rw [ck3 (by omega) (by omega) (by omega) (by omega)]; done
      | rw [ck4 (by omega) (by omega) (by omega) (by omega)]; done
      | rw [ck5 (by omega) (by omega) (by omega) (by omega)]; done
      | rw [ck6 (by omega) (by omega) (by omega) (by omega) (.inl (by assumption))]; done
      | rw [ck6 (by omega) (by omega) (by omega) (by omega) (.inr (by assumption))]; done
      | rw [ck7 (by omega) (by omega) (by omega) (by omega) (by assumption) (by assumption)]; done
theorem rcheck_any (j d : Int) (h : Hp) (s : AV) (l : List Tk) (hS : TS h s l) (hlen : l.length ≤ 1099511627776) : ACalls Try.prog 20 [WA j d, s] h (fun r h' => r = I (checkE j d l) ∧ h' = h) := by
  refine acalls_back ?_
  refine acalls_of_wk hm Try.func20 rfl ?_
  simp only [Try.ntmps20, List.length_cons, List.length_nil, Nat.reduceAdd, Nat.reduceSub, List.reduceReplicate, List.cons_append, List.nil_append]
  show wk _ _ none _ _ ⟨_, []⟩ _
  have el2 := mkEL encT_ok tk0 hS
  focus
    with_reducible refine s_seq ?_
    with_reducible refine s_reg ?_
    refine sboxA ?_
    simp only [pu', p0', c1', c0', i1', n0', n3', n1', n2', a2', a1', a0', n4', Nat.reduceAdd, z0', n5', sa0, sa1, sa2, sa3, sa4, sa5, sa6, sa7, sa8, sa9, sa10, sa11]
    refine sassign ?_
    simp only [pu', p0', c1', c0', i1', z0']
    with_reducible refine s_end ?_
    with_reducible refine s_then ?_
    with_reducible refine s_seq ?_
    with_reducible refine s_reg ?_
    refine smove ?_
    simp only [pu', p0', c1', c0', i1', z0']
    refine sM (jobs_any _ _ _ (hS.ext (ext_app _ _)) hlen) ?_
    simp only [pu', p0', c1', c0', i1', z0']
    refine sassign ?_
    simp only [pu', p0', c1', c0', i1', z0']
    with_reducible refine s_end ?_
    with_reducible refine s_then ?_
    with_reducible refine s_seq ?_
    with_reducible refine s_seq ?_
    with_reducible refine s_reg ?_
    refine smove ?_
    simp only [pu', p0', c1', c0', i1', z0']
    refine sNe (fun hb => ?_) (fun hb => ?_)
    replace hb := dT' hb
    simp only [pu', p0', c1', c0', i1', z0']
    with_reducible refine s_end ?_
    with_reducible refine s_then ?_
    refine sCT ?_
    with_reducible refine s_seq ?_
    with_reducible refine s_reg ?_
    refine smove ?_
    simp only [pu', p0', c1', c0', i1', z0']
    refine sassign ?_
    simp only [pu', p0', c1', c0', i1', z0']
    with_reducible refine s_end ?_
    with_reducible refine s_then ?_
    with_reducible refine s_ret ?_
    with_reducible refine s_thenR ?_
    rotate_left 1
    replace hb := dF' hb
    simp only [pu', p0', c1', c0', i1', z0']
    with_reducible refine s_end ?_
    with_reducible refine s_then ?_
    refine sCF ?_
    with_reducible refine s_skip ?_
    with_reducible refine s_then ?_
    with_reducible refine s_seq ?_
    with_reducible refine s_seq ?_
    with_reducible refine s_reg ?_
    refine sfad ?_
    simp only [pu', p0', c1', c0', i1', z0']
    refine sload1 ?_
    simp only [pu', p0', c1', c0', i1', z0']
    refine sLt (fun hb => ?_) (fun hb => ?_)
    replace hb := dT' hb
    simp only [pu', p0', c1', c0', i1', z0']
    refine smove ?_
    simp only [pu', p0', c1', c0', i1', z0']
    refine sN ?_
    simp only [pu', p0', c1', c0', i1', z0']
    refine sN ?_
    simp only [pu', p0', c1', c0', i1', z0']
    refine sN ?_
    simp only [pu', p0', c1', c0', i1', z0']
    refine sN ?_
    simp only [pu', p0', c1', c0', i1', z0']
    refine sN ?_
    simp only [pu', p0', c1', c0', i1', z0']
    refine spickT ?_
    simp only [pu', p0', c1', c0', i1', z0']
    with_reducible refine s_end ?_
    with_reducible refine s_then ?_
    refine sCT ?_
    with_reducible refine s_seq ?_
    with_reducible refine s_reg ?_
    refine sassign ?_
    simp only [pu', p0', c1', c0', i1', z0']
    with_reducible refine s_end ?_
    with_reducible refine s_then ?_
    with_reducible refine s_ret ?_
    with_reducible refine s_thenR ?_
    rotate_left 1
    replace hb := dF' hb
    simp only [pu', p0', c1', c0', i1', z0']
    refine smove ?_
    simp only [pu', p0', c1', c0', i1', z0']
    refine sfad ?_
    simp only [pu', p0', c1', c0', i1', z0']
    refine sload1 ?_
    simp only [pu', p0', c1', c0', i1', z0']
    refine smove ?_
    simp only [pu', p0', c1', c0', i1', z0']
    refine slenE ?_
    simp only [pu', p0', c1', c0', i1', z0']
    refine sGe (fun hb => ?_) (fun hb => ?_)
    replace hb := dT' hb
    simp only [pu', p0', c1', c0', i1', z0']
    refine spickF ?_
    simp only [pu', p0', c1', c0', i1', z0']
    with_reducible refine s_end ?_
    with_reducible refine s_then ?_
    refine sCT ?_
    with_reducible refine s_seq ?_
    with_reducible refine s_reg ?_
    refine sassign ?_
    simp only [pu', p0', c1', c0', i1', z0']
    with_reducible refine s_end ?_
    with_reducible refine s_then ?_
    with_reducible refine s_ret ?_
    with_reducible refine s_thenR ?_
    rotate_left 1
    replace hb := dF' hb
    simp only [pu', p0', c1', c0', i1', z0']
    refine spickF ?_
    simp only [pu', p0', c1', c0', i1', z0']
    with_reducible refine s_end ?_
    with_reducible refine s_then ?_
    refine sCF ?_
    with_reducible refine s_skip ?_
    with_reducible refine s_then ?_
    with_reducible refine s_seq ?_
    with_reducible refine s_seq ?_
    with_reducible refine s_reg ?_
    refine sfad ?_
    simp only [pu', p0', c1', c0', i1', z0']
    refine sload1 ?_
    simp only [pu', p0', c1', c0', i1', z0']
    refine sEq (fun hb => ?_) (fun hb => ?_)
    replace hb := dT' hb
    simp only [pu', p0', c1', c0', i1', z0']
    with_reducible refine s_end ?_
    with_reducible refine s_then ?_
    refine sCT ?_
    with_reducible refine s_seq ?_
    with_reducible refine s_seq ?_
    with_reducible refine s_reg ?_
    refine sfad ?_
    simp only [pu', p0', c1', c0', i1', z0']
    refine sload1 ?_
    simp only [pu', p0', c1', c0', i1', z0']
    refine sNe (fun hb => ?_) (fun hb => ?_)
    replace hb := dT' hb
    simp only [pu', p0', c1', c0', i1', z0']
    with_reducible refine s_end ?_
    with_reducible refine s_then ?_
    refine sCT ?_
    with_reducible refine s_seq ?_
    with_reducible refine s_reg ?_
    refine sassign ?_
    simp only [pu', p0', c1', c0', i1', z0']
    with_reducible refine s_end ?_
    with_reducible refine s_then ?_
    with_reducible refine s_ret ?_
    with_reducible refine s_thenR ?_
    with_reducible refine s_thenR ?_
    rotate_left 1
    replace hb := dF' hb
    simp only [pu', p0', c1', c0', i1', z0']
    with_reducible refine s_end ?_
    with_reducible refine s_then ?_
    refine sCF ?_
    with_reducible refine s_skip ?_
    with_reducible refine s_then ?_
    with_reducible refine s_seq ?_
    with_reducible refine s_reg ?_
    refine sassign ?_
    simp only [pu', p0', c1', c0', i1', z0']
    with_reducible refine s_end ?_
    with_reducible refine s_then ?_
    with_reducible refine s_ret ?_
    with_reducible refine s_thenR ?_
    rotate_left 1
    replace hb := dF' hb
    simp only [pu', p0', c1', c0', i1', z0']
    with_reducible refine s_end ?_
    with_reducible refine s_then ?_
    refine sCF ?_
    with_reducible refine s_skip ?_
    with_reducible refine s_then ?_
    with_reducible refine s_seq ?_
    with_reducible refine s_block ?_
    with_reducible refine s_seq ?_
    (refine s_regQ (id := 10) [(0, true), (1, true), (2, true), (3, true), (4, true), (5, true), (6, true), (7, true), (8, true), (9, true), (10, true), (11, true), (12, true), (13, true), (14, true)] (by kernel_rfl) (by conv => lhs; simp only [pickO, List.getElem?_cons_succ, List.getElem?_cons_zero]) ?_)
    refine qfad ?_
    simp only [pu', p0', c1', c0', i1', z0']
    refine qload1 ?_
    simp only [pu', p0', c1', c0', i1', z0']
    refine qLt (fun hb => ?_) (fun hb => ?_)
    replace hb := dT' hb
    simp only [pu', p0', c1', c0', i1', z0']
    refine qmove ?_
    simp only [pu', p0', c1', c0', i1', z0']
    refine qN ?_
    simp only [pu', p0', c1', c0', i1', z0']
    refine qN ?_
    simp only [pu', p0', c1', c0', i1', z0']
    refine qN ?_
    simp only [pu', p0', c1', c0', i1', z0']
    refine qN ?_
    simp only [pu', p0', c1', c0', i1', z0']
    refine qN ?_
    simp only [pu', p0', c1', c0', i1', z0']
    refine qN ?_
    simp only [pu', p0', c1', c0', i1', z0']
    refine qN ?_
    simp only [pu', p0', c1', c0', i1', z0']
    refine qN ?_
    simp only [pu', p0', c1', c0', i1', z0']
    refine qN ?_
    simp only [pu', p0', c1', c0', i1', z0']
    refine qpickT ?_
    simp only [pu', p0', c1', c0', i1', z0']
    refine qassign ?_
    simp only [pu', p0', c1', c0', i1', z0']
    with_reducible refine q_end ?_
    with_reducible refine s_then ?_
    refine sCT ?_
    with_reducible refine s_seq ?_
    with_reducible refine s_reg ?_
    refine sassign ?_
    simp only [pu', p0', c1', c0', i1', z0']
    with_reducible refine s_end ?_
    with_reducible refine s_then ?_
    with_reducible refine s_ret ?_
    with_reducible refine s_blkR ?_
    with_reducible refine s_thenR ?_
    rotate_left 1
    replace hb := dF' hb
    simp only [pu', p0', c1', c0', i1', z0']
    refine qmove ?_
    simp only [pu', p0', c1', c0', i1', z0']
    refine qfad ?_
    simp only [pu', p0', c1', c0', i1', z0']
    refine qload1 ?_
    simp only [pu', p0', c1', c0', i1', z0']
    refine qmove ?_
    simp only [pu', p0', c1', c0', i1', z0']
    refine qfad ?_
    simp only [pu', p0', c1', c0', i1', z0']
    refine qload1 ?_
    simp only [pu', p0', c1', c0', i1', z0']
    refine qidxE ?_
    simp only [pu', p0', c1', c0', i1', z0']
    refine qfadE ?_
    simp only [pu', p0', c1', c0', i1', z0']
    refine qloadF ?_
    simp only [pu', p0', c1', c0', i1', z0']
    refine qGe (fun hb => ?_) (fun hb => ?_)
    replace hb := dT' hb
    simp only [pu', p0', c1', c0', i1', z0']
    refine qpickF ?_
    simp only [pu', p0', c1', c0', i1', z0']
    refine qassign ?_
    simp only [pu', p0', c1', c0', i1', z0']
    with_reducible refine q_end ?_
    with_reducible refine s_then ?_
    refine sCT ?_
    with_reducible refine s_seq ?_
    with_reducible refine s_reg ?_
    refine sassign ?_
    simp only [pu', p0', c1', c0', i1', z0']
    with_reducible refine s_end ?_
    with_reducible refine s_then ?_
    with_reducible refine s_ret ?_
    with_reducible refine s_blkR ?_
    with_reducible refine s_thenR ?_
    rotate_left 1
    replace hb := dF' hb
    simp only [pu', p0', c1', c0', i1', z0']
    refine qpickF ?_
    simp only [pu', p0', c1', c0', i1', z0']
    refine qassign ?_
    simp only [pu', p0', c1', c0', i1', z0']
    with_reducible refine q_end ?_
    with_reducible refine s_then ?_
    refine sCF ?_
    with_reducible refine s_seq ?_
    with_reducible refine s_reg ?_
    refine smove ?_
    simp only [pu', p0', c1', c0', i1', z0']
    refine sfad ?_
    simp only [pu', p0', c1', c0', i1', z0']
    refine sload1 ?_
    simp only [pu', p0', c1', c0', i1', z0']
    refine sidxE ?_
    simp only [pu', p0', c1', c0', i1', z0']
    refine sfadE ?_
    simp only [pu', p0', c1', c0', i1', z0']
    refine sloadBF (fun hb => ?_) (fun hb => ?_)
    simp only [pu', p0', c1', c0', i1', z0']
    refine smove ?_
    simp only [pu', p0', c1', c0', i1', z0']
    refine sN ?_
    simp only [pu', p0', c1', c0', i1', z0']
    refine sN ?_
    simp only [pu', p0', c1', c0', i1', z0']
    refine sN ?_
    simp only [pu', p0', c1', c0', i1', z0']
    refine sN ?_
    simp only [pu', p0', c1', c0', i1', z0']
    refine sN ?_
    simp only [pu', p0', c1', c0', i1', z0']
    refine sN ?_
    simp only [pu', p0', c1', c0', i1', z0']
    refine spickT ?_
    simp only [pu', p0', c1', c0', i1', z0']
    refine sassign ?_
    simp only [pu', p0', c1', c0', i1', z0']
    with_reducible refine s_end ?_
    with_reducible refine s_then ?_
    refine sCT ?_
    with_reducible refine s_seq ?_
    with_reducible refine s_reg ?_
    refine sassign ?_
    simp only [pu', p0', c1', c0', i1', z0']
    with_reducible refine s_end ?_
    with_reducible refine s_then ?_
    with_reducible refine s_ret ?_
    with_reducible refine s_blkR ?_
    with_reducible refine s_thenR ?_
    rotate_left 1
    simp only [pu', p0', c1', c0', i1', z0']
    refine smove ?_
    simp only [pu', p0', c1', c0', i1', z0']
    refine smove ?_
    simp only [pu', p0', c1', c0', i1', z0']
    refine sfad ?_
    simp only [pu', p0', c1', c0', i1', z0']
    refine sload1 ?_
    simp only [pu', p0', c1', c0', i1', z0']
    refine sidxE ?_
    simp only [pu', p0', c1', c0', i1', z0']
    refine sfadE ?_
    simp only [pu', p0', c1', c0', i1', z0']
    refine sloadBF (fun hb => ?_) (fun hb => ?_)
    simp only [pu', p0', c1', c0', i1', z0']
    refine spickF ?_
    simp only [pu', p0', c1', c0', i1', z0']
    refine sassign ?_
    simp only [pu', p0', c1', c0', i1', z0']
    with_reducible refine s_end ?_
    with_reducible refine s_then ?_
    refine sCT ?_
    with_reducible refine s_seq ?_
    with_reducible refine s_reg ?_
    refine sassign ?_
    simp only [pu', p0', c1', c0', i1', z0']
    with_reducible refine s_end ?_
    with_reducible refine s_then ?_
    with_reducible refine s_ret ?_
    with_reducible refine s_blkR ?_
    with_reducible refine s_thenR ?_
    rotate_left 1
    simp only [pu', p0', c1', c0', i1', z0']
    refine spickF ?_
    simp only [pu', p0', c1', c0', i1', z0']
    refine sassign ?_
    simp only [pu', p0', c1', c0', i1', z0']
    with_reducible refine s_end ?_
    with_reducible refine s_then ?_
    refine sCF ?_
    with_reducible refine s_skip ?_
    with_reducible refine s_blkN ?_
    with_reducible refine s_then ?_
    with_reducible refine s_seq ?_
    with_reducible refine s_reg ?_
    refine sassign ?_
    simp only [pu', p0', c1', c0', i1', z0']
    with_reducible refine s_end ?_
    with_reducible refine s_then ?_
    with_reducible refine s_ret ?_
    rotate_left 1
  all_goals
    ((try with_reducible refine w_n ?_); refine w_1 rfl (by first | exact v_t (by rfl) | exact v_c1 (C1.p) (by rfl) (HA.p) (by rfl) | exact v_cF (CA.p) (by rfl) (HA.p) (by rfl)) ?_)
    refine ⟨rfl, ext_app _ _, ?_, trivial⟩
    first
      | rw [ck1 (by omega)]; done
      | rw [ck2 (by omega) (by omega)]; done
      | rw [ck3 (by omega) (by omega) (by omega) (by omega)]; done
      | rw [ck4 (by omega) (by omega) (by omega) (by omega)]; done
      | rw [ck5 (by omega) (by omega) (by omega) (by omega)]; done
      | rw [ck6 (by omega) (by omega) (by omega) (by omega) (.inl (by assumption))]; done
      | rw [ck6 (by omega) (by omega) (by omega) (by omega) (.inr (by assumption))]; done
      | rw [ck7 (by omega) (by omega) (by omega) (by omega) (by assumption) (by assumption)]; done
end Go.Proofs.Ytfhbbpdnmdbjbaa
