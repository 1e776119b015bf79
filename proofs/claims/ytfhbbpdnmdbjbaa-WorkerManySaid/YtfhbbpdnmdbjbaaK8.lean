/-
  A part of the proof of a statement of a chapter's seat; conditions: stated at each theorem.
-/
import Derived.Test.YtfhbbpdnmdbjbaaK7
set_option linter.unusedSimpArgs false
set_option linter.unusedVariables false
set_option linter.unusedSectionVars false
set_option maxRecDepth 100000
set_option maxHeartbeats 4000000
namespace Go.Proofs.Ytfhbbpdnmdbjbaa
open Go.Az Go
def busyR (j d : Int) (l : List Tk) : AV := if checkE j d l ≠ 0 then .tup [B false, I (checkE j d l)] else .tup [B (decide (0 ≤ j ∨ 0 ≤ fr l 0)), I 0]
theorem busy1 {j d : Int} {l : List Tk} (h : checkE j d l ≠ 0) : busyR j d l = .tup [B false, I (checkE j d l)] := if_pos h
theorem busy2 {j d : Int} {l : List Tk} (h : checkE j d l = 0) (h1 : 0 ≤ j ∨ 0 ≤ fr l 0) : busyR j d l = .tup [B true, I 0] := by rw [busyR, if_neg (by simpa using h), decide_eq_true h1]
theorem busy3 {j d : Int} {l : List Tk} (h : checkE j d l = 0) (h1 : ¬ (0 ≤ j ∨ 0 ≤ fr l 0)) : busyR j d l = .tup [B false, I 0] := by rw [busyR, if_neg (by simpa using h), decide_eq_false h1]
def leftR (j d : Int) (l : List Tk) : AV := if checkE j d l ≠ 0 then .tup [I 0, I (checkE j d l)] else if j = -1 then .tup [I 0, I 0] else .tup [I ((l.getD j.toNat tk0).u - d), I 0]
theorem left1 {j d : Int} {l : List Tk} (h : checkE j d l ≠ 0) : leftR j d l = .tup [I 0, I (checkE j d l)] := if_pos h
theorem left2 {j d : Int} {l : List Tk} (h : checkE j d l = 0) (h1 : j = -1) : leftR j d l = .tup [I 0, I 0] := by rw [leftR, if_neg (by simpa using h), if_pos h1]
theorem left2' {j d : Int} {l : List Tk} (h : checkE j d l = 0) (h1 : j = -1) : leftR j d l = .tup [I 0, I (checkE j d l)] := by rw [left2 h h1, h]
theorem left3 {j d : Int} {l : List Tk} (h : checkE j d l = 0) (h1 : j ≠ -1) : leftR j d l = .tup [I ((l.getD j.toNat tk0).u - d), I 0] := by rw [leftR, if_neg (by simpa using h), if_neg h1]
def nextR (l : List Tk) : AV := if jobsE l ≠ 0 then .tup [I 0, B false, I (jobsE l)] else if fr l 0 < 0 then .tup [I 0, B false, I 0] else .tup [I (fr l 0), B true, I 0]
theorem next1 {l : List Tk} (h : jobsE l ≠ 0) : nextR l = .tup [I 0, B false, I (jobsE l)] := if_pos h
theorem next2 {l : List Tk} (h : jobsE l = 0) (h1 : fr l 0 < 0) : nextR l = .tup [I 0, B false, I 0] := by rw [nextR, if_neg (by simpa using h), if_pos h1]
theorem next2' {l : List Tk} (h1 : fr l 0 < 0) : nextR l = .tup [I 0, B false, I (jobsE l)] := by
  by_cases h : jobsE l = 0
  · rw [next2 h h1, h]
  · rw [next1 h]
theorem next3 {l : List Tk} (h : jobsE l = 0) (h1 : ¬ fr l 0 < 0) : nextR l = .tup [I (fr l 0), B true, I 0] := by rw [nextR, if_neg (by simpa using h), if_neg h1]
theorem errs_rng : ∀ (l : List Tk), errs l = 0 → ∀ n, n < l.length → 1 ≤ (l.getD n tk0).u ∧ (l.getD n tk0).u ≤ 1099511627776 ∧ 0 ≤ (l.getD n tk0).a ∧ (l.getD n tk0).a ≤ 1099511627776
  | [], _, n, hn => by simp at hn
  | t :: r, h, n, hn => by
    unfold errs at h
    split at h
    · rename_i h0
      cases n with
      | succ n => exact errs_rng r h n (by simpa using hn)
      | zero =>
        unfold errT at h0
        split at h0
        · cases h0
        · simp only [List.getD_cons_zero]; omega
    · contradiction
theorem jobs_rng {l : List Tk} (h : jobsE l = 0) (n : Nat) (hn : n < l.length) : 1 ≤ (l.getD n tk0).u ∧ (l.getD n tk0).u ≤ 1099511627776 := by
  unfold jobsE at h
  split at h
  · cases h
  · have := errs_rng l h n hn; exact ⟨this.1, this.2.1⟩
theorem jobs_rngA {l : List Tk} (h : jobsE l = 0) (n : Nat) (hn : n < l.length) : 0 ≤ (l.getD n tk0).a ∧ (l.getD n tk0).a ≤ 1099511627776 := by
  unfold jobsE at h
  split at h
  · cases h
  · have := errs_rng l h n hn; exact this.2.2
section
variable (j d : Int) (h : Hp) (s : AV) (l : List Tk) (hS : TS h s l) (hlen : l.length ≤ 1099511627776)
include hS hlen
theorem ckE_rng : checkE j d l = 0 → -1 ≤ j ∧ j < l.length ∧ (j ≠ -1 → 0 ≤ d ∧ d < (l.getD j.toNat tk0).u) ∧ (l.getD j.toNat tk0).u ≤ (l.getD j.toNat tk0).u := fun h => by
  have := ck_ok h
  exact ⟨this.2.2.1, this.2.2.2.1, fun h2 => by have := this.2.2.2.2.2 (by omega); exact ⟨this.1, this.2.1⟩, Int.le_refl _⟩
theorem busy_any : ACalls Try.prog 21 [WA j d, s] h (fun r h' => r = busyR j d l ∧ h' = h) := by
  refine acalls_back ?_
  refine acalls_of_wk hm Try.func21 rfl ?_
  simp only [Try.ntmps21, List.length_cons, List.length_nil, Nat.reduceAdd, Nat.reduceSub, List.reduceReplicate, List.cons_append, List.nil_append]
  show wk _ _ none _ _ ⟨_, []⟩ _
  have el1 := mkEL encT_ok tk0 hS
  focus
    with_reducible refine s_seq ?_
    with_reducible refine s_reg ?_
    refine sboxA ?_
    simp only [pu', p0', c1', c0', i1', n0', n3', n1', n2', a2', a1', a0', n4', Nat.reduceAdd, z0', n5', sa0, sa1, sa2, sa3, sa4, sa5, sa6, sa7, sa8, sa9, sa10, sa11]
    refine sassign ?_
    simp only [pu', p0', c1', c0', i1', z0']
    refine sassign ?_
    simp only [pu', p0', c1', c0', i1', z0']
    with_reducible refine s_end ?_
    with_reducible refine s_then ?_
    with_reducible refine s_seq ?_
    with_reducible refine s_seq ?_
    with_reducible refine s_reg ?_
    refine sloadW ?_
    simp only [pu', p0', c1', c0', i1', z0']
    refine smove ?_
    simp only [pu', p0', c1', c0', i1', z0']
    refine sM (check_any _ _ _ _ _ (hS.ext (ext_app _ _)) hlen) ?_
    simp only [pu', p0', c1', c0', i1', z0']
    refine sassign ?_
    simp only [pu', p0', c1', c0', i1', z0']
    with_reducible refine s_end ?_
    with_reducible refine s_then ?_
    with_reducible refine s_seq ?_
    with_reducible refine s_reg ?_
    refine smove ?_
    simp only [pu', p0', c1', c0', i1', z0']
    refine sNe (fun hb => ?_) (fun hb => ?_)
    replace hb := dT' hb
    simp only [pu', p0', c1', c0', i1', z0']
    with_reducible refine s_end ?_
    with_reducible refine s_then ?_
    refine sCT ?_
    with_reducible refine s_seq ?_
    with_reducible refine s_reg ?_
    refine smove ?_
    simp only [pu', p0', c1', c0', i1', z0']
    refine sassign ?_
    simp only [pu', p0', c1', c0', i1', z0']
    refine sassign ?_
    simp only [pu', p0', c1', c0', i1', z0']
    with_reducible refine s_end ?_
    with_reducible refine s_then ?_
    with_reducible refine s_ret ?_
    with_reducible refine s_thenR ?_
    rotate_left 1
    replace hb := dF' hb
    simp only [pu', p0', c1', c0', i1', z0']
    with_reducible refine s_end ?_
    with_reducible refine s_then ?_
    refine sCF ?_
    with_reducible refine s_skip ?_
    with_reducible refine s_then ?_
    with_reducible refine s_seq ?_
    with_reducible refine s_reg ?_
    refine sfad ?_
    simp only [pu', p0', c1', c0', i1', z0']
    refine sload1 ?_
    simp only [pu', p0', c1', c0', i1', z0']
    refine sGe (fun hb => ?_) (fun hb => ?_)
    replace hb := dT' hb
    simp only [pu', p0', c1', c0', i1', z0']
    refine smove ?_
    simp only [pu', p0', c1', c0', i1', z0']
    refine sN ?_
    simp only [pu', p0', c1', c0', i1', z0']
    refine sN ?_
    simp only [pu', p0', c1', c0', i1', z0']
    refine sN ?_
    simp only [pu', p0', c1', c0', i1', z0']
    refine spickT ?_
    simp only [pu', p0', c1', c0', i1', z0']
    refine sassign ?_
    simp only [pu', p0', c1', c0', i1', z0']
    refine sassign ?_
    simp only [pu', p0', c1', c0', i1', z0']
    with_reducible refine s_end ?_
    with_reducible refine s_then ?_
    with_reducible refine s_ret ?_
    rotate_left 1
    replace hb := dF' hb
    simp only [pu', p0', c1', c0', i1', z0']
    refine smove ?_
    simp only [pu', p0', c1', c0', i1', z0']
    refine smove ?_
    simp only [pu', p0', c1', c0', i1', z0']
    refine sM (free_any _ _ _ (hS.ext (ext_app _ _)) hlen) ?_
    simp only [pu', p0', c1', c0', i1', z0']
    refine sGe (fun hb => ?_) (fun hb => ?_)
    replace hb := dT' hb
    simp only [pu', p0', c1', c0', i1', z0']
    refine spickF ?_
    simp only [pu', p0', c1', c0', i1', z0']
    refine sassign ?_
    simp only [pu', p0', c1', c0', i1', z0']
    refine sassign ?_
    simp only [pu', p0', c1', c0', i1', z0']
    with_reducible refine s_end ?_
    with_reducible refine s_then ?_
    with_reducible refine s_ret ?_
    rotate_left 1
    replace hb := dF' hb
    simp only [pu', p0', c1', c0', i1', z0']
    refine spickF ?_
    simp only [pu', p0', c1', c0', i1', z0']
    refine sassign ?_
    simp only [pu', p0', c1', c0', i1', z0']
    refine sassign ?_
    simp only [pu', p0', c1', c0', i1', z0']
    with_reducible refine s_end ?_
    with_reducible refine s_then ?_
    with_reducible refine s_ret ?_
    rotate_left 1
  all_goals
    ((try with_reducible refine w_n ?_); refine w_2 rfl (by first | exact v_t (by rfl) | exact v_c1 (C1.p) (by rfl) (HA.p) (by rfl) | exact v_cF (CA.p) (by rfl) (HA.p) (by rfl)) (by first | exact v_t (by rfl) | exact v_c1 (C1.p) (by rfl) (HA.p) (by rfl) | exact v_cF (CA.p) (by rfl) (HA.p) (by rfl)) ?_)
    refine ⟨rfl, ext_app _ _, ?_, trivial⟩
    first
      | rw [busy1 (by omega)]; done
      | rw [busy2 (by omega) (by omega)]; done
      | rw [busy3 (by omega) (by omega)]; done
theorem rbusy_any : ACalls Try.prog 22 [WA j d, s] h (fun r h' => r = busyR j d l ∧ h' = h) := by
  refine acalls_back ?_
  refine acalls_of_wk hm Try.func22 rfl ?_
  simp only [Try.ntmps22, List.length_cons, List.length_nil, Nat.reduceAdd, Nat.reduceSub, List.reduceReplicate, List.cons_append, List.nil_append]
  show wk _ _ none _ _ ⟨_, []⟩ _
  have el2 := mkEL encT_ok tk0 hS
  focus
    with_reducible refine s_seq ?_
    with_reducible refine s_reg ?_
    refine sboxA ?_
    simp only [pu', p0', c1', c0', i1', n0', n3', n1', n2', a2', a1', a0', n4', Nat.reduceAdd, z0', n5', sa0, sa1, sa2, sa3, sa4, sa5, sa6, sa7, sa8, sa9, sa10, sa11]
    refine sassign ?_
    simp only [pu', p0', c1', c0', i1', z0']
    refine sassign ?_
    simp only [pu', p0', c1', c0', i1', z0']
    with_reducible refine s_end ?_
    with_reducible refine s_then ?_
    with_reducible refine s_seq ?_
    with_reducible refine s_reg ?_
    refine sloadW ?_
    simp only [pu', p0', c1', c0', i1', z0']
    refine smove ?_
    simp only [pu', p0', c1', c0', i1', z0']
    refine sM (rcheck_any _ _ _ _ _ (hS.ext (ext_app _ _)) hlen) ?_
    simp only [pu', p0', c1', c0', i1', z0']
    refine sassign ?_
    simp only [pu', p0', c1', c0', i1', z0']
    with_reducible refine s_end ?_
    with_reducible refine s_then ?_
    with_reducible refine s_seq ?_
    with_reducible refine s_seq ?_
    with_reducible refine s_reg ?_
    refine smove ?_
    simp only [pu', p0', c1', c0', i1', z0']
    refine sNe (fun hb => ?_) (fun hb => ?_)
    replace hb := dT' hb
    simp only [pu', p0', c1', c0', i1', z0']
    with_reducible refine s_end ?_
    with_reducible refine s_then ?_
    refine sCT ?_
    with_reducible refine s_seq ?_
    with_reducible refine s_reg ?_
    refine smove ?_
    simp only [pu', p0', c1', c0', i1', z0']
    refine sassign ?_
    simp only [pu', p0', c1', c0', i1', z0']
    refine sassign ?_
    simp only [pu', p0', c1', c0', i1', z0']
    with_reducible refine s_end ?_
    with_reducible refine s_then ?_
    with_reducible refine s_ret ?_
    with_reducible refine s_thenR ?_
    rotate_left 1
    replace hb := dF' hb
    simp only [pu', p0', c1', c0', i1', z0']
    with_reducible refine s_end ?_
    with_reducible refine s_then ?_
    refine sCF ?_
    with_reducible refine s_skip ?_
    with_reducible refine s_then ?_
    with_reducible refine s_seq ?_
    with_reducible refine s_reg ?_
    refine sfad ?_
    simp only [pu', p0', c1', c0', i1', z0']
    refine sload1 ?_
    simp only [pu', p0', c1', c0', i1', z0']
    refine sGe (fun hb => ?_) (fun hb => ?_)
    replace hb := dT' hb
    simp only [pu', p0', c1', c0', i1', z0']
    refine smove ?_
    simp only [pu', p0', c1', c0', i1', z0']
    refine sN ?_
    simp only [pu', p0', c1', c0', i1', z0']
    refine sN ?_
    simp only [pu', p0', c1', c0', i1', z0']
    refine sN ?_
    simp only [pu', p0', c1', c0', i1', z0']
    refine spickT ?_
    simp only [pu', p0', c1', c0', i1', z0']
    refine sassign ?_
    simp only [pu', p0', c1', c0', i1', z0']
    refine sassign ?_
    simp only [pu', p0', c1', c0', i1', z0']
    with_reducible refine s_end ?_
    with_reducible refine s_then ?_
    with_reducible refine s_ret ?_
    rotate_left 1
    replace hb := dF' hb
    simp only [pu', p0', c1', c0', i1', z0']
    refine smove ?_
    simp only [pu', p0', c1', c0', i1', z0']
    refine smove ?_
    simp only [pu', p0', c1', c0', i1', z0']
    refine sM (rnext_any _ _ _ (hS.ext (ext_app _ _)) hlen) ?_
    simp only [pu', p0', c1', c0', i1', z0']
    refine sGe (fun hb => ?_) (fun hb => ?_)
    replace hb := dT' hb
    simp only [pu', p0', c1', c0', i1', z0']
    refine spickF ?_
    simp only [pu', p0', c1', c0', i1', z0']
    refine sassign ?_
    simp only [pu', p0', c1', c0', i1', z0']
    refine sassign ?_
    simp only [pu', p0', c1', c0', i1', z0']
    with_reducible refine s_end ?_
    with_reducible refine s_then ?_
    with_reducible refine s_ret ?_
    rotate_left 1
    replace hb := dF' hb
    simp only [pu', p0', c1', c0', i1', z0']
    refine spickF ?_
    simp only [pu', p0', c1', c0', i1', z0']
    refine sassign ?_
    simp only [pu', p0', c1', c0', i1', z0']
    refine sassign ?_
    simp only [pu', p0', c1', c0', i1', z0']
    with_reducible refine s_end ?_
    with_reducible refine s_then ?_
    with_reducible refine s_ret ?_
    rotate_left 1
  all_goals
    ((try with_reducible refine w_n ?_); refine w_2 rfl (by first | exact v_t (by rfl) | exact v_c1 (C1.p) (by rfl) (HA.p) (by rfl) | exact v_cF (CA.p) (by rfl) (HA.p) (by rfl)) (by first | exact v_t (by rfl) | exact v_c1 (C1.p) (by rfl) (HA.p) (by rfl) | exact v_cF (CA.p) (by rfl) (HA.p) (by rfl)) ?_)
    refine ⟨rfl, ext_app _ _, ?_, trivial⟩
    first
      | rw [busy1 (by omega)]; done
      | rw [busy2 (by omega) (by omega)]; done
      | rw [busy3 (by omega) (by omega)]; done
theorem left_any : ACalls Try.prog 23 [WA j d, s] h (fun r h' => r = leftR j d l ∧ h' = h) := by
  have hr := ckE_rng j d h s l hS hlen
  have hu : jobsE l = 0 → ∀ n, n < l.length → 1 ≤ (l.getD n tk0).u ∧ (l.getD n tk0).u ≤ 1099511627776 := jobs_rng
  have hu2 : checkE j d l = 0 → 0 ≤ j → (l.getD j.toNat tk0).u ≤ 1099511627776 := fun h1 h2 => (hu (ck_ok h1).1 _ (by have := hr h1; omega)).2
  refine acalls_back ?_
  refine acalls_of_wk hm Try.func23 rfl ?_
  simp only [Try.ntmps23, List.length_cons, List.length_nil, Nat.reduceAdd, Nat.reduceSub, List.reduceReplicate, List.cons_append, List.nil_append]
  show wk _ _ none _ _ ⟨_, []⟩ _
  have el3 := mkEL encT_ok tk0 hS
  focus
    with_reducible refine s_seq ?_
    with_reducible refine s_reg ?_
    refine sboxA ?_
    simp only [pu', p0', c1', c0', i1', n0', n3', n1', n2', a2', a1', a0', n4', Nat.reduceAdd, z0', n5', sa0, sa1, sa2, sa3, sa4, sa5, sa6, sa7, sa8, sa9, sa10, sa11]
    refine sassign ?_
    simp only [pu', p0', c1', c0', i1', z0']
    refine sassign ?_
    simp only [pu', p0', c1', c0', i1', z0']
    with_reducible refine s_end ?_
    with_reducible refine s_then ?_
    with_reducible refine s_seq ?_
    with_reducible refine s_seq ?_
    with_reducible refine s_reg ?_
    refine sloadW ?_
    simp only [pu', p0', c1', c0', i1', z0']
    refine smove ?_
    simp only [pu', p0', c1', c0', i1', z0']
    refine sM (check_any _ _ _ _ _ (hS.ext (ext_app _ _)) hlen) ?_
    simp only [pu', p0', c1', c0', i1', z0']
    refine sassign ?_
    simp only [pu', p0', c1', c0', i1', z0']
    with_reducible refine s_end ?_
    with_reducible refine s_then ?_
    with_reducible refine s_seq ?_
    with_reducible refine s_reg ?_
    refine smove ?_
    simp only [pu', p0', c1', c0', i1', z0']
    refine sNe (fun hb => ?_) (fun hb => ?_)
    replace hb := dT' hb
    simp only [pu', p0', c1', c0', i1', z0']
    refine smove ?_
    simp only [pu', p0', c1', c0', i1', z0']
    refine sN ?_
    simp only [pu', p0', c1', c0', i1', z0']
    refine sN ?_
    simp only [pu', p0', c1', c0', i1', z0']
    refine sN ?_
    simp only [pu', p0', c1', c0', i1', z0']
    refine spickT ?_
    simp only [pu', p0', c1', c0', i1', z0']
    with_reducible refine s_end ?_
    with_reducible refine s_then ?_
    refine sCT ?_
    with_reducible refine s_seq ?_
    with_reducible refine s_reg ?_
    refine smove ?_
    simp only [pu', p0', c1', c0', i1', z0']
    refine sassign ?_
    simp only [pu', p0', c1', c0', i1', z0']
    refine sassign ?_
    simp only [pu', p0', c1', c0', i1', z0']
    with_reducible refine s_end ?_
    with_reducible refine s_then ?_
    with_reducible refine s_ret ?_
    with_reducible refine s_thenR ?_
    rotate_left 1
    replace hb := dF' hb
    simp only [pu', p0', c1', c0', i1', z0']
    refine smove ?_
    simp only [pu', p0', c1', c0', i1', z0']
    refine sfad ?_
    simp only [pu', p0', c1', c0', i1', z0']
    refine sload1 ?_
    simp only [pu', p0', c1', c0', i1', z0']
    refine sLt (fun hb => ?_) (fun hb => ?_)
    replace hb := dT' hb
    simp only [pu', p0', c1', c0', i1', z0']
    refine spickF ?_
    simp only [pu', p0', c1', c0', i1', z0']
    with_reducible refine s_end ?_
    with_reducible refine s_then ?_
    refine sCT ?_
    with_reducible refine s_seq ?_
    with_reducible refine s_reg ?_
    refine smove ?_
    simp only [pu', p0', c1', c0', i1', z0']
    refine sassign ?_
    simp only [pu', p0', c1', c0', i1', z0']
    refine sassign ?_
    simp only [pu', p0', c1', c0', i1', z0']
    with_reducible refine s_end ?_
    with_reducible refine s_then ?_
    with_reducible refine s_ret ?_
    with_reducible refine s_thenR ?_
    rotate_left 1
    replace hb := dF' hb
    simp only [pu', p0', c1', c0', i1', z0']
    refine spickF ?_
    simp only [pu', p0', c1', c0', i1', z0']
    with_reducible refine s_end ?_
    with_reducible refine s_then ?_
    refine sCF ?_
    with_reducible refine s_skip ?_
    with_reducible refine s_then ?_
    with_reducible refine s_seq ?_
    (refine s_regQ (id := 4) [(0, true), (1, true), (2, true), (3, true), (4, true), (5, true), (6, true), (7, true), (8, true), (9, true), (10, true)] (by kernel_rfl) (by conv => lhs; simp only [pickO, List.getElem?_cons_succ, List.getElem?_cons_zero]) ?_)
    refine qmove ?_
    simp only [pu', p0', c1', c0', i1', z0']
    refine qfad ?_
    simp only [pu', p0', c1', c0', i1', z0']
    refine qload1 ?_
    simp only [pu', p0', c1', c0', i1', z0']
    refine qidxE ?_
    simp only [pu', p0', c1', c0', i1', z0']
    refine qfadE ?_
    simp only [pu', p0', c1', c0', i1', z0']
    refine qloadF ?_
    simp only [pu', p0', c1', c0', i1', z0']
    refine qfad ?_
    simp only [pu', p0', c1', c0', i1', z0']
    refine qload1 ?_
    simp only [pu', p0', c1', c0', i1', z0']
    refine qsub ?_
    simp only [pu', p0', c1', c0', i1', z0']
    refine qassign ?_
    simp only [pu', p0', c1', c0', i1', z0']
    refine qassign ?_
    simp only [pu', p0', c1', c0', i1', z0']
    with_reducible refine q_end ?_
    with_reducible refine s_then ?_
    with_reducible refine s_ret ?_
    rotate_left 1
  all_goals
    ((try with_reducible refine w_n ?_); refine w_2 rfl (by first | exact v_t (by rfl) | exact v_c1 (C1.p) (by rfl) (HA.p) (by rfl) | exact v_cF (CA.p) (by rfl) (HA.p) (by rfl)) (by first | exact v_t (by rfl) | exact v_c1 (C1.p) (by rfl) (HA.p) (by rfl) | exact v_cF (CA.p) (by rfl) (HA.p) (by rfl)) ?_)
    refine ⟨rfl, ext_app _ _, ?_, trivial⟩
    first
      | rw [left1 (by omega)]; done
      | rw [left2' (by omega) (by omega)]; done
      | rw [left3 (by omega) (by omega)]; done
theorem rleft_any : ACalls Try.prog 24 [WA j d, s] h (fun r h' => r = leftR j d l ∧ h' = h) := by
  have hr := ckE_rng j d h s l hS hlen
  have hu : jobsE l = 0 → ∀ n, n < l.length → 1 ≤ (l.getD n tk0).u ∧ (l.getD n tk0).u ≤ 1099511627776 := jobs_rng
  have hu2 : checkE j d l = 0 → 0 ≤ j → (l.getD j.toNat tk0).u ≤ 1099511627776 := fun h1 h2 => (hu (ck_ok h1).1 _ (by have := hr h1; omega)).2
  refine acalls_back ?_
  refine acalls_of_wk hm Try.func24 rfl ?_
  simp only [Try.ntmps24, List.length_cons, List.length_nil, Nat.reduceAdd, Nat.reduceSub, List.reduceReplicate, List.cons_append, List.nil_append]
  show wk _ _ none _ _ ⟨_, []⟩ _
  have el4 := mkEL encT_ok tk0 hS
  focus
    with_reducible refine s_seq ?_
    with_reducible refine s_reg ?_
    refine sboxA ?_
    simp only [pu', p0', c1', c0', i1', n0', n3', n1', n2', a2', a1', a0', n4', Nat.reduceAdd, z0', n5', sa0, sa1, sa2, sa3, sa4, sa5, sa6, sa7, sa8, sa9, sa10, sa11]
    refine sassign ?_
    simp only [pu', p0', c1', c0', i1', z0']
    refine sassign ?_
    simp only [pu', p0', c1', c0', i1', z0']
    with_reducible refine s_end ?_
    with_reducible refine s_then ?_
    with_reducible refine s_seq ?_
    with_reducible refine s_reg ?_
    refine sloadW ?_
    simp only [pu', p0', c1', c0', i1', z0']
    refine smove ?_
    simp only [pu', p0', c1', c0', i1', z0']
    refine sM (rcheck_any _ _ _ _ _ (hS.ext (ext_app _ _)) hlen) ?_
    simp only [pu', p0', c1', c0', i1', z0']
    refine sassign ?_
    simp only [pu', p0', c1', c0', i1', z0']
    with_reducible refine s_end ?_
    with_reducible refine s_then ?_
    with_reducible refine s_seq ?_
    with_reducible refine s_seq ?_
    with_reducible refine s_reg ?_
    refine smove ?_
    simp only [pu', p0', c1', c0', i1', z0']
    refine sNe (fun hb => ?_) (fun hb => ?_)
    replace hb := dT' hb
    simp only [pu', p0', c1', c0', i1', z0']
    refine smove ?_
    simp only [pu', p0', c1', c0', i1', z0']
    refine sN ?_
    simp only [pu', p0', c1', c0', i1', z0']
    refine sN ?_
    simp only [pu', p0', c1', c0', i1', z0']
    refine sN ?_
    simp only [pu', p0', c1', c0', i1', z0']
    refine spickT ?_
    simp only [pu', p0', c1', c0', i1', z0']
    with_reducible refine s_end ?_
    with_reducible refine s_then ?_
    refine sCT ?_
    with_reducible refine s_seq ?_
    with_reducible refine s_reg ?_
    refine smove ?_
    simp only [pu', p0', c1', c0', i1', z0']
    refine sassign ?_
    simp only [pu', p0', c1', c0', i1', z0']
    refine sassign ?_
    simp only [pu', p0', c1', c0', i1', z0']
    with_reducible refine s_end ?_
    with_reducible refine s_then ?_
    with_reducible refine s_ret ?_
    with_reducible refine s_thenR ?_
    rotate_left 1
    replace hb := dF' hb
    simp only [pu', p0', c1', c0', i1', z0']
    refine smove ?_
    simp only [pu', p0', c1', c0', i1', z0']
    refine sfad ?_
    simp only [pu', p0', c1', c0', i1', z0']
    refine sload1 ?_
    simp only [pu', p0', c1', c0', i1', z0']
    refine sEq (fun hb => ?_) (fun hb => ?_)
    replace hb := dT' hb
    simp only [pu', p0', c1', c0', i1', z0']
    refine spickF ?_
    simp only [pu', p0', c1', c0', i1', z0']
    with_reducible refine s_end ?_
    with_reducible refine s_then ?_
    refine sCT ?_
    with_reducible refine s_seq ?_
    with_reducible refine s_reg ?_
    refine smove ?_
    simp only [pu', p0', c1', c0', i1', z0']
    refine sassign ?_
    simp only [pu', p0', c1', c0', i1', z0']
    refine sassign ?_
    simp only [pu', p0', c1', c0', i1', z0']
    with_reducible refine s_end ?_
    with_reducible refine s_then ?_
    with_reducible refine s_ret ?_
    with_reducible refine s_thenR ?_
    rotate_left 1
    replace hb := dF' hb
    simp only [pu', p0', c1', c0', i1', z0']
    refine spickF ?_
    simp only [pu', p0', c1', c0', i1', z0']
    with_reducible refine s_end ?_
    with_reducible refine s_then ?_
    refine sCF ?_
    with_reducible refine s_skip ?_
    with_reducible refine s_then ?_
    with_reducible refine s_seq ?_
    (refine s_regQ (id := 4) [(0, true), (1, true), (2, true), (3, true), (4, true), (5, true), (6, true), (7, true), (8, true), (9, true), (10, true)] (by kernel_rfl) (by conv => lhs; simp only [pickO, List.getElem?_cons_succ, List.getElem?_cons_zero]) ?_)
    refine qmove ?_
    simp only [pu', p0', c1', c0', i1', z0']
    refine qfad ?_
    simp only [pu', p0', c1', c0', i1', z0']
    refine qload1 ?_
    simp only [pu', p0', c1', c0', i1', z0']
    refine qidxE ?_
    simp only [pu', p0', c1', c0', i1', z0']
    refine qfadE ?_
    simp only [pu', p0', c1', c0', i1', z0']
    refine qloadF ?_
    simp only [pu', p0', c1', c0', i1', z0']
    refine qfad ?_
    simp only [pu', p0', c1', c0', i1', z0']
    refine qload1 ?_
    simp only [pu', p0', c1', c0', i1', z0']
    refine qsub ?_
    simp only [pu', p0', c1', c0', i1', z0']
    refine qassign ?_
    simp only [pu', p0', c1', c0', i1', z0']
    refine qassign ?_
    simp only [pu', p0', c1', c0', i1', z0']
    with_reducible refine q_end ?_
    with_reducible refine s_then ?_
    with_reducible refine s_ret ?_
    rotate_left 1
  all_goals
    ((try with_reducible refine w_n ?_); refine w_2 rfl (by first | exact v_t (by rfl) | exact v_c1 (C1.p) (by rfl) (HA.p) (by rfl) | exact v_cF (CA.p) (by rfl) (HA.p) (by rfl)) (by first | exact v_t (by rfl) | exact v_c1 (C1.p) (by rfl) (HA.p) (by rfl) | exact v_cF (CA.p) (by rfl) (HA.p) (by rfl)) ?_)
    refine ⟨rfl, ext_app _ _, ?_, trivial⟩
    first
      | rw [left1 (by omega)]; done
      | rw [left2' (by omega) (by omega)]; done
      | rw [left3 (by omega) (by omega)]; done
theorem next_any : ACalls Try.prog 25 [s] h (fun r h' => r = nextR l ∧ h' = h) := by
  refine acalls_of_wk hm Try.func25 rfl ?_
  simp only [Try.ntmps25, List.length_cons, List.length_nil, Nat.reduceAdd, Nat.reduceSub, List.reduceReplicate, List.cons_append, List.nil_append]
  show wk _ _ none _ _ ⟨_, []⟩ _
  have el5 := mkEL encT_ok tk0 hS
  focus
    with_reducible refine s_seq ?_
    with_reducible refine s_reg ?_
    refine sassign ?_
    simp only [pu', p0', c1', c0', i1', z0']
    refine sassign ?_
    simp only [pu', p0', c1', c0', i1', z0']
    refine sassign ?_
    simp only [pu', p0', c1', c0', i1', z0']
    with_reducible refine s_end ?_
    with_reducible refine s_then ?_
    with_reducible refine s_seq ?_
    with_reducible refine s_seq ?_
    with_reducible refine s_reg ?_
    refine smove ?_
    simp only [pu', p0', c1', c0', i1', z0']
    refine sM (right_any _ _ _ hS hlen) ?_
    simp only [pu', p0', c1', c0', i1', z0']
    refine sassign ?_
    simp only [pu', p0', c1', c0', i1', z0']
    with_reducible refine s_end ?_
    with_reducible refine s_then ?_
    with_reducible refine s_seq ?_
    with_reducible refine s_reg ?_
    refine smove ?_
    simp only [pu', p0', c1', c0', i1', z0']
    refine sNe (fun hb => ?_) (fun hb => ?_)
    replace hb := dT' hb
    simp only [pu', p0', c1', c0', i1', z0']
    with_reducible refine s_end ?_
    with_reducible refine s_then ?_
    refine sCT ?_
    with_reducible refine s_seq ?_
    with_reducible refine s_reg ?_
    refine smove ?_
    simp only [pu', p0', c1', c0', i1', z0']
    refine sassign ?_
    simp only [pu', p0', c1', c0', i1', z0']
    refine sassign ?_
    simp only [pu', p0', c1', c0', i1', z0']
    refine sassign ?_
    simp only [pu', p0', c1', c0', i1', z0']
    with_reducible refine s_end ?_
    with_reducible refine s_then ?_
    with_reducible refine s_ret ?_
    with_reducible refine s_thenR ?_
    rotate_left 1
    replace hb := dF' hb
    simp only [pu', p0', c1', c0', i1', z0']
    with_reducible refine s_end ?_
    with_reducible refine s_then ?_
    refine sCF ?_
    with_reducible refine s_skip ?_
    with_reducible refine s_then ?_
    with_reducible refine s_seq ?_
    with_reducible refine s_seq ?_
    with_reducible refine s_reg ?_
    refine smove ?_
    simp only [pu', p0', c1', c0', i1', z0']
    refine sM (free_any _ _ _ hS hlen) ?_
    simp only [pu', p0', c1', c0', i1', z0']
    refine sassign ?_
    simp only [pu', p0', c1', c0', i1', z0']
    with_reducible refine s_end ?_
    with_reducible refine s_then ?_
    with_reducible refine s_seq ?_
    with_reducible refine s_reg ?_
    refine smove ?_
    simp only [pu', p0', c1', c0', i1', z0']
    refine sLt (fun hb => ?_) (fun hb => ?_)
    replace hb := dT' hb
    simp only [pu', p0', c1', c0', i1', z0']
    with_reducible refine s_end ?_
    with_reducible refine s_then ?_
    refine sCT ?_
    with_reducible refine s_seq ?_
    with_reducible refine s_reg ?_
    refine sassign ?_
    simp only [pu', p0', c1', c0', i1', z0']
    refine sassign ?_
    simp only [pu', p0', c1', c0', i1', z0']
    refine sassign ?_
    simp only [pu', p0', c1', c0', i1', z0']
    with_reducible refine s_end ?_
    with_reducible refine s_then ?_
    with_reducible refine s_ret ?_
    with_reducible refine s_thenR ?_
    rotate_left 1
    replace hb := dF' hb
    simp only [pu', p0', c1', c0', i1', z0']
    with_reducible refine s_end ?_
    with_reducible refine s_then ?_
    refine sCF ?_
    with_reducible refine s_skip ?_
    with_reducible refine s_then ?_
    with_reducible refine s_seq ?_
    with_reducible refine s_reg ?_
    refine smove ?_
    simp only [pu', p0', c1', c0', i1', z0']
    refine sassign ?_
    simp only [pu', p0', c1', c0', i1', z0']
    refine sassign ?_
    simp only [pu', p0', c1', c0', i1', z0']
    refine sassign ?_
    simp only [pu', p0', c1', c0', i1', z0']
    with_reducible refine s_end ?_
    with_reducible refine s_then ?_
    with_reducible refine s_ret ?_
    rotate_left 1
  all_goals
    ((try with_reducible refine w_n ?_); refine w_3 rfl (by first | exact v_t (by rfl) | exact v_c1 (C1.p) (by rfl) (HA.p) (by rfl) | exact v_cF (CA.p) (by rfl) (HA.p) (by rfl)) (by first | exact v_t (by rfl) | exact v_c1 (C1.p) (by rfl) (HA.p) (by rfl) | exact v_cF (CA.p) (by rfl) (HA.p) (by rfl)) (by first | exact v_t (by rfl) | exact v_c1 (C1.p) (by rfl) (HA.p) (by rfl) | exact v_cF (CA.p) (by rfl) (HA.p) (by rfl)) ?_)
    refine ⟨?_, rfl⟩
    first
      | rw [next1 (by omega)]; done
      | rw [next2 (by omega) (by omega)]; done
      | rw [next3 (by omega) (by omega)]; done
theorem rnextT_any : ACalls Try.prog 26 [s] h (fun r h' => r = nextR l ∧ h' = h) := by
  refine acalls_of_wk hm Try.func26 rfl ?_
  simp only [Try.ntmps26, List.length_cons, List.length_nil, Nat.reduceAdd, Nat.reduceSub, List.reduceReplicate, List.cons_append, List.nil_append]
  show wk _ _ none _ _ ⟨_, []⟩ _
  have el6 := mkEL encT_ok tk0 hS
  focus
    with_reducible refine s_seq ?_
    with_reducible refine s_reg ?_
    refine sassign ?_
    simp only [pu', p0', c1', c0', i1', z0']
    refine sassign ?_
    simp only [pu', p0', c1', c0', i1', z0']
    refine sassign ?_
    simp only [pu', p0', c1', c0', i1', z0']
    with_reducible refine s_end ?_
    with_reducible refine s_then ?_
    with_reducible refine s_seq ?_
    with_reducible refine s_reg ?_
    refine smove ?_
    simp only [pu', p0', c1', c0', i1', z0']
    refine sM (jobs_any _ _ _ hS hlen) ?_
    simp only [pu', p0', c1', c0', i1', z0']
    refine sassign ?_
    simp only [pu', p0', c1', c0', i1', z0']
    with_reducible refine s_end ?_
    with_reducible refine s_then ?_
    with_reducible refine s_seq ?_
    with_reducible refine s_reg ?_
    refine smove ?_
    simp only [pu', p0', c1', c0', i1', z0']
    refine sM (rnext_any _ _ _ hS hlen) ?_
    simp only [pu', p0', c1', c0', i1', z0']
    refine sassign ?_
    simp only [pu', p0', c1', c0', i1', z0']
    with_reducible refine s_end ?_
    with_reducible refine s_then ?_
    with_reducible refine s_seq ?_
    with_reducible refine s_seq ?_
    with_reducible refine s_reg ?_
    refine smove ?_
    simp only [pu', p0', c1', c0', i1', z0']
    refine sNe (fun hb => ?_) (fun hb => ?_)
    replace hb := dT' hb
    simp only [pu', p0', c1', c0', i1', z0']
    refine smove ?_
    simp only [pu', p0', c1', c0', i1', z0']
    refine sN ?_
    simp only [pu', p0', c1', c0', i1', z0']
    refine sN ?_
    simp only [pu', p0', c1', c0', i1', z0']
    refine spickT ?_
    simp only [pu', p0', c1', c0', i1', z0']
    with_reducible refine s_end ?_
    with_reducible refine s_then ?_
    refine sCT ?_
    with_reducible refine s_seq ?_
    with_reducible refine s_reg ?_
    refine smove ?_
    simp only [pu', p0', c1', c0', i1', z0']
    refine sassign ?_
    simp only [pu', p0', c1', c0', i1', z0']
    refine sassign ?_
    simp only [pu', p0', c1', c0', i1', z0']
    refine sassign ?_
    simp only [pu', p0', c1', c0', i1', z0']
    with_reducible refine s_end ?_
    with_reducible refine s_then ?_
    with_reducible refine s_ret ?_
    with_reducible refine s_thenR ?_
    rotate_left 1
    replace hb := dF' hb
    simp only [pu', p0', c1', c0', i1', z0']
    refine smove ?_
    simp only [pu', p0', c1', c0', i1', z0']
    refine smove ?_
    simp only [pu', p0', c1', c0', i1', z0']
    refine sLt (fun hb => ?_) (fun hb => ?_)
    replace hb := dT' hb
    simp only [pu', p0', c1', c0', i1', z0']
    refine spickF ?_
    simp only [pu', p0', c1', c0', i1', z0']
    with_reducible refine s_end ?_
    with_reducible refine s_then ?_
    refine sCT ?_
    with_reducible refine s_seq ?_
    with_reducible refine s_reg ?_
    refine smove ?_
    simp only [pu', p0', c1', c0', i1', z0']
    refine sassign ?_
    simp only [pu', p0', c1', c0', i1', z0']
    refine sassign ?_
    simp only [pu', p0', c1', c0', i1', z0']
    refine sassign ?_
    simp only [pu', p0', c1', c0', i1', z0']
    with_reducible refine s_end ?_
    with_reducible refine s_then ?_
    with_reducible refine s_ret ?_
    with_reducible refine s_thenR ?_
    rotate_left 1
    replace hb := dF' hb
    simp only [pu', p0', c1', c0', i1', z0']
    refine spickF ?_
    simp only [pu', p0', c1', c0', i1', z0']
    with_reducible refine s_end ?_
    with_reducible refine s_then ?_
    refine sCF ?_
    with_reducible refine s_skip ?_
    with_reducible refine s_then ?_
    with_reducible refine s_seq ?_
    with_reducible refine s_reg ?_
    refine smove ?_
    simp only [pu', p0', c1', c0', i1', z0']
    refine sassign ?_
    simp only [pu', p0', c1', c0', i1', z0']
    refine sassign ?_
    simp only [pu', p0', c1', c0', i1', z0']
    refine sassign ?_
    simp only [pu', p0', c1', c0', i1', z0']
    with_reducible refine s_end ?_
    with_reducible refine s_then ?_
    with_reducible refine s_ret ?_
    rotate_left 1
  all_goals
    ((try with_reducible refine w_n ?_); refine w_3 rfl (by first | exact v_t (by rfl) | exact v_c1 (C1.p) (by rfl) (HA.p) (by rfl) | exact v_cF (CA.p) (by rfl) (HA.p) (by rfl)) (by first | exact v_t (by rfl) | exact v_c1 (C1.p) (by rfl) (HA.p) (by rfl) | exact v_cF (CA.p) (by rfl) (HA.p) (by rfl)) (by first | exact v_t (by rfl) | exact v_c1 (C1.p) (by rfl) (HA.p) (by rfl) | exact v_cF (CA.p) (by rfl) (HA.p) (by rfl)) ?_)
    refine ⟨?_, rfl⟩
    first
      | rw [next1 (by omega)]; done
      | rw [next2' (by omega)]; done
      | rw [next3 (by omega) (by omega)]; done
end
end Go.Proofs.Ytfhbbpdnmdbjbaa
