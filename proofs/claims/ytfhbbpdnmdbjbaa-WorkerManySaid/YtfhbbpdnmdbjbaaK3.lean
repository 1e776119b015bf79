/-
  A part of the proof of a statement of a chapter's seat; conditions: stated at each theorem.
-/
import Derived.Test.YtfhbbpdnmdbjbaaK2
set_option linter.unusedSimpArgs false
set_option linter.unusedVariables false
set_option linter.unusedSectionVars false
set_option maxRecDepth 100000
set_option maxHeartbeats 4000000
namespace Go.Proofs.Ytfhbbpdnmdbjbaa
open Go.Az Go
def nameL (k : Int) : List UInt8 := if k = 0 then [110, 111, 116, 104, 105, 110, 103] else if k = 1 then [116, 97, 107, 101] else if k = 2 then [119, 111, 114, 107] else if k = 3 then [100, 111, 110, 101] else [102, 97, 105, 108]
theorem runK {g : FuncId} {args : List AV} {r : AV} (h : runC Try.prog (fun _ _ => none) 300 g args [] = some (r, [])) (hs : r.sc 0 = true) : ACalls Try.prog g args [] (fun r' _ => r' = r ∧ r'.sc 0 = true) :=
  (run_acalls hm (known_none _) h).mono fun r' h' _ hh => ⟨hh.1, by rw [hh.1]; exact hs⟩
theorem str_any (k : Int) (h0 : 0 ≤ k) (h1 : k < 5) : ACalls Try.prog 60 [I k] [] (fun r _ => r = St (nameL k) ∧ r.sc 0 = true) := by
  obtain rfl | rfl | rfl | rfl | rfl : k = 0 ∨ k = 1 ∨ k = 2 ∨ k = 3 ∨ k = 4 := by omega
  all_goals exact runK (by kernel_rfl) rfl
theorem str_row : ∀ v w, (method (Try.prog.types.size + Made.depth) 57 v "String").run Try.prog w = .ok (60, v) w := by
  intro v w
  kernel_rfl
theorem mif_57 (k : Int) : mif Try.prog 57 (I k) = some (.ifc 57 (I k)) := by kernel_rfl
instance (k : Int) : MI Try.prog 57 (I k) (.ifc 57 (I k)) := ⟨mif_57 k⟩
theorem name_any (k : Int) : ACalls Try.prog 10 [I k] [] (fun r _ => r = (if k < 0 ∨ 5 ≤ k then .tup [St [], I 2] else .tup [St (nameL k), I 0]) ∧ r.sc 0 = true) := by
  refine acalls_of_wk hm Try.func10 rfl ?_
  simp only [Try.ntmps10, List.length_cons, List.length_nil, Nat.reduceAdd, Nat.reduceSub, List.reduceReplicate, List.cons_append, List.nil_append]
  show wk _ _ none _ _ ⟨_, []⟩ _
  focus
    with_reducible refine s_seq ?_
    with_reducible refine s_reg ?_
    refine sassign ?_
    simp only [pu', p0', c1', c0', i1', z0']
    refine sassign ?_
    simp only [pu', p0', c1', c0', i1', z0']
    with_reducible refine s_end ?_
    with_reducible refine s_then ?_
    with_reducible refine s_seq ?_
    with_reducible refine s_seq ?_
    with_reducible refine s_reg ?_
    refine smove ?_
    simp only [pu', p0', c1', c0', i1', z0']
    refine sLt (fun hb => ?_) (fun hb => ?_)
    replace hb := dT' hb
    simp only [pu', p0', c1', c0', i1', z0']
    refine smove ?_
    simp only [pu', p0', c1', c0', i1', z0']
    refine sN ?_
    simp only [pu', p0', c1', c0', i1', z0']
    refine sN ?_
    simp only [pu', p0', c1', c0', i1', z0']
    refine spickT ?_
    simp only [pu', p0', c1', c0', i1', z0']
    with_reducible refine s_end ?_
    with_reducible refine s_then ?_
    refine sCT ?_
    with_reducible refine s_seq ?_
    with_reducible refine s_reg ?_
    refine sassign ?_
    simp only [pu', p0', c1', c0', i1', z0']
    refine sassign ?_
    simp only [pu', p0', c1', c0', i1', z0']
    with_reducible refine s_end ?_
    with_reducible refine s_then ?_
    with_reducible refine s_ret ?_
    with_reducible refine s_thenR ?_
    rotate_left 1
    replace hb := dF' hb
    simp only [pu', p0', c1', c0', i1', z0']
    refine smove ?_
    simp only [pu', p0', c1', c0', i1', z0']
    refine smove ?_
    simp only [pu', p0', c1', c0', i1', z0']
    refine sGe (fun hb => ?_) (fun hb => ?_)
    replace hb := dT' hb
    simp only [pu', p0', c1', c0', i1', z0']
    refine spickF ?_
    simp only [pu', p0', c1', c0', i1', z0']
    with_reducible refine s_end ?_
    with_reducible refine s_then ?_
    refine sCT ?_
    with_reducible refine s_seq ?_
    with_reducible refine s_reg ?_
    refine sassign ?_
    simp only [pu', p0', c1', c0', i1', z0']
    refine sassign ?_
    simp only [pu', p0', c1', c0', i1', z0']
    with_reducible refine s_end ?_
    with_reducible refine s_then ?_
    with_reducible refine s_ret ?_
    with_reducible refine s_thenR ?_
    rotate_left 1
    replace hb := dF' hb
    simp only [pu', p0', c1', c0', i1', z0']
    refine spickF ?_
    simp only [pu', p0', c1', c0', i1', z0']
    with_reducible refine s_end ?_
    with_reducible refine s_then ?_
    refine sCF ?_
    with_reducible refine s_skip ?_
    with_reducible refine s_then ?_
    with_reducible refine s_seq ?_
    with_reducible refine s_reg ?_
    refine smove ?_
    simp only [pu', p0', c1', c0', i1', z0']
    refine smif ?_
    simp only [pu', p0', c1', c0', i1', z0']
    refine sassign ?_
    simp only [pu', p0', c1', c0', i1', z0']
    with_reducible refine s_end ?_
    with_reducible refine s_then ?_
    with_reducible refine s_seq ?_
    with_reducible refine s_reg ?_
    refine smove ?_
    simp only [pu', p0', c1', c0', i1', z0']
    rotate_left 1
  · all_goals try with_reducible refine w_n ?_
    all_goals refine w_2 rfl (by first | exact v_t (by rfl) | exact v_c1 (C1.p) (by rfl) (HA.p) (by rfl) | exact v_cF (CA.p) (by rfl) (HA.p) (by rfl)) (by first | exact v_t (by rfl) | exact v_c1 (C1.p) (by rfl) (HA.p) (by rfl) | exact v_cF (CA.p) (by rfl) (HA.p) (by rfl)) ?_
    exact ⟨by rw [if_pos (by omega)]; rfl, rfl⟩
  · all_goals try with_reducible refine w_n ?_
    all_goals refine w_2 rfl (by first | exact v_t (by rfl) | exact v_c1 (C1.p) (by rfl) (HA.p) (by rfl) | exact v_cF (CA.p) (by rfl) (HA.p) (by rfl)) (by first | exact v_t (by rfl) | exact v_c1 (C1.p) (by rfl) (HA.p) (by rfl) | exact v_cF (CA.p) (by rfl) (HA.p) (by rfl)) ?_
    exact ⟨by rw [if_pos (by omega)]; rfl, rfl⟩
  · refine s_inv (by rfl) (by rfl) str_row ok_60 ((str_any k (by omega) (by omega)).any rfl _ (N := fun r => r = St (nameL k)) ?_)
    rintro r rfl _
    simp only [Fr.put, List.set_cons_succ, List.set_cons_zero, Int.toNat_natCast, Nat.zero_add]
    refine sassign ?_
    simp only [pu', p0', c1', c0', i1', z0']
    refine sassign ?_
    simp only [pu', p0', c1', c0', i1', z0']
    with_reducible refine s_end ?_
    with_reducible refine s_then ?_
    with_reducible refine s_ret ?_
    all_goals try with_reducible refine w_n ?_
    all_goals refine w_2 rfl (by first | exact v_t (by rfl) | exact v_c1 (C1.p) (by rfl) (HA.p) (by rfl) | exact v_cF (CA.p) (by rfl) (HA.p) (by rfl)) (by first | exact v_t (by rfl) | exact v_c1 (C1.p) (by rfl) (HA.p) (by rfl) | exact v_cF (CA.p) (by rfl) (HA.p) (by rfl)) ?_
    exact ⟨by rw [if_neg (by omega)], rfl⟩
def namesL : List AV := [St [110, 111, 116, 104, 105, 110, 103], St [116, 97, 107, 101], St [119, 111, 114, 107], St [100, 111, 110, 101], St [102, 97, 105, 108]]
theorem bs_names : bslC Try.prog 61 5 [(0, St [110, 111, 116, 104, 105, 110, 103]), (1, St [116, 97, 107, 101]), (2, St [119, 111, 114, 107]), (3, St [100, 111, 110, 101]), (4, St [102, 97, 105, 108])] = some (9, namesL) := by kernel_rfl
instance : BS Try.prog 61 5 [(0, .v (.string ⟨#[110, 111, 116, 104, 105, 110, 103]⟩)), (1, .v (.string ⟨#[116, 97, 107, 101]⟩)), (2, .v (.string ⟨#[119, 111, 114, 107]⟩)), (3, .v (.string ⟨#[100, 111, 110, 101]⟩)), (4, .v (.string ⟨#[102, 97, 105, 108]⟩))] 9 namesL := ⟨bs_names⟩
theorem rname_any (k : Int) : ACalls Try.prog 11 [I k] [] (fun r _ => r = (if k < 0 ∨ 5 ≤ k then .tup [St [], I 2] else .tup [St (nameL k), I 0]) ∧ r.sc 0 = true) := by
  by_cases hk : k < 0 ∨ 5 ≤ k
  · rw [if_pos hk]
    refine acalls_of_wk hm Try.func11 rfl ?_
    simp only [Try.ntmps11, List.length_cons, List.length_nil, Nat.reduceAdd, Nat.reduceSub, List.reduceReplicate, List.cons_append, List.nil_append]
    show wk _ _ none _ _ ⟨_, []⟩ _
    focus
      with_reducible refine s_seq ?_
      with_reducible refine s_reg ?_
      refine sassign ?_
      simp only [pu', p0', c1', c0', i1', z0']
      refine sassign ?_
      simp only [pu', p0', c1', c0', i1', z0']
      with_reducible refine s_end ?_
      with_reducible refine s_then ?_
      with_reducible refine s_seq ?_
      with_reducible refine s_reg ?_
      refine sbsl ?_
      simp only [pu', p0', c1', c0', i1', n0', n3', n1', n2', a2', a1', a0', n4', Nat.reduceAdd, z0', n5', sa0, sa1, sa2, sa3, sa4, sa5, sa6, sa7, sa8, sa9, sa10, sa11]
      refine sassign ?_
      simp only [pu', p0', c1', c0', i1', z0']
      with_reducible refine s_end ?_
      with_reducible refine s_then ?_
      with_reducible refine s_seq ?_
      with_reducible refine s_seq ?_
      with_reducible refine s_reg ?_
      refine smove ?_
      simp only [pu', p0', c1', c0', i1', z0']
      refine sLt (fun hb => ?_) (fun hb => ?_)
      replace hb := dT' hb
      simp only [pu', p0', c1', c0', i1', z0']
      refine smove ?_
      simp only [pu', p0', c1', c0', i1', z0']
      refine sN ?_
      simp only [pu', p0', c1', c0', i1', z0']
      refine sN ?_
      simp only [pu', p0', c1', c0', i1', z0']
      refine sN ?_
      simp only [pu', p0', c1', c0', i1', z0']
      refine sN ?_
      simp only [pu', p0', c1', c0', i1', z0']
      refine spickT ?_
      simp only [pu', p0', c1', c0', i1', z0']
      with_reducible refine s_end ?_
      with_reducible refine s_then ?_
      refine sCT ?_
      with_reducible refine s_seq ?_
      with_reducible refine s_reg ?_
      refine sassign ?_
      simp only [pu', p0', c1', c0', i1', z0']
      refine sassign ?_
      simp only [pu', p0', c1', c0', i1', z0']
      with_reducible refine s_end ?_
      with_reducible refine s_then ?_
      with_reducible refine s_ret ?_
      with_reducible refine s_thenR ?_
      rotate_left 1
      replace hb := dF' hb
      simp only [pu', p0', c1', c0', i1', z0']
      refine smove ?_
      simp only [pu', p0', c1', c0', i1', z0']
      refine smove ?_
      simp only [pu', p0', c1', c0', i1', z0']
      refine smove ?_
      simp only [pu', p0', c1', c0', i1', z0']
      refine slenX ?_
      simp only [pu', p0', c1', c0', i1', z0']
      refine sGe (fun hb => ?_) (fun hb => ?_)
      replace hb := dT' hb
      simp only [pu', p0', c1', c0', i1', z0']
      refine spickF ?_
      simp only [pu', p0', c1', c0', i1', z0']
      with_reducible refine s_end ?_
      with_reducible refine s_then ?_
      refine sCT ?_
      with_reducible refine s_seq ?_
      with_reducible refine s_reg ?_
      refine sassign ?_
      simp only [pu', p0', c1', c0', i1', z0']
      refine sassign ?_
      simp only [pu', p0', c1', c0', i1', z0']
      with_reducible refine s_end ?_
      with_reducible refine s_then ?_
      with_reducible refine s_ret ?_
      with_reducible refine s_thenR ?_
      rotate_left 1
      replace hb := dF' hb
      (exfalso; omega)
    all_goals try with_reducible refine w_n ?_
    all_goals refine w_2 rfl (by first | exact v_t (by rfl) | exact v_c1 (C1.p) (by rfl) (HA.p) (by rfl) | exact v_cF (CA.p) (by rfl) (HA.p) (by rfl)) (by first | exact v_t (by rfl) | exact v_c1 (C1.p) (by rfl) (HA.p) (by rfl) | exact v_cF (CA.p) (by rfl) (HA.p) (by rfl)) ?_
    all_goals exact ⟨rfl, rfl⟩
  · rw [if_neg hk]
    obtain rfl | rfl | rfl | rfl | rfl : k = 0 ∨ k = 1 ∨ k = 2 ∨ k = 3 ∨ k = 4 := by omega
    all_goals exact runK (by kernel_rfl) rfl
theorem law3 (u w : Int) : ACalls Try.prog 3 [I u, I w] [] (fun r _ => r = B true) := by
  have n1 := name_any w
  have n2 := rname_any w
  have t1 := task_any u
  have t2 := rtask_any u
  by_cases hu : u < 1 ∨ 1099511627776 < u
  all_goals by_cases hw : w < 0 ∨ 5 ≤ w
  all_goals simp only [hu, hw, if_true, if_false, taskR] at n1 n2 t1 t2
  all_goals
    refine acalls_of_wk hm Try.func3 rfl ?_
    simp only [Try.ntmps3, List.length_cons, List.length_nil, Nat.reduceAdd, Nat.reduceSub, List.reduceReplicate, List.cons_append, List.nil_append]
    show wk _ _ none _ _ ⟨_, []⟩ _
    focus
      with_reducible refine s_seq ?_
      with_reducible refine s_reg ?_
      refine sassign ?_
      simp only [pu', p0', c1', c0', i1', z0']
      with_reducible refine s_end ?_
      with_reducible refine s_then ?_
      with_reducible refine s_seq ?_
      with_reducible refine s_reg ?_
      refine smove ?_
      simp only [pu', p0', c1', c0', i1', z0']
      refine sK (t1) ?_
      simp only [pu', p0', c1', c0', i1', z0']
      refine smove ?_
      simp only [pu', p0', c1', c0', i1', z0']
      refine sext ?_
      simp only [pu', p0', c1', c0', i1', z0']
      refine sext ?_
      simp only [pu', p0', c1', c0', i1', z0']
      refine salloc ?_
      simp only [pu', p0', c1', c0', i1', n0', n3', n1', n2', a2', a1', a0', n4', Nat.reduceAdd, z0', n5', sa0, sa1, sa2, sa3, sa4, sa5, sa6, sa7, sa8, sa9, sa10, sa11]
      refine sstoreF ?_
      simp only [pu', p0', c1', c0', i1', n0', n3', n1', n2', a2', a1', a0', n4', Nat.reduceAdd, z0', n5', sa0, sa1, sa2, sa3, sa4, sa5, sa6, sa7, sa8, sa9, sa10, sa11]
      refine sassign ?_
      simp only [pu', p0', c1', c0', i1', z0']
      with_reducible refine s_end ?_
      with_reducible refine s_then ?_
      with_reducible refine s_seq ?_
      with_reducible refine s_reg ?_
      refine smove ?_
      simp only [pu', p0', c1', c0', i1', z0']
      refine sK (t2) ?_
      simp only [pu', p0', c1', c0', i1', z0']
      refine smove ?_
      simp only [pu', p0', c1', c0', i1', z0']
      refine sext ?_
      simp only [pu', p0', c1', c0', i1', z0']
      refine sext ?_
      simp only [pu', p0', c1', c0', i1', z0']
      refine salloc ?_
      simp only [pu', p0', c1', c0', i1', n0', n3', n1', n2', a2', a1', a0', n4', Nat.reduceAdd, z0', n5', sa0, sa1, sa2, sa3, sa4, sa5, sa6, sa7, sa8, sa9, sa10, sa11]
      refine sstoreF ?_
      simp only [pu', p0', c1', c0', i1', n0', n3', n1', n2', a2', a1', a0', n4', Nat.reduceAdd, z0', n5', sa0, sa1, sa2, sa3, sa4, sa5, sa6, sa7, sa8, sa9, sa10, sa11]
      refine sassign ?_
      simp only [pu', p0', c1', c0', i1', z0']
      with_reducible refine s_end ?_
      with_reducible refine s_then ?_
      with_reducible refine s_seq ?_
      with_reducible refine s_reg ?_
      refine smove ?_
      simp only [pu', p0', c1', c0', i1', z0']
      refine sK (n1) ?_
      simp only [pu', p0', c1', c0', i1', z0']
      refine smove ?_
      simp only [pu', p0', c1', c0', i1', z0']
      refine sext ?_
      simp only [pu', p0', c1', c0', i1', z0']
      refine sext ?_
      simp only [pu', p0', c1', c0', i1', z0']
      refine sassign ?_
      simp only [pu', p0', c1', c0', i1', z0']
      refine sassign ?_
      simp only [pu', p0', c1', c0', i1', z0']
      with_reducible refine s_end ?_
      with_reducible refine s_then ?_
      with_reducible refine s_seq ?_
      with_reducible refine s_reg ?_
      refine smove ?_
      simp only [pu', p0', c1', c0', i1', z0']
      refine sK (n2) ?_
      simp only [pu', p0', c1', c0', i1', z0']
      refine smove ?_
      simp only [pu', p0', c1', c0', i1', z0']
      refine sext ?_
      simp only [pu', p0', c1', c0', i1', z0']
      refine sext ?_
      simp only [pu', p0', c1', c0', i1', z0']
      refine sassign ?_
      simp only [pu', p0', c1', c0', i1', z0']
      refine sassign ?_
      simp only [pu', p0', c1', c0', i1', z0']
      with_reducible refine s_end ?_
      with_reducible refine s_then ?_
      with_reducible refine s_seq ?_
      with_reducible refine s_reg ?_
      refine sloadW ?_
      simp only [pu', p0', c1', c0', i1', z0']
      refine sloadW ?_
      simp only [pu', p0', c1', c0', i1', z0']
      refine sbn (fun hb => ?_) (fun hb => ?_)
      simp only [decide_eq_true_eq, Int.toNat_natCast, decide_eq_false_iff_not, Bool.not_eq_true', Bool.not_eq_false', not_true_eq_false, not_false_eq_true, beq_self_eq_true, Bool.and_true, Bool.true_and, Bool.and_false, Bool.false_and, Bool.and_eq_true, Bool.and_eq_false_iff, beq_iff_eq, beq_eq_false_iff_ne, ne_eq, Bool.not_true, Bool.not_false, Bool.true_eq_false, Bool.false_eq_true, Bool.not_eq_true, Bool.not_eq_false, and_true, true_and, and_false, false_and, or_false, false_or, or_true, true_or] at hb
      simp only [pu', p0', c1', c0', i1', z0']
      refine smove ?_
      simp only [pu', p0', c1', c0', i1', z0']
      refine smove ?_
      simp only [pu', p0', c1', c0', i1', z0']
      refine smove ?_
      simp only [pu', p0', c1', c0', i1', z0']
      refine sEq (fun hb => ?_) (fun hb => ?_)
      replace hb := dT' hb
      simp only [pu', p0', c1', c0', i1', z0']
      refine spickT ?_
      simp only [pu', p0', c1', c0', i1', z0']
      refine smove ?_
      simp only [pu', p0', c1', c0', i1', z0']
      refine smove ?_
      simp only [pu', p0', c1', c0', i1', z0']
      refine smove ?_
      simp only [pu', p0', c1', c0', i1', z0']
      refine seqS (fun hb => ?_) (fun hb => ?_)
      replace hb := dT' hb
      simp only [pu', p0', c1', c0', i1', z0']
      refine spickT ?_
      simp only [pu', p0', c1', c0', i1', z0']
      refine smove ?_
      simp only [pu', p0', c1', c0', i1', z0']
      refine smove ?_
      simp only [pu', p0', c1', c0', i1', z0']
      refine smove ?_
      simp only [pu', p0', c1', c0', i1', z0']
      refine sEq (fun hb => ?_) (fun hb => ?_)
      replace hb := dT' hb
      simp only [pu', p0', c1', c0', i1', z0']
      refine spickT ?_
      simp only [pu', p0', c1', c0', i1', z0']
      refine smove ?_
      simp only [pu', p0', c1', c0', i1', z0']
      refine sK (idle_any) ?_
      simp only [pu', p0', c1', c0', i1', z0']
      refine sK (ridle_any) ?_
      simp only [pu', p0', c1', c0', i1', z0']
      refine sbn (fun hb => ?_) (fun hb => ?_)
      simp only [decide_eq_true_eq, Int.toNat_natCast, decide_eq_false_iff_not, Bool.not_eq_true', Bool.not_eq_false', not_true_eq_false, not_false_eq_true, beq_self_eq_true, Bool.and_true, Bool.true_and, Bool.and_false, Bool.false_and, Bool.and_eq_true, Bool.and_eq_false_iff, beq_iff_eq, beq_eq_false_iff_ne, ne_eq, Bool.not_true, Bool.not_false, Bool.true_eq_false, Bool.false_eq_true, Bool.not_eq_true, Bool.not_eq_false, and_true, true_and, and_false, false_and, or_false, false_or, or_true, true_or] at hb
      simp only [pu', p0', c1', c0', i1', z0']
      refine spickT ?_
      simp only [pu', p0', c1', c0', i1', z0']
      refine smove ?_
      simp only [pu', p0', c1', c0', i1', z0']
      refine sK (awake_any) ?_
      simp only [pu', p0', c1', c0', i1', z0']
      refine spickT ?_
      simp only [pu', p0', c1', c0', i1', z0']
      refine sassign ?_
      simp only [pu', p0', c1', c0', i1', z0']
      with_reducible refine s_end ?_
      with_reducible refine s_then ?_
      with_reducible refine s_ret ?_
      rotate_left 1
      simp only [decide_eq_true_eq, Int.toNat_natCast, decide_eq_false_iff_not, Bool.not_eq_true', Bool.not_eq_false', not_true_eq_false, not_false_eq_true, beq_self_eq_true, Bool.and_true, Bool.true_and, Bool.and_false, Bool.false_and, Bool.and_eq_true, Bool.and_eq_false_iff, beq_iff_eq, beq_eq_false_iff_ne, ne_eq, Bool.not_true, Bool.not_false, Bool.true_eq_false, Bool.false_eq_true, Bool.not_eq_true, Bool.not_eq_false, and_true, true_and, and_false, false_and, or_false, false_or, or_true, true_or] at hb
      replace hb := dF' hb
      exact absurd rfl hb
      replace hb := dF' hb
      exact absurd rfl hb
      replace hb := dF' hb
      exact absurd rfl hb
      simp only [decide_eq_true_eq, Int.toNat_natCast, decide_eq_false_iff_not, Bool.not_eq_true', Bool.not_eq_false', not_true_eq_false, not_false_eq_true, beq_self_eq_true, Bool.and_true, Bool.true_and, Bool.and_false, Bool.false_and, Bool.and_eq_true, Bool.and_eq_false_iff, beq_iff_eq, beq_eq_false_iff_ne, ne_eq, Bool.not_true, Bool.not_false, Bool.true_eq_false, Bool.false_eq_true, Bool.not_eq_true, Bool.not_eq_false, and_true, true_and, and_false, false_and, or_false, false_or, or_true, true_or] at hb
    all_goals try with_reducible refine w_n ?_
    all_goals refine w_1 rfl (by first | exact v_t (by rfl) | exact v_c1 (C1.p) (by rfl) (HA.p) (by rfl) | exact v_cF (CA.p) (by rfl) (HA.p) (by rfl)) ?_
  all_goals rfl
theorem law5 : ACalls Try.prog 5 [] [] (fun r _ => r = B true) := known_any.mono fun r _ _ hh => hh.1
end Go.Proofs.Ytfhbbpdnmdbjbaa
