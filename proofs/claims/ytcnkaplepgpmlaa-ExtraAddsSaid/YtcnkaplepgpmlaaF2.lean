/-
  A part of the proof of a statement of chapter's seat; conditions: stated at each theorem.
-/
import Derived.Test.YtcnkaplepgpmlaaF1
set_option linter.unusedSimpArgs false
set_option linter.unusedVariables false
set_option maxRecDepth 100000
set_option maxHeartbeats 4000000
namespace Go.Proofs.Ytcnkaplepgpmlaa
open Go.Az Go
theorem ok_21 : okFn Try.prog 21 = true := by kernel_rfl
theorem ok_5 : okFn Try.prog 5 = true := by kernel_rfl
theorem ok_27 : okFn Try.prog 27 = true := by kernel_rfl
theorem bs_k : bslC Try.prog 32 3 [(0, I 16), (1, I 24), (2, I 35)] = some (3, [I 16, I 24, I 35]) := by kernel_rfl
theorem based_any (k c : Int) : ACalls Try.prog 26 [I k, I c] [] (fun r _ => r = I (askF k c) ∧ r.sc 0 = true) := by
  have c1 := baseE_any k c
  by_cases hv : askF k c = 0
  · rw [baseR, if_pos hv] at c1
    refine acalls_of_wk hm Try.func26 rfl ?_
    simp only [Try.ntmps26, List.length_cons, List.length_nil, Nat.reduceAdd, Nat.reduceSub, List.reduceReplicate, List.cons_append, List.nil_append]
    show wk _ _ none _ _ ⟨_, []⟩ _
    repeat' (first
      | with_reducible refine s_seq ?_
      | with_reducible refine s_then ?_
      | with_reducible refine s_thenR ?_
      | with_reducible refine s_thenE ?_
      | with_reducible refine s_skip ?_
      | with_reducible refine s_ret ?_
      | with_reducible refine s_block ?_
      | with_reducible refine s_blkN ?_
      | with_reducible refine s_blkR ?_
      | with_reducible refine s_blkE ?_
      | with_reducible refine l_exit ?_
      | with_reducible refine l_ret ?_
      | with_reducible refine s_end ?_
      | with_reducible refine s_reg ?_
      | with_reducible refine s_blkX (by rfl) ?_
      | with_reducible refine s_exit ?_
      | ((with_reducible refine is_cond ?_); first | refine s_condT (by first | exact e_t (by rfl) | exact e_c | exact e_f) ?_ | refine s_condF (by first | exact e_t (by rfl) | exact e_c | exact e_f) ?_)
      | ((with_reducible refine is_sG _ ?_); refine s_gN (by rfl) ?_; simp only [Fr.put, List.set_cons_succ, List.set_cons_zero])
      | ((with_reducible refine is_s (.move _) ?_); refine s_gL (by rfl) (x_move (by first | exact e_t (by rfl) | exact e_c | exact e_f)) ?_; simp only [Fr.put, List.set_cons_succ, List.set_cons_zero])
      | ((with_reducible refine is_s (.assign _) ?_); refine s_gL (by rfl) (x_assign (by first | exact e_t (by rfl) | exact e_c | exact e_f)) ?_; simp only [Fr.put, List.set_cons_succ, List.set_cons_zero])
      | ((with_reducible refine is_s (.pick _ _ _) ?_); refine s_gL (by rfl) (x_pickT (by first | exact e_t (by rfl) | exact e_c | exact e_f) (by first | exact e_t (by rfl) | exact e_c | exact e_f)) ?_; simp only [Fr.put, List.set_cons_succ, List.set_cons_zero])
      | ((with_reducible refine is_s (.pick _ _ _) ?_); refine s_gL (by rfl) (x_pickF (by first | exact e_t (by rfl) | exact e_c | exact e_f) (by first | exact e_t (by rfl) | exact e_c | exact e_f)) ?_; simp only [Fr.put, List.set_cons_succ, List.set_cons_zero])
      | ((with_reducible refine is_s (.unOp .not _ _) ?_); refine s_gL (by rfl) (x_notT (by first | exact e_t (by rfl) | exact e_c | exact e_f)) ?_; simp only [Fr.put, List.set_cons_succ, List.set_cons_zero])
      | ((with_reducible refine is_s (.unOp .not _ _) ?_); refine s_gL (by rfl) (x_notF (by first | exact e_t (by rfl) | exact e_c | exact e_f)) ?_; simp only [Fr.put, List.set_cons_succ, List.set_cons_zero])
      | ((with_reducible refine is_s (.extract _ _) ?_); refine s_gL (by rfl) (x_extract (by first | exact e_t (by rfl) | exact e_c | exact e_f) (by rfl)) ?_; simp only [Fr.put, List.set_cons_succ, List.set_cons_zero])
      | ((with_reducible refine is_s (.binOp .add _ _ _ _) ?_); refine s_gL (by rfl) (x_add (by first | exact e_t (by rfl) | exact e_c | exact e_f) (by first | exact e_t (by rfl) | exact e_c | exact e_f) (by first | exact wrap_i64_in (by omega) (by omega) | exact wrap_u64_in (by omega) (by omega) | rfl)) ?_; simp only [Fr.put, List.set_cons_succ, List.set_cons_zero])
      | ((with_reducible refine is_s (.binOp .sub _ _ _ _) ?_); refine s_gL (by rfl) (x_sub (by first | exact e_t (by rfl) | exact e_c | exact e_f) (by first | exact e_t (by rfl) | exact e_c | exact e_f) (by first | exact wrap_i64_in (by omega) (by omega) | exact wrap_u64_in (by omega) (by omega) | rfl)) ?_; simp only [Fr.put, List.set_cons_succ, List.set_cons_zero])
      | ((with_reducible refine is_s (.convert _ _ _) ?_); refine s_gL (by rfl) (x_conv (by first | exact u_3 | exact u_45 | exact u_49 | exact u_22) (by first | exact u_3 | exact u_45 | exact u_49 | exact u_22) (by first | exact e_t (by rfl) | exact e_c | exact e_f) (by first | exact wrap_i64_in (by omega) (by omega) | exact wrap_u64_in (by omega) (by omega) | rfl)) ?_; simp only [Fr.put, List.set_cons_succ, List.set_cons_zero])
      | ((with_reducible refine is_s (.binOp .shr _ _ _ _) ?_); refine s_gL (by rfl) (x_shr (m := 1) (by first | exact e_t (by rfl) | exact e_c | exact e_f) (by first | exact e_t (by rfl) | exact e_c | exact e_f) rfl (by show _ ≤ 64; omega) (by omega)) ?_; simp only [Fr.put, List.set_cons_succ, List.set_cons_zero])
      | ((with_reducible refine is_s (.binOp .shr _ _ _ _) ?_); refine s_gL (by rfl) (x_shr (by first | exact e_t (by rfl) | exact e_c | exact e_f) (by first | exact e_t (by rfl) | exact e_c | exact e_f) (by first | rfl | exact (Int.toNat_of_nonneg (by omega)).symm) (by show _ ≤ 64; omega) (by omega)) ?_; simp only [Fr.put, List.set_cons_succ, List.set_cons_zero])
      | ((with_reducible refine is_s (.binOp .shl _ _ _ _) ?_); refine s_gL (by rfl) (x_shl1 (by first | exact e_t (by rfl) | exact e_c | exact e_f) (by first | exact e_t (by rfl) | exact e_c | exact e_f) (by first | rfl | exact (Int.toNat_of_nonneg (by omega)).symm) (by omega)) ?_; simp only [Fr.put, List.set_cons_succ, List.set_cons_zero])
      | ((with_reducible refine is_s (.makeFunc _ _ _) ?_); refine s_gL (by rfl) (x_func1 (by first | exact e_t (by rfl) | exact e_c | exact e_f)) ?_; simp only [Fr.put, List.set_cons_succ, List.set_cons_zero])
      | ((with_reducible refine is_s (.makeFunc _ _ _) ?_); refine s_gL (by rfl) (x_func2 (by first | exact e_t (by rfl) | exact e_c | exact e_f) (by first | exact e_t (by rfl) | exact e_c | exact e_f)) ?_; simp only [Fr.put, List.set_cons_succ, List.set_cons_zero])
      | ((with_reducible refine is_s (.makeFunc _ _ _) ?_); refine s_gL (by rfl) (x_func3 (by first | exact e_t (by rfl) | exact e_c | exact e_f) (by first | exact e_t (by rfl) | exact e_c | exact e_f) (by first | exact e_t (by rfl) | exact e_c | exact e_f)) ?_; simp only [Fr.put, List.set_cons_succ, List.set_cons_zero])
      | ((with_reducible refine is_s (.makeFunc _ _ _) ?_); refine s_gL (by rfl) (x_func (by rfl)) ?_; simp only [Fr.put, List.set_cons_succ, List.set_cons_zero])
      | ((with_reducible refine is_s (.load _ _) ?_); refine s_gL (by rfl) (x_load (by first | exact e_t (by rfl) | exact e_c | exact e_f) (by rfl)) ?_; simp only [Fr.put, List.set_cons_succ, List.set_cons_zero])
      | ((with_reducible refine is_s (.binOp .eql _ _ _ _) ?_); refine s_gB (by rfl) (x_eq (by first | exact e_t (by rfl) | exact e_c | exact e_f) (by first | exact e_t (by rfl) | exact e_c | exact e_f)) (fun hb => ?_) (fun hb => ?_) <;> simp only [decide_eq_true_eq, decide_eq_false_iff_not, Bool.not_eq_true', Bool.not_eq_false', not_true_eq_false, not_false_eq_true] at hb <;> first | (exfalso; omega) | (simp only [Fr.put, List.set_cons_succ, List.set_cons_zero]))
      | ((with_reducible refine is_s (.binOp .neq _ _ _ _) ?_); refine s_gB (by rfl) (x_ne (by first | exact e_t (by rfl) | exact e_c | exact e_f) (by first | exact e_t (by rfl) | exact e_c | exact e_f)) (fun hb => ?_) (fun hb => ?_) <;> simp only [decide_eq_true_eq, decide_eq_false_iff_not, Bool.not_eq_true', Bool.not_eq_false', not_true_eq_false, not_false_eq_true] at hb <;> first | (exfalso; omega) | (simp only [Fr.put, List.set_cons_succ, List.set_cons_zero]))
      | ((with_reducible refine is_s (.binOp .lss _ _ _ _) ?_); refine s_gB (by rfl) (x_lt (by first | exact e_t (by rfl) | exact e_c | exact e_f) (by first | exact e_t (by rfl) | exact e_c | exact e_f)) (fun hb => ?_) (fun hb => ?_) <;> simp only [decide_eq_true_eq, decide_eq_false_iff_not, Bool.not_eq_true', Bool.not_eq_false', not_true_eq_false, not_false_eq_true] at hb <;> first | (exfalso; omega) | (simp only [Fr.put, List.set_cons_succ, List.set_cons_zero]))
      | ((with_reducible refine is_s (.binOp .leq _ _ _ _) ?_); refine s_gB (by rfl) (x_le (by first | exact e_t (by rfl) | exact e_c | exact e_f) (by first | exact e_t (by rfl) | exact e_c | exact e_f)) (fun hb => ?_) (fun hb => ?_) <;> simp only [decide_eq_true_eq, decide_eq_false_iff_not, Bool.not_eq_true', Bool.not_eq_false', not_true_eq_false, not_false_eq_true] at hb <;> first | (exfalso; omega) | (simp only [Fr.put, List.set_cons_succ, List.set_cons_zero]))
      | ((with_reducible refine is_s (.binOp .gtr _ _ _ _) ?_); refine s_gB (by rfl) (x_gt (by first | exact e_t (by rfl) | exact e_c | exact e_f) (by first | exact e_t (by rfl) | exact e_c | exact e_f)) (fun hb => ?_) (fun hb => ?_) <;> simp only [decide_eq_true_eq, decide_eq_false_iff_not, Bool.not_eq_true', Bool.not_eq_false', not_true_eq_false, not_false_eq_true] at hb <;> first | (exfalso; omega) | (simp only [Fr.put, List.set_cons_succ, List.set_cons_zero]))
      | ((with_reducible refine is_s (.binOp .geq _ _ _ _) ?_); refine s_gB (by rfl) (x_ge (by first | exact e_t (by rfl) | exact e_c | exact e_f) (by first | exact e_t (by rfl) | exact e_c | exact e_f)) (fun hb => ?_) (fun hb => ?_) <;> simp only [decide_eq_true_eq, decide_eq_false_iff_not, Bool.not_eq_true', Bool.not_eq_false', not_true_eq_false, not_false_eq_true] at hb <;> first | (exfalso; omega) | (simp only [Fr.put, List.set_cons_succ, List.set_cons_zero]))
      | ((with_reducible refine is_s (.call ⟨.value (.func 13), _, _⟩) ?_); refine s_gK (by rfl) (by rfl) ok_13 rfl (c1) ?_; simp only [Fr.put, List.set_cons_succ, List.set_cons_zero])
      | ((with_reducible refine is_s (.load _ _) ?_); refine s_gL (by rfl) (x_load1 (by first | exact s1_3 | exact s1_49 | exact s1_53 | exact s1_22) (by first | exact e_t (by rfl) | exact e_c | exact e_f) (by rfl) (by rfl)) ?_; simp only [Fr.put, List.set_cons_succ, List.set_cons_zero])
      | ((with_reducible refine is_s (.indexAddr _ _ _) ?_); refine s_gL (by rfl) (x_idxS (by first | exact sl_32) (by first | exact e_t (by rfl) | exact e_c | exact e_f) (by first | exact e_t (by rfl) | exact e_c | exact e_f) (by omega) (by omega)) ?_; simp only [Fr.put, List.set_cons_succ, List.set_cons_zero])
      | ((with_reducible refine is_s (.buildSlice _ _ _) ?_); refine s_gH (by rfl) (x_bsl (by rfl) bs_k) ?_; simp only [Fr.put, List.set_cons_succ, List.set_cons_zero, List.length_cons, List.length_nil, List.nil_append, List.cons_append, Nat.reduceAdd])
      | ((with_reducible refine is_s (.box _ _) ?_); refine s_gH (by rfl) (x_box1 (by first | exact s1_3 | exact s1_49 | exact s1_53 | exact s1_22) (by first | exact e_t (by rfl) | exact e_c | exact e_f) rfl) ?_; simp only [Fr.put, List.set_cons_succ, List.set_cons_zero, List.length_cons, List.length_nil, List.nil_append, List.cons_append, Nat.reduceAdd])
      | ((with_reducible refine is_s (.store _ _ _) ?_); refine s_gH (by rfl) (x_store1 (by first | exact s1_3 | exact s1_49 | exact s1_53 | exact s1_22) (by first | exact e_t (by rfl) | exact e_c | exact e_f) (by first | exact e_t (by rfl) | exact e_c | exact e_f) rfl (by rfl) (by simp only [List.length_cons, List.length_nil]; omega)) ?_; simp only [Fr.put, List.set_cons_succ, List.set_cons_zero, List.length_cons, List.length_nil, List.nil_append, List.cons_append, Nat.reduceAdd])
      )
    all_goals first | refine k_1 rfl (by rfl) ?_ | refine k_2 rfl (by rfl) (by rfl) ?_ | refine k_3 rfl (by rfl) (by rfl) (by rfl) ?_ | refine k_4 rfl (by rfl) (by rfl) (by rfl) (by rfl) ?_
    exact ⟨by rw [hv], rfl⟩
  · rw [baseR, if_neg hv] at c1
    refine acalls_of_wk hm Try.func26 rfl ?_
    simp only [Try.ntmps26, List.length_cons, List.length_nil, Nat.reduceAdd, Nat.reduceSub, List.reduceReplicate, List.cons_append, List.nil_append]
    show wk _ _ none _ _ ⟨_, []⟩ _
    repeat' (first
      | with_reducible refine s_seq ?_
      | with_reducible refine s_then ?_
      | with_reducible refine s_thenR ?_
      | with_reducible refine s_thenE ?_
      | with_reducible refine s_skip ?_
      | with_reducible refine s_ret ?_
      | with_reducible refine s_block ?_
      | with_reducible refine s_blkN ?_
      | with_reducible refine s_blkR ?_
      | with_reducible refine s_blkE ?_
      | with_reducible refine l_exit ?_
      | with_reducible refine l_ret ?_
      | with_reducible refine s_end ?_
      | with_reducible refine s_reg ?_
      | with_reducible refine s_blkX (by rfl) ?_
      | with_reducible refine s_exit ?_
      | ((with_reducible refine is_cond ?_); first | refine s_condT (by first | exact e_t (by rfl) | exact e_c | exact e_f) ?_ | refine s_condF (by first | exact e_t (by rfl) | exact e_c | exact e_f) ?_)
      | ((with_reducible refine is_sG _ ?_); refine s_gN (by rfl) ?_; simp only [Fr.put, List.set_cons_succ, List.set_cons_zero])
      | ((with_reducible refine is_s (.move _) ?_); refine s_gL (by rfl) (x_move (by first | exact e_t (by rfl) | exact e_c | exact e_f)) ?_; simp only [Fr.put, List.set_cons_succ, List.set_cons_zero])
      | ((with_reducible refine is_s (.assign _) ?_); refine s_gL (by rfl) (x_assign (by first | exact e_t (by rfl) | exact e_c | exact e_f)) ?_; simp only [Fr.put, List.set_cons_succ, List.set_cons_zero])
      | ((with_reducible refine is_s (.pick _ _ _) ?_); refine s_gL (by rfl) (x_pickT (by first | exact e_t (by rfl) | exact e_c | exact e_f) (by first | exact e_t (by rfl) | exact e_c | exact e_f)) ?_; simp only [Fr.put, List.set_cons_succ, List.set_cons_zero])
      | ((with_reducible refine is_s (.pick _ _ _) ?_); refine s_gL (by rfl) (x_pickF (by first | exact e_t (by rfl) | exact e_c | exact e_f) (by first | exact e_t (by rfl) | exact e_c | exact e_f)) ?_; simp only [Fr.put, List.set_cons_succ, List.set_cons_zero])
      | ((with_reducible refine is_s (.unOp .not _ _) ?_); refine s_gL (by rfl) (x_notT (by first | exact e_t (by rfl) | exact e_c | exact e_f)) ?_; simp only [Fr.put, List.set_cons_succ, List.set_cons_zero])
      | ((with_reducible refine is_s (.unOp .not _ _) ?_); refine s_gL (by rfl) (x_notF (by first | exact e_t (by rfl) | exact e_c | exact e_f)) ?_; simp only [Fr.put, List.set_cons_succ, List.set_cons_zero])
      | ((with_reducible refine is_s (.extract _ _) ?_); refine s_gL (by rfl) (x_extract (by first | exact e_t (by rfl) | exact e_c | exact e_f) (by rfl)) ?_; simp only [Fr.put, List.set_cons_succ, List.set_cons_zero])
      | ((with_reducible refine is_s (.binOp .add _ _ _ _) ?_); refine s_gL (by rfl) (x_add (by first | exact e_t (by rfl) | exact e_c | exact e_f) (by first | exact e_t (by rfl) | exact e_c | exact e_f) (by first | exact wrap_i64_in (by omega) (by omega) | exact wrap_u64_in (by omega) (by omega) | rfl)) ?_; simp only [Fr.put, List.set_cons_succ, List.set_cons_zero])
      | ((with_reducible refine is_s (.binOp .sub _ _ _ _) ?_); refine s_gL (by rfl) (x_sub (by first | exact e_t (by rfl) | exact e_c | exact e_f) (by first | exact e_t (by rfl) | exact e_c | exact e_f) (by first | exact wrap_i64_in (by omega) (by omega) | exact wrap_u64_in (by omega) (by omega) | rfl)) ?_; simp only [Fr.put, List.set_cons_succ, List.set_cons_zero])
      | ((with_reducible refine is_s (.convert _ _ _) ?_); refine s_gL (by rfl) (x_conv (by first | exact u_3 | exact u_45 | exact u_49 | exact u_22) (by first | exact u_3 | exact u_45 | exact u_49 | exact u_22) (by first | exact e_t (by rfl) | exact e_c | exact e_f) (by first | exact wrap_i64_in (by omega) (by omega) | exact wrap_u64_in (by omega) (by omega) | rfl)) ?_; simp only [Fr.put, List.set_cons_succ, List.set_cons_zero])
      | ((with_reducible refine is_s (.binOp .shr _ _ _ _) ?_); refine s_gL (by rfl) (x_shr (m := 1) (by first | exact e_t (by rfl) | exact e_c | exact e_f) (by first | exact e_t (by rfl) | exact e_c | exact e_f) rfl (by show _ ≤ 64; omega) (by omega)) ?_; simp only [Fr.put, List.set_cons_succ, List.set_cons_zero])
      | ((with_reducible refine is_s (.binOp .shr _ _ _ _) ?_); refine s_gL (by rfl) (x_shr (by first | exact e_t (by rfl) | exact e_c | exact e_f) (by first | exact e_t (by rfl) | exact e_c | exact e_f) (by first | rfl | exact (Int.toNat_of_nonneg (by omega)).symm) (by show _ ≤ 64; omega) (by omega)) ?_; simp only [Fr.put, List.set_cons_succ, List.set_cons_zero])
      | ((with_reducible refine is_s (.binOp .shl _ _ _ _) ?_); refine s_gL (by rfl) (x_shl1 (by first | exact e_t (by rfl) | exact e_c | exact e_f) (by first | exact e_t (by rfl) | exact e_c | exact e_f) (by first | rfl | exact (Int.toNat_of_nonneg (by omega)).symm) (by omega)) ?_; simp only [Fr.put, List.set_cons_succ, List.set_cons_zero])
      | ((with_reducible refine is_s (.makeFunc _ _ _) ?_); refine s_gL (by rfl) (x_func1 (by first | exact e_t (by rfl) | exact e_c | exact e_f)) ?_; simp only [Fr.put, List.set_cons_succ, List.set_cons_zero])
      | ((with_reducible refine is_s (.makeFunc _ _ _) ?_); refine s_gL (by rfl) (x_func2 (by first | exact e_t (by rfl) | exact e_c | exact e_f) (by first | exact e_t (by rfl) | exact e_c | exact e_f)) ?_; simp only [Fr.put, List.set_cons_succ, List.set_cons_zero])
      | ((with_reducible refine is_s (.makeFunc _ _ _) ?_); refine s_gL (by rfl) (x_func3 (by first | exact e_t (by rfl) | exact e_c | exact e_f) (by first | exact e_t (by rfl) | exact e_c | exact e_f) (by first | exact e_t (by rfl) | exact e_c | exact e_f)) ?_; simp only [Fr.put, List.set_cons_succ, List.set_cons_zero])
      | ((with_reducible refine is_s (.makeFunc _ _ _) ?_); refine s_gL (by rfl) (x_func (by rfl)) ?_; simp only [Fr.put, List.set_cons_succ, List.set_cons_zero])
      | ((with_reducible refine is_s (.load _ _) ?_); refine s_gL (by rfl) (x_load (by first | exact e_t (by rfl) | exact e_c | exact e_f) (by rfl)) ?_; simp only [Fr.put, List.set_cons_succ, List.set_cons_zero])
      | ((with_reducible refine is_s (.binOp .eql _ _ _ _) ?_); refine s_gB (by rfl) (x_eq (by first | exact e_t (by rfl) | exact e_c | exact e_f) (by first | exact e_t (by rfl) | exact e_c | exact e_f)) (fun hb => ?_) (fun hb => ?_) <;> simp only [decide_eq_true_eq, decide_eq_false_iff_not, Bool.not_eq_true', Bool.not_eq_false', not_true_eq_false, not_false_eq_true] at hb <;> first | (exfalso; omega) | (simp only [Fr.put, List.set_cons_succ, List.set_cons_zero]))
      | ((with_reducible refine is_s (.binOp .neq _ _ _ _) ?_); refine s_gB (by rfl) (x_ne (by first | exact e_t (by rfl) | exact e_c | exact e_f) (by first | exact e_t (by rfl) | exact e_c | exact e_f)) (fun hb => ?_) (fun hb => ?_) <;> simp only [decide_eq_true_eq, decide_eq_false_iff_not, Bool.not_eq_true', Bool.not_eq_false', not_true_eq_false, not_false_eq_true] at hb <;> first | (exfalso; omega) | (simp only [Fr.put, List.set_cons_succ, List.set_cons_zero]))
      | ((with_reducible refine is_s (.binOp .lss _ _ _ _) ?_); refine s_gB (by rfl) (x_lt (by first | exact e_t (by rfl) | exact e_c | exact e_f) (by first | exact e_t (by rfl) | exact e_c | exact e_f)) (fun hb => ?_) (fun hb => ?_) <;> simp only [decide_eq_true_eq, decide_eq_false_iff_not, Bool.not_eq_true', Bool.not_eq_false', not_true_eq_false, not_false_eq_true] at hb <;> first | (exfalso; omega) | (simp only [Fr.put, List.set_cons_succ, List.set_cons_zero]))
      | ((with_reducible refine is_s (.binOp .leq _ _ _ _) ?_); refine s_gB (by rfl) (x_le (by first | exact e_t (by rfl) | exact e_c | exact e_f) (by first | exact e_t (by rfl) | exact e_c | exact e_f)) (fun hb => ?_) (fun hb => ?_) <;> simp only [decide_eq_true_eq, decide_eq_false_iff_not, Bool.not_eq_true', Bool.not_eq_false', not_true_eq_false, not_false_eq_true] at hb <;> first | (exfalso; omega) | (simp only [Fr.put, List.set_cons_succ, List.set_cons_zero]))
      | ((with_reducible refine is_s (.binOp .gtr _ _ _ _) ?_); refine s_gB (by rfl) (x_gt (by first | exact e_t (by rfl) | exact e_c | exact e_f) (by first | exact e_t (by rfl) | exact e_c | exact e_f)) (fun hb => ?_) (fun hb => ?_) <;> simp only [decide_eq_true_eq, decide_eq_false_iff_not, Bool.not_eq_true', Bool.not_eq_false', not_true_eq_false, not_false_eq_true] at hb <;> first | (exfalso; omega) | (simp only [Fr.put, List.set_cons_succ, List.set_cons_zero]))
      | ((with_reducible refine is_s (.binOp .geq _ _ _ _) ?_); refine s_gB (by rfl) (x_ge (by first | exact e_t (by rfl) | exact e_c | exact e_f) (by first | exact e_t (by rfl) | exact e_c | exact e_f)) (fun hb => ?_) (fun hb => ?_) <;> simp only [decide_eq_true_eq, decide_eq_false_iff_not, Bool.not_eq_true', Bool.not_eq_false', not_true_eq_false, not_false_eq_true] at hb <;> first | (exfalso; omega) | (simp only [Fr.put, List.set_cons_succ, List.set_cons_zero]))
      | ((with_reducible refine is_s (.call ⟨.value (.func 13), _, _⟩) ?_); refine s_gK (by rfl) (by rfl) ok_13 rfl (c1) ?_; simp only [Fr.put, List.set_cons_succ, List.set_cons_zero])
      | ((with_reducible refine is_s (.load _ _) ?_); refine s_gL (by rfl) (x_load1 (by first | exact s1_3 | exact s1_49 | exact s1_53 | exact s1_22) (by first | exact e_t (by rfl) | exact e_c | exact e_f) (by rfl) (by rfl)) ?_; simp only [Fr.put, List.set_cons_succ, List.set_cons_zero])
      | ((with_reducible refine is_s (.indexAddr _ _ _) ?_); refine s_gL (by rfl) (x_idxS (by first | exact sl_32) (by first | exact e_t (by rfl) | exact e_c | exact e_f) (by first | exact e_t (by rfl) | exact e_c | exact e_f) (by omega) (by omega)) ?_; simp only [Fr.put, List.set_cons_succ, List.set_cons_zero])
      | ((with_reducible refine is_s (.buildSlice _ _ _) ?_); refine s_gH (by rfl) (x_bsl (by rfl) bs_k) ?_; simp only [Fr.put, List.set_cons_succ, List.set_cons_zero, List.length_cons, List.length_nil, List.nil_append, List.cons_append, Nat.reduceAdd])
      | ((with_reducible refine is_s (.box _ _) ?_); refine s_gH (by rfl) (x_box1 (by first | exact s1_3 | exact s1_49 | exact s1_53 | exact s1_22) (by first | exact e_t (by rfl) | exact e_c | exact e_f) rfl) ?_; simp only [Fr.put, List.set_cons_succ, List.set_cons_zero, List.length_cons, List.length_nil, List.nil_append, List.cons_append, Nat.reduceAdd])
      | ((with_reducible refine is_s (.store _ _ _) ?_); refine s_gH (by rfl) (x_store1 (by first | exact s1_3 | exact s1_49 | exact s1_53 | exact s1_22) (by first | exact e_t (by rfl) | exact e_c | exact e_f) (by first | exact e_t (by rfl) | exact e_c | exact e_f) rfl (by rfl) (by simp only [List.length_cons, List.length_nil]; omega)) ?_; simp only [Fr.put, List.set_cons_succ, List.set_cons_zero, List.length_cons, List.length_nil, List.nil_append, List.cons_append, Nat.reduceAdd])
      )
    all_goals first | refine k_1 rfl (by rfl) ?_ | refine k_2 rfl (by rfl) (by rfl) ?_ | refine k_3 rfl (by rfl) (by rfl) (by rfl) ?_ | refine k_4 rfl (by rfl) (by rfl) (by rfl) (by rfl) ?_
    exact ⟨rfl, rfl⟩
theorem known_any : ACalls Try.prog 5 [] [] (fun r _ => r = B true ∧ r.sc 0 = true) := by
  have v1 := value_any 0 24 15
  rw [show valR 0 24 15 = .tup [I 63, I 0] by rfl] at v1
  have v2 := value_any 0 24 16
  rw [show valR 0 24 16 = .tup [I 0, I 2] by rfl] at v2
  have b1 := based_any 0 36
  rw [show askF 0 36 = 24 by rfl] at b1
  have b2 := based_any 1 32
  rw [show askF 1 32 = 24 by rfl] at b2
  have b3 := based_any 2 53
  rw [show askF 2 53 = 24 by rfl] at b3
  have b4 := based_any 3 0
  rw [show askF 3 0 = 11 by rfl] at b4
  have l1 := bitsS_any 0 [.cells [I 16, I 24, I 35] 3 true] (.sl 0 0 3 3 false) [16, 24, 35] (.inr ⟨0, 0, 3, false, _, 3, true, rfl, rfl, by decide, rfl⟩) (by decide)
  rw [show bitsR 0 [16, 24, 35] = .tup [I 21, I 0] by rfl] at l1
  refine acalls_of_wk hm Try.func5 rfl ?_
  simp only [Try.ntmps5, List.length_cons, List.length_nil, Nat.reduceAdd, Nat.reduceSub, List.reduceReplicate, List.cons_append, List.nil_append]
  show wk _ _ none _ _ ⟨_, []⟩ _
  repeat' (first
    | with_reducible refine s_seq ?_
    | with_reducible refine s_then ?_
    | with_reducible refine s_thenR ?_
    | with_reducible refine s_thenE ?_
    | with_reducible refine s_skip ?_
    | with_reducible refine s_ret ?_
    | with_reducible refine s_block ?_
    | with_reducible refine s_blkN ?_
    | with_reducible refine s_blkR ?_
    | with_reducible refine s_blkE ?_
    | with_reducible refine l_exit ?_
    | with_reducible refine l_ret ?_
    | with_reducible refine s_end ?_
    | with_reducible refine s_reg ?_
    | with_reducible refine s_blkX (by rfl) ?_
    | with_reducible refine s_exit ?_
    | ((with_reducible refine is_cond ?_); first | refine s_condT (by first | exact e_t (by rfl) | exact e_c | exact e_f) ?_ | refine s_condF (by first | exact e_t (by rfl) | exact e_c | exact e_f) ?_)
    | ((with_reducible refine is_sG _ ?_); refine s_gN (by rfl) ?_; simp only [Fr.put, List.set_cons_succ, List.set_cons_zero])
    | ((with_reducible refine is_s (.move _) ?_); refine s_gL (by rfl) (x_move (by first | exact e_t (by rfl) | exact e_c | exact e_f)) ?_; simp only [Fr.put, List.set_cons_succ, List.set_cons_zero])
    | ((with_reducible refine is_s (.assign _) ?_); refine s_gL (by rfl) (x_assign (by first | exact e_t (by rfl) | exact e_c | exact e_f)) ?_; simp only [Fr.put, List.set_cons_succ, List.set_cons_zero])
    | ((with_reducible refine is_s (.pick _ _ _) ?_); refine s_gL (by rfl) (x_pickT (by first | exact e_t (by rfl) | exact e_c | exact e_f) (by first | exact e_t (by rfl) | exact e_c | exact e_f)) ?_; simp only [Fr.put, List.set_cons_succ, List.set_cons_zero])
    | ((with_reducible refine is_s (.pick _ _ _) ?_); refine s_gL (by rfl) (x_pickF (by first | exact e_t (by rfl) | exact e_c | exact e_f) (by first | exact e_t (by rfl) | exact e_c | exact e_f)) ?_; simp only [Fr.put, List.set_cons_succ, List.set_cons_zero])
    | ((with_reducible refine is_s (.unOp .not _ _) ?_); refine s_gL (by rfl) (x_notT (by first | exact e_t (by rfl) | exact e_c | exact e_f)) ?_; simp only [Fr.put, List.set_cons_succ, List.set_cons_zero])
    | ((with_reducible refine is_s (.unOp .not _ _) ?_); refine s_gL (by rfl) (x_notF (by first | exact e_t (by rfl) | exact e_c | exact e_f)) ?_; simp only [Fr.put, List.set_cons_succ, List.set_cons_zero])
    | ((with_reducible refine is_s (.extract _ _) ?_); refine s_gL (by rfl) (x_extract (by first | exact e_t (by rfl) | exact e_c | exact e_f) (by rfl)) ?_; simp only [Fr.put, List.set_cons_succ, List.set_cons_zero])
    | ((with_reducible refine is_s (.binOp .add _ _ _ _) ?_); refine s_gL (by rfl) (x_add (by first | exact e_t (by rfl) | exact e_c | exact e_f) (by first | exact e_t (by rfl) | exact e_c | exact e_f) (by first | exact wrap_i64_in (by omega) (by omega) | exact wrap_u64_in (by omega) (by omega) | rfl)) ?_; simp only [Fr.put, List.set_cons_succ, List.set_cons_zero])
    | ((with_reducible refine is_s (.binOp .sub _ _ _ _) ?_); refine s_gL (by rfl) (x_sub (by first | exact e_t (by rfl) | exact e_c | exact e_f) (by first | exact e_t (by rfl) | exact e_c | exact e_f) (by first | exact wrap_i64_in (by omega) (by omega) | exact wrap_u64_in (by omega) (by omega) | rfl)) ?_; simp only [Fr.put, List.set_cons_succ, List.set_cons_zero])
    | ((with_reducible refine is_s (.convert _ _ _) ?_); refine s_gL (by rfl) (x_conv (by first | exact u_3 | exact u_45 | exact u_49 | exact u_22) (by first | exact u_3 | exact u_45 | exact u_49 | exact u_22) (by first | exact e_t (by rfl) | exact e_c | exact e_f) (by first | exact wrap_i64_in (by omega) (by omega) | exact wrap_u64_in (by omega) (by omega) | rfl)) ?_; simp only [Fr.put, List.set_cons_succ, List.set_cons_zero])
    | ((with_reducible refine is_s (.binOp .shr _ _ _ _) ?_); refine s_gL (by rfl) (x_shr (m := 1) (by first | exact e_t (by rfl) | exact e_c | exact e_f) (by first | exact e_t (by rfl) | exact e_c | exact e_f) rfl (by show _ ≤ 64; omega) (by omega)) ?_; simp only [Fr.put, List.set_cons_succ, List.set_cons_zero])
    | ((with_reducible refine is_s (.binOp .shr _ _ _ _) ?_); refine s_gL (by rfl) (x_shr (by first | exact e_t (by rfl) | exact e_c | exact e_f) (by first | exact e_t (by rfl) | exact e_c | exact e_f) (by first | rfl | exact (Int.toNat_of_nonneg (by omega)).symm) (by show _ ≤ 64; omega) (by omega)) ?_; simp only [Fr.put, List.set_cons_succ, List.set_cons_zero])
    | ((with_reducible refine is_s (.binOp .shl _ _ _ _) ?_); refine s_gL (by rfl) (x_shl1 (by first | exact e_t (by rfl) | exact e_c | exact e_f) (by first | exact e_t (by rfl) | exact e_c | exact e_f) (by first | rfl | exact (Int.toNat_of_nonneg (by omega)).symm) (by omega)) ?_; simp only [Fr.put, List.set_cons_succ, List.set_cons_zero])
    | ((with_reducible refine is_s (.makeFunc _ _ _) ?_); refine s_gL (by rfl) (x_func1 (by first | exact e_t (by rfl) | exact e_c | exact e_f)) ?_; simp only [Fr.put, List.set_cons_succ, List.set_cons_zero])
    | ((with_reducible refine is_s (.makeFunc _ _ _) ?_); refine s_gL (by rfl) (x_func2 (by first | exact e_t (by rfl) | exact e_c | exact e_f) (by first | exact e_t (by rfl) | exact e_c | exact e_f)) ?_; simp only [Fr.put, List.set_cons_succ, List.set_cons_zero])
    | ((with_reducible refine is_s (.makeFunc _ _ _) ?_); refine s_gL (by rfl) (x_func3 (by first | exact e_t (by rfl) | exact e_c | exact e_f) (by first | exact e_t (by rfl) | exact e_c | exact e_f) (by first | exact e_t (by rfl) | exact e_c | exact e_f)) ?_; simp only [Fr.put, List.set_cons_succ, List.set_cons_zero])
    | ((with_reducible refine is_s (.makeFunc _ _ _) ?_); refine s_gL (by rfl) (x_func (by rfl)) ?_; simp only [Fr.put, List.set_cons_succ, List.set_cons_zero])
    | ((with_reducible refine is_s (.load _ _) ?_); refine s_gL (by rfl) (x_load (by first | exact e_t (by rfl) | exact e_c | exact e_f) (by rfl)) ?_; simp only [Fr.put, List.set_cons_succ, List.set_cons_zero])
    | ((with_reducible refine is_s (.binOp .eql _ _ _ _) ?_); refine s_gB (by rfl) (x_eq (by first | exact e_t (by rfl) | exact e_c | exact e_f) (by first | exact e_t (by rfl) | exact e_c | exact e_f)) (fun hb => ?_) (fun hb => ?_) <;> simp only [decide_eq_true_eq, decide_eq_false_iff_not, Bool.not_eq_true', Bool.not_eq_false', not_true_eq_false, not_false_eq_true] at hb <;> first | (exfalso; omega) | (simp only [Fr.put, List.set_cons_succ, List.set_cons_zero]))
    | ((with_reducible refine is_s (.binOp .neq _ _ _ _) ?_); refine s_gB (by rfl) (x_ne (by first | exact e_t (by rfl) | exact e_c | exact e_f) (by first | exact e_t (by rfl) | exact e_c | exact e_f)) (fun hb => ?_) (fun hb => ?_) <;> simp only [decide_eq_true_eq, decide_eq_false_iff_not, Bool.not_eq_true', Bool.not_eq_false', not_true_eq_false, not_false_eq_true] at hb <;> first | (exfalso; omega) | (simp only [Fr.put, List.set_cons_succ, List.set_cons_zero]))
    | ((with_reducible refine is_s (.binOp .lss _ _ _ _) ?_); refine s_gB (by rfl) (x_lt (by first | exact e_t (by rfl) | exact e_c | exact e_f) (by first | exact e_t (by rfl) | exact e_c | exact e_f)) (fun hb => ?_) (fun hb => ?_) <;> simp only [decide_eq_true_eq, decide_eq_false_iff_not, Bool.not_eq_true', Bool.not_eq_false', not_true_eq_false, not_false_eq_true] at hb <;> first | (exfalso; omega) | (simp only [Fr.put, List.set_cons_succ, List.set_cons_zero]))
    | ((with_reducible refine is_s (.binOp .leq _ _ _ _) ?_); refine s_gB (by rfl) (x_le (by first | exact e_t (by rfl) | exact e_c | exact e_f) (by first | exact e_t (by rfl) | exact e_c | exact e_f)) (fun hb => ?_) (fun hb => ?_) <;> simp only [decide_eq_true_eq, decide_eq_false_iff_not, Bool.not_eq_true', Bool.not_eq_false', not_true_eq_false, not_false_eq_true] at hb <;> first | (exfalso; omega) | (simp only [Fr.put, List.set_cons_succ, List.set_cons_zero]))
    | ((with_reducible refine is_s (.binOp .gtr _ _ _ _) ?_); refine s_gB (by rfl) (x_gt (by first | exact e_t (by rfl) | exact e_c | exact e_f) (by first | exact e_t (by rfl) | exact e_c | exact e_f)) (fun hb => ?_) (fun hb => ?_) <;> simp only [decide_eq_true_eq, decide_eq_false_iff_not, Bool.not_eq_true', Bool.not_eq_false', not_true_eq_false, not_false_eq_true] at hb <;> first | (exfalso; omega) | (simp only [Fr.put, List.set_cons_succ, List.set_cons_zero]))
    | ((with_reducible refine is_s (.binOp .geq _ _ _ _) ?_); refine s_gB (by rfl) (x_ge (by first | exact e_t (by rfl) | exact e_c | exact e_f) (by first | exact e_t (by rfl) | exact e_c | exact e_f)) (fun hb => ?_) (fun hb => ?_) <;> simp only [decide_eq_true_eq, decide_eq_false_iff_not, Bool.not_eq_true', Bool.not_eq_false', not_true_eq_false, not_false_eq_true] at hb <;> first | (exfalso; omega) | (simp only [Fr.put, List.set_cons_succ, List.set_cons_zero]))
    | ((with_reducible refine is_s (.call ⟨.value (.func 17), _, _⟩) ?_); refine s_gK (by rfl) (by rfl) ok_17 rfl (awake_any) ?_; simp only [Fr.put, List.set_cons_succ, List.set_cons_zero])
    | ((with_reducible refine is_s (.call ⟨.value (.func 15), _, _⟩) ?_); refine s_gK (by rfl) (by rfl) ok_15 rfl (v1) ?_; simp only [Fr.put, List.set_cons_succ, List.set_cons_zero])
    | ((with_reducible refine is_s (.call ⟨.value (.func 15), _, _⟩) ?_); refine s_gK (by rfl) (by rfl) ok_15 rfl (v2) ?_; simp only [Fr.put, List.set_cons_succ, List.set_cons_zero])
    | ((with_reducible refine is_s (.call ⟨.value (.func 26), _, _⟩) ?_); refine s_gK (by rfl) (by rfl) ok_26 rfl (b1) ?_; simp only [Fr.put, List.set_cons_succ, List.set_cons_zero])
    | ((with_reducible refine is_s (.call ⟨.value (.func 26), _, _⟩) ?_); refine s_gK (by rfl) (by rfl) ok_26 rfl (b2) ?_; simp only [Fr.put, List.set_cons_succ, List.set_cons_zero])
    | ((with_reducible refine is_s (.call ⟨.value (.func 26), _, _⟩) ?_); refine s_gK (by rfl) (by rfl) ok_26 rfl (b3) ?_; simp only [Fr.put, List.set_cons_succ, List.set_cons_zero])
    | ((with_reducible refine is_s (.call ⟨.value (.func 26), _, _⟩) ?_); refine s_gK (by rfl) (by rfl) ok_26 rfl (b4) ?_; simp only [Fr.put, List.set_cons_succ, List.set_cons_zero])
    | ((with_reducible refine is_s (.call ⟨.value (.func 21), _, _⟩) ?_); refine s_gM (by rfl) (by rfl) ok_21 (l1) ?_; simp only [Fr.put, List.set_cons_succ, List.set_cons_zero])
    | ((with_reducible refine is_s (.call ⟨.value (.func 24), _, _⟩) ?_); refine s_gK (by rfl) (by rfl) ok_24 rfl (is_yes 0 0 0 0 0 (by omega) (by omega) (codeR_yes (c := 0) (by omega) (by omega) (by decide) ⟨by decide +kernel, by decide +kernel⟩)) ?_; simp only [Fr.put, List.set_cons_succ, List.set_cons_zero])
    | ((with_reducible refine is_s (.call ⟨.value (.func 24), _, _⟩) ?_); refine s_gK (by rfl) (by rfl) ok_24 rfl (is_yes 0 64 25 6 0 (by omega) (by omega) (codeR_yes (c := 25) (by omega) (by omega) (by decide) ⟨by decide +kernel, by decide +kernel⟩)) ?_; simp only [Fr.put, List.set_cons_succ, List.set_cons_zero])
    | ((with_reducible refine is_s (.call ⟨.value (.func 24), _, _⟩) ?_); refine s_gK (by rfl) (by rfl) ok_24 rfl (is_yes 0 131071 35 16 65535 (by omega) (by omega) (codeR_yes (c := 35) (by omega) (by omega) (by decide) ⟨by decide +kernel, by decide +kernel⟩)) ?_; simp only [Fr.put, List.set_cons_succ, List.set_cons_zero])
    | ((with_reducible refine is_s (.call ⟨.value (.func 25), _, _⟩) ?_); refine s_gK (by rfl) (by rfl) ok_25 rfl (none_yes 0 131072 (by omega) (by omega) (codeR_none (by omega) (by omega) (by decide +kernel))) ?_; simp only [Fr.put, List.set_cons_succ, List.set_cons_zero])
    | ((with_reducible refine is_s (.call ⟨.value (.func 24), _, _⟩) ?_); refine s_gK (by rfl) (by rfl) ok_24 rfl (is_yes 2 36 32 1 1 (by omega) (by omega) (codeR_yes (c := 32) (by omega) (by omega) (by decide) ⟨by decide +kernel, by decide +kernel⟩)) ?_; simp only [Fr.put, List.set_cons_succ, List.set_cons_zero])
    | ((with_reducible refine is_s (.call ⟨.value (.func 24), _, _⟩) ?_); refine s_gK (by rfl) (by rfl) ok_24 rfl (is_yes 2 130 42 5 31 (by omega) (by omega) (codeR_yes (c := 42) (by omega) (by omega) (by decide) ⟨by decide +kernel, by decide +kernel⟩)) ?_; simp only [Fr.put, List.set_cons_succ, List.set_cons_zero])
    | ((with_reducible refine is_s (.call ⟨.value (.func 24), _, _⟩) ?_); refine s_gK (by rfl) (by rfl) ok_24 rfl (is_yes 2 131 43 7 0 (by omega) (by omega) (codeR_yes (c := 43) (by omega) (by omega) (by decide) ⟨by decide +kernel, by decide +kernel⟩)) ?_; simp only [Fr.put, List.set_cons_succ, List.set_cons_zero])
    | ((with_reducible refine is_s (.call ⟨.value (.func 25), _, _⟩) ?_); refine s_gK (by rfl) (by rfl) ok_25 rfl (none_yes 2 2 (by omega) (by omega) (codeR_none (by omega) (by omega) (by decide +kernel))) ?_; simp only [Fr.put, List.set_cons_succ, List.set_cons_zero])
    | ((with_reducible refine is_s (.call ⟨.value (.func 24), _, _⟩) ?_); refine s_gK (by rfl) (by rfl) ok_24 rfl (is_yes 1 1 0 0 0 (by omega) (by omega) (codeR_yes (c := 0) (by omega) (by omega) (by decide) ⟨by decide +kernel, by decide +kernel⟩)) ?_; simp only [Fr.put, List.set_cons_succ, List.set_cons_zero])
    | ((with_reducible refine is_s (.call ⟨.value (.func 24), _, _⟩) ?_); refine s_gK (by rfl) (by rfl) ok_24 rfl (is_yes 1 3 1 1 1 (by omega) (by omega) (codeR_yes (c := 1) (by omega) (by omega) (by decide) ⟨by decide +kernel, by decide +kernel⟩)) ?_; simp only [Fr.put, List.set_cons_succ, List.set_cons_zero])
    | ((with_reducible refine is_s (.load _ _) ?_); refine s_gL (by rfl) (x_load1 (by first | exact s1_3 | exact s1_49 | exact s1_53 | exact s1_22) (by first | exact e_t (by rfl) | exact e_c | exact e_f) (by rfl) (by rfl)) ?_; simp only [Fr.put, List.set_cons_succ, List.set_cons_zero])
    | ((with_reducible refine is_s (.indexAddr _ _ _) ?_); refine s_gL (by rfl) (x_idxS (by first | exact sl_32) (by first | exact e_t (by rfl) | exact e_c | exact e_f) (by first | exact e_t (by rfl) | exact e_c | exact e_f) (by omega) (by omega)) ?_; simp only [Fr.put, List.set_cons_succ, List.set_cons_zero])
    | ((with_reducible refine is_s (.buildSlice _ _ _) ?_); refine s_gH (by rfl) (x_bsl (by rfl) bs_k) ?_; simp only [Fr.put, List.set_cons_succ, List.set_cons_zero, List.length_cons, List.length_nil, List.nil_append, List.cons_append, Nat.reduceAdd])
    | ((with_reducible refine is_s (.box _ _) ?_); refine s_gH (by rfl) (x_box1 (by first | exact s1_3 | exact s1_49 | exact s1_53 | exact s1_22) (by first | exact e_t (by rfl) | exact e_c | exact e_f) rfl) ?_; simp only [Fr.put, List.set_cons_succ, List.set_cons_zero, List.length_cons, List.length_nil, List.nil_append, List.cons_append, Nat.reduceAdd])
    | ((with_reducible refine is_s (.store _ _ _) ?_); refine s_gH (by rfl) (x_store1 (by first | exact s1_3 | exact s1_49 | exact s1_53 | exact s1_22) (by first | exact e_t (by rfl) | exact e_c | exact e_f) (by first | exact e_t (by rfl) | exact e_c | exact e_f) rfl (by rfl) (by simp only [List.length_cons, List.length_nil]; omega)) ?_; simp only [Fr.put, List.set_cons_succ, List.set_cons_zero, List.length_cons, List.length_nil, List.nil_append, List.cons_append, Nat.reduceAdd])
    )
  all_goals first | refine k_1 rfl (by rfl) ?_ | refine k_2 rfl (by rfl) (by rfl) ?_ | refine k_3 rfl (by rfl) (by rfl) (by rfl) ?_ | refine k_4 rfl (by rfl) (by rfl) (by rfl) (by rfl) ?_
  all_goals refine ⟨?_, rfl⟩
  all_goals rfl
end Go.Proofs.Ytcnkaplepgpmlaa
