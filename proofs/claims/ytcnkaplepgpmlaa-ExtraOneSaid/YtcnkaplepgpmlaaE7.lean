/-
  A part of the proof of a statement of chapter's seat; conditions: stated at each theorem.
-/
import Derived.Test.YtcnkaplepgpmlaaE6
set_option linter.unusedSimpArgs false
set_option linter.unusedVariables false
set_option maxRecDepth 100000
set_option maxHeartbeats 4000000
namespace Go.Proofs.Ytcnkaplepgpmlaa
open Go.Az Go
theorem codeR_shape (k v : Int) : ∃ a b c d, codeR k v = .tup [I a, I b, I c, I d] := by
  unfold codeR; split
  · split
    · exact ⟨_, _, _, _, rfl⟩
    · exact ⟨_, _, _, _, rfl⟩
  · exact ⟨_, _, _, _, rfl⟩
theorem baseR_shape (k c : Int) : ∃ a b d, baseR k c = .tup [I a, I b, I d] := by
  unfold baseR; split <;> exact ⟨_, _, _, rfl⟩
theorem valR_shape (k c x : Int) : ∃ a b, valR k c x = .tup [I a, I b] := by
  unfold valR; split
  · split <;> exact ⟨_, _, rfl⟩
  · exact ⟨_, _, rfl⟩
theorem law3 (k v c x : Int) (hv0 : -9223372036854775808 ≤ v) (hv1 : v ≤ 9223372036854775807) : ACalls Try.prog 3 [I k, I v, I c, I x] [] (fun r _ => r = B true) := by
  have c1 := mostE_any k
  have c2 := rmost_any k
  have c3 := code_any k v hv0 hv1
  have c4 := rcode_any k v hv0 hv1
  have c5 := baseE_any k c
  have c6 := rbaseE_any k c
  have c7 := value_any k c x
  have c8 := rvalue_any k c x
  obtain ⟨a1, a2, a3, a4, e1⟩ := codeR_shape k v
  obtain ⟨b1, b2, b3, e2⟩ := baseR_shape k c
  obtain ⟨d1, d2, e3⟩ := valR_shape k c x
  rw [e1] at c3 c4
  rw [e2] at c5 c6
  rw [e3] at c7 c8
  generalize (if 0 ≤ k ∧ k ≤ 2 then mostF k else 0) = m1 at c1 c2
  generalize (if 0 ≤ k ∧ k ≤ 2 then 0 else 11 : Int) = m2 at c1 c2
  refine acalls_of_wk hm Try.func3 rfl ?_
  simp only [Try.ntmps3, List.length_cons, List.length_nil, Nat.reduceAdd, Nat.reduceSub, List.reduceReplicate, List.cons_append, List.nil_append]
  show wk _ _ none _ _ ⟨_, []⟩ _
  repeat' (first
    | with_reducible refine s_seq ?_
    | with_reducible refine s_then ?_
    | with_reducible refine s_thenR ?_
    | with_reducible refine s_thenE ?_
    | with_reducible refine s_skip ?_
    | with_reducible refine s_ret ?_
    | with_reducible refine s_block ?_
    | with_reducible refine s_blkN ?_
    | with_reducible refine s_blkR ?_
    | with_reducible refine s_blkE ?_
    | with_reducible refine l_exit ?_
    | with_reducible refine l_ret ?_
    | with_reducible refine s_end ?_
    | with_reducible refine s_reg ?_
    | with_reducible refine s_blkX (by rfl) ?_
    | with_reducible refine s_exit ?_
    | ((with_reducible refine is_cond ?_); first | refine s_condT (by first | exact e_t (by rfl) | exact e_c | exact e_f) ?_ | refine s_condF (by first | exact e_t (by rfl) | exact e_c | exact e_f) ?_)
    | ((with_reducible refine is_sG _ ?_); refine s_gN (by rfl) ?_; simp only [Fr.put, List.set_cons_succ, List.set_cons_zero])
    | ((with_reducible refine is_s (.move _) ?_); refine s_gL (by rfl) (x_move (by first | exact e_t (by rfl) | exact e_c | exact e_f)) ?_; simp only [Fr.put, List.set_cons_succ, List.set_cons_zero])
    | ((with_reducible refine is_s (.assign _) ?_); refine s_gL (by rfl) (x_assign (by first | exact e_t (by rfl) | exact e_c | exact e_f)) ?_; simp only [Fr.put, List.set_cons_succ, List.set_cons_zero])
    | ((with_reducible refine is_s (.pick _ _ _) ?_); refine s_gL (by rfl) (x_pickT (by first | exact e_t (by rfl) | exact e_c | exact e_f) (by first | exact e_t (by rfl) | exact e_c | exact e_f)) ?_; simp only [Fr.put, List.set_cons_succ, List.set_cons_zero])
    | ((with_reducible refine is_s (.pick _ _ _) ?_); refine s_gL (by rfl) (x_pickF (by first | exact e_t (by rfl) | exact e_c | exact e_f) (by first | exact e_t (by rfl) | exact e_c | exact e_f)) ?_; simp only [Fr.put, List.set_cons_succ, List.set_cons_zero])
    | ((with_reducible refine is_s (.unOp .not _ _) ?_); refine s_gL (by rfl) (x_notT (by first | exact e_t (by rfl) | exact e_c | exact e_f)) ?_; simp only [Fr.put, List.set_cons_succ, List.set_cons_zero])
    | ((with_reducible refine is_s (.unOp .not _ _) ?_); refine s_gL (by rfl) (x_notF (by first | exact e_t (by rfl) | exact e_c | exact e_f)) ?_; simp only [Fr.put, List.set_cons_succ, List.set_cons_zero])
    | ((with_reducible refine is_s (.extract _ _) ?_); refine s_gL (by rfl) (x_extract (by first | exact e_t (by rfl) | exact e_c | exact e_f) (by rfl)) ?_; simp only [Fr.put, List.set_cons_succ, List.set_cons_zero])
    | ((with_reducible refine is_s (.binOp .add _ _ _ _) ?_); refine s_gL (by rfl) (x_add (by first | exact e_t (by rfl) | exact e_c | exact e_f) (by first | exact e_t (by rfl) | exact e_c | exact e_f) (by first | exact wrap_i64_in (by omega) (by omega) | exact wrap_u64_in (by omega) (by omega) | rfl)) ?_; simp only [Fr.put, List.set_cons_succ, List.set_cons_zero])
    | ((with_reducible refine is_s (.binOp .sub _ _ _ _) ?_); refine s_gL (by rfl) (x_sub (by first | exact e_t (by rfl) | exact e_c | exact e_f) (by first | exact e_t (by rfl) | exact e_c | exact e_f) (by first | exact wrap_i64_in (by omega) (by omega) | exact wrap_u64_in (by omega) (by omega) | rfl)) ?_; simp only [Fr.put, List.set_cons_succ, List.set_cons_zero])
    | ((with_reducible refine is_s (.convert _ _ _) ?_); refine s_gL (by rfl) (x_conv (by first | exact u_3 | exact u_45 | exact u_49 | exact u_22) (by first | exact u_3 | exact u_45 | exact u_49 | exact u_22) (by first | exact e_t (by rfl) | exact e_c | exact e_f) (by first | exact wrap_i64_in (by omega) (by omega) | exact wrap_u64_in (by omega) (by omega) | rfl)) ?_; simp only [Fr.put, List.set_cons_succ, List.set_cons_zero])
    | ((with_reducible refine is_s (.binOp .shr _ _ _ _) ?_); refine s_gL (by rfl) (x_shr (m := 1) (by first | exact e_t (by rfl) | exact e_c | exact e_f) (by first | exact e_t (by rfl) | exact e_c | exact e_f) rfl (by show _ ≤ 64; omega) (by omega)) ?_; simp only [Fr.put, List.set_cons_succ, List.set_cons_zero])
    | ((with_reducible refine is_s (.binOp .shr _ _ _ _) ?_); refine s_gL (by rfl) (x_shr (by first | exact e_t (by rfl) | exact e_c | exact e_f) (by first | exact e_t (by rfl) | exact e_c | exact e_f) (by first | rfl | exact (Int.toNat_of_nonneg (by omega)).symm) (by show _ ≤ 64; omega) (by omega)) ?_; simp only [Fr.put, List.set_cons_succ, List.set_cons_zero])
    | ((with_reducible refine is_s (.binOp .shl _ _ _ _) ?_); refine s_gL (by rfl) (x_shl1 (by first | exact e_t (by rfl) | exact e_c | exact e_f) (by first | exact e_t (by rfl) | exact e_c | exact e_f) (by first | rfl | exact (Int.toNat_of_nonneg (by omega)).symm) (by omega)) ?_; simp only [Fr.put, List.set_cons_succ, List.set_cons_zero])
    | ((with_reducible refine is_s (.makeFunc _ _ _) ?_); refine s_gL (by rfl) (x_func1 (by first | exact e_t (by rfl) | exact e_c | exact e_f)) ?_; simp only [Fr.put, List.set_cons_succ, List.set_cons_zero])
    | ((with_reducible refine is_s (.makeFunc _ _ _) ?_); refine s_gL (by rfl) (x_func2 (by first | exact e_t (by rfl) | exact e_c | exact e_f) (by first | exact e_t (by rfl) | exact e_c | exact e_f)) ?_; simp only [Fr.put, List.set_cons_succ, List.set_cons_zero])
    | ((with_reducible refine is_s (.makeFunc _ _ _) ?_); refine s_gL (by rfl) (x_func3 (by first | exact e_t (by rfl) | exact e_c | exact e_f) (by first | exact e_t (by rfl) | exact e_c | exact e_f) (by first | exact e_t (by rfl) | exact e_c | exact e_f)) ?_; simp only [Fr.put, List.set_cons_succ, List.set_cons_zero])
    | ((with_reducible refine is_s (.makeFunc _ _ _) ?_); refine s_gL (by rfl) (x_func (by rfl)) ?_; simp only [Fr.put, List.set_cons_succ, List.set_cons_zero])
    | ((with_reducible refine is_s (.load _ _) ?_); refine s_gL (by rfl) (x_load (by first | exact e_t (by rfl) | exact e_c | exact e_f) (by rfl)) ?_; simp only [Fr.put, List.set_cons_succ, List.set_cons_zero])
    | ((with_reducible refine is_s (.binOp .eql _ _ _ _) ?_); refine s_gB (by rfl) (x_eq (by first | exact e_t (by rfl) | exact e_c | exact e_f) (by first | exact e_t (by rfl) | exact e_c | exact e_f)) (fun hb => ?_) (fun hb => ?_) <;> simp only [decide_eq_true_eq, decide_eq_false_iff_not, Bool.not_eq_true', Bool.not_eq_false', not_true_eq_false, not_false_eq_true] at hb <;> first | (exfalso; omega) | (simp only [Fr.put, List.set_cons_succ, List.set_cons_zero]))
    | ((with_reducible refine is_s (.binOp .neq _ _ _ _) ?_); refine s_gB (by rfl) (x_ne (by first | exact e_t (by rfl) | exact e_c | exact e_f) (by first | exact e_t (by rfl) | exact e_c | exact e_f)) (fun hb => ?_) (fun hb => ?_) <;> simp only [decide_eq_true_eq, decide_eq_false_iff_not, Bool.not_eq_true', Bool.not_eq_false', not_true_eq_false, not_false_eq_true] at hb <;> first | (exfalso; omega) | (simp only [Fr.put, List.set_cons_succ, List.set_cons_zero]))
    | ((with_reducible refine is_s (.binOp .lss _ _ _ _) ?_); refine s_gB (by rfl) (x_lt (by first | exact e_t (by rfl) | exact e_c | exact e_f) (by first | exact e_t (by rfl) | exact e_c | exact e_f)) (fun hb => ?_) (fun hb => ?_) <;> simp only [decide_eq_true_eq, decide_eq_false_iff_not, Bool.not_eq_true', Bool.not_eq_false', not_true_eq_false, not_false_eq_true] at hb <;> first | (exfalso; omega) | (simp only [Fr.put, List.set_cons_succ, List.set_cons_zero]))
    | ((with_reducible refine is_s (.binOp .leq _ _ _ _) ?_); refine s_gB (by rfl) (x_le (by first | exact e_t (by rfl) | exact e_c | exact e_f) (by first | exact e_t (by rfl) | exact e_c | exact e_f)) (fun hb => ?_) (fun hb => ?_) <;> simp only [decide_eq_true_eq, decide_eq_false_iff_not, Bool.not_eq_true', Bool.not_eq_false', not_true_eq_false, not_false_eq_true] at hb <;> first | (exfalso; omega) | (simp only [Fr.put, List.set_cons_succ, List.set_cons_zero]))
    | ((with_reducible refine is_s (.binOp .gtr _ _ _ _) ?_); refine s_gB (by rfl) (x_gt (by first | exact e_t (by rfl) | exact e_c | exact e_f) (by first | exact e_t (by rfl) | exact e_c | exact e_f)) (fun hb => ?_) (fun hb => ?_) <;> simp only [decide_eq_true_eq, decide_eq_false_iff_not, Bool.not_eq_true', Bool.not_eq_false', not_true_eq_false, not_false_eq_true] at hb <;> first | (exfalso; omega) | (simp only [Fr.put, List.set_cons_succ, List.set_cons_zero]))
    | ((with_reducible refine is_s (.binOp .geq _ _ _ _) ?_); refine s_gB (by rfl) (x_ge (by first | exact e_t (by rfl) | exact e_c | exact e_f) (by first | exact e_t (by rfl) | exact e_c | exact e_f)) (fun hb => ?_) (fun hb => ?_) <;> simp only [decide_eq_true_eq, decide_eq_false_iff_not, Bool.not_eq_true', Bool.not_eq_false', not_true_eq_false, not_false_eq_true] at hb <;> first | (exfalso; omega) | (simp only [Fr.put, List.set_cons_succ, List.set_cons_zero]))
    | ((with_reducible refine is_s (.call ⟨.value (.func 9), _, _⟩) ?_); refine s_gK (by rfl) (by rfl) ok_9 rfl (c1) ?_; simp only [Fr.put, List.set_cons_succ, List.set_cons_zero])
    | ((with_reducible refine is_s (.call ⟨.value (.func 10), _, _⟩) ?_); refine s_gK (by rfl) (by rfl) ok_10 rfl (c2) ?_; simp only [Fr.put, List.set_cons_succ, List.set_cons_zero])
    | ((with_reducible refine is_s (.call ⟨.value (.func 11), _, _⟩) ?_); refine s_gK (by rfl) (by rfl) ok_11 rfl (c3) ?_; simp only [Fr.put, List.set_cons_succ, List.set_cons_zero])
    | ((with_reducible refine is_s (.call ⟨.value (.func 12), _, _⟩) ?_); refine s_gK (by rfl) (by rfl) ok_12 rfl (c4) ?_; simp only [Fr.put, List.set_cons_succ, List.set_cons_zero])
    | ((with_reducible refine is_s (.call ⟨.value (.func 13), _, _⟩) ?_); refine s_gK (by rfl) (by rfl) ok_13 rfl (c5) ?_; simp only [Fr.put, List.set_cons_succ, List.set_cons_zero])
    | ((with_reducible refine is_s (.call ⟨.value (.func 14), _, _⟩) ?_); refine s_gK (by rfl) (by rfl) ok_14 rfl (c6) ?_; simp only [Fr.put, List.set_cons_succ, List.set_cons_zero])
    | ((with_reducible refine is_s (.call ⟨.value (.func 15), _, _⟩) ?_); refine s_gK (by rfl) (by rfl) ok_15 rfl (c7) ?_; simp only [Fr.put, List.set_cons_succ, List.set_cons_zero])
    | ((with_reducible refine is_s (.call ⟨.value (.func 16), _, _⟩) ?_); refine s_gK (by rfl) (by rfl) ok_16 rfl (c8) ?_; simp only [Fr.put, List.set_cons_succ, List.set_cons_zero])
    | ((with_reducible refine is_s (.call ⟨.value (.func 17), _, _⟩) ?_); refine s_gK (by rfl) (by rfl) ok_17 rfl (awake_any) ?_; simp only [Fr.put, List.set_cons_succ, List.set_cons_zero])
    | ((with_reducible refine is_s (.load _ _) ?_); refine s_gL (by rfl) (x_load1 (by first | exact s1_3 | exact s1_49 | exact s1_53 | exact s1_22) (by first | exact e_t (by rfl) | exact e_c | exact e_f) (by rfl) (by rfl)) ?_; simp only [Fr.put, List.set_cons_succ, List.set_cons_zero])
    | ((with_reducible refine is_s (.box _ _) ?_); refine s_gH (by rfl) (x_box1 (by first | exact s1_3 | exact s1_49 | exact s1_53 | exact s1_22) (by first | exact e_t (by rfl) | exact e_c | exact e_f) rfl) ?_; simp only [Fr.put, List.set_cons_succ, List.set_cons_zero, List.length_cons, List.length_nil, List.nil_append, List.cons_append, Nat.reduceAdd])
    | ((with_reducible refine is_s (.store _ _ _) ?_); refine s_gH (by rfl) (x_store1 (by first | exact s1_3 | exact s1_49 | exact s1_53 | exact s1_22) (by first | exact e_t (by rfl) | exact e_c | exact e_f) (by first | exact e_t (by rfl) | exact e_c | exact e_f) rfl (by rfl) (by simp only [List.length_cons, List.length_nil]; omega)) ?_; simp only [Fr.put, List.set_cons_succ, List.set_cons_zero, List.length_cons, List.length_nil, List.nil_append, List.cons_append, Nat.reduceAdd])
    )
  all_goals first | refine k_1 rfl (by rfl) ?_ | refine k_2 rfl (by rfl) (by rfl) ?_ | refine k_3 rfl (by rfl) (by rfl) (by rfl) ?_ | refine k_4 rfl (by rfl) (by rfl) (by rfl) (by rfl) ?_
  all_goals rfl
end Go.Proofs.Ytcnkaplepgpmlaa
