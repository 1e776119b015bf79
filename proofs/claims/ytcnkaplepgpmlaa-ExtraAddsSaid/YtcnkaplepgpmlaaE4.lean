/-
  A part of the proof of a statement of chapter's seat; conditions: stated at each theorem.
-/
import Derived.Test.YtcnkaplepgpmlaaE3
set_option linter.unusedSimpArgs false
set_option linter.unusedVariables false
set_option maxRecDepth 100000
set_option maxHeartbeats 4000000
namespace Go.Proofs.Ytcnkaplepgpmlaa
open Go.Az Go
theorem z_49 : zeroA Try.prog 49 = some [I 0] := by kernel_rfl
/-- A code is that of a value. -/
def Mt (k v : Int) (c : Nat) : Prop := baseF k c ≤ v ∧ v < baseF k c + 2 ^ (bitsF k c).toNat
theorem base_up {k : Int} (h0 : 0 ≤ k) (h2 : k ≤ 2) (c : Nat) : baseF k ((c + 1 : Nat) : Int) = baseF k c + 2 ^ (bitsF k c).toNat := by
  unfold baseF
  split
  · rename_i hk
    subst hk
    simp only [bitsF, Int.toNat_natCast]
    rw [Int.pow_succ]; simp; omega
  · simp only [Int.toNat_natCast, sumB]
theorem base_le {k : Int} (h0 : 0 ≤ k) (h2 : k ≤ 2) {c d : Nat} (h : c ≤ d) : baseF k c ≤ baseF k d := by
  induction d with
  | zero => rw [show c = 0 by omega]; exact Int.le_refl _
  | succ d ih =>
    rcases Nat.lt_or_ge c (d + 1) with h1 | h1
    · have := ih (by omega)
      have h3 := base_up h0 h2 d
      have h4 : (0:Int) < 2 ^ (bitsF k d).toNat := Int.pow_pos (by omega)
      omega
    · rw [show c = d + 1 by omega]; exact Int.le_refl _
theorem Mt_one {k v : Int} (h0 : 0 ≤ k) (h2 : k ≤ 2) {c d : Nat} (h : Mt k v c) (h' : Mt k v d) : c = d := by
  have key : ∀ {c d : Nat}, Mt k v c → Mt k v d → ¬ c < d := by
    intro c d h h' hlt
    have h3 := base_up h0 h2 c
    have h4 := base_le h0 h2 (show c + 1 ≤ d by omega)
    have h5 := h.2
    have h6 := h'.1
    omega
  have h1 := key h h'
  have h2 := key h' h
  omega
open Classical in
/-- What the code of a value is. -/
noncomputable def codeR (k v : Int) : AV := if 0 ≤ k ∧ k ≤ 2 then (if h : ∃ c : Nat, (c : Int) ≤ mostF k ∧ Mt k v c then .tup [I (Classical.choose h : Nat), I (bitsF k (Classical.choose h : Nat)), I (v - baseF k (Classical.choose h : Nat)), I 0] else .tup [I 0, I 0, I 0, I 2]) else .tup [I 0, I 0, I 0, I 11]
theorem codeR_yes {k v : Int} (h0 : 0 ≤ k) (h2 : k ≤ 2) {c : Nat} (hc : (c : Int) ≤ mostF k) (h : Mt k v c) : codeR k v = .tup [I c, I (bitsF k c), I (v - baseF k c), I 0] := by
  have hx : ∃ c : Nat, (c : Int) ≤ mostF k ∧ Mt k v c := ⟨c, hc, h⟩
  have e : Classical.choose hx = c := Mt_one h0 h2 (Classical.choose_spec hx).2 h
  unfold codeR
  rw [if_pos ⟨h0, h2⟩, dif_pos hx, e]
theorem codeR_no {k v : Int} (h0 : 0 ≤ k) (h2 : k ≤ 2) (h : ∀ c : Nat, (c : Int) ≤ mostF k → ¬ Mt k v c) : codeR k v = .tup [I 0, I 0, I 0, I 2] := by
  unfold codeR
  rw [if_pos ⟨h0, h2⟩, dif_neg fun ⟨c, h1, h3⟩ => h c h1 h3]
theorem codeR_bad {k v : Int} (h0 : ¬ (0 ≤ k ∧ k ≤ 2)) : codeR k v = .tup [I 0, I 0, I 0, I 11] := by
  unfold codeR; rw [if_neg h0]
theorem most_rng {k : Int} (h0 : 0 ≤ k) (h2 : k ≤ 2) : 31 ≤ mostF k ∧ mostF k ≤ 52 := by
  unfold mostF; split <;> (try split) <;> omega
theorem rcode_any (k v : Int) (hv0 : -9223372036854775808 ≤ v) (hv1 : v ≤ 9223372036854775807) : ACalls Try.prog 12 [I k, I v] [] (fun r _ => r = codeR k v ∧ r.sc 0 = true) := by
  have rm := rmost_any k
  by_cases hv : 0 ≤ k ∧ k ≤ 2
  · rw [if_pos hv, if_pos hv] at rm
    have hm2 := most_rng hv.1 hv.2
    refine acalls_of_wk hm Try.func12 rfl ?_
    simp only [Try.ntmps12, List.length_cons, List.length_nil, Nat.reduceAdd, Nat.reduceSub, List.reduceReplicate, List.cons_append, List.nil_append]
    show wk _ _ none _ _ ⟨_, []⟩ _
    repeat' (first
      | with_reducible refine s_seq ?_
      | with_reducible refine s_then ?_
      | with_reducible refine s_thenR ?_
      | with_reducible refine s_thenE ?_
      | with_reducible refine s_skip ?_
      | with_reducible refine s_ret ?_
      | with_reducible refine s_block ?_
      | with_reducible refine s_blkN ?_
      | with_reducible refine s_blkR ?_
      | with_reducible refine s_blkE ?_
      | with_reducible refine l_exit ?_
      | with_reducible refine l_ret ?_
      | with_reducible refine s_end ?_
      | with_reducible refine s_reg ?_
      | with_reducible refine s_blkX (by rfl) ?_
      | with_reducible refine s_exit ?_
      | ((with_reducible refine is_cond ?_); first | refine s_condT (by first | exact e_t (by rfl) | exact e_c | exact e_f) ?_ | refine s_condF (by first | exact e_t (by rfl) | exact e_c | exact e_f) ?_)
      | ((with_reducible refine is_sG _ ?_); refine s_gN (by rfl) ?_; simp only [Fr.put, List.set_cons_succ, List.set_cons_zero])
      | ((with_reducible refine is_s (.move _) ?_); refine s_gL (by rfl) (x_move (by first | exact e_t (by rfl) | exact e_c | exact e_f)) ?_; simp only [Fr.put, List.set_cons_succ, List.set_cons_zero])
      | ((with_reducible refine is_s (.assign _) ?_); refine s_gL (by rfl) (x_assign (by first | exact e_t (by rfl) | exact e_c | exact e_f)) ?_; simp only [Fr.put, List.set_cons_succ, List.set_cons_zero])
      | ((with_reducible refine is_s (.pick _ _ _) ?_); refine s_gL (by rfl) (x_pickT (by first | exact e_t (by rfl) | exact e_c | exact e_f) (by first | exact e_t (by rfl) | exact e_c | exact e_f)) ?_; simp only [Fr.put, List.set_cons_succ, List.set_cons_zero])
      | ((with_reducible refine is_s (.pick _ _ _) ?_); refine s_gL (by rfl) (x_pickF (by first | exact e_t (by rfl) | exact e_c | exact e_f) (by first | exact e_t (by rfl) | exact e_c | exact e_f)) ?_; simp only [Fr.put, List.set_cons_succ, List.set_cons_zero])
      | ((with_reducible refine is_s (.unOp .not _ _) ?_); refine s_gL (by rfl) (x_notT (by first | exact e_t (by rfl) | exact e_c | exact e_f)) ?_; simp only [Fr.put, List.set_cons_succ, List.set_cons_zero])
      | ((with_reducible refine is_s (.unOp .not _ _) ?_); refine s_gL (by rfl) (x_notF (by first | exact e_t (by rfl) | exact e_c | exact e_f)) ?_; simp only [Fr.put, List.set_cons_succ, List.set_cons_zero])
      | ((with_reducible refine is_s (.extract _ _) ?_); refine s_gL (by rfl) (x_extract (by first | exact e_t (by rfl) | exact e_c | exact e_f) (by rfl)) ?_; simp only [Fr.put, List.set_cons_succ, List.set_cons_zero])
      | ((with_reducible refine is_s (.binOp .add _ _ _ _) ?_); refine s_gL (by rfl) (x_add (by first | exact e_t (by rfl) | exact e_c | exact e_f) (by first | exact e_t (by rfl) | exact e_c | exact e_f) (by first | exact wrap_i64_in (by omega) (by omega) | exact wrap_u64_in (by omega) (by omega) | rfl)) ?_; simp only [Fr.put, List.set_cons_succ, List.set_cons_zero])
      | ((with_reducible refine is_s (.binOp .sub _ _ _ _) ?_); refine s_gL (by rfl) (x_sub (by first | exact e_t (by rfl) | exact e_c | exact e_f) (by first | exact e_t (by rfl) | exact e_c | exact e_f) (by first | exact wrap_i64_in (by omega) (by omega) | exact wrap_u64_in (by omega) (by omega) | rfl)) ?_; simp only [Fr.put, List.set_cons_succ, List.set_cons_zero])
      | ((with_reducible refine is_s (.convert _ _ _) ?_); refine s_gL (by rfl) (x_conv (by first | exact u_3 | exact u_45 | exact u_49 | exact u_22) (by first | exact u_3 | exact u_45 | exact u_49 | exact u_22) (by first | exact e_t (by rfl) | exact e_c | exact e_f) (by first | exact wrap_i64_in (by omega) (by omega) | exact wrap_u64_in (by omega) (by omega) | rfl)) ?_; simp only [Fr.put, List.set_cons_succ, List.set_cons_zero])
      | ((with_reducible refine is_s (.binOp .shr _ _ _ _) ?_); refine s_gL (by rfl) (x_shr (m := 1) (by first | exact e_t (by rfl) | exact e_c | exact e_f) (by first | exact e_t (by rfl) | exact e_c | exact e_f) rfl (by show _ ≤ 64; omega) (by omega)) ?_; simp only [Fr.put, List.set_cons_succ, List.set_cons_zero])
      | ((with_reducible refine is_s (.binOp .shr _ _ _ _) ?_); refine s_gL (by rfl) (x_shr (by first | exact e_t (by rfl) | exact e_c | exact e_f) (by first | exact e_t (by rfl) | exact e_c | exact e_f) (by first | rfl | exact (Int.toNat_of_nonneg (by omega)).symm) (by show _ ≤ 64; omega) (by omega)) ?_; simp only [Fr.put, List.set_cons_succ, List.set_cons_zero])
      | ((with_reducible refine is_s (.binOp .shl _ _ _ _) ?_); refine s_gL (by rfl) (x_shl1 (by first | exact e_t (by rfl) | exact e_c | exact e_f) (by first | exact e_t (by rfl) | exact e_c | exact e_f) (by first | rfl | exact (Int.toNat_of_nonneg (by omega)).symm) (by omega)) ?_; simp only [Fr.put, List.set_cons_succ, List.set_cons_zero])
      | ((with_reducible refine is_s (.makeFunc _ _ _) ?_); refine s_gL (by rfl) (x_func1 (by first | exact e_t (by rfl) | exact e_c | exact e_f)) ?_; simp only [Fr.put, List.set_cons_succ, List.set_cons_zero])
      | ((with_reducible refine is_s (.makeFunc _ _ _) ?_); refine s_gL (by rfl) (x_func2 (by first | exact e_t (by rfl) | exact e_c | exact e_f) (by first | exact e_t (by rfl) | exact e_c | exact e_f)) ?_; simp only [Fr.put, List.set_cons_succ, List.set_cons_zero])
      | ((with_reducible refine is_s (.makeFunc _ _ _) ?_); refine s_gL (by rfl) (x_func3 (by first | exact e_t (by rfl) | exact e_c | exact e_f) (by first | exact e_t (by rfl) | exact e_c | exact e_f) (by first | exact e_t (by rfl) | exact e_c | exact e_f)) ?_; simp only [Fr.put, List.set_cons_succ, List.set_cons_zero])
      | ((with_reducible refine is_s (.makeFunc _ _ _) ?_); refine s_gL (by rfl) (x_func (by rfl)) ?_; simp only [Fr.put, List.set_cons_succ, List.set_cons_zero])
      | ((with_reducible refine is_s (.load _ _) ?_); refine s_gL (by rfl) (x_load (by first | exact e_t (by rfl) | exact e_c | exact e_f) (by rfl)) ?_; simp only [Fr.put, List.set_cons_succ, List.set_cons_zero])
      | ((with_reducible refine is_s (.binOp .eql _ _ _ _) ?_); refine s_gB (by rfl) (x_eq (by first | exact e_t (by rfl) | exact e_c | exact e_f) (by first | exact e_t (by rfl) | exact e_c | exact e_f)) (fun hb => ?_) (fun hb => ?_) <;> simp only [decide_eq_true_eq, decide_eq_false_iff_not, Bool.not_eq_true', Bool.not_eq_false', not_true_eq_false, not_false_eq_true] at hb <;> first | (exfalso; omega) | (simp only [Fr.put, List.set_cons_succ, List.set_cons_zero]))
      | ((with_reducible refine is_s (.binOp .neq _ _ _ _) ?_); refine s_gB (by rfl) (x_ne (by first | exact e_t (by rfl) | exact e_c | exact e_f) (by first | exact e_t (by rfl) | exact e_c | exact e_f)) (fun hb => ?_) (fun hb => ?_) <;> simp only [decide_eq_true_eq, decide_eq_false_iff_not, Bool.not_eq_true', Bool.not_eq_false', not_true_eq_false, not_false_eq_true] at hb <;> first | (exfalso; omega) | (simp only [Fr.put, List.set_cons_succ, List.set_cons_zero]))
      | ((with_reducible refine is_s (.binOp .lss _ _ _ _) ?_); refine s_gB (by rfl) (x_lt (by first | exact e_t (by rfl) | exact e_c | exact e_f) (by first | exact e_t (by rfl) | exact e_c | exact e_f)) (fun hb => ?_) (fun hb => ?_) <;> simp only [decide_eq_true_eq, decide_eq_false_iff_not, Bool.not_eq_true', Bool.not_eq_false', not_true_eq_false, not_false_eq_true] at hb <;> first | (exfalso; omega) | (simp only [Fr.put, List.set_cons_succ, List.set_cons_zero]))
      | ((with_reducible refine is_s (.binOp .leq _ _ _ _) ?_); refine s_gB (by rfl) (x_le (by first | exact e_t (by rfl) | exact e_c | exact e_f) (by first | exact e_t (by rfl) | exact e_c | exact e_f)) (fun hb => ?_) (fun hb => ?_) <;> simp only [decide_eq_true_eq, decide_eq_false_iff_not, Bool.not_eq_true', Bool.not_eq_false', not_true_eq_false, not_false_eq_true] at hb <;> first | (exfalso; omega) | (simp only [Fr.put, List.set_cons_succ, List.set_cons_zero]))
      | ((with_reducible refine is_s (.binOp .gtr _ _ _ _) ?_); refine s_gB (by rfl) (x_gt (by first | exact e_t (by rfl) | exact e_c | exact e_f) (by first | exact e_t (by rfl) | exact e_c | exact e_f)) (fun hb => ?_) (fun hb => ?_) <;> simp only [decide_eq_true_eq, decide_eq_false_iff_not, Bool.not_eq_true', Bool.not_eq_false', not_true_eq_false, not_false_eq_true] at hb <;> first | (exfalso; omega) | (simp only [Fr.put, List.set_cons_succ, List.set_cons_zero]))
      | ((with_reducible refine is_s (.binOp .geq _ _ _ _) ?_); refine s_gB (by rfl) (x_ge (by first | exact e_t (by rfl) | exact e_c | exact e_f) (by first | exact e_t (by rfl) | exact e_c | exact e_f)) (fun hb => ?_) (fun hb => ?_) <;> simp only [decide_eq_true_eq, decide_eq_false_iff_not, Bool.not_eq_true', Bool.not_eq_false', not_true_eq_false, not_false_eq_true] at hb <;> first | (exfalso; omega) | (simp only [Fr.put, List.set_cons_succ, List.set_cons_zero]))
      | ((with_reducible refine is_s (.call ⟨.value (.func 10), _, _⟩) ?_); refine s_gK (by rfl) (by rfl) ok_10 rfl (rm) ?_; simp only [Fr.put, List.set_cons_succ, List.set_cons_zero])
      | ((with_reducible refine is_s (.load _ _) ?_); refine s_gL (by rfl) (x_load1 (by first | exact s1_3 | exact s1_49 | exact s1_53 | exact s1_22) (by first | exact e_t (by rfl) | exact e_c | exact e_f) (by rfl) (by rfl)) ?_; simp only [Fr.put, List.set_cons_succ, List.set_cons_zero])
      | ((with_reducible refine is_s (.load _ _) ?_); refine s_gL (by rfl) (x_loadA (by first | exact ag_56 | exact ag_57 | exact ag_54) (by first | exact e_t (by rfl) | exact e_c | exact e_f) (by rfl) (by simp)) ?_; simp only [Fr.put, List.set_cons_succ, List.set_cons_zero])
      | ((with_reducible refine is_s (.indexAddr _ _ _) ?_); refine s_gL (by rfl) (x_idxA (by first | exact ar_54 | exact ar_55 | exact ar_56 | exact ar_57) (by first | exact e_t (by rfl) | exact e_c | exact e_f) (by first | exact e_t (by rfl) | exact e_c | exact e_f) (by omega) (by omega)) ?_; simp only [Fr.put, List.set_cons_succ, List.set_cons_zero])
      | ((with_reducible refine is_s (.indexAddr _ _ _) ?_); refine s_gL (by rfl) (x_idxS (by first | exact sl_32) (by first | exact e_t (by rfl) | exact e_c | exact e_f) (by first | exact e_t (by rfl) | exact e_c | exact e_f) (by omega) (by omega)) ?_; simp only [Fr.put, List.set_cons_succ, List.set_cons_zero])
      | ((with_reducible refine is_s (.index _ _ _) ?_); refine s_gL (by rfl) (x_index1 (by first | exact ar_54 | exact ar_55 | exact ar_56 | exact ar_57) (by first | exact s1_3 | exact s1_49 | exact s1_53 | exact s1_22) (by first | exact e_t (by rfl) | exact e_c | exact e_f) (by first | exact e_t (by rfl) | exact e_c | exact e_f) (by omega) (by omega) (by rfl)) ?_; simp only [Fr.put, List.set_cons_succ, List.set_cons_zero])
      | ((with_reducible refine is_s (.alloc _) ?_); refine s_gH (by rfl) (x_alloc (by first | exact z_49)) ?_; simp only [Fr.put, List.set_cons_succ, List.set_cons_zero, List.length_cons, List.length_nil, List.nil_append, List.cons_append, Nat.reduceAdd])
      | ((with_reducible refine is_s (.box _ _) ?_); refine s_gH (by rfl) (x_box1 (by first | exact s1_3 | exact s1_49 | exact s1_53 | exact s1_22) (by first | exact e_t (by rfl) | exact e_c | exact e_f) rfl) ?_; simp only [Fr.put, List.set_cons_succ, List.set_cons_zero, List.length_cons, List.length_nil, List.nil_append, List.cons_append, Nat.reduceAdd])
      | ((with_reducible refine is_s (.store _ _ _) ?_); refine s_gH (by rfl) (x_store1 (by first | exact s1_3 | exact s1_49 | exact s1_53 | exact s1_22) (by first | exact e_t (by rfl) | exact e_c | exact e_f) (by first | exact e_t (by rfl) | exact e_c | exact e_f) rfl (by rfl) (by simp only [List.length_cons, List.length_nil]; omega)) ?_; simp only [Fr.put, List.set_cons_succ, List.set_cons_zero, List.length_cons, List.length_nil, List.nil_append, List.cons_append, Nat.reduceAdd])
      | ((with_reducible refine is_s (.store _ _ _) ?_); refine s_gH (by rfl) (x_storeF (by first | exact ag_56 | exact ag_57 | exact ag_54) (by first | exact e_t (by rfl) | exact e_c | exact e_f) (by first | exact e_t (by rfl) | exact e_c | exact e_f) (by rfl) (by rfl) (by rfl) (by rfl)) ?_; simp only [Fr.put, List.set_cons_succ, List.set_cons_zero, List.length_cons, List.length_nil, List.nil_append, List.cons_append, Nat.reduceAdd])
      )
    refine s_loop hm (fun (c : Nat) s => [I k, I v, U, U, I 0, I 0, I 0, I 0, I (mostF k), s 9, I c, s 11, s 12, s 13, s 14, s 15, s 16, s 17, s 18, s 19, s 20, s 21, s 22, s 23, s 24, s 25, s 26, s 27, s 28, s 29, s 30, s 31, s 32, s 33, s 34, s 35, s 36, s 37, s 38, s 39, s 40, s 41, s 42, s 43, s 44, s 45, s 46, s 47, s 48]) (fun _ => []) (fun c => (c : Int) ≤ mostF k + 1 ∧ ∀ d, d < c → ¬ Mt k v d) (fun c => (mostF k + 1).toNat - c) 0 (by rfl) rfl ⟨by simp only [Int.natCast_zero]; omega, fun d hd => absurd hd (Nat.not_lt_zero _)⟩ ?_
    intro c s hi
    obtain ⟨hi1, hi2⟩ := hi
    have hb1 : (c : Int) ≤ mostF k → 0 ≤ bitsF k c ∧ bitsF k c ≤ 31 := fun hlt => bitsF_rng hv.1 hv.2 (by omega) (by omega)
    have hb2 : (c : Int) ≤ mostF k → 0 ≤ baseF k c ∧ baseF k c ≤ 2147483648 := fun hlt => baseF_rng hv.1 hv.2 (by omega) (by omega)
    have hb3 : (c : Int) ≤ mostF k → 1 ≤ (2 : Int) ^ (bitsF k c).toNat ∧ (2 : Int) ^ (bitsF k c).toNat ≤ 2147483648 := fun hlt => pow_rng (hb1 hlt).1 (hb1 hlt).2
    repeat' (first
      | with_reducible refine s_seq ?_
      | with_reducible refine s_then ?_
      | with_reducible refine s_thenR ?_
      | with_reducible refine s_thenE ?_
      | with_reducible refine s_skip ?_
      | with_reducible refine s_ret ?_
      | with_reducible refine s_block ?_
      | with_reducible refine s_blkN ?_
      | with_reducible refine s_blkR ?_
      | with_reducible refine s_blkE ?_
      | with_reducible refine l_exit ?_
      | with_reducible refine l_ret ?_
      | with_reducible refine s_end ?_
      | with_reducible refine s_reg ?_
      | with_reducible refine s_blkX (by rfl) ?_
      | with_reducible refine s_exit ?_
      | ((with_reducible refine is_cond ?_); first | refine s_condT (by first | exact e_t (by rfl) | exact e_c | exact e_f) ?_ | refine s_condF (by first | exact e_t (by rfl) | exact e_c | exact e_f) ?_)
      | ((with_reducible refine is_sG _ ?_); refine s_gN (by rfl) ?_; simp only [Fr.put, List.set_cons_succ, List.set_cons_zero])
      | ((with_reducible refine is_s (.move _) ?_); refine s_gL (by rfl) (x_move (by first | exact e_t (by rfl) | exact e_c | exact e_f)) ?_; simp only [Fr.put, List.set_cons_succ, List.set_cons_zero])
      | ((with_reducible refine is_s (.assign _) ?_); refine s_gL (by rfl) (x_assign (by first | exact e_t (by rfl) | exact e_c | exact e_f)) ?_; simp only [Fr.put, List.set_cons_succ, List.set_cons_zero])
      | ((with_reducible refine is_s (.pick _ _ _) ?_); refine s_gL (by rfl) (x_pickT (by first | exact e_t (by rfl) | exact e_c | exact e_f) (by first | exact e_t (by rfl) | exact e_c | exact e_f)) ?_; simp only [Fr.put, List.set_cons_succ, List.set_cons_zero])
      | ((with_reducible refine is_s (.pick _ _ _) ?_); refine s_gL (by rfl) (x_pickF (by first | exact e_t (by rfl) | exact e_c | exact e_f) (by first | exact e_t (by rfl) | exact e_c | exact e_f)) ?_; simp only [Fr.put, List.set_cons_succ, List.set_cons_zero])
      | ((with_reducible refine is_s (.unOp .not _ _) ?_); refine s_gL (by rfl) (x_notT (by first | exact e_t (by rfl) | exact e_c | exact e_f)) ?_; simp only [Fr.put, List.set_cons_succ, List.set_cons_zero])
      | ((with_reducible refine is_s (.unOp .not _ _) ?_); refine s_gL (by rfl) (x_notF (by first | exact e_t (by rfl) | exact e_c | exact e_f)) ?_; simp only [Fr.put, List.set_cons_succ, List.set_cons_zero])
      | ((with_reducible refine is_s (.extract _ _) ?_); refine s_gL (by rfl) (x_extract (by first | exact e_t (by rfl) | exact e_c | exact e_f) (by rfl)) ?_; simp only [Fr.put, List.set_cons_succ, List.set_cons_zero])
      | ((with_reducible refine is_s (.binOp .add _ _ _ _) ?_); refine s_gL (by rfl) (x_add (by first | exact e_t (by rfl) | exact e_c | exact e_f) (by first | exact e_t (by rfl) | exact e_c | exact e_f) (by first | exact wrap_i64_in (by omega) (by omega) | exact wrap_u64_in (by omega) (by omega) | rfl)) ?_; simp only [Fr.put, List.set_cons_succ, List.set_cons_zero])
      | ((with_reducible refine is_s (.binOp .sub _ _ _ _) ?_); refine s_gL (by rfl) (x_sub (by first | exact e_t (by rfl) | exact e_c | exact e_f) (by first | exact e_t (by rfl) | exact e_c | exact e_f) (by first | exact wrap_i64_in (by omega) (by omega) | exact wrap_u64_in (by omega) (by omega) | rfl)) ?_; simp only [Fr.put, List.set_cons_succ, List.set_cons_zero])
      | ((with_reducible refine is_s (.convert _ _ _) ?_); refine s_gL (by rfl) (x_conv (by first | exact u_3 | exact u_45 | exact u_49 | exact u_22) (by first | exact u_3 | exact u_45 | exact u_49 | exact u_22) (by first | exact e_t (by rfl) | exact e_c | exact e_f) (by first | exact wrap_i64_in (by omega) (by omega) | exact wrap_u64_in (by omega) (by omega) | rfl)) ?_; simp only [Fr.put, List.set_cons_succ, List.set_cons_zero])
      | ((with_reducible refine is_s (.binOp .shr _ _ _ _) ?_); refine s_gL (by rfl) (x_shr (m := 1) (by first | exact e_t (by rfl) | exact e_c | exact e_f) (by first | exact e_t (by rfl) | exact e_c | exact e_f) rfl (by show _ ≤ 64; omega) (by omega)) ?_; simp only [Fr.put, List.set_cons_succ, List.set_cons_zero])
      | ((with_reducible refine is_s (.binOp .shr _ _ _ _) ?_); refine s_gL (by rfl) (x_shr (by first | exact e_t (by rfl) | exact e_c | exact e_f) (by first | exact e_t (by rfl) | exact e_c | exact e_f) (by first | rfl | exact (Int.toNat_of_nonneg (by omega)).symm) (by show _ ≤ 64; omega) (by omega)) ?_; simp only [Fr.put, List.set_cons_succ, List.set_cons_zero])
      | ((with_reducible refine is_s (.binOp .shl _ _ _ _) ?_); refine s_gL (by rfl) (x_shl1 (by first | exact e_t (by rfl) | exact e_c | exact e_f) (by first | exact e_t (by rfl) | exact e_c | exact e_f) (by first | rfl | exact (Int.toNat_of_nonneg (by omega)).symm) (by omega)) ?_; simp only [Fr.put, List.set_cons_succ, List.set_cons_zero])
      | ((with_reducible refine is_s (.makeFunc _ _ _) ?_); refine s_gL (by rfl) (x_func1 (by first | exact e_t (by rfl) | exact e_c | exact e_f)) ?_; simp only [Fr.put, List.set_cons_succ, List.set_cons_zero])
      | ((with_reducible refine is_s (.makeFunc _ _ _) ?_); refine s_gL (by rfl) (x_func2 (by first | exact e_t (by rfl) | exact e_c | exact e_f) (by first | exact e_t (by rfl) | exact e_c | exact e_f)) ?_; simp only [Fr.put, List.set_cons_succ, List.set_cons_zero])
      | ((with_reducible refine is_s (.makeFunc _ _ _) ?_); refine s_gL (by rfl) (x_func3 (by first | exact e_t (by rfl) | exact e_c | exact e_f) (by first | exact e_t (by rfl) | exact e_c | exact e_f) (by first | exact e_t (by rfl) | exact e_c | exact e_f)) ?_; simp only [Fr.put, List.set_cons_succ, List.set_cons_zero])
      | ((with_reducible refine is_s (.makeFunc _ _ _) ?_); refine s_gL (by rfl) (x_func (by rfl)) ?_; simp only [Fr.put, List.set_cons_succ, List.set_cons_zero])
      | ((with_reducible refine is_s (.load _ _) ?_); refine s_gL (by rfl) (x_load (by first | exact e_t (by rfl) | exact e_c | exact e_f) (by rfl)) ?_; simp only [Fr.put, List.set_cons_succ, List.set_cons_zero])
      | ((with_reducible refine is_s (.binOp .eql _ _ _ _) ?_); refine s_gB (by rfl) (x_eq (by first | exact e_t (by rfl) | exact e_c | exact e_f) (by first | exact e_t (by rfl) | exact e_c | exact e_f)) (fun hb => ?_) (fun hb => ?_) <;> simp only [decide_eq_true_eq, decide_eq_false_iff_not, Bool.not_eq_true', Bool.not_eq_false', not_true_eq_false, not_false_eq_true] at hb <;> first | (exfalso; omega) | (simp only [Fr.put, List.set_cons_succ, List.set_cons_zero]))
      | ((with_reducible refine is_s (.binOp .neq _ _ _ _) ?_); refine s_gB (by rfl) (x_ne (by first | exact e_t (by rfl) | exact e_c | exact e_f) (by first | exact e_t (by rfl) | exact e_c | exact e_f)) (fun hb => ?_) (fun hb => ?_) <;> simp only [decide_eq_true_eq, decide_eq_false_iff_not, Bool.not_eq_true', Bool.not_eq_false', not_true_eq_false, not_false_eq_true] at hb <;> first | (exfalso; omega) | (simp only [Fr.put, List.set_cons_succ, List.set_cons_zero]))
      | ((with_reducible refine is_s (.binOp .lss _ _ _ _) ?_); refine s_gB (by rfl) (x_lt (by first | exact e_t (by rfl) | exact e_c | exact e_f) (by first | exact e_t (by rfl) | exact e_c | exact e_f)) (fun hb => ?_) (fun hb => ?_) <;> simp only [decide_eq_true_eq, decide_eq_false_iff_not, Bool.not_eq_true', Bool.not_eq_false', not_true_eq_false, not_false_eq_true] at hb <;> first | (exfalso; omega) | (simp only [Fr.put, List.set_cons_succ, List.set_cons_zero]))
      | ((with_reducible refine is_s (.binOp .leq _ _ _ _) ?_); refine s_gB (by rfl) (x_le (by first | exact e_t (by rfl) | exact e_c | exact e_f) (by first | exact e_t (by rfl) | exact e_c | exact e_f)) (fun hb => ?_) (fun hb => ?_) <;> simp only [decide_eq_true_eq, decide_eq_false_iff_not, Bool.not_eq_true', Bool.not_eq_false', not_true_eq_false, not_false_eq_true] at hb <;> first | (exfalso; omega) | (simp only [Fr.put, List.set_cons_succ, List.set_cons_zero]))
      | ((with_reducible refine is_s (.binOp .gtr _ _ _ _) ?_); refine s_gB (by rfl) (x_gt (by first | exact e_t (by rfl) | exact e_c | exact e_f) (by first | exact e_t (by rfl) | exact e_c | exact e_f)) (fun hb => ?_) (fun hb => ?_) <;> simp only [decide_eq_true_eq, decide_eq_false_iff_not, Bool.not_eq_true', Bool.not_eq_false', not_true_eq_false, not_false_eq_true] at hb <;> first | (exfalso; omega) | (simp only [Fr.put, List.set_cons_succ, List.set_cons_zero]))
      | ((with_reducible refine is_s (.binOp .geq _ _ _ _) ?_); refine s_gB (by rfl) (x_ge (by first | exact e_t (by rfl) | exact e_c | exact e_f) (by first | exact e_t (by rfl) | exact e_c | exact e_f)) (fun hb => ?_) (fun hb => ?_) <;> simp only [decide_eq_true_eq, decide_eq_false_iff_not, Bool.not_eq_true', Bool.not_eq_false', not_true_eq_false, not_false_eq_true] at hb <;> first | (exfalso; omega) | (simp only [Fr.put, List.set_cons_succ, List.set_cons_zero]))
      | ((with_reducible refine is_s (.call ⟨.value (.func 37), _, _⟩) ?_); refine s_gK (by rfl) (by rfl) ok_37 rfl (rbase_any _ _ hv.1 hv.2 (by omega) (by omega)) ?_; simp only [Fr.put, List.set_cons_succ, List.set_cons_zero])
      | ((with_reducible refine is_s (.call ⟨.value (.func 38), _, _⟩) ?_); refine s_gK (by rfl) (by rfl) ok_38 rfl (rbits_any _ _ hv.1 hv.2 (by omega) (by omega)) ?_; simp only [Fr.put, List.set_cons_succ, List.set_cons_zero])
      | ((with_reducible refine is_s (.load _ _) ?_); refine s_gL (by rfl) (x_load1 (by first | exact s1_3 | exact s1_49 | exact s1_53 | exact s1_22) (by first | exact e_t (by rfl) | exact e_c | exact e_f) (by rfl) (by rfl)) ?_; simp only [Fr.put, List.set_cons_succ, List.set_cons_zero])
      | ((with_reducible refine is_s (.load _ _) ?_); refine s_gL (by rfl) (x_loadA (by first | exact ag_56 | exact ag_57 | exact ag_54) (by first | exact e_t (by rfl) | exact e_c | exact e_f) (by rfl) (by simp)) ?_; simp only [Fr.put, List.set_cons_succ, List.set_cons_zero])
      | ((with_reducible refine is_s (.indexAddr _ _ _) ?_); refine s_gL (by rfl) (x_idxA (by first | exact ar_54 | exact ar_55 | exact ar_56 | exact ar_57) (by first | exact e_t (by rfl) | exact e_c | exact e_f) (by first | exact e_t (by rfl) | exact e_c | exact e_f) (by omega) (by omega)) ?_; simp only [Fr.put, List.set_cons_succ, List.set_cons_zero])
      | ((with_reducible refine is_s (.indexAddr _ _ _) ?_); refine s_gL (by rfl) (x_idxS (by first | exact sl_32) (by first | exact e_t (by rfl) | exact e_c | exact e_f) (by first | exact e_t (by rfl) | exact e_c | exact e_f) (by omega) (by omega)) ?_; simp only [Fr.put, List.set_cons_succ, List.set_cons_zero])
      | ((with_reducible refine is_s (.index _ _ _) ?_); refine s_gL (by rfl) (x_index1 (by first | exact ar_54 | exact ar_55 | exact ar_56 | exact ar_57) (by first | exact s1_3 | exact s1_49 | exact s1_53 | exact s1_22) (by first | exact e_t (by rfl) | exact e_c | exact e_f) (by first | exact e_t (by rfl) | exact e_c | exact e_f) (by omega) (by omega) (by rfl)) ?_; simp only [Fr.put, List.set_cons_succ, List.set_cons_zero])
      | ((with_reducible refine is_s (.alloc _) ?_); refine s_gH (by rfl) (x_alloc (by first | exact z_49)) ?_; simp only [Fr.put, List.set_cons_succ, List.set_cons_zero, List.length_cons, List.length_nil, List.nil_append, List.cons_append, Nat.reduceAdd])
      | ((with_reducible refine is_s (.box _ _) ?_); refine s_gH (by rfl) (x_box1 (by first | exact s1_3 | exact s1_49 | exact s1_53 | exact s1_22) (by first | exact e_t (by rfl) | exact e_c | exact e_f) rfl) ?_; simp only [Fr.put, List.set_cons_succ, List.set_cons_zero, List.length_cons, List.length_nil, List.nil_append, List.cons_append, Nat.reduceAdd])
      | ((with_reducible refine is_s (.store _ _ _) ?_); refine s_gH (by rfl) (x_store1 (by first | exact s1_3 | exact s1_49 | exact s1_53 | exact s1_22) (by first | exact e_t (by rfl) | exact e_c | exact e_f) (by first | exact e_t (by rfl) | exact e_c | exact e_f) rfl (by rfl) (by simp only [List.length_cons, List.length_nil]; omega)) ?_; simp only [Fr.put, List.set_cons_succ, List.set_cons_zero, List.length_cons, List.length_nil, List.nil_append, List.cons_append, Nat.reduceAdd])
      | ((with_reducible refine is_s (.store _ _ _) ?_); refine s_gH (by rfl) (x_storeF (by first | exact ag_56 | exact ag_57 | exact ag_54) (by first | exact e_t (by rfl) | exact e_c | exact e_f) (by first | exact e_t (by rfl) | exact e_c | exact e_f) (by rfl) (by rfl) (by rfl) (by rfl)) ?_; simp only [Fr.put, List.set_cons_succ, List.set_cons_zero, List.length_cons, List.length_nil, List.nil_append, List.cons_append, Nat.reduceAdd])
      )
    · refine k_4 rfl (by rfl) (by rfl) (by rfl) (by rfl) ⟨?_, rfl⟩
      rw [codeR_yes hv.1 hv.2 (c := c) (by omega) ⟨by omega, by omega⟩]
    · refine l_next (c+1) ⟨by omega, fun d hd => ?_⟩ (by omega) ?_ rfl
      · rcases Nat.lt_or_ge d c with h1 | h1
        · exact hi2 d h1
        · rw [show d = c by omega]; rintro ⟨h5, h6⟩; omega
      · simp only [List.getD_cons_succ, List.getD_cons_zero, List.cons.injEq, AV.v.injEq, Value.int.injEq, Value.bool.injEq, true_and, and_true, and_self, Int.natCast_add, Int.natCast_one, Int.cast_ofNat_Int]
        try rfl
    · refine l_next (c+1) ⟨by omega, fun d hd => ?_⟩ (by omega) ?_ rfl
      · rcases Nat.lt_or_ge d c with h1 | h1
        · exact hi2 d h1
        · rw [show d = c by omega]; rintro ⟨h5, h6⟩; omega
      · simp only [List.getD_cons_succ, List.getD_cons_zero, List.cons.injEq, AV.v.injEq, Value.int.injEq, Value.bool.injEq, true_and, and_true, and_self, Int.natCast_add, Int.natCast_one, Int.cast_ofNat_Int]
        try rfl
    · refine k_4 rfl (by rfl) (by rfl) (by rfl) (by rfl) ⟨?_, rfl⟩
      rw [codeR_no hv.1 hv.2 fun d hd => hi2 d (by omega)]
  · rw [if_neg hv, if_neg hv] at rm
    refine acalls_of_wk hm Try.func12 rfl ?_
    simp only [Try.ntmps12, List.length_cons, List.length_nil, Nat.reduceAdd, Nat.reduceSub, List.reduceReplicate, List.cons_append, List.nil_append]
    show wk _ _ none _ _ ⟨_, []⟩ _
    repeat' (first
      | with_reducible refine s_seq ?_
      | with_reducible refine s_then ?_
      | with_reducible refine s_thenR ?_
      | with_reducible refine s_thenE ?_
      | with_reducible refine s_skip ?_
      | with_reducible refine s_ret ?_
      | with_reducible refine s_block ?_
      | with_reducible refine s_blkN ?_
      | with_reducible refine s_blkR ?_
      | with_reducible refine s_blkE ?_
      | with_reducible refine l_exit ?_
      | with_reducible refine l_ret ?_
      | with_reducible refine s_end ?_
      | with_reducible refine s_reg ?_
      | with_reducible refine s_blkX (by rfl) ?_
      | with_reducible refine s_exit ?_
      | ((with_reducible refine is_cond ?_); first | refine s_condT (by first | exact e_t (by rfl) | exact e_c | exact e_f) ?_ | refine s_condF (by first | exact e_t (by rfl) | exact e_c | exact e_f) ?_)
      | ((with_reducible refine is_sG _ ?_); refine s_gN (by rfl) ?_; simp only [Fr.put, List.set_cons_succ, List.set_cons_zero])
      | ((with_reducible refine is_s (.move _) ?_); refine s_gL (by rfl) (x_move (by first | exact e_t (by rfl) | exact e_c | exact e_f)) ?_; simp only [Fr.put, List.set_cons_succ, List.set_cons_zero])
      | ((with_reducible refine is_s (.assign _) ?_); refine s_gL (by rfl) (x_assign (by first | exact e_t (by rfl) | exact e_c | exact e_f)) ?_; simp only [Fr.put, List.set_cons_succ, List.set_cons_zero])
      | ((with_reducible refine is_s (.pick _ _ _) ?_); refine s_gL (by rfl) (x_pickT (by first | exact e_t (by rfl) | exact e_c | exact e_f) (by first | exact e_t (by rfl) | exact e_c | exact e_f)) ?_; simp only [Fr.put, List.set_cons_succ, List.set_cons_zero])
      | ((with_reducible refine is_s (.pick _ _ _) ?_); refine s_gL (by rfl) (x_pickF (by first | exact e_t (by rfl) | exact e_c | exact e_f) (by first | exact e_t (by rfl) | exact e_c | exact e_f)) ?_; simp only [Fr.put, List.set_cons_succ, List.set_cons_zero])
      | ((with_reducible refine is_s (.unOp .not _ _) ?_); refine s_gL (by rfl) (x_notT (by first | exact e_t (by rfl) | exact e_c | exact e_f)) ?_; simp only [Fr.put, List.set_cons_succ, List.set_cons_zero])
      | ((with_reducible refine is_s (.unOp .not _ _) ?_); refine s_gL (by rfl) (x_notF (by first | exact e_t (by rfl) | exact e_c | exact e_f)) ?_; simp only [Fr.put, List.set_cons_succ, List.set_cons_zero])
      | ((with_reducible refine is_s (.extract _ _) ?_); refine s_gL (by rfl) (x_extract (by first | exact e_t (by rfl) | exact e_c | exact e_f) (by rfl)) ?_; simp only [Fr.put, List.set_cons_succ, List.set_cons_zero])
      | ((with_reducible refine is_s (.binOp .add _ _ _ _) ?_); refine s_gL (by rfl) (x_add (by first | exact e_t (by rfl) | exact e_c | exact e_f) (by first | exact e_t (by rfl) | exact e_c | exact e_f) (by first | exact wrap_i64_in (by omega) (by omega) | exact wrap_u64_in (by omega) (by omega) | rfl)) ?_; simp only [Fr.put, List.set_cons_succ, List.set_cons_zero])
      | ((with_reducible refine is_s (.binOp .sub _ _ _ _) ?_); refine s_gL (by rfl) (x_sub (by first | exact e_t (by rfl) | exact e_c | exact e_f) (by first | exact e_t (by rfl) | exact e_c | exact e_f) (by first | exact wrap_i64_in (by omega) (by omega) | exact wrap_u64_in (by omega) (by omega) | rfl)) ?_; simp only [Fr.put, List.set_cons_succ, List.set_cons_zero])
      | ((with_reducible refine is_s (.convert _ _ _) ?_); refine s_gL (by rfl) (x_conv (by first | exact u_3 | exact u_45 | exact u_49 | exact u_22) (by first | exact u_3 | exact u_45 | exact u_49 | exact u_22) (by first | exact e_t (by rfl) | exact e_c | exact e_f) (by first | exact wrap_i64_in (by omega) (by omega) | exact wrap_u64_in (by omega) (by omega) | rfl)) ?_; simp only [Fr.put, List.set_cons_succ, List.set_cons_zero])
      | ((with_reducible refine is_s (.binOp .shr _ _ _ _) ?_); refine s_gL (by rfl) (x_shr (m := 1) (by first | exact e_t (by rfl) | exact e_c | exact e_f) (by first | exact e_t (by rfl) | exact e_c | exact e_f) rfl (by show _ ≤ 64; omega) (by omega)) ?_; simp only [Fr.put, List.set_cons_succ, List.set_cons_zero])
      | ((with_reducible refine is_s (.binOp .shr _ _ _ _) ?_); refine s_gL (by rfl) (x_shr (by first | exact e_t (by rfl) | exact e_c | exact e_f) (by first | exact e_t (by rfl) | exact e_c | exact e_f) (by first | rfl | exact (Int.toNat_of_nonneg (by omega)).symm) (by show _ ≤ 64; omega) (by omega)) ?_; simp only [Fr.put, List.set_cons_succ, List.set_cons_zero])
      | ((with_reducible refine is_s (.binOp .shl _ _ _ _) ?_); refine s_gL (by rfl) (x_shl1 (by first | exact e_t (by rfl) | exact e_c | exact e_f) (by first | exact e_t (by rfl) | exact e_c | exact e_f) (by first | rfl | exact (Int.toNat_of_nonneg (by omega)).symm) (by omega)) ?_; simp only [Fr.put, List.set_cons_succ, List.set_cons_zero])
      | ((with_reducible refine is_s (.makeFunc _ _ _) ?_); refine s_gL (by rfl) (x_func1 (by first | exact e_t (by rfl) | exact e_c | exact e_f)) ?_; simp only [Fr.put, List.set_cons_succ, List.set_cons_zero])
      | ((with_reducible refine is_s (.makeFunc _ _ _) ?_); refine s_gL (by rfl) (x_func2 (by first | exact e_t (by rfl) | exact e_c | exact e_f) (by first | exact e_t (by rfl) | exact e_c | exact e_f)) ?_; simp only [Fr.put, List.set_cons_succ, List.set_cons_zero])
      | ((with_reducible refine is_s (.makeFunc _ _ _) ?_); refine s_gL (by rfl) (x_func3 (by first | exact e_t (by rfl) | exact e_c | exact e_f) (by first | exact e_t (by rfl) | exact e_c | exact e_f) (by first | exact e_t (by rfl) | exact e_c | exact e_f)) ?_; simp only [Fr.put, List.set_cons_succ, List.set_cons_zero])
      | ((with_reducible refine is_s (.makeFunc _ _ _) ?_); refine s_gL (by rfl) (x_func (by rfl)) ?_; simp only [Fr.put, List.set_cons_succ, List.set_cons_zero])
      | ((with_reducible refine is_s (.load _ _) ?_); refine s_gL (by rfl) (x_load (by first | exact e_t (by rfl) | exact e_c | exact e_f) (by rfl)) ?_; simp only [Fr.put, List.set_cons_succ, List.set_cons_zero])
      | ((with_reducible refine is_s (.binOp .eql _ _ _ _) ?_); refine s_gB (by rfl) (x_eq (by first | exact e_t (by rfl) | exact e_c | exact e_f) (by first | exact e_t (by rfl) | exact e_c | exact e_f)) (fun hb => ?_) (fun hb => ?_) <;> simp only [decide_eq_true_eq, decide_eq_false_iff_not, Bool.not_eq_true', Bool.not_eq_false', not_true_eq_false, not_false_eq_true] at hb <;> first | (exfalso; omega) | (simp only [Fr.put, List.set_cons_succ, List.set_cons_zero]))
      | ((with_reducible refine is_s (.binOp .neq _ _ _ _) ?_); refine s_gB (by rfl) (x_ne (by first | exact e_t (by rfl) | exact e_c | exact e_f) (by first | exact e_t (by rfl) | exact e_c | exact e_f)) (fun hb => ?_) (fun hb => ?_) <;> simp only [decide_eq_true_eq, decide_eq_false_iff_not, Bool.not_eq_true', Bool.not_eq_false', not_true_eq_false, not_false_eq_true] at hb <;> first | (exfalso; omega) | (simp only [Fr.put, List.set_cons_succ, List.set_cons_zero]))
      | ((with_reducible refine is_s (.binOp .lss _ _ _ _) ?_); refine s_gB (by rfl) (x_lt (by first | exact e_t (by rfl) | exact e_c | exact e_f) (by first | exact e_t (by rfl) | exact e_c | exact e_f)) (fun hb => ?_) (fun hb => ?_) <;> simp only [decide_eq_true_eq, decide_eq_false_iff_not, Bool.not_eq_true', Bool.not_eq_false', not_true_eq_false, not_false_eq_true] at hb <;> first | (exfalso; omega) | (simp only [Fr.put, List.set_cons_succ, List.set_cons_zero]))
      | ((with_reducible refine is_s (.binOp .leq _ _ _ _) ?_); refine s_gB (by rfl) (x_le (by first | exact e_t (by rfl) | exact e_c | exact e_f) (by first | exact e_t (by rfl) | exact e_c | exact e_f)) (fun hb => ?_) (fun hb => ?_) <;> simp only [decide_eq_true_eq, decide_eq_false_iff_not, Bool.not_eq_true', Bool.not_eq_false', not_true_eq_false, not_false_eq_true] at hb <;> first | (exfalso; omega) | (simp only [Fr.put, List.set_cons_succ, List.set_cons_zero]))
      | ((with_reducible refine is_s (.binOp .gtr _ _ _ _) ?_); refine s_gB (by rfl) (x_gt (by first | exact e_t (by rfl) | exact e_c | exact e_f) (by first | exact e_t (by rfl) | exact e_c | exact e_f)) (fun hb => ?_) (fun hb => ?_) <;> simp only [decide_eq_true_eq, decide_eq_false_iff_not, Bool.not_eq_true', Bool.not_eq_false', not_true_eq_false, not_false_eq_true] at hb <;> first | (exfalso; omega) | (simp only [Fr.put, List.set_cons_succ, List.set_cons_zero]))
      | ((with_reducible refine is_s (.binOp .geq _ _ _ _) ?_); refine s_gB (by rfl) (x_ge (by first | exact e_t (by rfl) | exact e_c | exact e_f) (by first | exact e_t (by rfl) | exact e_c | exact e_f)) (fun hb => ?_) (fun hb => ?_) <;> simp only [decide_eq_true_eq, decide_eq_false_iff_not, Bool.not_eq_true', Bool.not_eq_false', not_true_eq_false, not_false_eq_true] at hb <;> first | (exfalso; omega) | (simp only [Fr.put, List.set_cons_succ, List.set_cons_zero]))
      | ((with_reducible refine is_s (.call ⟨.value (.func 10), _, _⟩) ?_); refine s_gK (by rfl) (by rfl) ok_10 rfl (rm) ?_; simp only [Fr.put, List.set_cons_succ, List.set_cons_zero])
      | ((with_reducible refine is_s (.load _ _) ?_); refine s_gL (by rfl) (x_load1 (by first | exact s1_3 | exact s1_49 | exact s1_53 | exact s1_22) (by first | exact e_t (by rfl) | exact e_c | exact e_f) (by rfl) (by rfl)) ?_; simp only [Fr.put, List.set_cons_succ, List.set_cons_zero])
      | ((with_reducible refine is_s (.load _ _) ?_); refine s_gL (by rfl) (x_loadA (by first | exact ag_56 | exact ag_57 | exact ag_54) (by first | exact e_t (by rfl) | exact e_c | exact e_f) (by rfl) (by simp)) ?_; simp only [Fr.put, List.set_cons_succ, List.set_cons_zero])
      | ((with_reducible refine is_s (.indexAddr _ _ _) ?_); refine s_gL (by rfl) (x_idxA (by first | exact ar_54 | exact ar_55 | exact ar_56 | exact ar_57) (by first | exact e_t (by rfl) | exact e_c | exact e_f) (by first | exact e_t (by rfl) | exact e_c | exact e_f) (by omega) (by omega)) ?_; simp only [Fr.put, List.set_cons_succ, List.set_cons_zero])
      | ((with_reducible refine is_s (.indexAddr _ _ _) ?_); refine s_gL (by rfl) (x_idxS (by first | exact sl_32) (by first | exact e_t (by rfl) | exact e_c | exact e_f) (by first | exact e_t (by rfl) | exact e_c | exact e_f) (by omega) (by omega)) ?_; simp only [Fr.put, List.set_cons_succ, List.set_cons_zero])
      | ((with_reducible refine is_s (.index _ _ _) ?_); refine s_gL (by rfl) (x_index1 (by first | exact ar_54 | exact ar_55 | exact ar_56 | exact ar_57) (by first | exact s1_3 | exact s1_49 | exact s1_53 | exact s1_22) (by first | exact e_t (by rfl) | exact e_c | exact e_f) (by first | exact e_t (by rfl) | exact e_c | exact e_f) (by omega) (by omega) (by rfl)) ?_; simp only [Fr.put, List.set_cons_succ, List.set_cons_zero])
      | ((with_reducible refine is_s (.alloc _) ?_); refine s_gH (by rfl) (x_alloc (by first | exact z_49)) ?_; simp only [Fr.put, List.set_cons_succ, List.set_cons_zero, List.length_cons, List.length_nil, List.nil_append, List.cons_append, Nat.reduceAdd])
      | ((with_reducible refine is_s (.box _ _) ?_); refine s_gH (by rfl) (x_box1 (by first | exact s1_3 | exact s1_49 | exact s1_53 | exact s1_22) (by first | exact e_t (by rfl) | exact e_c | exact e_f) rfl) ?_; simp only [Fr.put, List.set_cons_succ, List.set_cons_zero, List.length_cons, List.length_nil, List.nil_append, List.cons_append, Nat.reduceAdd])
      | ((with_reducible refine is_s (.store _ _ _) ?_); refine s_gH (by rfl) (x_store1 (by first | exact s1_3 | exact s1_49 | exact s1_53 | exact s1_22) (by first | exact e_t (by rfl) | exact e_c | exact e_f) (by first | exact e_t (by rfl) | exact e_c | exact e_f) rfl (by rfl) (by simp only [List.length_cons, List.length_nil]; omega)) ?_; simp only [Fr.put, List.set_cons_succ, List.set_cons_zero, List.length_cons, List.length_nil, List.nil_append, List.cons_append, Nat.reduceAdd])
      | ((with_reducible refine is_s (.store _ _ _) ?_); refine s_gH (by rfl) (x_storeF (by first | exact ag_56 | exact ag_57 | exact ag_54) (by first | exact e_t (by rfl) | exact e_c | exact e_f) (by first | exact e_t (by rfl) | exact e_c | exact e_f) (by rfl) (by rfl) (by rfl) (by rfl)) ?_; simp only [Fr.put, List.set_cons_succ, List.set_cons_zero, List.length_cons, List.length_nil, List.nil_append, List.cons_append, Nat.reduceAdd])
      )
    all_goals first | refine k_1 rfl (by rfl) ?_ | refine k_2 rfl (by rfl) (by rfl) ?_ | refine k_3 rfl (by rfl) (by rfl) (by rfl) ?_ | refine k_4 rfl (by rfl) (by rfl) (by rfl) (by rfl) ?_
    all_goals refine ⟨?_, rfl⟩
    all_goals rw [codeR_bad hv]
def hC (k v : Int) : Hp := [.cells [I v] 3 true, .cells [I k] 49 true]
theorem pred_any (k v c : Int) (h0 : 0 ≤ k) (h2 : k ≤ 2) (h3 : 0 ≤ c) (h4 : c < mostF k) : ACalls Try.prog 36 [I c, .ptr 1 0, .ptr 0 0] (hC k v) (fun r h' => r = B (decide (v < baseF k (c + 1))) ∧ h' = hC k v) := by
  have h5 := most_rng h0 h2
  unfold hC
  refine acalls_of_wk hm Try.func36 rfl ?_
  simp only [Try.ntmps36, List.length_cons, List.length_nil, Nat.reduceAdd, Nat.reduceSub, List.reduceReplicate, List.cons_append, List.nil_append]
  show wk _ _ none _ _ ⟨_, []⟩ _
  repeat' (first
    | with_reducible refine s_seq ?_
    | with_reducible refine s_then ?_
    | with_reducible refine s_thenR ?_
    | with_reducible refine s_thenE ?_
    | with_reducible refine s_skip ?_
    | with_reducible refine s_ret ?_
    | with_reducible refine s_block ?_
    | with_reducible refine s_blkN ?_
    | with_reducible refine s_blkR ?_
    | with_reducible refine s_blkE ?_
    | with_reducible refine l_exit ?_
    | with_reducible refine l_ret ?_
    | with_reducible refine s_end ?_
    | with_reducible refine s_reg ?_
    | with_reducible refine q_end ?_
    | with_reducible refine s_blkX (by rfl) ?_
    | with_reducible refine s_exit ?_
    | ((with_reducible refine is_cond ?_); first | refine s_condT (by first | exact e_t (by rfl) | exact e_c | exact e_f) ?_ | refine s_condF (by first | exact e_t (by rfl) | exact e_c | exact e_f) ?_)
    | ((with_reducible refine is_sG _ ?_); refine s_gN (by rfl) ?_; simp only [Fr.put, List.set_cons_succ, List.set_cons_zero])
    | ((with_reducible refine is_s (.move _) ?_); refine s_gL (by rfl) (x_move (by first | exact e_t (by rfl) | exact e_c | exact e_f)) ?_; simp only [Fr.put, List.set_cons_succ, List.set_cons_zero])
    | ((with_reducible refine is_s (.assign _) ?_); refine s_gL (by rfl) (x_assign (by first | exact e_t (by rfl) | exact e_c | exact e_f)) ?_; simp only [Fr.put, List.set_cons_succ, List.set_cons_zero])
    | ((with_reducible refine is_s (.pick _ _ _) ?_); refine s_gL (by rfl) (x_pickT (by first | exact e_t (by rfl) | exact e_c | exact e_f) (by first | exact e_t (by rfl) | exact e_c | exact e_f)) ?_; simp only [Fr.put, List.set_cons_succ, List.set_cons_zero])
    | ((with_reducible refine is_s (.pick _ _ _) ?_); refine s_gL (by rfl) (x_pickF (by first | exact e_t (by rfl) | exact e_c | exact e_f) (by first | exact e_t (by rfl) | exact e_c | exact e_f)) ?_; simp only [Fr.put, List.set_cons_succ, List.set_cons_zero])
    | ((with_reducible refine is_s (.unOp .not _ _) ?_); refine s_gL (by rfl) (x_notT (by first | exact e_t (by rfl) | exact e_c | exact e_f)) ?_; simp only [Fr.put, List.set_cons_succ, List.set_cons_zero])
    | ((with_reducible refine is_s (.unOp .not _ _) ?_); refine s_gL (by rfl) (x_notF (by first | exact e_t (by rfl) | exact e_c | exact e_f)) ?_; simp only [Fr.put, List.set_cons_succ, List.set_cons_zero])
    | ((with_reducible refine is_s (.extract _ _) ?_); refine s_gL (by rfl) (x_extract (by first | exact e_t (by rfl) | exact e_c | exact e_f) (by rfl)) ?_; simp only [Fr.put, List.set_cons_succ, List.set_cons_zero])
    | ((with_reducible refine is_s (.binOp .add _ _ _ _) ?_); refine s_gL (by rfl) (x_add (by first | exact e_t (by rfl) | exact e_c | exact e_f) (by first | exact e_t (by rfl) | exact e_c | exact e_f) (by first | exact wrap_i64_in (by omega) (by omega) | exact wrap_u64_in (by omega) (by omega) | rfl)) ?_; simp only [Fr.put, List.set_cons_succ, List.set_cons_zero])
    | ((with_reducible refine is_s (.binOp .sub _ _ _ _) ?_); refine s_gL (by rfl) (x_sub (by first | exact e_t (by rfl) | exact e_c | exact e_f) (by first | exact e_t (by rfl) | exact e_c | exact e_f) (by first | exact wrap_i64_in (by omega) (by omega) | exact wrap_u64_in (by omega) (by omega) | rfl)) ?_; simp only [Fr.put, List.set_cons_succ, List.set_cons_zero])
    | ((with_reducible refine is_s (.convert _ _ _) ?_); refine s_gL (by rfl) (x_conv (by first | exact u_3 | exact u_45 | exact u_49 | exact u_22) (by first | exact u_3 | exact u_45 | exact u_49 | exact u_22) (by first | exact e_t (by rfl) | exact e_c | exact e_f) (by first | exact wrap_i64_in (by omega) (by omega) | exact wrap_u64_in (by omega) (by omega) | rfl)) ?_; simp only [Fr.put, List.set_cons_succ, List.set_cons_zero])
    | ((with_reducible refine is_s (.binOp .shr _ _ _ _) ?_); refine s_gL (by rfl) (x_shr (m := 1) (by first | exact e_t (by rfl) | exact e_c | exact e_f) (by first | exact e_t (by rfl) | exact e_c | exact e_f) rfl (by show _ ≤ 64; omega) (by omega)) ?_; simp only [Fr.put, List.set_cons_succ, List.set_cons_zero])
    | ((with_reducible refine is_s (.binOp .shr _ _ _ _) ?_); refine s_gL (by rfl) (x_shr (by first | exact e_t (by rfl) | exact e_c | exact e_f) (by first | exact e_t (by rfl) | exact e_c | exact e_f) (by first | rfl | exact (Int.toNat_of_nonneg (by omega)).symm) (by show _ ≤ 64; omega) (by omega)) ?_; simp only [Fr.put, List.set_cons_succ, List.set_cons_zero])
    | ((with_reducible refine is_s (.binOp .shl _ _ _ _) ?_); refine s_gL (by rfl) (x_shl1 (by first | exact e_t (by rfl) | exact e_c | exact e_f) (by first | exact e_t (by rfl) | exact e_c | exact e_f) (by first | rfl | exact (Int.toNat_of_nonneg (by omega)).symm) (by omega)) ?_; simp only [Fr.put, List.set_cons_succ, List.set_cons_zero])
    | ((with_reducible refine is_s (.makeFunc _ _ _) ?_); refine s_gL (by rfl) (x_func1 (by first | exact e_t (by rfl) | exact e_c | exact e_f)) ?_; simp only [Fr.put, List.set_cons_succ, List.set_cons_zero])
    | ((with_reducible refine is_s (.makeFunc _ _ _) ?_); refine s_gL (by rfl) (x_func2 (by first | exact e_t (by rfl) | exact e_c | exact e_f) (by first | exact e_t (by rfl) | exact e_c | exact e_f)) ?_; simp only [Fr.put, List.set_cons_succ, List.set_cons_zero])
    | ((with_reducible refine is_s (.makeFunc _ _ _) ?_); refine s_gL (by rfl) (x_func3 (by first | exact e_t (by rfl) | exact e_c | exact e_f) (by first | exact e_t (by rfl) | exact e_c | exact e_f) (by first | exact e_t (by rfl) | exact e_c | exact e_f)) ?_; simp only [Fr.put, List.set_cons_succ, List.set_cons_zero])
    | ((with_reducible refine is_s (.makeFunc _ _ _) ?_); refine s_gL (by rfl) (x_func (by rfl)) ?_; simp only [Fr.put, List.set_cons_succ, List.set_cons_zero])
    | ((with_reducible refine is_s (.load _ _) ?_); refine s_gL (by rfl) (x_load (by first | exact e_t (by rfl) | exact e_c | exact e_f) (by rfl)) ?_; simp only [Fr.put, List.set_cons_succ, List.set_cons_zero])
    | ((with_reducible refine is_s (.binOp .eql _ _ _ _) ?_); refine s_gB (by rfl) (x_eq (by first | exact e_t (by rfl) | exact e_c | exact e_f) (by first | exact e_t (by rfl) | exact e_c | exact e_f)) (fun hb => ?_) (fun hb => ?_) <;> simp only [decide_eq_true_eq, decide_eq_false_iff_not, Bool.not_eq_true', Bool.not_eq_false', not_true_eq_false, not_false_eq_true] at hb <;> first | (exfalso; omega) | (simp only [Fr.put, List.set_cons_succ, List.set_cons_zero]))
    | ((with_reducible refine is_s (.binOp .neq _ _ _ _) ?_); refine s_gB (by rfl) (x_ne (by first | exact e_t (by rfl) | exact e_c | exact e_f) (by first | exact e_t (by rfl) | exact e_c | exact e_f)) (fun hb => ?_) (fun hb => ?_) <;> simp only [decide_eq_true_eq, decide_eq_false_iff_not, Bool.not_eq_true', Bool.not_eq_false', not_true_eq_false, not_false_eq_true] at hb <;> first | (exfalso; omega) | (simp only [Fr.put, List.set_cons_succ, List.set_cons_zero]))
    | ((with_reducible refine is_s (.binOp .lss _ _ _ _) ?_); refine s_gB (by rfl) (x_lt (by first | exact e_t (by rfl) | exact e_c | exact e_f) (by first | exact e_t (by rfl) | exact e_c | exact e_f)) (fun hb => ?_) (fun hb => ?_) <;> simp only [decide_eq_true_eq, decide_eq_false_iff_not, Bool.not_eq_true', Bool.not_eq_false', not_true_eq_false, not_false_eq_true] at hb <;> first | (exfalso; omega) | (simp only [Fr.put, List.set_cons_succ, List.set_cons_zero]))
    | ((with_reducible refine is_s (.binOp .leq _ _ _ _) ?_); refine s_gB (by rfl) (x_le (by first | exact e_t (by rfl) | exact e_c | exact e_f) (by first | exact e_t (by rfl) | exact e_c | exact e_f)) (fun hb => ?_) (fun hb => ?_) <;> simp only [decide_eq_true_eq, decide_eq_false_iff_not, Bool.not_eq_true', Bool.not_eq_false', not_true_eq_false, not_false_eq_true] at hb <;> first | (exfalso; omega) | (simp only [Fr.put, List.set_cons_succ, List.set_cons_zero]))
    | ((with_reducible refine is_s (.binOp .gtr _ _ _ _) ?_); refine s_gB (by rfl) (x_gt (by first | exact e_t (by rfl) | exact e_c | exact e_f) (by first | exact e_t (by rfl) | exact e_c | exact e_f)) (fun hb => ?_) (fun hb => ?_) <;> simp only [decide_eq_true_eq, decide_eq_false_iff_not, Bool.not_eq_true', Bool.not_eq_false', not_true_eq_false, not_false_eq_true] at hb <;> first | (exfalso; omega) | (simp only [Fr.put, List.set_cons_succ, List.set_cons_zero]))
    | ((with_reducible refine is_s (.binOp .geq _ _ _ _) ?_); refine s_gB (by rfl) (x_ge (by first | exact e_t (by rfl) | exact e_c | exact e_f) (by first | exact e_t (by rfl) | exact e_c | exact e_f)) (fun hb => ?_) (fun hb => ?_) <;> simp only [decide_eq_true_eq, decide_eq_false_iff_not, Bool.not_eq_true', Bool.not_eq_false', not_true_eq_false, not_false_eq_true] at hb <;> first | (exfalso; omega) | (simp only [Fr.put, List.set_cons_succ, List.set_cons_zero]))
    | ((with_reducible refine is_qG _ ?_); refine q_gN (by rfl) ?_; simp only [Fr.put, List.set_cons_succ, List.set_cons_zero])
    | ((with_reducible refine is_q (.move _) ?_); refine q_gL (by rfl) (x_move (by first | exact e_t (by rfl) | exact e_c | exact e_f)) ?_; simp only [Fr.put, List.set_cons_succ, List.set_cons_zero])
    | ((with_reducible refine is_q (.assign _) ?_); refine q_gL (by rfl) (x_assign (by first | exact e_t (by rfl) | exact e_c | exact e_f)) ?_; simp only [Fr.put, List.set_cons_succ, List.set_cons_zero])
    | ((with_reducible refine is_q (.pick _ _ _) ?_); refine q_gL (by rfl) (x_pickT (by first | exact e_t (by rfl) | exact e_c | exact e_f) (by first | exact e_t (by rfl) | exact e_c | exact e_f)) ?_; simp only [Fr.put, List.set_cons_succ, List.set_cons_zero])
    | ((with_reducible refine is_q (.pick _ _ _) ?_); refine q_gL (by rfl) (x_pickF (by first | exact e_t (by rfl) | exact e_c | exact e_f) (by first | exact e_t (by rfl) | exact e_c | exact e_f)) ?_; simp only [Fr.put, List.set_cons_succ, List.set_cons_zero])
    | ((with_reducible refine is_q (.unOp .not _ _) ?_); refine q_gL (by rfl) (x_notT (by first | exact e_t (by rfl) | exact e_c | exact e_f)) ?_; simp only [Fr.put, List.set_cons_succ, List.set_cons_zero])
    | ((with_reducible refine is_q (.unOp .not _ _) ?_); refine q_gL (by rfl) (x_notF (by first | exact e_t (by rfl) | exact e_c | exact e_f)) ?_; simp only [Fr.put, List.set_cons_succ, List.set_cons_zero])
    | ((with_reducible refine is_q (.extract _ _) ?_); refine q_gL (by rfl) (x_extract (by first | exact e_t (by rfl) | exact e_c | exact e_f) (by rfl)) ?_; simp only [Fr.put, List.set_cons_succ, List.set_cons_zero])
    | ((with_reducible refine is_q (.binOp .add _ _ _ _) ?_); refine q_gL (by rfl) (x_add (by first | exact e_t (by rfl) | exact e_c | exact e_f) (by first | exact e_t (by rfl) | exact e_c | exact e_f) (by first | exact wrap_i64_in (by omega) (by omega) | exact wrap_u64_in (by omega) (by omega) | rfl)) ?_; simp only [Fr.put, List.set_cons_succ, List.set_cons_zero])
    | ((with_reducible refine is_q (.binOp .sub _ _ _ _) ?_); refine q_gL (by rfl) (x_sub (by first | exact e_t (by rfl) | exact e_c | exact e_f) (by first | exact e_t (by rfl) | exact e_c | exact e_f) (by first | exact wrap_i64_in (by omega) (by omega) | exact wrap_u64_in (by omega) (by omega) | rfl)) ?_; simp only [Fr.put, List.set_cons_succ, List.set_cons_zero])
    | ((with_reducible refine is_q (.convert _ _ _) ?_); refine q_gL (by rfl) (x_conv (by first | exact u_3 | exact u_45 | exact u_49 | exact u_22) (by first | exact u_3 | exact u_45 | exact u_49 | exact u_22) (by first | exact e_t (by rfl) | exact e_c | exact e_f) (by first | exact wrap_i64_in (by omega) (by omega) | exact wrap_u64_in (by omega) (by omega) | rfl)) ?_; simp only [Fr.put, List.set_cons_succ, List.set_cons_zero])
    | ((with_reducible refine is_q (.binOp .shr _ _ _ _) ?_); refine q_gL (by rfl) (x_shr (m := 1) (by first | exact e_t (by rfl) | exact e_c | exact e_f) (by first | exact e_t (by rfl) | exact e_c | exact e_f) rfl (by show _ ≤ 64; omega) (by omega)) ?_; simp only [Fr.put, List.set_cons_succ, List.set_cons_zero])
    | ((with_reducible refine is_q (.binOp .shr _ _ _ _) ?_); refine q_gL (by rfl) (x_shr (by first | exact e_t (by rfl) | exact e_c | exact e_f) (by first | exact e_t (by rfl) | exact e_c | exact e_f) (by first | rfl | exact (Int.toNat_of_nonneg (by omega)).symm) (by show _ ≤ 64; omega) (by omega)) ?_; simp only [Fr.put, List.set_cons_succ, List.set_cons_zero])
    | ((with_reducible refine is_q (.binOp .shl _ _ _ _) ?_); refine q_gL (by rfl) (x_shl1 (by first | exact e_t (by rfl) | exact e_c | exact e_f) (by first | exact e_t (by rfl) | exact e_c | exact e_f) (by first | rfl | exact (Int.toNat_of_nonneg (by omega)).symm) (by omega)) ?_; simp only [Fr.put, List.set_cons_succ, List.set_cons_zero])
    | ((with_reducible refine is_q (.makeFunc _ _ _) ?_); refine q_gL (by rfl) (x_func1 (by first | exact e_t (by rfl) | exact e_c | exact e_f)) ?_; simp only [Fr.put, List.set_cons_succ, List.set_cons_zero])
    | ((with_reducible refine is_q (.makeFunc _ _ _) ?_); refine q_gL (by rfl) (x_func2 (by first | exact e_t (by rfl) | exact e_c | exact e_f) (by first | exact e_t (by rfl) | exact e_c | exact e_f)) ?_; simp only [Fr.put, List.set_cons_succ, List.set_cons_zero])
    | ((with_reducible refine is_q (.makeFunc _ _ _) ?_); refine q_gL (by rfl) (x_func3 (by first | exact e_t (by rfl) | exact e_c | exact e_f) (by first | exact e_t (by rfl) | exact e_c | exact e_f) (by first | exact e_t (by rfl) | exact e_c | exact e_f)) ?_; simp only [Fr.put, List.set_cons_succ, List.set_cons_zero])
    | ((with_reducible refine is_q (.makeFunc _ _ _) ?_); refine q_gL (by rfl) (x_func (by rfl)) ?_; simp only [Fr.put, List.set_cons_succ, List.set_cons_zero])
    | ((with_reducible refine is_q (.load _ _) ?_); refine q_gL (by rfl) (x_load (by first | exact e_t (by rfl) | exact e_c | exact e_f) (by rfl)) ?_; simp only [Fr.put, List.set_cons_succ, List.set_cons_zero])
    | ((with_reducible refine is_q (.binOp .eql _ _ _ _) ?_); refine q_gB (by rfl) (x_eq (by first | exact e_t (by rfl) | exact e_c | exact e_f) (by first | exact e_t (by rfl) | exact e_c | exact e_f)) (fun hb => ?_) (fun hb => ?_) <;> simp only [decide_eq_true_eq, decide_eq_false_iff_not, Bool.not_eq_true', Bool.not_eq_false', not_true_eq_false, not_false_eq_true] at hb <;> first | (exfalso; omega) | (simp only [Fr.put, List.set_cons_succ, List.set_cons_zero]))
    | ((with_reducible refine is_q (.binOp .neq _ _ _ _) ?_); refine q_gB (by rfl) (x_ne (by first | exact e_t (by rfl) | exact e_c | exact e_f) (by first | exact e_t (by rfl) | exact e_c | exact e_f)) (fun hb => ?_) (fun hb => ?_) <;> simp only [decide_eq_true_eq, decide_eq_false_iff_not, Bool.not_eq_true', Bool.not_eq_false', not_true_eq_false, not_false_eq_true] at hb <;> first | (exfalso; omega) | (simp only [Fr.put, List.set_cons_succ, List.set_cons_zero]))
    | ((with_reducible refine is_q (.binOp .lss _ _ _ _) ?_); refine q_gB (by rfl) (x_lt (by first | exact e_t (by rfl) | exact e_c | exact e_f) (by first | exact e_t (by rfl) | exact e_c | exact e_f)) (fun hb => ?_) (fun hb => ?_) <;> simp only [decide_eq_true_eq, decide_eq_false_iff_not, Bool.not_eq_true', Bool.not_eq_false', not_true_eq_false, not_false_eq_true] at hb <;> first | (exfalso; omega) | (simp only [Fr.put, List.set_cons_succ, List.set_cons_zero]))
    | ((with_reducible refine is_q (.binOp .leq _ _ _ _) ?_); refine q_gB (by rfl) (x_le (by first | exact e_t (by rfl) | exact e_c | exact e_f) (by first | exact e_t (by rfl) | exact e_c | exact e_f)) (fun hb => ?_) (fun hb => ?_) <;> simp only [decide_eq_true_eq, decide_eq_false_iff_not, Bool.not_eq_true', Bool.not_eq_false', not_true_eq_false, not_false_eq_true] at hb <;> first | (exfalso; omega) | (simp only [Fr.put, List.set_cons_succ, List.set_cons_zero]))
    | ((with_reducible refine is_q (.binOp .gtr _ _ _ _) ?_); refine q_gB (by rfl) (x_gt (by first | exact e_t (by rfl) | exact e_c | exact e_f) (by first | exact e_t (by rfl) | exact e_c | exact e_f)) (fun hb => ?_) (fun hb => ?_) <;> simp only [decide_eq_true_eq, decide_eq_false_iff_not, Bool.not_eq_true', Bool.not_eq_false', not_true_eq_false, not_false_eq_true] at hb <;> first | (exfalso; omega) | (simp only [Fr.put, List.set_cons_succ, List.set_cons_zero]))
    | ((with_reducible refine is_q (.binOp .geq _ _ _ _) ?_); refine q_gB (by rfl) (x_ge (by first | exact e_t (by rfl) | exact e_c | exact e_f) (by first | exact e_t (by rfl) | exact e_c | exact e_f)) (fun hb => ?_) (fun hb => ?_) <;> simp only [decide_eq_true_eq, decide_eq_false_iff_not, Bool.not_eq_true', Bool.not_eq_false', not_true_eq_false, not_false_eq_true] at hb <;> first | (exfalso; omega) | (simp only [Fr.put, List.set_cons_succ, List.set_cons_zero]))
    | ((with_reducible refine is_s (.call ⟨.value (.func 32), _, _⟩) ?_); refine s_gK (by rfl) (by rfl) ok_32 rfl (base_any _ _ h0 h2 (by omega) (by omega)) ?_; simp only [Fr.put, List.set_cons_succ, List.set_cons_zero])
    | ((with_reducible refine is_q (.call ⟨.value (.func 32), _, _⟩) ?_); refine q_gK (by rfl) (by rfl) ok_32 rfl (base_any _ _ h0 h2 (by omega) (by omega)) ?_; simp only [Fr.put, List.set_cons_succ, List.set_cons_zero])
    | ((with_reducible refine is_regD ?_); refine s_regQ (id := 1) [(0, true), (1, true), (2, true), (4, true), (3, false), (5, true), (6, true)] (by kernel_rfl) (by conv => lhs; simp only [pickO, List.getElem?_cons_succ, List.getElem?_cons_zero]) ?_)
    | ((with_reducible refine is_s (.load _ _) ?_); refine s_gL (by rfl) (x_load1 (by first | exact s1_3 | exact s1_49 | exact s1_53 | exact s1_22) (by first | exact e_t (by rfl) | exact e_c | exact e_f) (by rfl) (by rfl)) ?_; simp only [Fr.put, List.set_cons_succ, List.set_cons_zero])
    | ((with_reducible refine is_s (.load _ _) ?_); refine s_gL (by rfl) (x_loadA (by first | exact ag_56 | exact ag_57 | exact ag_54) (by first | exact e_t (by rfl) | exact e_c | exact e_f) (by rfl) (by simp)) ?_; simp only [Fr.put, List.set_cons_succ, List.set_cons_zero])
    | ((with_reducible refine is_s (.indexAddr _ _ _) ?_); refine s_gL (by rfl) (x_idxA (by first | exact ar_54 | exact ar_55 | exact ar_56 | exact ar_57) (by first | exact e_t (by rfl) | exact e_c | exact e_f) (by first | exact e_t (by rfl) | exact e_c | exact e_f) (by omega) (by omega)) ?_; simp only [Fr.put, List.set_cons_succ, List.set_cons_zero])
    | ((with_reducible refine is_s (.indexAddr _ _ _) ?_); refine s_gL (by rfl) (x_idxS (by first | exact sl_32) (by first | exact e_t (by rfl) | exact e_c | exact e_f) (by first | exact e_t (by rfl) | exact e_c | exact e_f) (by omega) (by omega)) ?_; simp only [Fr.put, List.set_cons_succ, List.set_cons_zero])
    | ((with_reducible refine is_q (.load _ _) ?_); refine q_gL (by rfl) (x_load1 (by first | exact s1_3 | exact s1_49 | exact s1_53 | exact s1_22) (by first | exact e_t (by rfl) | exact e_c | exact e_f) (by rfl) (by rfl)) ?_; simp only [Fr.put, List.set_cons_succ, List.set_cons_zero])
    | ((with_reducible refine is_q (.load _ _) ?_); refine q_gL (by rfl) (x_loadA (by first | exact ag_56 | exact ag_57 | exact ag_54) (by first | exact e_t (by rfl) | exact e_c | exact e_f) (by rfl) (by simp)) ?_; simp only [Fr.put, List.set_cons_succ, List.set_cons_zero])
    | ((with_reducible refine is_q (.indexAddr _ _ _) ?_); refine q_gL (by rfl) (x_idxA (by first | exact ar_54 | exact ar_55 | exact ar_56 | exact ar_57) (by first | exact e_t (by rfl) | exact e_c | exact e_f) (by first | exact e_t (by rfl) | exact e_c | exact e_f) (by omega) (by omega)) ?_; simp only [Fr.put, List.set_cons_succ, List.set_cons_zero])
    | ((with_reducible refine is_q (.indexAddr _ _ _) ?_); refine q_gL (by rfl) (x_idxS (by first | exact sl_32) (by first | exact e_t (by rfl) | exact e_c | exact e_f) (by first | exact e_t (by rfl) | exact e_c | exact e_f) (by omega) (by omega)) ?_; simp only [Fr.put, List.set_cons_succ, List.set_cons_zero])
    | ((with_reducible refine is_s (.index _ _ _) ?_); refine s_gL (by rfl) (x_index1 (by first | exact ar_54 | exact ar_55 | exact ar_56 | exact ar_57) (by first | exact s1_3 | exact s1_49 | exact s1_53 | exact s1_22) (by first | exact e_t (by rfl) | exact e_c | exact e_f) (by first | exact e_t (by rfl) | exact e_c | exact e_f) (by omega) (by omega) (by rfl)) ?_; simp only [Fr.put, List.set_cons_succ, List.set_cons_zero])
    | ((with_reducible refine is_q (.index _ _ _) ?_); refine q_gL (by rfl) (x_index1 (by first | exact ar_54 | exact ar_55 | exact ar_56 | exact ar_57) (by first | exact s1_3 | exact s1_49 | exact s1_53 | exact s1_22) (by first | exact e_t (by rfl) | exact e_c | exact e_f) (by first | exact e_t (by rfl) | exact e_c | exact e_f) (by omega) (by omega) (by rfl)) ?_; simp only [Fr.put, List.set_cons_succ, List.set_cons_zero])
    | ((with_reducible refine is_s (.alloc _) ?_); refine s_gH (by rfl) (x_alloc (by first | exact z_49)) ?_; simp only [Fr.put, List.set_cons_succ, List.set_cons_zero, List.length_cons, List.length_nil, List.nil_append, List.cons_append, Nat.reduceAdd])
    | ((with_reducible refine is_s (.box _ _) ?_); refine s_gH (by rfl) (x_box1 (by first | exact s1_3 | exact s1_49 | exact s1_53 | exact s1_22) (by first | exact e_t (by rfl) | exact e_c | exact e_f) rfl) ?_; simp only [Fr.put, List.set_cons_succ, List.set_cons_zero, List.length_cons, List.length_nil, List.nil_append, List.cons_append, Nat.reduceAdd])
    | ((with_reducible refine is_s (.store _ _ _) ?_); refine s_gH (by rfl) (x_store1 (by first | exact s1_3 | exact s1_49 | exact s1_53 | exact s1_22) (by first | exact e_t (by rfl) | exact e_c | exact e_f) (by first | exact e_t (by rfl) | exact e_c | exact e_f) rfl (by rfl) (by simp only [List.length_cons, List.length_nil]; omega)) ?_; simp only [Fr.put, List.set_cons_succ, List.set_cons_zero, List.length_cons, List.length_nil, List.nil_append, List.cons_append, Nat.reduceAdd])
    | ((with_reducible refine is_s (.store _ _ _) ?_); refine s_gH (by rfl) (x_storeF (by first | exact ag_56 | exact ag_57 | exact ag_54) (by first | exact e_t (by rfl) | exact e_c | exact e_f) (by first | exact e_t (by rfl) | exact e_c | exact e_f) (by rfl) (by rfl) (by rfl) (by rfl)) ?_; simp only [Fr.put, List.set_cons_succ, List.set_cons_zero, List.length_cons, List.length_nil, List.nil_append, List.cons_append, Nat.reduceAdd])
    )
  all_goals first | refine k_1 rfl (by rfl) ?_ | refine k_2 rfl (by rfl) (by rfl) ?_ | refine k_3 rfl (by rfl) (by rfl) (by rfl) ?_ | refine k_4 rfl (by rfl) (by rfl) (by rfl) (by rfl) ?_
  all_goals refine ⟨?_, rfl⟩
  all_goals first | (rw [decide_eq_true (by omega)]; done) | (rw [decide_eq_false (by omega)]; done)
theorem search_any (k v n : Int) (h0 : 0 ≤ k) (h2 : k ≤ 2) (h3 : 0 ≤ n) (h4 : n ≤ mostF k) : ACalls Try.prog 35 [I n, .fn (.func 36) [.ptr 1 0, .ptr 0 0]] (hC k v) (fun r h' => (∃ c : Nat, r = I c ∧ (c : Int) ≤ n ∧ (∀ d : Nat, d < c → baseF k ((d + 1 : Nat) : Int) ≤ v) ∧ ((c : Int) = n ∨ v < baseF k ((c + 1 : Nat) : Int))) ∧ h' = hC k v) := by
  have h5 := most_rng h0 h2
  have hp := pred_any k v
  unfold hC at hp ⊢
  refine acalls_of_wk hm Try.func35 rfl ?_
  simp only [Try.ntmps35, List.length_cons, List.length_nil, Nat.reduceAdd, Nat.reduceSub, List.reduceReplicate, List.cons_append, List.nil_append]
  show wk _ _ none _ _ ⟨_, []⟩ _
  repeat' (first
    | with_reducible refine s_seq ?_
    | with_reducible refine s_then ?_
    | with_reducible refine s_thenR ?_
    | with_reducible refine s_thenE ?_
    | with_reducible refine s_skip ?_
    | with_reducible refine s_ret ?_
    | with_reducible refine s_block ?_
    | with_reducible refine s_blkN ?_
    | with_reducible refine s_blkR ?_
    | with_reducible refine s_blkE ?_
    | with_reducible refine l_exit ?_
    | with_reducible refine l_ret ?_
    | with_reducible refine s_end ?_
    | with_reducible refine s_reg ?_
    | with_reducible refine s_blkX (by rfl) ?_
    | with_reducible refine s_exit ?_
    | ((with_reducible refine is_cond ?_); first | refine s_condT (by first | exact e_t (by rfl) | exact e_c | exact e_f) ?_ | refine s_condF (by first | exact e_t (by rfl) | exact e_c | exact e_f) ?_)
    | ((with_reducible refine is_sG _ ?_); refine s_gN (by rfl) ?_; simp only [Fr.put, List.set_cons_succ, List.set_cons_zero])
    | ((with_reducible refine is_s (.move _) ?_); refine s_gL (by rfl) (x_move (by first | exact e_t (by rfl) | exact e_c | exact e_f)) ?_; simp only [Fr.put, List.set_cons_succ, List.set_cons_zero])
    | ((with_reducible refine is_s (.assign _) ?_); refine s_gL (by rfl) (x_assign (by first | exact e_t (by rfl) | exact e_c | exact e_f)) ?_; simp only [Fr.put, List.set_cons_succ, List.set_cons_zero])
    | ((with_reducible refine is_s (.pick _ _ _) ?_); refine s_gL (by rfl) (x_pickT (by first | exact e_t (by rfl) | exact e_c | exact e_f) (by first | exact e_t (by rfl) | exact e_c | exact e_f)) ?_; simp only [Fr.put, List.set_cons_succ, List.set_cons_zero])
    | ((with_reducible refine is_s (.pick _ _ _) ?_); refine s_gL (by rfl) (x_pickF (by first | exact e_t (by rfl) | exact e_c | exact e_f) (by first | exact e_t (by rfl) | exact e_c | exact e_f)) ?_; simp only [Fr.put, List.set_cons_succ, List.set_cons_zero])
    | ((with_reducible refine is_s (.unOp .not _ _) ?_); refine s_gL (by rfl) (x_notT (by first | exact e_t (by rfl) | exact e_c | exact e_f)) ?_; simp only [Fr.put, List.set_cons_succ, List.set_cons_zero])
    | ((with_reducible refine is_s (.unOp .not _ _) ?_); refine s_gL (by rfl) (x_notF (by first | exact e_t (by rfl) | exact e_c | exact e_f)) ?_; simp only [Fr.put, List.set_cons_succ, List.set_cons_zero])
    | ((with_reducible refine is_s (.extract _ _) ?_); refine s_gL (by rfl) (x_extract (by first | exact e_t (by rfl) | exact e_c | exact e_f) (by rfl)) ?_; simp only [Fr.put, List.set_cons_succ, List.set_cons_zero])
    | ((with_reducible refine is_s (.binOp .add _ _ _ _) ?_); refine s_gL (by rfl) (x_add (by first | exact e_t (by rfl) | exact e_c | exact e_f) (by first | exact e_t (by rfl) | exact e_c | exact e_f) (by first | exact wrap_i64_in (by omega) (by omega) | exact wrap_u64_in (by omega) (by omega) | rfl)) ?_; simp only [Fr.put, List.set_cons_succ, List.set_cons_zero])
    | ((with_reducible refine is_s (.binOp .sub _ _ _ _) ?_); refine s_gL (by rfl) (x_sub (by first | exact e_t (by rfl) | exact e_c | exact e_f) (by first | exact e_t (by rfl) | exact e_c | exact e_f) (by first | exact wrap_i64_in (by omega) (by omega) | exact wrap_u64_in (by omega) (by omega) | rfl)) ?_; simp only [Fr.put, List.set_cons_succ, List.set_cons_zero])
    | ((with_reducible refine is_s (.convert _ _ _) ?_); refine s_gL (by rfl) (x_conv (by first | exact u_3 | exact u_45 | exact u_49 | exact u_22) (by first | exact u_3 | exact u_45 | exact u_49 | exact u_22) (by first | exact e_t (by rfl) | exact e_c | exact e_f) (by first | exact wrap_i64_in (by omega) (by omega) | exact wrap_u64_in (by omega) (by omega) | rfl)) ?_; simp only [Fr.put, List.set_cons_succ, List.set_cons_zero])
    | ((with_reducible refine is_s (.binOp .shr _ _ _ _) ?_); refine s_gL (by rfl) (x_shr (m := 1) (by first | exact e_t (by rfl) | exact e_c | exact e_f) (by first | exact e_t (by rfl) | exact e_c | exact e_f) rfl (by show _ ≤ 64; omega) (by omega)) ?_; simp only [Fr.put, List.set_cons_succ, List.set_cons_zero])
    | ((with_reducible refine is_s (.binOp .shr _ _ _ _) ?_); refine s_gL (by rfl) (x_shr (by first | exact e_t (by rfl) | exact e_c | exact e_f) (by first | exact e_t (by rfl) | exact e_c | exact e_f) (by first | rfl | exact (Int.toNat_of_nonneg (by omega)).symm) (by show _ ≤ 64; omega) (by omega)) ?_; simp only [Fr.put, List.set_cons_succ, List.set_cons_zero])
    | ((with_reducible refine is_s (.binOp .shl _ _ _ _) ?_); refine s_gL (by rfl) (x_shl1 (by first | exact e_t (by rfl) | exact e_c | exact e_f) (by first | exact e_t (by rfl) | exact e_c | exact e_f) (by first | rfl | exact (Int.toNat_of_nonneg (by omega)).symm) (by omega)) ?_; simp only [Fr.put, List.set_cons_succ, List.set_cons_zero])
    | ((with_reducible refine is_s (.makeFunc _ _ _) ?_); refine s_gL (by rfl) (x_func1 (by first | exact e_t (by rfl) | exact e_c | exact e_f)) ?_; simp only [Fr.put, List.set_cons_succ, List.set_cons_zero])
    | ((with_reducible refine is_s (.makeFunc _ _ _) ?_); refine s_gL (by rfl) (x_func2 (by first | exact e_t (by rfl) | exact e_c | exact e_f) (by first | exact e_t (by rfl) | exact e_c | exact e_f)) ?_; simp only [Fr.put, List.set_cons_succ, List.set_cons_zero])
    | ((with_reducible refine is_s (.makeFunc _ _ _) ?_); refine s_gL (by rfl) (x_func3 (by first | exact e_t (by rfl) | exact e_c | exact e_f) (by first | exact e_t (by rfl) | exact e_c | exact e_f) (by first | exact e_t (by rfl) | exact e_c | exact e_f)) ?_; simp only [Fr.put, List.set_cons_succ, List.set_cons_zero])
    | ((with_reducible refine is_s (.makeFunc _ _ _) ?_); refine s_gL (by rfl) (x_func (by rfl)) ?_; simp only [Fr.put, List.set_cons_succ, List.set_cons_zero])
    | ((with_reducible refine is_s (.load _ _) ?_); refine s_gL (by rfl) (x_load (by first | exact e_t (by rfl) | exact e_c | exact e_f) (by rfl)) ?_; simp only [Fr.put, List.set_cons_succ, List.set_cons_zero])
    | ((with_reducible refine is_s (.binOp .eql _ _ _ _) ?_); refine s_gB (by rfl) (x_eq (by first | exact e_t (by rfl) | exact e_c | exact e_f) (by first | exact e_t (by rfl) | exact e_c | exact e_f)) (fun hb => ?_) (fun hb => ?_) <;> simp only [decide_eq_true_eq, decide_eq_false_iff_not, Bool.not_eq_true', Bool.not_eq_false', not_true_eq_false, not_false_eq_true] at hb <;> first | (exfalso; omega) | (simp only [Fr.put, List.set_cons_succ, List.set_cons_zero]))
    | ((with_reducible refine is_s (.binOp .neq _ _ _ _) ?_); refine s_gB (by rfl) (x_ne (by first | exact e_t (by rfl) | exact e_c | exact e_f) (by first | exact e_t (by rfl) | exact e_c | exact e_f)) (fun hb => ?_) (fun hb => ?_) <;> simp only [decide_eq_true_eq, decide_eq_false_iff_not, Bool.not_eq_true', Bool.not_eq_false', not_true_eq_false, not_false_eq_true] at hb <;> first | (exfalso; omega) | (simp only [Fr.put, List.set_cons_succ, List.set_cons_zero]))
    | ((with_reducible refine is_s (.binOp .lss _ _ _ _) ?_); refine s_gB (by rfl) (x_lt (by first | exact e_t (by rfl) | exact e_c | exact e_f) (by first | exact e_t (by rfl) | exact e_c | exact e_f)) (fun hb => ?_) (fun hb => ?_) <;> simp only [decide_eq_true_eq, decide_eq_false_iff_not, Bool.not_eq_true', Bool.not_eq_false', not_true_eq_false, not_false_eq_true] at hb <;> first | (exfalso; omega) | (simp only [Fr.put, List.set_cons_succ, List.set_cons_zero]))
    | ((with_reducible refine is_s (.binOp .leq _ _ _ _) ?_); refine s_gB (by rfl) (x_le (by first | exact e_t (by rfl) | exact e_c | exact e_f) (by first | exact e_t (by rfl) | exact e_c | exact e_f)) (fun hb => ?_) (fun hb => ?_) <;> simp only [decide_eq_true_eq, decide_eq_false_iff_not, Bool.not_eq_true', Bool.not_eq_false', not_true_eq_false, not_false_eq_true] at hb <;> first | (exfalso; omega) | (simp only [Fr.put, List.set_cons_succ, List.set_cons_zero]))
    | ((with_reducible refine is_s (.binOp .gtr _ _ _ _) ?_); refine s_gB (by rfl) (x_gt (by first | exact e_t (by rfl) | exact e_c | exact e_f) (by first | exact e_t (by rfl) | exact e_c | exact e_f)) (fun hb => ?_) (fun hb => ?_) <;> simp only [decide_eq_true_eq, decide_eq_false_iff_not, Bool.not_eq_true', Bool.not_eq_false', not_true_eq_false, not_false_eq_true] at hb <;> first | (exfalso; omega) | (simp only [Fr.put, List.set_cons_succ, List.set_cons_zero]))
    | ((with_reducible refine is_s (.binOp .geq _ _ _ _) ?_); refine s_gB (by rfl) (x_ge (by first | exact e_t (by rfl) | exact e_c | exact e_f) (by first | exact e_t (by rfl) | exact e_c | exact e_f)) (fun hb => ?_) (fun hb => ?_) <;> simp only [decide_eq_true_eq, decide_eq_false_iff_not, Bool.not_eq_true', Bool.not_eq_false', not_true_eq_false, not_false_eq_true] at hb <;> first | (exfalso; omega) | (simp only [Fr.put, List.set_cons_succ, List.set_cons_zero]))
    | ((with_reducible refine is_s (.load _ _) ?_); refine s_gL (by rfl) (x_load1 (by first | exact s1_3 | exact s1_49 | exact s1_53 | exact s1_22) (by first | exact e_t (by rfl) | exact e_c | exact e_f) (by rfl) (by rfl)) ?_; simp only [Fr.put, List.set_cons_succ, List.set_cons_zero])
    | ((with_reducible refine is_s (.load _ _) ?_); refine s_gL (by rfl) (x_loadA (by first | exact ag_56 | exact ag_57 | exact ag_54) (by first | exact e_t (by rfl) | exact e_c | exact e_f) (by rfl) (by simp)) ?_; simp only [Fr.put, List.set_cons_succ, List.set_cons_zero])
    | ((with_reducible refine is_s (.indexAddr _ _ _) ?_); refine s_gL (by rfl) (x_idxA (by first | exact ar_54 | exact ar_55 | exact ar_56 | exact ar_57) (by first | exact e_t (by rfl) | exact e_c | exact e_f) (by first | exact e_t (by rfl) | exact e_c | exact e_f) (by omega) (by omega)) ?_; simp only [Fr.put, List.set_cons_succ, List.set_cons_zero])
    | ((with_reducible refine is_s (.indexAddr _ _ _) ?_); refine s_gL (by rfl) (x_idxS (by first | exact sl_32) (by first | exact e_t (by rfl) | exact e_c | exact e_f) (by first | exact e_t (by rfl) | exact e_c | exact e_f) (by omega) (by omega)) ?_; simp only [Fr.put, List.set_cons_succ, List.set_cons_zero])
    | ((with_reducible refine is_s (.index _ _ _) ?_); refine s_gL (by rfl) (x_index1 (by first | exact ar_54 | exact ar_55 | exact ar_56 | exact ar_57) (by first | exact s1_3 | exact s1_49 | exact s1_53 | exact s1_22) (by first | exact e_t (by rfl) | exact e_c | exact e_f) (by first | exact e_t (by rfl) | exact e_c | exact e_f) (by omega) (by omega) (by rfl)) ?_; simp only [Fr.put, List.set_cons_succ, List.set_cons_zero])
    | ((with_reducible refine is_s (.alloc _) ?_); refine s_gH (by rfl) (x_alloc (by first | exact z_49)) ?_; simp only [Fr.put, List.set_cons_succ, List.set_cons_zero, List.length_cons, List.length_nil, List.nil_append, List.cons_append, Nat.reduceAdd])
    | ((with_reducible refine is_s (.box _ _) ?_); refine s_gH (by rfl) (x_box1 (by first | exact s1_3 | exact s1_49 | exact s1_53 | exact s1_22) (by first | exact e_t (by rfl) | exact e_c | exact e_f) rfl) ?_; simp only [Fr.put, List.set_cons_succ, List.set_cons_zero, List.length_cons, List.length_nil, List.nil_append, List.cons_append, Nat.reduceAdd])
    | ((with_reducible refine is_s (.store _ _ _) ?_); refine s_gH (by rfl) (x_store1 (by first | exact s1_3 | exact s1_49 | exact s1_53 | exact s1_22) (by first | exact e_t (by rfl) | exact e_c | exact e_f) (by first | exact e_t (by rfl) | exact e_c | exact e_f) rfl (by rfl) (by simp only [List.length_cons, List.length_nil]; omega)) ?_; simp only [Fr.put, List.set_cons_succ, List.set_cons_zero, List.length_cons, List.length_nil, List.nil_append, List.cons_append, Nat.reduceAdd])
    | ((with_reducible refine is_s (.store _ _ _) ?_); refine s_gH (by rfl) (x_storeF (by first | exact ag_56 | exact ag_57 | exact ag_54) (by first | exact e_t (by rfl) | exact e_c | exact e_f) (by first | exact e_t (by rfl) | exact e_c | exact e_f) (by rfl) (by rfl) (by rfl) (by rfl)) ?_; simp only [Fr.put, List.set_cons_succ, List.set_cons_zero, List.length_cons, List.length_nil, List.nil_append, List.cons_append, Nat.reduceAdd])
    )
  refine s_loop hm (fun (b : Int × Int) s => [I n, .fn (.func 36) [.ptr 1 0, .ptr 0 0], U, U, I 0, I b.1, I b.2, s 7, s 8, s 9, s 10, s 11, s 12, s 13, s 14, s 15, s 16, s 17, s 18, s 19, s 20, s 21, s 22, s 23, s 24, s 25]) (fun _ => [.cells [I v] 3 true, .cells [I k] 49 true])
    (fun b => 0 ≤ b.1 ∧ b.1 ≤ b.2 ∧ b.2 ≤ n ∧ (∀ d : Nat, (d : Int) < b.1 → baseF k ((d + 1 : Nat) : Int) ≤ v) ∧ (b.2 = n ∨ v < baseF k (b.2 + 1))) (fun b => (b.2 - b.1).toNat) (0, n) (by rfl) rfl
    ⟨Int.le_refl _, h3, Int.le_refl _, fun d hd => absurd hd (by simp only []; omega), .inl rfl⟩ ?_
  rintro ⟨i, j⟩ s ⟨hi1, hi2, hi3, hi4, hi5⟩
  simp only [] at hi1 hi2 hi3 hi4 hi5 ⊢
  repeat' (first
    | with_reducible refine s_seq ?_
    | with_reducible refine s_then ?_
    | with_reducible refine s_thenR ?_
    | with_reducible refine s_thenE ?_
    | with_reducible refine s_skip ?_
    | with_reducible refine s_ret ?_
    | with_reducible refine s_block ?_
    | with_reducible refine s_blkN ?_
    | with_reducible refine s_blkR ?_
    | with_reducible refine s_blkE ?_
    | with_reducible refine l_exit ?_
    | with_reducible refine l_ret ?_
    | with_reducible refine s_end ?_
    | with_reducible refine s_reg ?_
    | with_reducible refine s_blkX (by rfl) ?_
    | with_reducible refine s_exit ?_
    | ((with_reducible refine is_cond ?_); first | refine s_condT (by first | exact e_t (by rfl) | exact e_c | exact e_f) ?_ | refine s_condF (by first | exact e_t (by rfl) | exact e_c | exact e_f) ?_)
    | ((with_reducible refine is_sG _ ?_); refine s_gN (by rfl) ?_; simp only [Fr.put, List.set_cons_succ, List.set_cons_zero])
    | ((with_reducible refine is_s (.move _) ?_); refine s_gL (by rfl) (x_move (by first | exact e_t (by rfl) | exact e_c | exact e_f)) ?_; simp only [Fr.put, List.set_cons_succ, List.set_cons_zero])
    | ((with_reducible refine is_s (.assign _) ?_); refine s_gL (by rfl) (x_assign (by first | exact e_t (by rfl) | exact e_c | exact e_f)) ?_; simp only [Fr.put, List.set_cons_succ, List.set_cons_zero])
    | ((with_reducible refine is_s (.pick _ _ _) ?_); refine s_gL (by rfl) (x_pickT (by first | exact e_t (by rfl) | exact e_c | exact e_f) (by first | exact e_t (by rfl) | exact e_c | exact e_f)) ?_; simp only [Fr.put, List.set_cons_succ, List.set_cons_zero])
    | ((with_reducible refine is_s (.pick _ _ _) ?_); refine s_gL (by rfl) (x_pickF (by first | exact e_t (by rfl) | exact e_c | exact e_f) (by first | exact e_t (by rfl) | exact e_c | exact e_f)) ?_; simp only [Fr.put, List.set_cons_succ, List.set_cons_zero])
    | ((with_reducible refine is_s (.unOp .not _ _) ?_); refine s_gL (by rfl) (x_notT (by first | exact e_t (by rfl) | exact e_c | exact e_f)) ?_; simp only [Fr.put, List.set_cons_succ, List.set_cons_zero])
    | ((with_reducible refine is_s (.unOp .not _ _) ?_); refine s_gL (by rfl) (x_notF (by first | exact e_t (by rfl) | exact e_c | exact e_f)) ?_; simp only [Fr.put, List.set_cons_succ, List.set_cons_zero])
    | ((with_reducible refine is_s (.extract _ _) ?_); refine s_gL (by rfl) (x_extract (by first | exact e_t (by rfl) | exact e_c | exact e_f) (by rfl)) ?_; simp only [Fr.put, List.set_cons_succ, List.set_cons_zero])
    | ((with_reducible refine is_s (.binOp .add _ _ _ _) ?_); refine s_gL (by rfl) (x_add (by first | exact e_t (by rfl) | exact e_c | exact e_f) (by first | exact e_t (by rfl) | exact e_c | exact e_f) (by first | exact wrap_i64_in (by omega) (by omega) | exact wrap_u64_in (by omega) (by omega) | rfl)) ?_; simp only [Fr.put, List.set_cons_succ, List.set_cons_zero])
    | ((with_reducible refine is_s (.binOp .sub _ _ _ _) ?_); refine s_gL (by rfl) (x_sub (by first | exact e_t (by rfl) | exact e_c | exact e_f) (by first | exact e_t (by rfl) | exact e_c | exact e_f) (by first | exact wrap_i64_in (by omega) (by omega) | exact wrap_u64_in (by omega) (by omega) | rfl)) ?_; simp only [Fr.put, List.set_cons_succ, List.set_cons_zero])
    | ((with_reducible refine is_s (.convert _ _ _) ?_); refine s_gL (by rfl) (x_conv (by first | exact u_3 | exact u_45 | exact u_49 | exact u_22) (by first | exact u_3 | exact u_45 | exact u_49 | exact u_22) (by first | exact e_t (by rfl) | exact e_c | exact e_f) (by first | exact wrap_i64_in (by omega) (by omega) | exact wrap_u64_in (by omega) (by omega) | rfl)) ?_; simp only [Fr.put, List.set_cons_succ, List.set_cons_zero])
    | ((with_reducible refine is_s (.binOp .shr _ _ _ _) ?_); refine s_gL (by rfl) (x_shr (m := 1) (by first | exact e_t (by rfl) | exact e_c | exact e_f) (by first | exact e_t (by rfl) | exact e_c | exact e_f) rfl (by show _ ≤ 64; omega) (by omega)) ?_; simp only [Fr.put, List.set_cons_succ, List.set_cons_zero])
    | ((with_reducible refine is_s (.binOp .shr _ _ _ _) ?_); refine s_gL (by rfl) (x_shr (by first | exact e_t (by rfl) | exact e_c | exact e_f) (by first | exact e_t (by rfl) | exact e_c | exact e_f) (by first | rfl | exact (Int.toNat_of_nonneg (by omega)).symm) (by show _ ≤ 64; omega) (by omega)) ?_; simp only [Fr.put, List.set_cons_succ, List.set_cons_zero])
    | ((with_reducible refine is_s (.binOp .shl _ _ _ _) ?_); refine s_gL (by rfl) (x_shl1 (by first | exact e_t (by rfl) | exact e_c | exact e_f) (by first | exact e_t (by rfl) | exact e_c | exact e_f) (by first | rfl | exact (Int.toNat_of_nonneg (by omega)).symm) (by omega)) ?_; simp only [Fr.put, List.set_cons_succ, List.set_cons_zero])
    | ((with_reducible refine is_s (.makeFunc _ _ _) ?_); refine s_gL (by rfl) (x_func1 (by first | exact e_t (by rfl) | exact e_c | exact e_f)) ?_; simp only [Fr.put, List.set_cons_succ, List.set_cons_zero])
    | ((with_reducible refine is_s (.makeFunc _ _ _) ?_); refine s_gL (by rfl) (x_func2 (by first | exact e_t (by rfl) | exact e_c | exact e_f) (by first | exact e_t (by rfl) | exact e_c | exact e_f)) ?_; simp only [Fr.put, List.set_cons_succ, List.set_cons_zero])
    | ((with_reducible refine is_s (.makeFunc _ _ _) ?_); refine s_gL (by rfl) (x_func3 (by first | exact e_t (by rfl) | exact e_c | exact e_f) (by first | exact e_t (by rfl) | exact e_c | exact e_f) (by first | exact e_t (by rfl) | exact e_c | exact e_f)) ?_; simp only [Fr.put, List.set_cons_succ, List.set_cons_zero])
    | ((with_reducible refine is_s (.makeFunc _ _ _) ?_); refine s_gL (by rfl) (x_func (by rfl)) ?_; simp only [Fr.put, List.set_cons_succ, List.set_cons_zero])
    | ((with_reducible refine is_s (.load _ _) ?_); refine s_gL (by rfl) (x_load (by first | exact e_t (by rfl) | exact e_c | exact e_f) (by rfl)) ?_; simp only [Fr.put, List.set_cons_succ, List.set_cons_zero])
    | ((with_reducible refine is_s (.binOp .eql _ _ _ _) ?_); refine s_gB (by rfl) (x_eq (by first | exact e_t (by rfl) | exact e_c | exact e_f) (by first | exact e_t (by rfl) | exact e_c | exact e_f)) (fun hb => ?_) (fun hb => ?_) <;> simp only [decide_eq_true_eq, decide_eq_false_iff_not, Bool.not_eq_true', Bool.not_eq_false', not_true_eq_false, not_false_eq_true] at hb <;> first | (exfalso; omega) | (simp only [Fr.put, List.set_cons_succ, List.set_cons_zero]))
    | ((with_reducible refine is_s (.binOp .neq _ _ _ _) ?_); refine s_gB (by rfl) (x_ne (by first | exact e_t (by rfl) | exact e_c | exact e_f) (by first | exact e_t (by rfl) | exact e_c | exact e_f)) (fun hb => ?_) (fun hb => ?_) <;> simp only [decide_eq_true_eq, decide_eq_false_iff_not, Bool.not_eq_true', Bool.not_eq_false', not_true_eq_false, not_false_eq_true] at hb <;> first | (exfalso; omega) | (simp only [Fr.put, List.set_cons_succ, List.set_cons_zero]))
    | ((with_reducible refine is_s (.binOp .lss _ _ _ _) ?_); refine s_gB (by rfl) (x_lt (by first | exact e_t (by rfl) | exact e_c | exact e_f) (by first | exact e_t (by rfl) | exact e_c | exact e_f)) (fun hb => ?_) (fun hb => ?_) <;> simp only [decide_eq_true_eq, decide_eq_false_iff_not, Bool.not_eq_true', Bool.not_eq_false', not_true_eq_false, not_false_eq_true] at hb <;> first | (exfalso; omega) | (simp only [Fr.put, List.set_cons_succ, List.set_cons_zero]))
    | ((with_reducible refine is_s (.binOp .leq _ _ _ _) ?_); refine s_gB (by rfl) (x_le (by first | exact e_t (by rfl) | exact e_c | exact e_f) (by first | exact e_t (by rfl) | exact e_c | exact e_f)) (fun hb => ?_) (fun hb => ?_) <;> simp only [decide_eq_true_eq, decide_eq_false_iff_not, Bool.not_eq_true', Bool.not_eq_false', not_true_eq_false, not_false_eq_true] at hb <;> first | (exfalso; omega) | (simp only [Fr.put, List.set_cons_succ, List.set_cons_zero]))
    | ((with_reducible refine is_s (.binOp .gtr _ _ _ _) ?_); refine s_gB (by rfl) (x_gt (by first | exact e_t (by rfl) | exact e_c | exact e_f) (by first | exact e_t (by rfl) | exact e_c | exact e_f)) (fun hb => ?_) (fun hb => ?_) <;> simp only [decide_eq_true_eq, decide_eq_false_iff_not, Bool.not_eq_true', Bool.not_eq_false', not_true_eq_false, not_false_eq_true] at hb <;> first | (exfalso; omega) | (simp only [Fr.put, List.set_cons_succ, List.set_cons_zero]))
    | ((with_reducible refine is_s (.binOp .geq _ _ _ _) ?_); refine s_gB (by rfl) (x_ge (by first | exact e_t (by rfl) | exact e_c | exact e_f) (by first | exact e_t (by rfl) | exact e_c | exact e_f)) (fun hb => ?_) (fun hb => ?_) <;> simp only [decide_eq_true_eq, decide_eq_false_iff_not, Bool.not_eq_true', Bool.not_eq_false', not_true_eq_false, not_false_eq_true] at hb <;> first | (exfalso; omega) | (simp only [Fr.put, List.set_cons_succ, List.set_cons_zero]))
    | ((with_reducible refine is_s (.call ⟨.value (.tmp 18), _, _⟩) ?_); refine s_gMB (by rfl) (by rfl) ok_36 (hp _ h0 h2 (by omega) (by omega)) (fun hb => ?_) (fun hb => ?_) <;> simp only [decide_eq_true_eq, decide_eq_false_iff_not, Bool.not_eq_true', Bool.not_eq_false', not_true_eq_false, not_false_eq_true] at hb <;> first | (exfalso; omega) | (simp only [Fr.put, List.set_cons_succ, List.set_cons_zero]))
    | ((with_reducible refine is_s (.load _ _) ?_); refine s_gL (by rfl) (x_load1 (by first | exact s1_3 | exact s1_49 | exact s1_53 | exact s1_22) (by first | exact e_t (by rfl) | exact e_c | exact e_f) (by rfl) (by rfl)) ?_; simp only [Fr.put, List.set_cons_succ, List.set_cons_zero])
    | ((with_reducible refine is_s (.load _ _) ?_); refine s_gL (by rfl) (x_loadA (by first | exact ag_56 | exact ag_57 | exact ag_54) (by first | exact e_t (by rfl) | exact e_c | exact e_f) (by rfl) (by simp)) ?_; simp only [Fr.put, List.set_cons_succ, List.set_cons_zero])
    | ((with_reducible refine is_s (.indexAddr _ _ _) ?_); refine s_gL (by rfl) (x_idxA (by first | exact ar_54 | exact ar_55 | exact ar_56 | exact ar_57) (by first | exact e_t (by rfl) | exact e_c | exact e_f) (by first | exact e_t (by rfl) | exact e_c | exact e_f) (by omega) (by omega)) ?_; simp only [Fr.put, List.set_cons_succ, List.set_cons_zero])
    | ((with_reducible refine is_s (.indexAddr _ _ _) ?_); refine s_gL (by rfl) (x_idxS (by first | exact sl_32) (by first | exact e_t (by rfl) | exact e_c | exact e_f) (by first | exact e_t (by rfl) | exact e_c | exact e_f) (by omega) (by omega)) ?_; simp only [Fr.put, List.set_cons_succ, List.set_cons_zero])
    | ((with_reducible refine is_s (.index _ _ _) ?_); refine s_gL (by rfl) (x_index1 (by first | exact ar_54 | exact ar_55 | exact ar_56 | exact ar_57) (by first | exact s1_3 | exact s1_49 | exact s1_53 | exact s1_22) (by first | exact e_t (by rfl) | exact e_c | exact e_f) (by first | exact e_t (by rfl) | exact e_c | exact e_f) (by omega) (by omega) (by rfl)) ?_; simp only [Fr.put, List.set_cons_succ, List.set_cons_zero])
    | ((with_reducible refine is_s (.alloc _) ?_); refine s_gH (by rfl) (x_alloc (by first | exact z_49)) ?_; simp only [Fr.put, List.set_cons_succ, List.set_cons_zero, List.length_cons, List.length_nil, List.nil_append, List.cons_append, Nat.reduceAdd])
    | ((with_reducible refine is_s (.box _ _) ?_); refine s_gH (by rfl) (x_box1 (by first | exact s1_3 | exact s1_49 | exact s1_53 | exact s1_22) (by first | exact e_t (by rfl) | exact e_c | exact e_f) rfl) ?_; simp only [Fr.put, List.set_cons_succ, List.set_cons_zero, List.length_cons, List.length_nil, List.nil_append, List.cons_append, Nat.reduceAdd])
    | ((with_reducible refine is_s (.store _ _ _) ?_); refine s_gH (by rfl) (x_store1 (by first | exact s1_3 | exact s1_49 | exact s1_53 | exact s1_22) (by first | exact e_t (by rfl) | exact e_c | exact e_f) (by first | exact e_t (by rfl) | exact e_c | exact e_f) rfl (by rfl) (by simp only [List.length_cons, List.length_nil]; omega)) ?_; simp only [Fr.put, List.set_cons_succ, List.set_cons_zero, List.length_cons, List.length_nil, List.nil_append, List.cons_append, Nat.reduceAdd])
    | ((with_reducible refine is_s (.store _ _ _) ?_); refine s_gH (by rfl) (x_storeF (by first | exact ag_56 | exact ag_57 | exact ag_54) (by first | exact e_t (by rfl) | exact e_c | exact e_f) (by first | exact e_t (by rfl) | exact e_c | exact e_f) (by rfl) (by rfl) (by rfl) (by rfl)) ?_; simp only [Fr.put, List.set_cons_succ, List.set_cons_zero, List.length_cons, List.length_nil, List.nil_append, List.cons_append, Nat.reduceAdd])
    )
  · refine l_next (i, (i + j) / 2 ^ 1) ⟨by simp only []; omega, by simp only []; omega, by simp only []; omega, hi4, .inr hb⟩ (by simp only []; omega) ?_ rfl
    simp only [List.getD_cons_succ, List.getD_cons_zero, List.cons.injEq, AV.v.injEq, Value.int.injEq, Value.bool.injEq, true_and, and_true, and_self, Int.natCast_add, Int.natCast_one, Int.cast_ofNat_Int]
  · have hb2 : baseF k (((i + j) / 2 ^ 1) + 1) ≤ v := by omega
    refine l_next ((i + j) / 2 ^ 1 + 1, j) ⟨by simp only []; omega, by simp only []; omega, by simp only []; omega, fun d hd => ?_, hi5⟩ (by simp only []; omega) ?_ rfl
    · simp only [] at hd
      have h6 := base_le h0 h2 (show d + 1 ≤ (((i + j) / 2 ^ 1).toNat + 1) by omega)
      have e7 : (((((i + j) / 2 ^ 1).toNat + 1) : Nat) : Int) = (i + j) / 2 ^ 1 + 1 := by omega
      rw [e7] at h6
      omega
    · simp only [List.getD_cons_succ, List.getD_cons_zero, List.cons.injEq, AV.v.injEq, Value.int.injEq, Value.bool.injEq, true_and, and_true, and_self, Int.natCast_add, Int.natCast_one, Int.cast_ofNat_Int]
  · obtain ⟨c, rfl⟩ : ∃ c : Nat, i = c := ⟨i.toNat, by omega⟩
    refine k_1 rfl (by rfl) ⟨⟨c, rfl, by omega, fun d hd => hi4 d (by omega), ?_⟩, rfl⟩
    rw [show j = (c : Int) by omega] at hi5
    exact hi5
end Go.Proofs.Ytcnkaplepgpmlaa
