/-
  A part of the proof of a statement of chapter's seat; conditions: stated at each theorem.
-/
import Derived.Test.YtcnkaplepgpmlaaF9
set_option linter.unusedSimpArgs false
set_option linter.unusedVariables false
set_option maxRecDepth 100000
set_option maxHeartbeats 4000000
namespace Go.Proofs.Ytcnkaplepgpmlaa
open Go.Az Go
theorem same_yes (h : Hp) (s1 s2 : AV) (l : List Int) (hS1 : Ints .i64 h s1 l) (hS2 : Ints .i64 h s2 l) (hlen : l.length ≤ 17592186044416) : ACalls Try.prog 23 [s1, s2] h (fun r h' => r = B true ∧ h' = h) :=
  (same_any h s1 s2 l l hS1 hS2 hlen).mono fun r h' _ hh => by rw [hh.1, hh.2]; exact ⟨by rw [decide_eq_true rfl], rfl⟩
noncomputable def outF (k : Int) (l : List Int) : List Int := if 0 ≤ k ∧ k ≤ 2 then (codesO k l).getD [] else []
noncomputable def errF (k : Int) (l : List Int) : Int := if 0 ≤ k ∧ k ≤ 2 then (match codesO k l with | some _ => 0 | none => 2) else 11
theorem codesP_shape {k : Int} {h h' : Hp} {l : List Int} {r : AV} (hc : CodesP k h l r h') : Ext h h' ∧ ∃ s, r = .tup [s, I (errF k l)] ∧ Grow .i64 3 h.length h' s (outF k l) := by
  obtain ⟨hx, hc⟩ := hc
  refine ⟨hx, ?_⟩
  unfold errF outF
  split at hc
  · rename_i hv
    rw [if_pos hv, if_pos hv]
    cases hd : codesO k l with
    | none => rw [hd] at hc; exact ⟨nilS, hc, .inl ⟨rfl, rfl⟩⟩
    | some d => rw [hd] at hc; obtain ⟨s, h1, h2⟩ := hc; exact ⟨s, h1, h2⟩
  · rename_i hv
    rw [if_neg hv, if_neg hv]
    exact ⟨nilS, hc, .inl ⟨rfl, rfl⟩⟩
theorem outF_len (k : Int) (l : List Int) : (outF k l).length ≤ l.length := by
  unfold outF
  split
  · cases hd : codesO k l with
    | none => simp
    | some d => simp [codesO_len k l d hd]
  · simp
theorem sumR_shape (k : Int) : ∀ (l : List Int) (n : Int), ∃ a b, sumR k l n = .tup [I a, I b]
  | [], n => ⟨_, _, rfl⟩
  | c :: r, n => by
    unfold sumR; split
    · exact sumR_shape k r _
    · exact ⟨_, _, rfl⟩
theorem bitsR_shape (k : Int) (l : List Int) : ∃ a b, bitsR k l = .tup [I a, I b] := by
  unfold bitsR; split
  · split
    · exact ⟨_, _, rfl⟩
    · exact sumR_shape k l 0
  · exact ⟨_, _, rfl⟩
theorem law4 (k : Int) (h : Hp) (v c : AV) (l1 l2 : List Int) (hS1 : Ints .i64 h v l1) (hS2 : Ints .i64 h c l2) (r1 : ∀ x ∈ l1, -9223372036854775808 ≤ x ∧ x ≤ 9223372036854775807) : ACalls Try.prog 4 [I k, v, c] h (fun r _ => r = B true) := by
  by_cases hl : l1.length ≤ 60 ∧ l2.length ≤ 60
  · refine acalls_of_wk hm Try.func4 rfl ?_
    simp only [Try.ntmps4, List.length_cons, List.length_nil, Nat.reduceAdd, Nat.reduceSub, List.reduceReplicate, List.cons_append, List.nil_append]
    show wk _ _ none _ _ ⟨_, []⟩ _
    repeat' (first
      | with_reducible refine s_seq ?_
      | with_reducible refine s_then ?_
      | with_reducible refine s_thenR ?_
      | with_reducible refine s_thenE ?_
      | with_reducible refine s_skip ?_
      | with_reducible refine s_ret ?_
      | with_reducible refine s_block ?_
      | with_reducible refine s_blkN ?_
      | with_reducible refine s_blkR ?_
      | with_reducible refine s_blkE ?_
      | with_reducible refine l_exit ?_
      | with_reducible refine l_ret ?_
      | with_reducible refine s_end ?_
      | with_reducible refine s_reg ?_
      | with_reducible refine s_blkX (by rfl) ?_
      | with_reducible refine s_exit ?_
      | ((with_reducible refine is_cond ?_); first | refine s_condT (by first | exact e_t (by rfl) | exact e_c | exact e_f) ?_ | refine s_condF (by first | exact e_t (by rfl) | exact e_c | exact e_f) ?_)
      | ((with_reducible refine is_sG _ ?_); refine s_gN (by rfl) ?_; simp only [Fr.put, List.set_cons_succ, List.set_cons_zero])
      | ((with_reducible refine is_s (.move _) ?_); refine s_gL (by rfl) (x_move (by first | exact e_t (by rfl) | exact e_c | exact e_f)) ?_; simp only [Fr.put, List.set_cons_succ, List.set_cons_zero])
      | ((with_reducible refine is_s (.assign _) ?_); refine s_gL (by rfl) (x_assign (by first | exact e_t (by rfl) | exact e_c | exact e_f)) ?_; simp only [Fr.put, List.set_cons_succ, List.set_cons_zero])
      | ((with_reducible refine is_s (.pick _ _ _) ?_); refine s_gL (by rfl) (x_pickT (by first | exact e_t (by rfl) | exact e_c | exact e_f) (by first | exact e_t (by rfl) | exact e_c | exact e_f)) ?_; simp only [Fr.put, List.set_cons_succ, List.set_cons_zero])
      | ((with_reducible refine is_s (.pick _ _ _) ?_); refine s_gL (by rfl) (x_pickF (by first | exact e_t (by rfl) | exact e_c | exact e_f) (by first | exact e_t (by rfl) | exact e_c | exact e_f)) ?_; simp only [Fr.put, List.set_cons_succ, List.set_cons_zero])
      | ((with_reducible refine is_s (.unOp .not _ _) ?_); refine s_gL (by rfl) (x_notT (by first | exact e_t (by rfl) | exact e_c | exact e_f)) ?_; simp only [Fr.put, List.set_cons_succ, List.set_cons_zero])
      | ((with_reducible refine is_s (.unOp .not _ _) ?_); refine s_gL (by rfl) (x_notF (by first | exact e_t (by rfl) | exact e_c | exact e_f)) ?_; simp only [Fr.put, List.set_cons_succ, List.set_cons_zero])
      | ((with_reducible refine is_s (.extract _ _) ?_); refine s_gL (by rfl) (x_extract (by first | exact e_t (by rfl) | exact e_c | exact e_f) (by rfl)) ?_; simp only [Fr.put, List.set_cons_succ, List.set_cons_zero])
      | ((with_reducible refine is_s (.binOp .add _ _ _ _) ?_); refine s_gL (by rfl) (x_add (by first | exact e_t (by rfl) | exact e_c | exact e_f) (by first | exact e_t (by rfl) | exact e_c | exact e_f) (by first | exact wrap_i64_in (by omega) (by omega) | exact wrap_u64_in (by omega) (by omega) | rfl)) ?_; simp only [Fr.put, List.set_cons_succ, List.set_cons_zero])
      | ((with_reducible refine is_s (.binOp .sub _ _ _ _) ?_); refine s_gL (by rfl) (x_sub (by first | exact e_t (by rfl) | exact e_c | exact e_f) (by first | exact e_t (by rfl) | exact e_c | exact e_f) (by first | exact wrap_i64_in (by omega) (by omega) | exact wrap_u64_in (by omega) (by omega) | rfl)) ?_; simp only [Fr.put, List.set_cons_succ, List.set_cons_zero])
      | ((with_reducible refine is_s (.convert _ _ _) ?_); refine s_gL (by rfl) (x_conv (by first | exact u_3 | exact u_45 | exact u_49 | exact u_22) (by first | exact u_3 | exact u_45 | exact u_49 | exact u_22) (by first | exact e_t (by rfl) | exact e_c | exact e_f) (by first | exact wrap_i64_in (by omega) (by omega) | exact wrap_u64_in (by omega) (by omega) | rfl)) ?_; simp only [Fr.put, List.set_cons_succ, List.set_cons_zero])
      | ((with_reducible refine is_s (.binOp .shr _ _ _ _) ?_); refine s_gL (by rfl) (x_shr (m := 1) (by first | exact e_t (by rfl) | exact e_c | exact e_f) (by first | exact e_t (by rfl) | exact e_c | exact e_f) rfl (by show _ ≤ 64; omega) (by omega)) ?_; simp only [Fr.put, List.set_cons_succ, List.set_cons_zero])
      | ((with_reducible refine is_s (.binOp .shr _ _ _ _) ?_); refine s_gL (by rfl) (x_shr (by first | exact e_t (by rfl) | exact e_c | exact e_f) (by first | exact e_t (by rfl) | exact e_c | exact e_f) (by first | rfl | exact (Int.toNat_of_nonneg (by omega)).symm) (by show _ ≤ 64; omega) (by omega)) ?_; simp only [Fr.put, List.set_cons_succ, List.set_cons_zero])
      | ((with_reducible refine is_s (.binOp .shl _ _ _ _) ?_); refine s_gL (by rfl) (x_shl1 (by first | exact e_t (by rfl) | exact e_c | exact e_f) (by first | exact e_t (by rfl) | exact e_c | exact e_f) (by first | rfl | exact (Int.toNat_of_nonneg (by omega)).symm) (by omega)) ?_; simp only [Fr.put, List.set_cons_succ, List.set_cons_zero])
      | ((with_reducible refine is_s (.makeFunc _ _ _) ?_); refine s_gL (by rfl) (x_func1 (by first | exact e_t (by rfl) | exact e_c | exact e_f)) ?_; simp only [Fr.put, List.set_cons_succ, List.set_cons_zero])
      | ((with_reducible refine is_s (.makeFunc _ _ _) ?_); refine s_gL (by rfl) (x_func2 (by first | exact e_t (by rfl) | exact e_c | exact e_f) (by first | exact e_t (by rfl) | exact e_c | exact e_f)) ?_; simp only [Fr.put, List.set_cons_succ, List.set_cons_zero])
      | ((with_reducible refine is_s (.makeFunc _ _ _) ?_); refine s_gL (by rfl) (x_func3 (by first | exact e_t (by rfl) | exact e_c | exact e_f) (by first | exact e_t (by rfl) | exact e_c | exact e_f) (by first | exact e_t (by rfl) | exact e_c | exact e_f)) ?_; simp only [Fr.put, List.set_cons_succ, List.set_cons_zero])
      | ((with_reducible refine is_s (.makeFunc _ _ _) ?_); refine s_gL (by rfl) (x_func (by rfl)) ?_; simp only [Fr.put, List.set_cons_succ, List.set_cons_zero])
      | ((with_reducible refine is_s (.load _ _) ?_); refine s_gL (by rfl) (x_load (by first | exact e_t (by rfl) | exact e_c | exact e_f) (by rfl)) ?_; simp only [Fr.put, List.set_cons_succ, List.set_cons_zero])
      | ((with_reducible refine is_s (.binOp .eql _ _ _ _) ?_); refine s_gB (by rfl) (x_eq (by first | exact e_t (by rfl) | exact e_c | exact e_f) (by first | exact e_t (by rfl) | exact e_c | exact e_f)) (fun hb => ?_) (fun hb => ?_) <;> simp only [decide_eq_true_eq, decide_eq_false_iff_not, Bool.not_eq_true', Bool.not_eq_false', not_true_eq_false, not_false_eq_true] at hb <;> first | (exfalso; omega) | (simp only [Fr.put, List.set_cons_succ, List.set_cons_zero]))
      | ((with_reducible refine is_s (.binOp .neq _ _ _ _) ?_); refine s_gB (by rfl) (x_ne (by first | exact e_t (by rfl) | exact e_c | exact e_f) (by first | exact e_t (by rfl) | exact e_c | exact e_f)) (fun hb => ?_) (fun hb => ?_) <;> simp only [decide_eq_true_eq, decide_eq_false_iff_not, Bool.not_eq_true', Bool.not_eq_false', not_true_eq_false, not_false_eq_true] at hb <;> first | (exfalso; omega) | (simp only [Fr.put, List.set_cons_succ, List.set_cons_zero]))
      | ((with_reducible refine is_s (.binOp .lss _ _ _ _) ?_); refine s_gB (by rfl) (x_lt (by first | exact e_t (by rfl) | exact e_c | exact e_f) (by first | exact e_t (by rfl) | exact e_c | exact e_f)) (fun hb => ?_) (fun hb => ?_) <;> simp only [decide_eq_true_eq, decide_eq_false_iff_not, Bool.not_eq_true', Bool.not_eq_false', not_true_eq_false, not_false_eq_true] at hb <;> first | (exfalso; omega) | (simp only [Fr.put, List.set_cons_succ, List.set_cons_zero]))
      | ((with_reducible refine is_s (.binOp .leq _ _ _ _) ?_); refine s_gB (by rfl) (x_le (by first | exact e_t (by rfl) | exact e_c | exact e_f) (by first | exact e_t (by rfl) | exact e_c | exact e_f)) (fun hb => ?_) (fun hb => ?_) <;> simp only [decide_eq_true_eq, decide_eq_false_iff_not, Bool.not_eq_true', Bool.not_eq_false', not_true_eq_false, not_false_eq_true] at hb <;> first | (exfalso; omega) | (simp only [Fr.put, List.set_cons_succ, List.set_cons_zero]))
      | ((with_reducible refine is_s (.binOp .gtr _ _ _ _) ?_); refine s_gB (by rfl) (x_gt (by first | exact e_t (by rfl) | exact e_c | exact e_f) (by first | exact e_t (by rfl) | exact e_c | exact e_f)) (fun hb => ?_) (fun hb => ?_) <;> simp only [decide_eq_true_eq, decide_eq_false_iff_not, Bool.not_eq_true', Bool.not_eq_false', not_true_eq_false, not_false_eq_true] at hb <;> first | (exfalso; omega) | (simp only [Fr.put, List.set_cons_succ, List.set_cons_zero]))
      | ((with_reducible refine is_s (.binOp .geq _ _ _ _) ?_); refine s_gB (by rfl) (x_ge (by first | exact e_t (by rfl) | exact e_c | exact e_f) (by first | exact e_t (by rfl) | exact e_c | exact e_f)) (fun hb => ?_) (fun hb => ?_) <;> simp only [decide_eq_true_eq, decide_eq_false_iff_not, Bool.not_eq_true', Bool.not_eq_false', not_true_eq_false, not_false_eq_true] at hb <;> first | (exfalso; omega) | (simp only [Fr.put, List.set_cons_succ, List.set_cons_zero]))
      | ((with_reducible refine is_s (.load _ _) ?_); refine s_gL (by rfl) (x_load1 (by first | exact s1_3 | exact s1_49 | exact s1_53 | exact s1_22) (by first | exact e_t (by rfl) | exact e_c | exact e_f) (by rfl) (by rfl)) ?_; simp only [Fr.put, List.set_cons_succ, List.set_cons_zero])
      | ((with_reducible refine is_s (.indexAddr _ _ _) ?_); refine s_gL (by rfl) (x_idxS (by first | exact sl_32) (by first | exact e_t (by rfl) | exact e_c | exact e_f) (by first | exact e_t (by rfl) | exact e_c | exact e_f) (by omega) (by omega)) ?_; simp only [Fr.put, List.set_cons_succ, List.set_cons_zero])
      | ((with_reducible refine is_s (.call ⟨.builtin .len, _, _⟩) ?_); refine s_gL (by rfl) (x_lenI hS1 (by first | exact sl_32) (by first | exact e_t (by rfl) | exact e_c | exact e_f)) ?_; simp only [Fr.put, List.set_cons_succ, List.set_cons_zero])
      | ((with_reducible refine is_s (.indexAddr _ _ _) ?_); refine s_gL (by rfl) (x_idxI hS1 (by first | exact sl_32) (by first | exact e_t (by rfl) | exact e_c | exact e_f) (by first | exact e_t (by rfl) | exact e_c | exact e_f) (by omega) (by omega)) ?_; simp only [Fr.put, List.set_cons_succ, List.set_cons_zero])
      | ((with_reducible refine is_s (.load _ _) ?_); refine s_gL (by rfl) (x_loadI hS1 (by first | exact s1_3 | exact s1_49 | exact s1_53 | exact s1_22) (by first | exact e_t (by rfl) | exact e_c | exact e_f) (by omega) (by omega)) ?_; simp only [Fr.put, List.set_cons_succ, List.set_cons_zero, Int.toNat_natCast])
      | ((with_reducible refine is_s (.call ⟨.builtin .len, _, _⟩) ?_); refine s_gL (by rfl) (x_lenI hS2 (by first | exact sl_32) (by first | exact e_t (by rfl) | exact e_c | exact e_f)) ?_; simp only [Fr.put, List.set_cons_succ, List.set_cons_zero])
      | ((with_reducible refine is_s (.indexAddr _ _ _) ?_); refine s_gL (by rfl) (x_idxI hS2 (by first | exact sl_32) (by first | exact e_t (by rfl) | exact e_c | exact e_f) (by first | exact e_t (by rfl) | exact e_c | exact e_f) (by omega) (by omega)) ?_; simp only [Fr.put, List.set_cons_succ, List.set_cons_zero])
      | ((with_reducible refine is_s (.load _ _) ?_); refine s_gL (by rfl) (x_loadI hS2 (by first | exact s1_3 | exact s1_49 | exact s1_53 | exact s1_22) (by first | exact e_t (by rfl) | exact e_c | exact e_f) (by omega) (by omega)) ?_; simp only [Fr.put, List.set_cons_succ, List.set_cons_zero, Int.toNat_natCast])
      | ((with_reducible refine is_s (.box _ _) ?_); refine s_gH (by rfl) (x_box1 (by first | exact s1_3 | exact s1_49 | exact s1_53 | exact s1_22) (by first | exact e_t (by rfl) | exact e_c | exact e_f) rfl) ?_; simp only [Fr.put, List.set_cons_succ, List.set_cons_zero, List.length_cons, List.length_nil, List.nil_append, List.cons_append, Nat.reduceAdd])
      | ((with_reducible refine is_s (.store _ _ _) ?_); refine s_gH (by rfl) (x_store1 (by first | exact s1_3 | exact s1_49 | exact s1_53 | exact s1_22) (by first | exact e_t (by rfl) | exact e_c | exact e_f) (by first | exact e_t (by rfl) | exact e_c | exact e_f) rfl (by rfl) (by simp only [List.length_cons, List.length_nil]; omega)) ?_; simp only [Fr.put, List.set_cons_succ, List.set_cons_zero, List.length_cons, List.length_nil, List.nil_append, List.cons_append, Nat.reduceAdd])
      )
    refine s_gC (by rfl) (by rfl) ok_18 ((own_any _ _ _ hS1 (by omega)).mono ?_)
    rintro p H1 _ ⟨x1, g1⟩
    simp only [Fr.put, List.set_cons_succ, List.set_cons_zero]
    repeat' (first
      | with_reducible refine s_seq ?_
      | with_reducible refine s_then ?_
      | with_reducible refine s_thenR ?_
      | with_reducible refine s_thenE ?_
      | with_reducible refine s_skip ?_
      | with_reducible refine s_ret ?_
      | with_reducible refine s_block ?_
      | with_reducible refine s_blkN ?_
      | with_reducible refine s_blkR ?_
      | with_reducible refine s_blkE ?_
      | with_reducible refine l_exit ?_
      | with_reducible refine l_ret ?_
      | with_reducible refine s_end ?_
      | with_reducible refine s_reg ?_
      | with_reducible refine s_blkX (by rfl) ?_
      | with_reducible refine s_exit ?_
      | ((with_reducible refine is_cond ?_); first | refine s_condT (by first | exact e_t (by rfl) | exact e_c | exact e_f) ?_ | refine s_condF (by first | exact e_t (by rfl) | exact e_c | exact e_f) ?_)
      | ((with_reducible refine is_sG _ ?_); refine s_gN (by rfl) ?_; simp only [Fr.put, List.set_cons_succ, List.set_cons_zero])
      | ((with_reducible refine is_s (.move _) ?_); refine s_gL (by rfl) (x_move (by first | exact e_t (by rfl) | exact e_c | exact e_f)) ?_; simp only [Fr.put, List.set_cons_succ, List.set_cons_zero])
      | ((with_reducible refine is_s (.assign _) ?_); refine s_gL (by rfl) (x_assign (by first | exact e_t (by rfl) | exact e_c | exact e_f)) ?_; simp only [Fr.put, List.set_cons_succ, List.set_cons_zero])
      | ((with_reducible refine is_s (.pick _ _ _) ?_); refine s_gL (by rfl) (x_pickT (by first | exact e_t (by rfl) | exact e_c | exact e_f) (by first | exact e_t (by rfl) | exact e_c | exact e_f)) ?_; simp only [Fr.put, List.set_cons_succ, List.set_cons_zero])
      | ((with_reducible refine is_s (.pick _ _ _) ?_); refine s_gL (by rfl) (x_pickF (by first | exact e_t (by rfl) | exact e_c | exact e_f) (by first | exact e_t (by rfl) | exact e_c | exact e_f)) ?_; simp only [Fr.put, List.set_cons_succ, List.set_cons_zero])
      | ((with_reducible refine is_s (.unOp .not _ _) ?_); refine s_gL (by rfl) (x_notT (by first | exact e_t (by rfl) | exact e_c | exact e_f)) ?_; simp only [Fr.put, List.set_cons_succ, List.set_cons_zero])
      | ((with_reducible refine is_s (.unOp .not _ _) ?_); refine s_gL (by rfl) (x_notF (by first | exact e_t (by rfl) | exact e_c | exact e_f)) ?_; simp only [Fr.put, List.set_cons_succ, List.set_cons_zero])
      | ((with_reducible refine is_s (.extract _ _) ?_); refine s_gL (by rfl) (x_extract (by first | exact e_t (by rfl) | exact e_c | exact e_f) (by rfl)) ?_; simp only [Fr.put, List.set_cons_succ, List.set_cons_zero])
      | ((with_reducible refine is_s (.binOp .add _ _ _ _) ?_); refine s_gL (by rfl) (x_add (by first | exact e_t (by rfl) | exact e_c | exact e_f) (by first | exact e_t (by rfl) | exact e_c | exact e_f) (by first | exact wrap_i64_in (by omega) (by omega) | exact wrap_u64_in (by omega) (by omega) | rfl)) ?_; simp only [Fr.put, List.set_cons_succ, List.set_cons_zero])
      | ((with_reducible refine is_s (.binOp .sub _ _ _ _) ?_); refine s_gL (by rfl) (x_sub (by first | exact e_t (by rfl) | exact e_c | exact e_f) (by first | exact e_t (by rfl) | exact e_c | exact e_f) (by first | exact wrap_i64_in (by omega) (by omega) | exact wrap_u64_in (by omega) (by omega) | rfl)) ?_; simp only [Fr.put, List.set_cons_succ, List.set_cons_zero])
      | ((with_reducible refine is_s (.convert _ _ _) ?_); refine s_gL (by rfl) (x_conv (by first | exact u_3 | exact u_45 | exact u_49 | exact u_22) (by first | exact u_3 | exact u_45 | exact u_49 | exact u_22) (by first | exact e_t (by rfl) | exact e_c | exact e_f) (by first | exact wrap_i64_in (by omega) (by omega) | exact wrap_u64_in (by omega) (by omega) | rfl)) ?_; simp only [Fr.put, List.set_cons_succ, List.set_cons_zero])
      | ((with_reducible refine is_s (.binOp .shr _ _ _ _) ?_); refine s_gL (by rfl) (x_shr (m := 1) (by first | exact e_t (by rfl) | exact e_c | exact e_f) (by first | exact e_t (by rfl) | exact e_c | exact e_f) rfl (by show _ ≤ 64; omega) (by omega)) ?_; simp only [Fr.put, List.set_cons_succ, List.set_cons_zero])
      | ((with_reducible refine is_s (.binOp .shr _ _ _ _) ?_); refine s_gL (by rfl) (x_shr (by first | exact e_t (by rfl) | exact e_c | exact e_f) (by first | exact e_t (by rfl) | exact e_c | exact e_f) (by first | rfl | exact (Int.toNat_of_nonneg (by omega)).symm) (by show _ ≤ 64; omega) (by omega)) ?_; simp only [Fr.put, List.set_cons_succ, List.set_cons_zero])
      | ((with_reducible refine is_s (.binOp .shl _ _ _ _) ?_); refine s_gL (by rfl) (x_shl1 (by first | exact e_t (by rfl) | exact e_c | exact e_f) (by first | exact e_t (by rfl) | exact e_c | exact e_f) (by first | rfl | exact (Int.toNat_of_nonneg (by omega)).symm) (by omega)) ?_; simp only [Fr.put, List.set_cons_succ, List.set_cons_zero])
      | ((with_reducible refine is_s (.makeFunc _ _ _) ?_); refine s_gL (by rfl) (x_func1 (by first | exact e_t (by rfl) | exact e_c | exact e_f)) ?_; simp only [Fr.put, List.set_cons_succ, List.set_cons_zero])
      | ((with_reducible refine is_s (.makeFunc _ _ _) ?_); refine s_gL (by rfl) (x_func2 (by first | exact e_t (by rfl) | exact e_c | exact e_f) (by first | exact e_t (by rfl) | exact e_c | exact e_f)) ?_; simp only [Fr.put, List.set_cons_succ, List.set_cons_zero])
      | ((with_reducible refine is_s (.makeFunc _ _ _) ?_); refine s_gL (by rfl) (x_func3 (by first | exact e_t (by rfl) | exact e_c | exact e_f) (by first | exact e_t (by rfl) | exact e_c | exact e_f) (by first | exact e_t (by rfl) | exact e_c | exact e_f)) ?_; simp only [Fr.put, List.set_cons_succ, List.set_cons_zero])
      | ((with_reducible refine is_s (.makeFunc _ _ _) ?_); refine s_gL (by rfl) (x_func (by rfl)) ?_; simp only [Fr.put, List.set_cons_succ, List.set_cons_zero])
      | ((with_reducible refine is_s (.load _ _) ?_); refine s_gL (by rfl) (x_load (by first | exact e_t (by rfl) | exact e_c | exact e_f) (by rfl)) ?_; simp only [Fr.put, List.set_cons_succ, List.set_cons_zero])
      | ((with_reducible refine is_s (.binOp .eql _ _ _ _) ?_); refine s_gB (by rfl) (x_eq (by first | exact e_t (by rfl) | exact e_c | exact e_f) (by first | exact e_t (by rfl) | exact e_c | exact e_f)) (fun hb => ?_) (fun hb => ?_) <;> simp only [decide_eq_true_eq, decide_eq_false_iff_not, Bool.not_eq_true', Bool.not_eq_false', not_true_eq_false, not_false_eq_true] at hb <;> first | (exfalso; omega) | (simp only [Fr.put, List.set_cons_succ, List.set_cons_zero]))
      | ((with_reducible refine is_s (.binOp .neq _ _ _ _) ?_); refine s_gB (by rfl) (x_ne (by first | exact e_t (by rfl) | exact e_c | exact e_f) (by first | exact e_t (by rfl) | exact e_c | exact e_f)) (fun hb => ?_) (fun hb => ?_) <;> simp only [decide_eq_true_eq, decide_eq_false_iff_not, Bool.not_eq_true', Bool.not_eq_false', not_true_eq_false, not_false_eq_true] at hb <;> first | (exfalso; omega) | (simp only [Fr.put, List.set_cons_succ, List.set_cons_zero]))
      | ((with_reducible refine is_s (.binOp .lss _ _ _ _) ?_); refine s_gB (by rfl) (x_lt (by first | exact e_t (by rfl) | exact e_c | exact e_f) (by first | exact e_t (by rfl) | exact e_c | exact e_f)) (fun hb => ?_) (fun hb => ?_) <;> simp only [decide_eq_true_eq, decide_eq_false_iff_not, Bool.not_eq_true', Bool.not_eq_false', not_true_eq_false, not_false_eq_true] at hb <;> first | (exfalso; omega) | (simp only [Fr.put, List.set_cons_succ, List.set_cons_zero]))
      | ((with_reducible refine is_s (.binOp .leq _ _ _ _) ?_); refine s_gB (by rfl) (x_le (by first | exact e_t (by rfl) | exact e_c | exact e_f) (by first | exact e_t (by rfl) | exact e_c | exact e_f)) (fun hb => ?_) (fun hb => ?_) <;> simp only [decide_eq_true_eq, decide_eq_false_iff_not, Bool.not_eq_true', Bool.not_eq_false', not_true_eq_false, not_false_eq_true] at hb <;> first | (exfalso; omega) | (simp only [Fr.put, List.set_cons_succ, List.set_cons_zero]))
      | ((with_reducible refine is_s (.binOp .gtr _ _ _ _) ?_); refine s_gB (by rfl) (x_gt (by first | exact e_t (by rfl) | exact e_c | exact e_f) (by first | exact e_t (by rfl) | exact e_c | exact e_f)) (fun hb => ?_) (fun hb => ?_) <;> simp only [decide_eq_true_eq, decide_eq_false_iff_not, Bool.not_eq_true', Bool.not_eq_false', not_true_eq_false, not_false_eq_true] at hb <;> first | (exfalso; omega) | (simp only [Fr.put, List.set_cons_succ, List.set_cons_zero]))
      | ((with_reducible refine is_s (.binOp .geq _ _ _ _) ?_); refine s_gB (by rfl) (x_ge (by first | exact e_t (by rfl) | exact e_c | exact e_f) (by first | exact e_t (by rfl) | exact e_c | exact e_f)) (fun hb => ?_) (fun hb => ?_) <;> simp only [decide_eq_true_eq, decide_eq_false_iff_not, Bool.not_eq_true', Bool.not_eq_false', not_true_eq_false, not_false_eq_true] at hb <;> first | (exfalso; omega) | (simp only [Fr.put, List.set_cons_succ, List.set_cons_zero]))
      | ((with_reducible refine is_s (.load _ _) ?_); refine s_gL (by rfl) (x_load1 (by first | exact s1_3 | exact s1_49 | exact s1_53 | exact s1_22) (by first | exact e_t (by rfl) | exact e_c | exact e_f) (by rfl) (by rfl)) ?_; simp only [Fr.put, List.set_cons_succ, List.set_cons_zero])
      | ((with_reducible refine is_s (.indexAddr _ _ _) ?_); refine s_gL (by rfl) (x_idxS (by first | exact sl_32) (by first | exact e_t (by rfl) | exact e_c | exact e_f) (by first | exact e_t (by rfl) | exact e_c | exact e_f) (by omega) (by omega)) ?_; simp only [Fr.put, List.set_cons_succ, List.set_cons_zero])
      | ((with_reducible refine is_s (.box _ _) ?_); refine s_gH (by rfl) (x_box1 (by first | exact s1_3 | exact s1_49 | exact s1_53 | exact s1_22) (by first | exact e_t (by rfl) | exact e_c | exact e_f) rfl) ?_; simp only [Fr.put, List.set_cons_succ, List.set_cons_zero, List.length_cons, List.length_nil, List.nil_append, List.cons_append, Nat.reduceAdd])
      | ((with_reducible refine is_s (.store _ _ _) ?_); refine s_gH (by rfl) (x_store1 (by first | exact s1_3 | exact s1_49 | exact s1_53 | exact s1_22) (by first | exact e_t (by rfl) | exact e_c | exact e_f) (by first | exact e_t (by rfl) | exact e_c | exact e_f) rfl (by rfl) (by simp only [List.length_cons, List.length_nil]; omega)) ?_; simp only [Fr.put, List.set_cons_succ, List.set_cons_zero, List.length_cons, List.length_nil, List.nil_append, List.cons_append, Nat.reduceAdd])
      )
    refine s_gC (by rfl) (by rfl) ok_18 ((own_any _ _ _ (hS2.ext x1) (by omega)).mono ?_)
    rintro q H2 _ ⟨x2, g2⟩
    simp only [Fr.put, List.set_cons_succ, List.set_cons_zero]
    repeat' (first
      | with_reducible refine s_seq ?_
      | with_reducible refine s_then ?_
      | with_reducible refine s_thenR ?_
      | with_reducible refine s_thenE ?_
      | with_reducible refine s_skip ?_
      | with_reducible refine s_ret ?_
      | with_reducible refine s_block ?_
      | with_reducible refine s_blkN ?_
      | with_reducible refine s_blkR ?_
      | with_reducible refine s_blkE ?_
      | with_reducible refine l_exit ?_
      | with_reducible refine l_ret ?_
      | with_reducible refine s_end ?_
      | with_reducible refine s_reg ?_
      | with_reducible refine s_blkX (by rfl) ?_
      | with_reducible refine s_exit ?_
      | ((with_reducible refine is_cond ?_); first | refine s_condT (by first | exact e_t (by rfl) | exact e_c | exact e_f) ?_ | refine s_condF (by first | exact e_t (by rfl) | exact e_c | exact e_f) ?_)
      | ((with_reducible refine is_sG _ ?_); refine s_gN (by rfl) ?_; simp only [Fr.put, List.set_cons_succ, List.set_cons_zero])
      | ((with_reducible refine is_s (.move _) ?_); refine s_gL (by rfl) (x_move (by first | exact e_t (by rfl) | exact e_c | exact e_f)) ?_; simp only [Fr.put, List.set_cons_succ, List.set_cons_zero])
      | ((with_reducible refine is_s (.assign _) ?_); refine s_gL (by rfl) (x_assign (by first | exact e_t (by rfl) | exact e_c | exact e_f)) ?_; simp only [Fr.put, List.set_cons_succ, List.set_cons_zero])
      | ((with_reducible refine is_s (.pick _ _ _) ?_); refine s_gL (by rfl) (x_pickT (by first | exact e_t (by rfl) | exact e_c | exact e_f) (by first | exact e_t (by rfl) | exact e_c | exact e_f)) ?_; simp only [Fr.put, List.set_cons_succ, List.set_cons_zero])
      | ((with_reducible refine is_s (.pick _ _ _) ?_); refine s_gL (by rfl) (x_pickF (by first | exact e_t (by rfl) | exact e_c | exact e_f) (by first | exact e_t (by rfl) | exact e_c | exact e_f)) ?_; simp only [Fr.put, List.set_cons_succ, List.set_cons_zero])
      | ((with_reducible refine is_s (.unOp .not _ _) ?_); refine s_gL (by rfl) (x_notT (by first | exact e_t (by rfl) | exact e_c | exact e_f)) ?_; simp only [Fr.put, List.set_cons_succ, List.set_cons_zero])
      | ((with_reducible refine is_s (.unOp .not _ _) ?_); refine s_gL (by rfl) (x_notF (by first | exact e_t (by rfl) | exact e_c | exact e_f)) ?_; simp only [Fr.put, List.set_cons_succ, List.set_cons_zero])
      | ((with_reducible refine is_s (.extract _ _) ?_); refine s_gL (by rfl) (x_extract (by first | exact e_t (by rfl) | exact e_c | exact e_f) (by rfl)) ?_; simp only [Fr.put, List.set_cons_succ, List.set_cons_zero])
      | ((with_reducible refine is_s (.binOp .add _ _ _ _) ?_); refine s_gL (by rfl) (x_add (by first | exact e_t (by rfl) | exact e_c | exact e_f) (by first | exact e_t (by rfl) | exact e_c | exact e_f) (by first | exact wrap_i64_in (by omega) (by omega) | exact wrap_u64_in (by omega) (by omega) | rfl)) ?_; simp only [Fr.put, List.set_cons_succ, List.set_cons_zero])
      | ((with_reducible refine is_s (.binOp .sub _ _ _ _) ?_); refine s_gL (by rfl) (x_sub (by first | exact e_t (by rfl) | exact e_c | exact e_f) (by first | exact e_t (by rfl) | exact e_c | exact e_f) (by first | exact wrap_i64_in (by omega) (by omega) | exact wrap_u64_in (by omega) (by omega) | rfl)) ?_; simp only [Fr.put, List.set_cons_succ, List.set_cons_zero])
      | ((with_reducible refine is_s (.convert _ _ _) ?_); refine s_gL (by rfl) (x_conv (by first | exact u_3 | exact u_45 | exact u_49 | exact u_22) (by first | exact u_3 | exact u_45 | exact u_49 | exact u_22) (by first | exact e_t (by rfl) | exact e_c | exact e_f) (by first | exact wrap_i64_in (by omega) (by omega) | exact wrap_u64_in (by omega) (by omega) | rfl)) ?_; simp only [Fr.put, List.set_cons_succ, List.set_cons_zero])
      | ((with_reducible refine is_s (.binOp .shr _ _ _ _) ?_); refine s_gL (by rfl) (x_shr (m := 1) (by first | exact e_t (by rfl) | exact e_c | exact e_f) (by first | exact e_t (by rfl) | exact e_c | exact e_f) rfl (by show _ ≤ 64; omega) (by omega)) ?_; simp only [Fr.put, List.set_cons_succ, List.set_cons_zero])
      | ((with_reducible refine is_s (.binOp .shr _ _ _ _) ?_); refine s_gL (by rfl) (x_shr (by first | exact e_t (by rfl) | exact e_c | exact e_f) (by first | exact e_t (by rfl) | exact e_c | exact e_f) (by first | rfl | exact (Int.toNat_of_nonneg (by omega)).symm) (by show _ ≤ 64; omega) (by omega)) ?_; simp only [Fr.put, List.set_cons_succ, List.set_cons_zero])
      | ((with_reducible refine is_s (.binOp .shl _ _ _ _) ?_); refine s_gL (by rfl) (x_shl1 (by first | exact e_t (by rfl) | exact e_c | exact e_f) (by first | exact e_t (by rfl) | exact e_c | exact e_f) (by first | rfl | exact (Int.toNat_of_nonneg (by omega)).symm) (by omega)) ?_; simp only [Fr.put, List.set_cons_succ, List.set_cons_zero])
      | ((with_reducible refine is_s (.makeFunc _ _ _) ?_); refine s_gL (by rfl) (x_func1 (by first | exact e_t (by rfl) | exact e_c | exact e_f)) ?_; simp only [Fr.put, List.set_cons_succ, List.set_cons_zero])
      | ((with_reducible refine is_s (.makeFunc _ _ _) ?_); refine s_gL (by rfl) (x_func2 (by first | exact e_t (by rfl) | exact e_c | exact e_f) (by first | exact e_t (by rfl) | exact e_c | exact e_f)) ?_; simp only [Fr.put, List.set_cons_succ, List.set_cons_zero])
      | ((with_reducible refine is_s (.makeFunc _ _ _) ?_); refine s_gL (by rfl) (x_func3 (by first | exact e_t (by rfl) | exact e_c | exact e_f) (by first | exact e_t (by rfl) | exact e_c | exact e_f) (by first | exact e_t (by rfl) | exact e_c | exact e_f)) ?_; simp only [Fr.put, List.set_cons_succ, List.set_cons_zero])
      | ((with_reducible refine is_s (.makeFunc _ _ _) ?_); refine s_gL (by rfl) (x_func (by rfl)) ?_; simp only [Fr.put, List.set_cons_succ, List.set_cons_zero])
      | ((with_reducible refine is_s (.load _ _) ?_); refine s_gL (by rfl) (x_load (by first | exact e_t (by rfl) | exact e_c | exact e_f) (by rfl)) ?_; simp only [Fr.put, List.set_cons_succ, List.set_cons_zero])
      | ((with_reducible refine is_s (.binOp .eql _ _ _ _) ?_); refine s_gB (by rfl) (x_eq (by first | exact e_t (by rfl) | exact e_c | exact e_f) (by first | exact e_t (by rfl) | exact e_c | exact e_f)) (fun hb => ?_) (fun hb => ?_) <;> simp only [decide_eq_true_eq, decide_eq_false_iff_not, Bool.not_eq_true', Bool.not_eq_false', not_true_eq_false, not_false_eq_true] at hb <;> first | (exfalso; omega) | (simp only [Fr.put, List.set_cons_succ, List.set_cons_zero]))
      | ((with_reducible refine is_s (.binOp .neq _ _ _ _) ?_); refine s_gB (by rfl) (x_ne (by first | exact e_t (by rfl) | exact e_c | exact e_f) (by first | exact e_t (by rfl) | exact e_c | exact e_f)) (fun hb => ?_) (fun hb => ?_) <;> simp only [decide_eq_true_eq, decide_eq_false_iff_not, Bool.not_eq_true', Bool.not_eq_false', not_true_eq_false, not_false_eq_true] at hb <;> first | (exfalso; omega) | (simp only [Fr.put, List.set_cons_succ, List.set_cons_zero]))
      | ((with_reducible refine is_s (.binOp .lss _ _ _ _) ?_); refine s_gB (by rfl) (x_lt (by first | exact e_t (by rfl) | exact e_c | exact e_f) (by first | exact e_t (by rfl) | exact e_c | exact e_f)) (fun hb => ?_) (fun hb => ?_) <;> simp only [decide_eq_true_eq, decide_eq_false_iff_not, Bool.not_eq_true', Bool.not_eq_false', not_true_eq_false, not_false_eq_true] at hb <;> first | (exfalso; omega) | (simp only [Fr.put, List.set_cons_succ, List.set_cons_zero]))
      | ((with_reducible refine is_s (.binOp .leq _ _ _ _) ?_); refine s_gB (by rfl) (x_le (by first | exact e_t (by rfl) | exact e_c | exact e_f) (by first | exact e_t (by rfl) | exact e_c | exact e_f)) (fun hb => ?_) (fun hb => ?_) <;> simp only [decide_eq_true_eq, decide_eq_false_iff_not, Bool.not_eq_true', Bool.not_eq_false', not_true_eq_false, not_false_eq_true] at hb <;> first | (exfalso; omega) | (simp only [Fr.put, List.set_cons_succ, List.set_cons_zero]))
      | ((with_reducible refine is_s (.binOp .gtr _ _ _ _) ?_); refine s_gB (by rfl) (x_gt (by first | exact e_t (by rfl) | exact e_c | exact e_f) (by first | exact e_t (by rfl) | exact e_c | exact e_f)) (fun hb => ?_) (fun hb => ?_) <;> simp only [decide_eq_true_eq, decide_eq_false_iff_not, Bool.not_eq_true', Bool.not_eq_false', not_true_eq_false, not_false_eq_true] at hb <;> first | (exfalso; omega) | (simp only [Fr.put, List.set_cons_succ, List.set_cons_zero]))
      | ((with_reducible refine is_s (.binOp .geq _ _ _ _) ?_); refine s_gB (by rfl) (x_ge (by first | exact e_t (by rfl) | exact e_c | exact e_f) (by first | exact e_t (by rfl) | exact e_c | exact e_f)) (fun hb => ?_) (fun hb => ?_) <;> simp only [decide_eq_true_eq, decide_eq_false_iff_not, Bool.not_eq_true', Bool.not_eq_false', not_true_eq_false, not_false_eq_true] at hb <;> first | (exfalso; omega) | (simp only [Fr.put, List.set_cons_succ, List.set_cons_zero]))
      | ((with_reducible refine is_s (.load _ _) ?_); refine s_gL (by rfl) (x_load1 (by first | exact s1_3 | exact s1_49 | exact s1_53 | exact s1_22) (by first | exact e_t (by rfl) | exact e_c | exact e_f) (by rfl) (by rfl)) ?_; simp only [Fr.put, List.set_cons_succ, List.set_cons_zero])
      | ((with_reducible refine is_s (.indexAddr _ _ _) ?_); refine s_gL (by rfl) (x_idxS (by first | exact sl_32) (by first | exact e_t (by rfl) | exact e_c | exact e_f) (by first | exact e_t (by rfl) | exact e_c | exact e_f) (by omega) (by omega)) ?_; simp only [Fr.put, List.set_cons_succ, List.set_cons_zero])
      | ((with_reducible refine is_s (.box _ _) ?_); refine s_gH (by rfl) (x_box1 (by first | exact s1_3 | exact s1_49 | exact s1_53 | exact s1_22) (by first | exact e_t (by rfl) | exact e_c | exact e_f) rfl) ?_; simp only [Fr.put, List.set_cons_succ, List.set_cons_zero, List.length_cons, List.length_nil, List.nil_append, List.cons_append, Nat.reduceAdd])
      | ((with_reducible refine is_s (.store _ _ _) ?_); refine s_gH (by rfl) (x_store1 (by first | exact s1_3 | exact s1_49 | exact s1_53 | exact s1_22) (by first | exact e_t (by rfl) | exact e_c | exact e_f) (by first | exact e_t (by rfl) | exact e_c | exact e_f) rfl (by rfl) (by simp only [List.length_cons, List.length_nil]; omega)) ?_; simp only [Fr.put, List.set_cons_succ, List.set_cons_zero, List.length_cons, List.length_nil, List.nil_append, List.cons_append, Nat.reduceAdd])
      )
    refine s_gC (by rfl) (by rfl) ok_19 ((codes_any k _ _ _ (g1.ints.ext x2) (by omega) r1).mono ?_)
    rintro a H3 _ e3
    obtain ⟨x3, s3, rfl, g3⟩ := codesP_shape e3
    simp only [Fr.put, List.set_cons_succ, List.set_cons_zero]
    repeat' (first
      | with_reducible refine s_seq ?_
      | with_reducible refine s_then ?_
      | with_reducible refine s_thenR ?_
      | with_reducible refine s_thenE ?_
      | with_reducible refine s_skip ?_
      | with_reducible refine s_ret ?_
      | with_reducible refine s_block ?_
      | with_reducible refine s_blkN ?_
      | with_reducible refine s_blkR ?_
      | with_reducible refine s_blkE ?_
      | with_reducible refine l_exit ?_
      | with_reducible refine l_ret ?_
      | with_reducible refine s_end ?_
      | with_reducible refine s_reg ?_
      | with_reducible refine s_blkX (by rfl) ?_
      | with_reducible refine s_exit ?_
      | ((with_reducible refine is_cond ?_); first | refine s_condT (by first | exact e_t (by rfl) | exact e_c | exact e_f) ?_ | refine s_condF (by first | exact e_t (by rfl) | exact e_c | exact e_f) ?_)
      | ((with_reducible refine is_sG _ ?_); refine s_gN (by rfl) ?_; simp only [Fr.put, List.set_cons_succ, List.set_cons_zero])
      | ((with_reducible refine is_s (.move _) ?_); refine s_gL (by rfl) (x_move (by first | exact e_t (by rfl) | exact e_c | exact e_f)) ?_; simp only [Fr.put, List.set_cons_succ, List.set_cons_zero])
      | ((with_reducible refine is_s (.assign _) ?_); refine s_gL (by rfl) (x_assign (by first | exact e_t (by rfl) | exact e_c | exact e_f)) ?_; simp only [Fr.put, List.set_cons_succ, List.set_cons_zero])
      | ((with_reducible refine is_s (.pick _ _ _) ?_); refine s_gL (by rfl) (x_pickT (by first | exact e_t (by rfl) | exact e_c | exact e_f) (by first | exact e_t (by rfl) | exact e_c | exact e_f)) ?_; simp only [Fr.put, List.set_cons_succ, List.set_cons_zero])
      | ((with_reducible refine is_s (.pick _ _ _) ?_); refine s_gL (by rfl) (x_pickF (by first | exact e_t (by rfl) | exact e_c | exact e_f) (by first | exact e_t (by rfl) | exact e_c | exact e_f)) ?_; simp only [Fr.put, List.set_cons_succ, List.set_cons_zero])
      | ((with_reducible refine is_s (.unOp .not _ _) ?_); refine s_gL (by rfl) (x_notT (by first | exact e_t (by rfl) | exact e_c | exact e_f)) ?_; simp only [Fr.put, List.set_cons_succ, List.set_cons_zero])
      | ((with_reducible refine is_s (.unOp .not _ _) ?_); refine s_gL (by rfl) (x_notF (by first | exact e_t (by rfl) | exact e_c | exact e_f)) ?_; simp only [Fr.put, List.set_cons_succ, List.set_cons_zero])
      | ((with_reducible refine is_s (.extract _ _) ?_); refine s_gL (by rfl) (x_extract (by first | exact e_t (by rfl) | exact e_c | exact e_f) (by rfl)) ?_; simp only [Fr.put, List.set_cons_succ, List.set_cons_zero])
      | ((with_reducible refine is_s (.binOp .add _ _ _ _) ?_); refine s_gL (by rfl) (x_add (by first | exact e_t (by rfl) | exact e_c | exact e_f) (by first | exact e_t (by rfl) | exact e_c | exact e_f) (by first | exact wrap_i64_in (by omega) (by omega) | exact wrap_u64_in (by omega) (by omega) | rfl)) ?_; simp only [Fr.put, List.set_cons_succ, List.set_cons_zero])
      | ((with_reducible refine is_s (.binOp .sub _ _ _ _) ?_); refine s_gL (by rfl) (x_sub (by first | exact e_t (by rfl) | exact e_c | exact e_f) (by first | exact e_t (by rfl) | exact e_c | exact e_f) (by first | exact wrap_i64_in (by omega) (by omega) | exact wrap_u64_in (by omega) (by omega) | rfl)) ?_; simp only [Fr.put, List.set_cons_succ, List.set_cons_zero])
      | ((with_reducible refine is_s (.convert _ _ _) ?_); refine s_gL (by rfl) (x_conv (by first | exact u_3 | exact u_45 | exact u_49 | exact u_22) (by first | exact u_3 | exact u_45 | exact u_49 | exact u_22) (by first | exact e_t (by rfl) | exact e_c | exact e_f) (by first | exact wrap_i64_in (by omega) (by omega) | exact wrap_u64_in (by omega) (by omega) | rfl)) ?_; simp only [Fr.put, List.set_cons_succ, List.set_cons_zero])
      | ((with_reducible refine is_s (.binOp .shr _ _ _ _) ?_); refine s_gL (by rfl) (x_shr (m := 1) (by first | exact e_t (by rfl) | exact e_c | exact e_f) (by first | exact e_t (by rfl) | exact e_c | exact e_f) rfl (by show _ ≤ 64; omega) (by omega)) ?_; simp only [Fr.put, List.set_cons_succ, List.set_cons_zero])
      | ((with_reducible refine is_s (.binOp .shr _ _ _ _) ?_); refine s_gL (by rfl) (x_shr (by first | exact e_t (by rfl) | exact e_c | exact e_f) (by first | exact e_t (by rfl) | exact e_c | exact e_f) (by first | rfl | exact (Int.toNat_of_nonneg (by omega)).symm) (by show _ ≤ 64; omega) (by omega)) ?_; simp only [Fr.put, List.set_cons_succ, List.set_cons_zero])
      | ((with_reducible refine is_s (.binOp .shl _ _ _ _) ?_); refine s_gL (by rfl) (x_shl1 (by first | exact e_t (by rfl) | exact e_c | exact e_f) (by first | exact e_t (by rfl) | exact e_c | exact e_f) (by first | rfl | exact (Int.toNat_of_nonneg (by omega)).symm) (by omega)) ?_; simp only [Fr.put, List.set_cons_succ, List.set_cons_zero])
      | ((with_reducible refine is_s (.makeFunc _ _ _) ?_); refine s_gL (by rfl) (x_func1 (by first | exact e_t (by rfl) | exact e_c | exact e_f)) ?_; simp only [Fr.put, List.set_cons_succ, List.set_cons_zero])
      | ((with_reducible refine is_s (.makeFunc _ _ _) ?_); refine s_gL (by rfl) (x_func2 (by first | exact e_t (by rfl) | exact e_c | exact e_f) (by first | exact e_t (by rfl) | exact e_c | exact e_f)) ?_; simp only [Fr.put, List.set_cons_succ, List.set_cons_zero])
      | ((with_reducible refine is_s (.makeFunc _ _ _) ?_); refine s_gL (by rfl) (x_func3 (by first | exact e_t (by rfl) | exact e_c | exact e_f) (by first | exact e_t (by rfl) | exact e_c | exact e_f) (by first | exact e_t (by rfl) | exact e_c | exact e_f)) ?_; simp only [Fr.put, List.set_cons_succ, List.set_cons_zero])
      | ((with_reducible refine is_s (.makeFunc _ _ _) ?_); refine s_gL (by rfl) (x_func (by rfl)) ?_; simp only [Fr.put, List.set_cons_succ, List.set_cons_zero])
      | ((with_reducible refine is_s (.load _ _) ?_); refine s_gL (by rfl) (x_load (by first | exact e_t (by rfl) | exact e_c | exact e_f) (by rfl)) ?_; simp only [Fr.put, List.set_cons_succ, List.set_cons_zero])
      | ((with_reducible refine is_s (.binOp .eql _ _ _ _) ?_); refine s_gB (by rfl) (x_eq (by first | exact e_t (by rfl) | exact e_c | exact e_f) (by first | exact e_t (by rfl) | exact e_c | exact e_f)) (fun hb => ?_) (fun hb => ?_) <;> simp only [decide_eq_true_eq, decide_eq_false_iff_not, Bool.not_eq_true', Bool.not_eq_false', not_true_eq_false, not_false_eq_true] at hb <;> first | (exfalso; omega) | (simp only [Fr.put, List.set_cons_succ, List.set_cons_zero]))
      | ((with_reducible refine is_s (.binOp .neq _ _ _ _) ?_); refine s_gB (by rfl) (x_ne (by first | exact e_t (by rfl) | exact e_c | exact e_f) (by first | exact e_t (by rfl) | exact e_c | exact e_f)) (fun hb => ?_) (fun hb => ?_) <;> simp only [decide_eq_true_eq, decide_eq_false_iff_not, Bool.not_eq_true', Bool.not_eq_false', not_true_eq_false, not_false_eq_true] at hb <;> first | (exfalso; omega) | (simp only [Fr.put, List.set_cons_succ, List.set_cons_zero]))
      | ((with_reducible refine is_s (.binOp .lss _ _ _ _) ?_); refine s_gB (by rfl) (x_lt (by first | exact e_t (by rfl) | exact e_c | exact e_f) (by first | exact e_t (by rfl) | exact e_c | exact e_f)) (fun hb => ?_) (fun hb => ?_) <;> simp only [decide_eq_true_eq, decide_eq_false_iff_not, Bool.not_eq_true', Bool.not_eq_false', not_true_eq_false, not_false_eq_true] at hb <;> first | (exfalso; omega) | (simp only [Fr.put, List.set_cons_succ, List.set_cons_zero]))
      | ((with_reducible refine is_s (.binOp .leq _ _ _ _) ?_); refine s_gB (by rfl) (x_le (by first | exact e_t (by rfl) | exact e_c | exact e_f) (by first | exact e_t (by rfl) | exact e_c | exact e_f)) (fun hb => ?_) (fun hb => ?_) <;> simp only [decide_eq_true_eq, decide_eq_false_iff_not, Bool.not_eq_true', Bool.not_eq_false', not_true_eq_false, not_false_eq_true] at hb <;> first | (exfalso; omega) | (simp only [Fr.put, List.set_cons_succ, List.set_cons_zero]))
      | ((with_reducible refine is_s (.binOp .gtr _ _ _ _) ?_); refine s_gB (by rfl) (x_gt (by first | exact e_t (by rfl) | exact e_c | exact e_f) (by first | exact e_t (by rfl) | exact e_c | exact e_f)) (fun hb => ?_) (fun hb => ?_) <;> simp only [decide_eq_true_eq, decide_eq_false_iff_not, Bool.not_eq_true', Bool.not_eq_false', not_true_eq_false, not_false_eq_true] at hb <;> first | (exfalso; omega) | (simp only [Fr.put, List.set_cons_succ, List.set_cons_zero]))
      | ((with_reducible refine is_s (.binOp .geq _ _ _ _) ?_); refine s_gB (by rfl) (x_ge (by first | exact e_t (by rfl) | exact e_c | exact e_f) (by first | exact e_t (by rfl) | exact e_c | exact e_f)) (fun hb => ?_) (fun hb => ?_) <;> simp only [decide_eq_true_eq, decide_eq_false_iff_not, Bool.not_eq_true', Bool.not_eq_false', not_true_eq_false, not_false_eq_true] at hb <;> first | (exfalso; omega) | (simp only [Fr.put, List.set_cons_succ, List.set_cons_zero]))
      | ((with_reducible refine is_s (.load _ _) ?_); refine s_gL (by rfl) (x_load1 (by first | exact s1_3 | exact s1_49 | exact s1_53 | exact s1_22) (by first | exact e_t (by rfl) | exact e_c | exact e_f) (by rfl) (by rfl)) ?_; simp only [Fr.put, List.set_cons_succ, List.set_cons_zero])
      | ((with_reducible refine is_s (.indexAddr _ _ _) ?_); refine s_gL (by rfl) (x_idxS (by first | exact sl_32) (by first | exact e_t (by rfl) | exact e_c | exact e_f) (by first | exact e_t (by rfl) | exact e_c | exact e_f) (by omega) (by omega)) ?_; simp only [Fr.put, List.set_cons_succ, List.set_cons_zero])
      | ((with_reducible refine is_s (.box _ _) ?_); refine s_gH (by rfl) (x_box1 (by first | exact s1_3 | exact s1_49 | exact s1_53 | exact s1_22) (by first | exact e_t (by rfl) | exact e_c | exact e_f) rfl) ?_; simp only [Fr.put, List.set_cons_succ, List.set_cons_zero, List.length_cons, List.length_nil, List.nil_append, List.cons_append, Nat.reduceAdd])
      | ((with_reducible refine is_s (.store _ _ _) ?_); refine s_gH (by rfl) (x_store1 (by first | exact s1_3 | exact s1_49 | exact s1_53 | exact s1_22) (by first | exact e_t (by rfl) | exact e_c | exact e_f) (by first | exact e_t (by rfl) | exact e_c | exact e_f) rfl (by rfl) (by simp only [List.length_cons, List.length_nil]; omega)) ?_; simp only [Fr.put, List.set_cons_succ, List.set_cons_zero, List.length_cons, List.length_nil, List.nil_append, List.cons_append, Nat.reduceAdd])
      )
    refine s_gC (by rfl) (by rfl) ok_20 ((rcodes_any k _ _ _ (hS1.ext (x1.trans (x2.trans x3))) (by omega) r1).mono ?_)
    rintro a H4 _ e4
    obtain ⟨x4, s4, rfl, g4⟩ := codesP_shape e4
    simp only [Fr.put, List.set_cons_succ, List.set_cons_zero]
    have ho := outF_len k l1
    have c1 := bitsS_any k _ _ _ (g2.ints.ext (x3.trans x4)) (by omega)
    have c2 := rbitsS_any k _ _ _ (hS2.ext (x1.trans (x2.trans (x3.trans x4)))) (by omega)
    obtain ⟨a1, a2, ea⟩ := bitsR_shape k l2
    rw [ea] at c1 c2
    have c3 := same_yes _ _ _ _ (g3.ints.ext x4) g4.ints (by omega)
    have c4 := same_yes _ _ _ _ (g1.ints.ext (x2.trans (x3.trans x4))) (hS1.ext (x1.trans (x2.trans (x3.trans x4)))) (by omega)
    have c5 := same_yes _ _ _ _ (g2.ints.ext (x3.trans x4)) (hS2.ext (x1.trans (x2.trans (x3.trans x4)))) (by omega)
    repeat' (first
      | with_reducible refine s_seq ?_
      | with_reducible refine s_then ?_
      | with_reducible refine s_thenR ?_
      | with_reducible refine s_thenE ?_
      | with_reducible refine s_skip ?_
      | with_reducible refine s_ret ?_
      | with_reducible refine s_block ?_
      | with_reducible refine s_blkN ?_
      | with_reducible refine s_blkR ?_
      | with_reducible refine s_blkE ?_
      | with_reducible refine l_exit ?_
      | with_reducible refine l_ret ?_
      | with_reducible refine s_end ?_
      | with_reducible refine s_reg ?_
      | with_reducible refine s_blkX (by rfl) ?_
      | with_reducible refine s_exit ?_
      | ((with_reducible refine is_cond ?_); first | refine s_condT (by first | exact e_t (by rfl) | exact e_c | exact e_f) ?_ | refine s_condF (by first | exact e_t (by rfl) | exact e_c | exact e_f) ?_)
      | ((with_reducible refine is_sG _ ?_); refine s_gN (by rfl) ?_; simp only [Fr.put, List.set_cons_succ, List.set_cons_zero])
      | ((with_reducible refine is_s (.move _) ?_); refine s_gL (by rfl) (x_move (by first | exact e_t (by rfl) | exact e_c | exact e_f)) ?_; simp only [Fr.put, List.set_cons_succ, List.set_cons_zero])
      | ((with_reducible refine is_s (.assign _) ?_); refine s_gL (by rfl) (x_assign (by first | exact e_t (by rfl) | exact e_c | exact e_f)) ?_; simp only [Fr.put, List.set_cons_succ, List.set_cons_zero])
      | ((with_reducible refine is_s (.pick _ _ _) ?_); refine s_gL (by rfl) (x_pickT (by first | exact e_t (by rfl) | exact e_c | exact e_f) (by first | exact e_t (by rfl) | exact e_c | exact e_f)) ?_; simp only [Fr.put, List.set_cons_succ, List.set_cons_zero])
      | ((with_reducible refine is_s (.pick _ _ _) ?_); refine s_gL (by rfl) (x_pickF (by first | exact e_t (by rfl) | exact e_c | exact e_f) (by first | exact e_t (by rfl) | exact e_c | exact e_f)) ?_; simp only [Fr.put, List.set_cons_succ, List.set_cons_zero])
      | ((with_reducible refine is_s (.unOp .not _ _) ?_); refine s_gL (by rfl) (x_notT (by first | exact e_t (by rfl) | exact e_c | exact e_f)) ?_; simp only [Fr.put, List.set_cons_succ, List.set_cons_zero])
      | ((with_reducible refine is_s (.unOp .not _ _) ?_); refine s_gL (by rfl) (x_notF (by first | exact e_t (by rfl) | exact e_c | exact e_f)) ?_; simp only [Fr.put, List.set_cons_succ, List.set_cons_zero])
      | ((with_reducible refine is_s (.extract _ _) ?_); refine s_gL (by rfl) (x_extract (by first | exact e_t (by rfl) | exact e_c | exact e_f) (by rfl)) ?_; simp only [Fr.put, List.set_cons_succ, List.set_cons_zero])
      | ((with_reducible refine is_s (.binOp .add _ _ _ _) ?_); refine s_gL (by rfl) (x_add (by first | exact e_t (by rfl) | exact e_c | exact e_f) (by first | exact e_t (by rfl) | exact e_c | exact e_f) (by first | exact wrap_i64_in (by omega) (by omega) | exact wrap_u64_in (by omega) (by omega) | rfl)) ?_; simp only [Fr.put, List.set_cons_succ, List.set_cons_zero])
      | ((with_reducible refine is_s (.binOp .sub _ _ _ _) ?_); refine s_gL (by rfl) (x_sub (by first | exact e_t (by rfl) | exact e_c | exact e_f) (by first | exact e_t (by rfl) | exact e_c | exact e_f) (by first | exact wrap_i64_in (by omega) (by omega) | exact wrap_u64_in (by omega) (by omega) | rfl)) ?_; simp only [Fr.put, List.set_cons_succ, List.set_cons_zero])
      | ((with_reducible refine is_s (.convert _ _ _) ?_); refine s_gL (by rfl) (x_conv (by first | exact u_3 | exact u_45 | exact u_49 | exact u_22) (by first | exact u_3 | exact u_45 | exact u_49 | exact u_22) (by first | exact e_t (by rfl) | exact e_c | exact e_f) (by first | exact wrap_i64_in (by omega) (by omega) | exact wrap_u64_in (by omega) (by omega) | rfl)) ?_; simp only [Fr.put, List.set_cons_succ, List.set_cons_zero])
      | ((with_reducible refine is_s (.binOp .shr _ _ _ _) ?_); refine s_gL (by rfl) (x_shr (m := 1) (by first | exact e_t (by rfl) | exact e_c | exact e_f) (by first | exact e_t (by rfl) | exact e_c | exact e_f) rfl (by show _ ≤ 64; omega) (by omega)) ?_; simp only [Fr.put, List.set_cons_succ, List.set_cons_zero])
      | ((with_reducible refine is_s (.binOp .shr _ _ _ _) ?_); refine s_gL (by rfl) (x_shr (by first | exact e_t (by rfl) | exact e_c | exact e_f) (by first | exact e_t (by rfl) | exact e_c | exact e_f) (by first | rfl | exact (Int.toNat_of_nonneg (by omega)).symm) (by show _ ≤ 64; omega) (by omega)) ?_; simp only [Fr.put, List.set_cons_succ, List.set_cons_zero])
      | ((with_reducible refine is_s (.binOp .shl _ _ _ _) ?_); refine s_gL (by rfl) (x_shl1 (by first | exact e_t (by rfl) | exact e_c | exact e_f) (by first | exact e_t (by rfl) | exact e_c | exact e_f) (by first | rfl | exact (Int.toNat_of_nonneg (by omega)).symm) (by omega)) ?_; simp only [Fr.put, List.set_cons_succ, List.set_cons_zero])
      | ((with_reducible refine is_s (.makeFunc _ _ _) ?_); refine s_gL (by rfl) (x_func1 (by first | exact e_t (by rfl) | exact e_c | exact e_f)) ?_; simp only [Fr.put, List.set_cons_succ, List.set_cons_zero])
      | ((with_reducible refine is_s (.makeFunc _ _ _) ?_); refine s_gL (by rfl) (x_func2 (by first | exact e_t (by rfl) | exact e_c | exact e_f) (by first | exact e_t (by rfl) | exact e_c | exact e_f)) ?_; simp only [Fr.put, List.set_cons_succ, List.set_cons_zero])
      | ((with_reducible refine is_s (.makeFunc _ _ _) ?_); refine s_gL (by rfl) (x_func3 (by first | exact e_t (by rfl) | exact e_c | exact e_f) (by first | exact e_t (by rfl) | exact e_c | exact e_f) (by first | exact e_t (by rfl) | exact e_c | exact e_f)) ?_; simp only [Fr.put, List.set_cons_succ, List.set_cons_zero])
      | ((with_reducible refine is_s (.makeFunc _ _ _) ?_); refine s_gL (by rfl) (x_func (by rfl)) ?_; simp only [Fr.put, List.set_cons_succ, List.set_cons_zero])
      | ((with_reducible refine is_s (.load _ _) ?_); refine s_gL (by rfl) (x_load (by first | exact e_t (by rfl) | exact e_c | exact e_f) (by rfl)) ?_; simp only [Fr.put, List.set_cons_succ, List.set_cons_zero])
      | ((with_reducible refine is_s (.binOp .eql _ _ _ _) ?_); refine s_gB (by rfl) (x_eq (by first | exact e_t (by rfl) | exact e_c | exact e_f) (by first | exact e_t (by rfl) | exact e_c | exact e_f)) (fun hb => ?_) (fun hb => ?_) <;> simp only [decide_eq_true_eq, decide_eq_false_iff_not, Bool.not_eq_true', Bool.not_eq_false', not_true_eq_false, not_false_eq_true] at hb <;> first | (exfalso; omega) | (simp only [Fr.put, List.set_cons_succ, List.set_cons_zero]))
      | ((with_reducible refine is_s (.binOp .neq _ _ _ _) ?_); refine s_gB (by rfl) (x_ne (by first | exact e_t (by rfl) | exact e_c | exact e_f) (by first | exact e_t (by rfl) | exact e_c | exact e_f)) (fun hb => ?_) (fun hb => ?_) <;> simp only [decide_eq_true_eq, decide_eq_false_iff_not, Bool.not_eq_true', Bool.not_eq_false', not_true_eq_false, not_false_eq_true] at hb <;> first | (exfalso; omega) | (simp only [Fr.put, List.set_cons_succ, List.set_cons_zero]))
      | ((with_reducible refine is_s (.binOp .lss _ _ _ _) ?_); refine s_gB (by rfl) (x_lt (by first | exact e_t (by rfl) | exact e_c | exact e_f) (by first | exact e_t (by rfl) | exact e_c | exact e_f)) (fun hb => ?_) (fun hb => ?_) <;> simp only [decide_eq_true_eq, decide_eq_false_iff_not, Bool.not_eq_true', Bool.not_eq_false', not_true_eq_false, not_false_eq_true] at hb <;> first | (exfalso; omega) | (simp only [Fr.put, List.set_cons_succ, List.set_cons_zero]))
      | ((with_reducible refine is_s (.binOp .leq _ _ _ _) ?_); refine s_gB (by rfl) (x_le (by first | exact e_t (by rfl) | exact e_c | exact e_f) (by first | exact e_t (by rfl) | exact e_c | exact e_f)) (fun hb => ?_) (fun hb => ?_) <;> simp only [decide_eq_true_eq, decide_eq_false_iff_not, Bool.not_eq_true', Bool.not_eq_false', not_true_eq_false, not_false_eq_true] at hb <;> first | (exfalso; omega) | (simp only [Fr.put, List.set_cons_succ, List.set_cons_zero]))
      | ((with_reducible refine is_s (.binOp .gtr _ _ _ _) ?_); refine s_gB (by rfl) (x_gt (by first | exact e_t (by rfl) | exact e_c | exact e_f) (by first | exact e_t (by rfl) | exact e_c | exact e_f)) (fun hb => ?_) (fun hb => ?_) <;> simp only [decide_eq_true_eq, decide_eq_false_iff_not, Bool.not_eq_true', Bool.not_eq_false', not_true_eq_false, not_false_eq_true] at hb <;> first | (exfalso; omega) | (simp only [Fr.put, List.set_cons_succ, List.set_cons_zero]))
      | ((with_reducible refine is_s (.binOp .geq _ _ _ _) ?_); refine s_gB (by rfl) (x_ge (by first | exact e_t (by rfl) | exact e_c | exact e_f) (by first | exact e_t (by rfl) | exact e_c | exact e_f)) (fun hb => ?_) (fun hb => ?_) <;> simp only [decide_eq_true_eq, decide_eq_false_iff_not, Bool.not_eq_true', Bool.not_eq_false', not_true_eq_false, not_false_eq_true] at hb <;> first | (exfalso; omega) | (simp only [Fr.put, List.set_cons_succ, List.set_cons_zero]))
      | ((with_reducible refine is_s (.call ⟨.value (.func 21), _, _⟩) ?_); refine s_gM (by rfl) (by rfl) ok_21 (c1) ?_; simp only [Fr.put, List.set_cons_succ, List.set_cons_zero])
      | ((with_reducible refine is_s (.call ⟨.value (.func 22), _, _⟩) ?_); refine s_gM (by rfl) (by rfl) ok_22 (c2) ?_; simp only [Fr.put, List.set_cons_succ, List.set_cons_zero])
      | ((with_reducible refine is_s (.call ⟨.value (.func 23), _, _⟩) ?_); refine s_gM (by rfl) (by rfl) ok_23 (c3) ?_; simp only [Fr.put, List.set_cons_succ, List.set_cons_zero])
      | ((with_reducible refine is_s (.call ⟨.value (.func 23), _, _⟩) ?_); refine s_gM (by rfl) (by rfl) ok_23 (c4) ?_; simp only [Fr.put, List.set_cons_succ, List.set_cons_zero])
      | ((with_reducible refine is_s (.call ⟨.value (.func 23), _, _⟩) ?_); refine s_gM (by rfl) (by rfl) ok_23 (c5) ?_; simp only [Fr.put, List.set_cons_succ, List.set_cons_zero])
      | ((with_reducible refine is_s (.call ⟨.value (.func 17), _, _⟩) ?_); refine s_gK (by rfl) (by rfl) ok_17 rfl (awake_any) ?_; simp only [Fr.put, List.set_cons_succ, List.set_cons_zero])
      | ((with_reducible refine is_s (.load _ _) ?_); refine s_gL (by rfl) (x_load1 (by first | exact s1_3 | exact s1_49 | exact s1_53 | exact s1_22) (by first | exact e_t (by rfl) | exact e_c | exact e_f) (by rfl) (by rfl)) ?_; simp only [Fr.put, List.set_cons_succ, List.set_cons_zero])
      | ((with_reducible refine is_s (.indexAddr _ _ _) ?_); refine s_gL (by rfl) (x_idxS (by first | exact sl_32) (by first | exact e_t (by rfl) | exact e_c | exact e_f) (by first | exact e_t (by rfl) | exact e_c | exact e_f) (by omega) (by omega)) ?_; simp only [Fr.put, List.set_cons_succ, List.set_cons_zero])
      | ((with_reducible refine is_s (.box _ _) ?_); refine s_gH (by rfl) (x_box1 (by first | exact s1_3 | exact s1_49 | exact s1_53 | exact s1_22) (by first | exact e_t (by rfl) | exact e_c | exact e_f) rfl) ?_; simp only [Fr.put, List.set_cons_succ, List.set_cons_zero, List.length_cons, List.length_nil, List.nil_append, List.cons_append, Nat.reduceAdd])
      | ((with_reducible refine is_s (.store _ _ _) ?_); refine s_gH (by rfl) (x_store1 (by first | exact s1_3 | exact s1_49 | exact s1_53 | exact s1_22) (by first | exact e_t (by rfl) | exact e_c | exact e_f) (by first | exact e_t (by rfl) | exact e_c | exact e_f) rfl (by rfl) (by simp only [List.length_cons, List.length_nil]; omega)) ?_; simp only [Fr.put, List.set_cons_succ, List.set_cons_zero, List.length_cons, List.length_nil, List.nil_append, List.cons_append, Nat.reduceAdd])
      )
    all_goals first | refine k_1 rfl (by rfl) ?_ | refine k_2 rfl (by rfl) (by rfl) ?_ | refine k_3 rfl (by rfl) (by rfl) (by rfl) ?_ | refine k_4 rfl (by rfl) (by rfl) (by rfl) (by rfl) ?_
    all_goals rfl
  · refine acalls_of_wk hm Try.func4 rfl ?_
    simp only [Try.ntmps4, List.length_cons, List.length_nil, Nat.reduceAdd, Nat.reduceSub, List.reduceReplicate, List.cons_append, List.nil_append]
    show wk _ _ none _ _ ⟨_, []⟩ _
    repeat' (first
      | with_reducible refine s_seq ?_
      | with_reducible refine s_then ?_
      | with_reducible refine s_thenR ?_
      | with_reducible refine s_thenE ?_
      | with_reducible refine s_skip ?_
      | with_reducible refine s_ret ?_
      | with_reducible refine s_block ?_
      | with_reducible refine s_blkN ?_
      | with_reducible refine s_blkR ?_
      | with_reducible refine s_blkE ?_
      | with_reducible refine l_exit ?_
      | with_reducible refine l_ret ?_
      | with_reducible refine s_end ?_
      | with_reducible refine s_reg ?_
      | with_reducible refine s_blkX (by rfl) ?_
      | with_reducible refine s_exit ?_
      | ((with_reducible refine is_cond ?_); first | refine s_condT (by first | exact e_t (by rfl) | exact e_c | exact e_f) ?_ | refine s_condF (by first | exact e_t (by rfl) | exact e_c | exact e_f) ?_)
      | ((with_reducible refine is_sG _ ?_); refine s_gN (by rfl) ?_; simp only [Fr.put, List.set_cons_succ, List.set_cons_zero])
      | ((with_reducible refine is_s (.move _) ?_); refine s_gL (by rfl) (x_move (by first | exact e_t (by rfl) | exact e_c | exact e_f)) ?_; simp only [Fr.put, List.set_cons_succ, List.set_cons_zero])
      | ((with_reducible refine is_s (.assign _) ?_); refine s_gL (by rfl) (x_assign (by first | exact e_t (by rfl) | exact e_c | exact e_f)) ?_; simp only [Fr.put, List.set_cons_succ, List.set_cons_zero])
      | ((with_reducible refine is_s (.pick _ _ _) ?_); refine s_gL (by rfl) (x_pickT (by first | exact e_t (by rfl) | exact e_c | exact e_f) (by first | exact e_t (by rfl) | exact e_c | exact e_f)) ?_; simp only [Fr.put, List.set_cons_succ, List.set_cons_zero])
      | ((with_reducible refine is_s (.pick _ _ _) ?_); refine s_gL (by rfl) (x_pickF (by first | exact e_t (by rfl) | exact e_c | exact e_f) (by first | exact e_t (by rfl) | exact e_c | exact e_f)) ?_; simp only [Fr.put, List.set_cons_succ, List.set_cons_zero])
      | ((with_reducible refine is_s (.unOp .not _ _) ?_); refine s_gL (by rfl) (x_notT (by first | exact e_t (by rfl) | exact e_c | exact e_f)) ?_; simp only [Fr.put, List.set_cons_succ, List.set_cons_zero])
      | ((with_reducible refine is_s (.unOp .not _ _) ?_); refine s_gL (by rfl) (x_notF (by first | exact e_t (by rfl) | exact e_c | exact e_f)) ?_; simp only [Fr.put, List.set_cons_succ, List.set_cons_zero])
      | ((with_reducible refine is_s (.extract _ _) ?_); refine s_gL (by rfl) (x_extract (by first | exact e_t (by rfl) | exact e_c | exact e_f) (by rfl)) ?_; simp only [Fr.put, List.set_cons_succ, List.set_cons_zero])
      | ((with_reducible refine is_s (.binOp .add _ _ _ _) ?_); refine s_gL (by rfl) (x_add (by first | exact e_t (by rfl) | exact e_c | exact e_f) (by first | exact e_t (by rfl) | exact e_c | exact e_f) (by first | exact wrap_i64_in (by omega) (by omega) | exact wrap_u64_in (by omega) (by omega) | rfl)) ?_; simp only [Fr.put, List.set_cons_succ, List.set_cons_zero])
      | ((with_reducible refine is_s (.binOp .sub _ _ _ _) ?_); refine s_gL (by rfl) (x_sub (by first | exact e_t (by rfl) | exact e_c | exact e_f) (by first | exact e_t (by rfl) | exact e_c | exact e_f) (by first | exact wrap_i64_in (by omega) (by omega) | exact wrap_u64_in (by omega) (by omega) | rfl)) ?_; simp only [Fr.put, List.set_cons_succ, List.set_cons_zero])
      | ((with_reducible refine is_s (.convert _ _ _) ?_); refine s_gL (by rfl) (x_conv (by first | exact u_3 | exact u_45 | exact u_49 | exact u_22) (by first | exact u_3 | exact u_45 | exact u_49 | exact u_22) (by first | exact e_t (by rfl) | exact e_c | exact e_f) (by first | exact wrap_i64_in (by omega) (by omega) | exact wrap_u64_in (by omega) (by omega) | rfl)) ?_; simp only [Fr.put, List.set_cons_succ, List.set_cons_zero])
      | ((with_reducible refine is_s (.binOp .shr _ _ _ _) ?_); refine s_gL (by rfl) (x_shr (m := 1) (by first | exact e_t (by rfl) | exact e_c | exact e_f) (by first | exact e_t (by rfl) | exact e_c | exact e_f) rfl (by show _ ≤ 64; omega) (by omega)) ?_; simp only [Fr.put, List.set_cons_succ, List.set_cons_zero])
      | ((with_reducible refine is_s (.binOp .shr _ _ _ _) ?_); refine s_gL (by rfl) (x_shr (by first | exact e_t (by rfl) | exact e_c | exact e_f) (by first | exact e_t (by rfl) | exact e_c | exact e_f) (by first | rfl | exact (Int.toNat_of_nonneg (by omega)).symm) (by show _ ≤ 64; omega) (by omega)) ?_; simp only [Fr.put, List.set_cons_succ, List.set_cons_zero])
      | ((with_reducible refine is_s (.binOp .shl _ _ _ _) ?_); refine s_gL (by rfl) (x_shl1 (by first | exact e_t (by rfl) | exact e_c | exact e_f) (by first | exact e_t (by rfl) | exact e_c | exact e_f) (by first | rfl | exact (Int.toNat_of_nonneg (by omega)).symm) (by omega)) ?_; simp only [Fr.put, List.set_cons_succ, List.set_cons_zero])
      | ((with_reducible refine is_s (.makeFunc _ _ _) ?_); refine s_gL (by rfl) (x_func1 (by first | exact e_t (by rfl) | exact e_c | exact e_f)) ?_; simp only [Fr.put, List.set_cons_succ, List.set_cons_zero])
      | ((with_reducible refine is_s (.makeFunc _ _ _) ?_); refine s_gL (by rfl) (x_func2 (by first | exact e_t (by rfl) | exact e_c | exact e_f) (by first | exact e_t (by rfl) | exact e_c | exact e_f)) ?_; simp only [Fr.put, List.set_cons_succ, List.set_cons_zero])
      | ((with_reducible refine is_s (.makeFunc _ _ _) ?_); refine s_gL (by rfl) (x_func3 (by first | exact e_t (by rfl) | exact e_c | exact e_f) (by first | exact e_t (by rfl) | exact e_c | exact e_f) (by first | exact e_t (by rfl) | exact e_c | exact e_f)) ?_; simp only [Fr.put, List.set_cons_succ, List.set_cons_zero])
      | ((with_reducible refine is_s (.makeFunc _ _ _) ?_); refine s_gL (by rfl) (x_func (by rfl)) ?_; simp only [Fr.put, List.set_cons_succ, List.set_cons_zero])
      | ((with_reducible refine is_s (.load _ _) ?_); refine s_gL (by rfl) (x_load (by first | exact e_t (by rfl) | exact e_c | exact e_f) (by rfl)) ?_; simp only [Fr.put, List.set_cons_succ, List.set_cons_zero])
      | ((with_reducible refine is_s (.binOp .eql _ _ _ _) ?_); refine s_gB (by rfl) (x_eq (by first | exact e_t (by rfl) | exact e_c | exact e_f) (by first | exact e_t (by rfl) | exact e_c | exact e_f)) (fun hb => ?_) (fun hb => ?_) <;> simp only [decide_eq_true_eq, decide_eq_false_iff_not, Bool.not_eq_true', Bool.not_eq_false', not_true_eq_false, not_false_eq_true] at hb <;> first | (exfalso; omega) | (simp only [Fr.put, List.set_cons_succ, List.set_cons_zero]))
      | ((with_reducible refine is_s (.binOp .neq _ _ _ _) ?_); refine s_gB (by rfl) (x_ne (by first | exact e_t (by rfl) | exact e_c | exact e_f) (by first | exact e_t (by rfl) | exact e_c | exact e_f)) (fun hb => ?_) (fun hb => ?_) <;> simp only [decide_eq_true_eq, decide_eq_false_iff_not, Bool.not_eq_true', Bool.not_eq_false', not_true_eq_false, not_false_eq_true] at hb <;> first | (exfalso; omega) | (simp only [Fr.put, List.set_cons_succ, List.set_cons_zero]))
      | ((with_reducible refine is_s (.binOp .lss _ _ _ _) ?_); refine s_gB (by rfl) (x_lt (by first | exact e_t (by rfl) | exact e_c | exact e_f) (by first | exact e_t (by rfl) | exact e_c | exact e_f)) (fun hb => ?_) (fun hb => ?_) <;> simp only [decide_eq_true_eq, decide_eq_false_iff_not, Bool.not_eq_true', Bool.not_eq_false', not_true_eq_false, not_false_eq_true] at hb <;> first | (exfalso; omega) | (simp only [Fr.put, List.set_cons_succ, List.set_cons_zero]))
      | ((with_reducible refine is_s (.binOp .leq _ _ _ _) ?_); refine s_gB (by rfl) (x_le (by first | exact e_t (by rfl) | exact e_c | exact e_f) (by first | exact e_t (by rfl) | exact e_c | exact e_f)) (fun hb => ?_) (fun hb => ?_) <;> simp only [decide_eq_true_eq, decide_eq_false_iff_not, Bool.not_eq_true', Bool.not_eq_false', not_true_eq_false, not_false_eq_true] at hb <;> first | (exfalso; omega) | (simp only [Fr.put, List.set_cons_succ, List.set_cons_zero]))
      | ((with_reducible refine is_s (.binOp .gtr _ _ _ _) ?_); refine s_gB (by rfl) (x_gt (by first | exact e_t (by rfl) | exact e_c | exact e_f) (by first | exact e_t (by rfl) | exact e_c | exact e_f)) (fun hb => ?_) (fun hb => ?_) <;> simp only [decide_eq_true_eq, decide_eq_false_iff_not, Bool.not_eq_true', Bool.not_eq_false', not_true_eq_false, not_false_eq_true] at hb <;> first | (exfalso; omega) | (simp only [Fr.put, List.set_cons_succ, List.set_cons_zero]))
      | ((with_reducible refine is_s (.binOp .geq _ _ _ _) ?_); refine s_gB (by rfl) (x_ge (by first | exact e_t (by rfl) | exact e_c | exact e_f) (by first | exact e_t (by rfl) | exact e_c | exact e_f)) (fun hb => ?_) (fun hb => ?_) <;> simp only [decide_eq_true_eq, decide_eq_false_iff_not, Bool.not_eq_true', Bool.not_eq_false', not_true_eq_false, not_false_eq_true] at hb <;> first | (exfalso; omega) | (simp only [Fr.put, List.set_cons_succ, List.set_cons_zero]))
      | ((with_reducible refine is_s (.call ⟨.value (.func 17), _, _⟩) ?_); refine s_gK (by rfl) (by rfl) ok_17 rfl (awake_any) ?_; simp only [Fr.put, List.set_cons_succ, List.set_cons_zero])
      | ((with_reducible refine is_s (.load _ _) ?_); refine s_gL (by rfl) (x_load1 (by first | exact s1_3 | exact s1_49 | exact s1_53 | exact s1_22) (by first | exact e_t (by rfl) | exact e_c | exact e_f) (by rfl) (by rfl)) ?_; simp only [Fr.put, List.set_cons_succ, List.set_cons_zero])
      | ((with_reducible refine is_s (.indexAddr _ _ _) ?_); refine s_gL (by rfl) (x_idxS (by first | exact sl_32) (by first | exact e_t (by rfl) | exact e_c | exact e_f) (by first | exact e_t (by rfl) | exact e_c | exact e_f) (by omega) (by omega)) ?_; simp only [Fr.put, List.set_cons_succ, List.set_cons_zero])
      | ((with_reducible refine is_s (.call ⟨.builtin .len, _, _⟩) ?_); refine s_gL (by rfl) (x_lenI hS1 (by first | exact sl_32) (by first | exact e_t (by rfl) | exact e_c | exact e_f)) ?_; simp only [Fr.put, List.set_cons_succ, List.set_cons_zero])
      | ((with_reducible refine is_s (.indexAddr _ _ _) ?_); refine s_gL (by rfl) (x_idxI hS1 (by first | exact sl_32) (by first | exact e_t (by rfl) | exact e_c | exact e_f) (by first | exact e_t (by rfl) | exact e_c | exact e_f) (by omega) (by omega)) ?_; simp only [Fr.put, List.set_cons_succ, List.set_cons_zero])
      | ((with_reducible refine is_s (.load _ _) ?_); refine s_gL (by rfl) (x_loadI hS1 (by first | exact s1_3 | exact s1_49 | exact s1_53 | exact s1_22) (by first | exact e_t (by rfl) | exact e_c | exact e_f) (by omega) (by omega)) ?_; simp only [Fr.put, List.set_cons_succ, List.set_cons_zero, Int.toNat_natCast])
      | ((with_reducible refine is_s (.call ⟨.builtin .len, _, _⟩) ?_); refine s_gL (by rfl) (x_lenI hS2 (by first | exact sl_32) (by first | exact e_t (by rfl) | exact e_c | exact e_f)) ?_; simp only [Fr.put, List.set_cons_succ, List.set_cons_zero])
      | ((with_reducible refine is_s (.indexAddr _ _ _) ?_); refine s_gL (by rfl) (x_idxI hS2 (by first | exact sl_32) (by first | exact e_t (by rfl) | exact e_c | exact e_f) (by first | exact e_t (by rfl) | exact e_c | exact e_f) (by omega) (by omega)) ?_; simp only [Fr.put, List.set_cons_succ, List.set_cons_zero])
      | ((with_reducible refine is_s (.load _ _) ?_); refine s_gL (by rfl) (x_loadI hS2 (by first | exact s1_3 | exact s1_49 | exact s1_53 | exact s1_22) (by first | exact e_t (by rfl) | exact e_c | exact e_f) (by omega) (by omega)) ?_; simp only [Fr.put, List.set_cons_succ, List.set_cons_zero, Int.toNat_natCast])
      | ((with_reducible refine is_s (.box _ _) ?_); refine s_gH (by rfl) (x_box1 (by first | exact s1_3 | exact s1_49 | exact s1_53 | exact s1_22) (by first | exact e_t (by rfl) | exact e_c | exact e_f) rfl) ?_; simp only [Fr.put, List.set_cons_succ, List.set_cons_zero, List.length_cons, List.length_nil, List.nil_append, List.cons_append, Nat.reduceAdd])
      | ((with_reducible refine is_s (.store _ _ _) ?_); refine s_gH (by rfl) (x_store1 (by first | exact s1_3 | exact s1_49 | exact s1_53 | exact s1_22) (by first | exact e_t (by rfl) | exact e_c | exact e_f) (by first | exact e_t (by rfl) | exact e_c | exact e_f) rfl (by rfl) (by simp only [List.length_cons, List.length_nil]; omega)) ?_; simp only [Fr.put, List.set_cons_succ, List.set_cons_zero, List.length_cons, List.length_nil, List.nil_append, List.cons_append, Nat.reduceAdd])
      )
    all_goals first | refine k_1 rfl (by rfl) ?_ | refine k_2 rfl (by rfl) (by rfl) ?_ | refine k_3 rfl (by rfl) (by rfl) (by rfl) ?_ | refine k_4 rfl (by rfl) (by rfl) (by rfl) (by rfl) ?_
    all_goals rfl
end Go.Proofs.Ytcnkaplepgpmlaa
