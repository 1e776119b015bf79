/-
  A part of the proof of a statement of chapter's seat; conditions: stated at each theorem.
-/
import Derived.Test.YtcnkaplepgpmlaaF4
set_option linter.unusedSimpArgs false
set_option linter.unusedVariables false
set_option maxRecDepth 100000
set_option maxHeartbeats 4000000
namespace Go.Proofs.Ytcnkaplepgpmlaa
open Go.Az Go
theorem ok_18 : okFn Try.prog 18 = true := by kernel_rfl
theorem ok_19 : okFn Try.prog 19 = true := by kernel_rfl
theorem ok_20 : okFn Try.prog 20 = true := by kernel_rfl
theorem ok_22 : okFn Try.prog 22 = true := by kernel_rfl
theorem ok_23 : okFn Try.prog 23 = true := by kernel_rfl
theorem el_3 : elOk Try.prog 3 = true := by kernel_rfl
theorem bs_1 (x : Int) : bslC Try.prog 32 1 [(0, I x)] = some (3, [I x]) := by kernel_rfl
theorem bs_0 : bslC Try.prog 32 0 [] = some (3, []) := by kernel_rfl
abbrev nilS : AV := .v (.slice none 0 0)
open Classical in
/-- The code of a value of a kind, if there is one. -/
noncomputable def codeN (k v : Int) : Option Int := if h : ∃ c : Nat, (c : Int) ≤ mostF k ∧ Mt k v c then some (Classical.choose h : Nat) else none
theorem codeN_R {k v : Int} (h0 : 0 ≤ k) (h2 : k ≤ 2) : (∃ c : Nat, (c : Int) ≤ mostF k ∧ codeN k v = some (c : Int) ∧ codeR k v = .tup [I c, I (bitsF k c), I (v - baseF k c), I 0]) ∨ (codeN k v = none ∧ codeR k v = .tup [I 0, I 0, I 0, I 2]) := by
  by_cases h : ∃ c : Nat, (c : Int) ≤ mostF k ∧ Mt k v c
  · refine .inl ⟨Classical.choose h, (Classical.choose_spec h).1, by rw [codeN, dif_pos h], codeR_yes h0 h2 (Classical.choose_spec h).1 (Classical.choose_spec h).2⟩
  · exact .inr ⟨by rw [codeN, dif_neg h], codeR_no h0 h2 fun c hc hM => h ⟨c, hc, hM⟩⟩
noncomputable def codesO (k : Int) : List Int → Option (List Int)
  | [] => some []
  | v :: r => match codeN k v, codesO k r with
    | some c, some d => some (c :: d)
    | _, _ => none
theorem codesO_snoc (k : Int) : ∀ (l : List Int) (v : Int), codesO k (l ++ [v]) = match codesO k l, codeN k v with
    | some d, some c => some (d ++ [c])
    | _, _ => none
  | [], v => by
    simp only [List.nil_append, codesO]
    cases codeN k v <;> rfl
  | a :: r, v => by
    simp only [List.cons_append, codesO, codesO_snoc k r v]
    cases codeN k a <;> cases codesO k r <;> cases codeN k v <;> rfl
theorem codesO_cut (k : Int) : ∀ (l r : List Int), codesO k l = none → codesO k (l ++ r) = none
  | [], r, h => by cases h
  | a :: l, r, h => by
    simp only [codesO, List.cons_append] at h ⊢
    cases h1 : codeN k a with
    | none => rfl
    | some c =>
      rw [h1] at h
      cases h2 : codesO k l with
      | none => rw [codesO_cut k l r h2]
      | some d => rw [h2] at h; cases h
theorem codesO_len (k : Int) : ∀ (l d : List Int), codesO k l = some d → d.length = l.length
  | [], d, h => by cases h; rfl
  | a :: l, d, h => by
    simp only [codesO] at h
    cases h1 : codeN k a with
    | none => rw [h1] at h; cases h
    | some c =>
      rw [h1] at h
      cases h2 : codesO k l with
      | none => rw [h2] at h; cases h
      | some d' =>
        rw [h2] at h
        injection h with h
        subst h
        simp [codesO_len k l d' h2]
/-- What the codes of a list are. -/
def CodesP (k : Int) (h : Hp) (l : List Int) (r : AV) (h' : Hp) : Prop :=
  Ext h h' ∧ if 0 ≤ k ∧ k ≤ 2 then (match codesO k l with
    | some d => ∃ s, r = .tup [s, I 0] ∧ Grow .i64 3 h.length h' s d
    | none => r = .tup [nilS, I 2]) else r = .tup [nilS, I 11]
theorem take_snoc {l : List Int} {i : Nat} (h : i < l.length) : l.take (i + 1) = l.take i ++ [l.getD i 0] := by
  rw [List.take_add_one, List.getD_eq_getElem?_getD, List.getElem?_eq_getElem h]; rfl
theorem codes_any (k : Int) (h : Hp) (s : AV) (l : List Int) (hS : Ints .i64 h s l) (hlen : l.length ≤ 1099511627776) (hl : ∀ x ∈ l, -9223372036854775808 ≤ x ∧ x ≤ 9223372036854775807) : ACalls Try.prog 19 [I k, s] h (CodesP k h l) := by
  by_cases hv : 0 ≤ k ∧ k ≤ 2
  · refine acalls_of_wk hm Try.func19 rfl ?_
    simp only [Try.ntmps19, List.length_cons, List.length_nil, Nat.reduceAdd, Nat.reduceSub, List.reduceReplicate, List.cons_append, List.nil_append]
    show wk _ _ none _ _ ⟨_, []⟩ _
    repeat' (first
      | with_reducible refine s_seq ?_
      | with_reducible refine s_then ?_
      | with_reducible refine s_thenR ?_
      | with_reducible refine s_thenE ?_
      | with_reducible refine s_skip ?_
      | with_reducible refine s_ret ?_
      | with_reducible refine s_block ?_
      | with_reducible refine s_blkN ?_
      | with_reducible refine s_blkR ?_
      | with_reducible refine s_blkE ?_
      | with_reducible refine l_exit ?_
      | with_reducible refine l_ret ?_
      | with_reducible refine s_end ?_
      | with_reducible refine s_reg ?_
      | with_reducible refine s_blkX (by rfl) ?_
      | with_reducible refine s_exit ?_
      | ((with_reducible refine is_cond ?_); first | refine s_condT (by first | exact e_t (by rfl) | exact e_c | exact e_f) ?_ | refine s_condF (by first | exact e_t (by rfl) | exact e_c | exact e_f) ?_)
      | ((with_reducible refine is_sG _ ?_); refine s_gN (by rfl) ?_; simp only [Fr.put, List.set_cons_succ, List.set_cons_zero])
      | ((with_reducible refine is_s (.move _) ?_); refine s_gL (by rfl) (x_move (by first | exact e_t (by rfl) | exact e_c | exact e_f)) ?_; simp only [Fr.put, List.set_cons_succ, List.set_cons_zero])
      | ((with_reducible refine is_s (.assign _) ?_); refine s_gL (by rfl) (x_assign (by first | exact e_t (by rfl) | exact e_c | exact e_f)) ?_; simp only [Fr.put, List.set_cons_succ, List.set_cons_zero])
      | ((with_reducible refine is_s (.pick _ _ _) ?_); refine s_gL (by rfl) (x_pickT (by first | exact e_t (by rfl) | exact e_c | exact e_f) (by first | exact e_t (by rfl) | exact e_c | exact e_f)) ?_; simp only [Fr.put, List.set_cons_succ, List.set_cons_zero])
      | ((with_reducible refine is_s (.pick _ _ _) ?_); refine s_gL (by rfl) (x_pickF (by first | exact e_t (by rfl) | exact e_c | exact e_f) (by first | exact e_t (by rfl) | exact e_c | exact e_f)) ?_; simp only [Fr.put, List.set_cons_succ, List.set_cons_zero])
      | ((with_reducible refine is_s (.unOp .not _ _) ?_); refine s_gL (by rfl) (x_notT (by first | exact e_t (by rfl) | exact e_c | exact e_f)) ?_; simp only [Fr.put, List.set_cons_succ, List.set_cons_zero])
      | ((with_reducible refine is_s (.unOp .not _ _) ?_); refine s_gL (by rfl) (x_notF (by first | exact e_t (by rfl) | exact e_c | exact e_f)) ?_; simp only [Fr.put, List.set_cons_succ, List.set_cons_zero])
      | ((with_reducible refine is_s (.extract _ _) ?_); refine s_gL (by rfl) (x_extract (by first | exact e_t (by rfl) | exact e_c | exact e_f) (by rfl)) ?_; simp only [Fr.put, List.set_cons_succ, List.set_cons_zero])
      | ((with_reducible refine is_s (.binOp .add _ _ _ _) ?_); refine s_gL (by rfl) (x_add (by first | exact e_t (by rfl) | exact e_c | exact e_f) (by first | exact e_t (by rfl) | exact e_c | exact e_f) (by first | exact wrap_i64_in (by omega) (by omega) | exact wrap_u64_in (by omega) (by omega) | rfl)) ?_; simp only [Fr.put, List.set_cons_succ, List.set_cons_zero])
      | ((with_reducible refine is_s (.binOp .sub _ _ _ _) ?_); refine s_gL (by rfl) (x_sub (by first | exact e_t (by rfl) | exact e_c | exact e_f) (by first | exact e_t (by rfl) | exact e_c | exact e_f) (by first | exact wrap_i64_in (by omega) (by omega) | exact wrap_u64_in (by omega) (by omega) | rfl)) ?_; simp only [Fr.put, List.set_cons_succ, List.set_cons_zero])
      | ((with_reducible refine is_s (.convert _ _ _) ?_); refine s_gL (by rfl) (x_conv (by first | exact u_3 | exact u_45 | exact u_49 | exact u_22) (by first | exact u_3 | exact u_45 | exact u_49 | exact u_22) (by first | exact e_t (by rfl) | exact e_c | exact e_f) (by first | exact wrap_i64_in (by omega) (by omega) | exact wrap_u64_in (by omega) (by omega) | rfl)) ?_; simp only [Fr.put, List.set_cons_succ, List.set_cons_zero])
      | ((with_reducible refine is_s (.binOp .shr _ _ _ _) ?_); refine s_gL (by rfl) (x_shr (m := 1) (by first | exact e_t (by rfl) | exact e_c | exact e_f) (by first | exact e_t (by rfl) | exact e_c | exact e_f) rfl (by show _ ≤ 64; omega) (by omega)) ?_; simp only [Fr.put, List.set_cons_succ, List.set_cons_zero])
      | ((with_reducible refine is_s (.binOp .shr _ _ _ _) ?_); refine s_gL (by rfl) (x_shr (by first | exact e_t (by rfl) | exact e_c | exact e_f) (by first | exact e_t (by rfl) | exact e_c | exact e_f) (by first | rfl | exact (Int.toNat_of_nonneg (by omega)).symm) (by show _ ≤ 64; omega) (by omega)) ?_; simp only [Fr.put, List.set_cons_succ, List.set_cons_zero])
      | ((with_reducible refine is_s (.binOp .shl _ _ _ _) ?_); refine s_gL (by rfl) (x_shl1 (by first | exact e_t (by rfl) | exact e_c | exact e_f) (by first | exact e_t (by rfl) | exact e_c | exact e_f) (by first | rfl | exact (Int.toNat_of_nonneg (by omega)).symm) (by omega)) ?_; simp only [Fr.put, List.set_cons_succ, List.set_cons_zero])
      | ((with_reducible refine is_s (.makeFunc _ _ _) ?_); refine s_gL (by rfl) (x_func1 (by first | exact e_t (by rfl) | exact e_c | exact e_f)) ?_; simp only [Fr.put, List.set_cons_succ, List.set_cons_zero])
      | ((with_reducible refine is_s (.makeFunc _ _ _) ?_); refine s_gL (by rfl) (x_func2 (by first | exact e_t (by rfl) | exact e_c | exact e_f) (by first | exact e_t (by rfl) | exact e_c | exact e_f)) ?_; simp only [Fr.put, List.set_cons_succ, List.set_cons_zero])
      | ((with_reducible refine is_s (.makeFunc _ _ _) ?_); refine s_gL (by rfl) (x_func3 (by first | exact e_t (by rfl) | exact e_c | exact e_f) (by first | exact e_t (by rfl) | exact e_c | exact e_f) (by first | exact e_t (by rfl) | exact e_c | exact e_f)) ?_; simp only [Fr.put, List.set_cons_succ, List.set_cons_zero])
      | ((with_reducible refine is_s (.makeFunc _ _ _) ?_); refine s_gL (by rfl) (x_func (by rfl)) ?_; simp only [Fr.put, List.set_cons_succ, List.set_cons_zero])
      | ((with_reducible refine is_s (.load _ _) ?_); refine s_gL (by rfl) (x_load (by first | exact e_t (by rfl) | exact e_c | exact e_f) (by rfl)) ?_; simp only [Fr.put, List.set_cons_succ, List.set_cons_zero])
      | ((with_reducible refine is_s (.binOp .eql _ _ _ _) ?_); refine s_gB (by rfl) (x_eq (by first | exact e_t (by rfl) | exact e_c | exact e_f) (by first | exact e_t (by rfl) | exact e_c | exact e_f)) (fun hb => ?_) (fun hb => ?_) <;> simp only [decide_eq_true_eq, decide_eq_false_iff_not, Bool.not_eq_true', Bool.not_eq_false', not_true_eq_false, not_false_eq_true] at hb <;> first | (exfalso; omega) | (simp only [Fr.put, List.set_cons_succ, List.set_cons_zero]))
      | ((with_reducible refine is_s (.binOp .neq _ _ _ _) ?_); refine s_gB (by rfl) (x_ne (by first | exact e_t (by rfl) | exact e_c | exact e_f) (by first | exact e_t (by rfl) | exact e_c | exact e_f)) (fun hb => ?_) (fun hb => ?_) <;> simp only [decide_eq_true_eq, decide_eq_false_iff_not, Bool.not_eq_true', Bool.not_eq_false', not_true_eq_false, not_false_eq_true] at hb <;> first | (exfalso; omega) | (simp only [Fr.put, List.set_cons_succ, List.set_cons_zero]))
      | ((with_reducible refine is_s (.binOp .lss _ _ _ _) ?_); refine s_gB (by rfl) (x_lt (by first | exact e_t (by rfl) | exact e_c | exact e_f) (by first | exact e_t (by rfl) | exact e_c | exact e_f)) (fun hb => ?_) (fun hb => ?_) <;> simp only [decide_eq_true_eq, decide_eq_false_iff_not, Bool.not_eq_true', Bool.not_eq_false', not_true_eq_false, not_false_eq_true] at hb <;> first | (exfalso; omega) | (simp only [Fr.put, List.set_cons_succ, List.set_cons_zero]))
      | ((with_reducible refine is_s (.binOp .leq _ _ _ _) ?_); refine s_gB (by rfl) (x_le (by first | exact e_t (by rfl) | exact e_c | exact e_f) (by first | exact e_t (by rfl) | exact e_c | exact e_f)) (fun hb => ?_) (fun hb => ?_) <;> simp only [decide_eq_true_eq, decide_eq_false_iff_not, Bool.not_eq_true', Bool.not_eq_false', not_true_eq_false, not_false_eq_true] at hb <;> first | (exfalso; omega) | (simp only [Fr.put, List.set_cons_succ, List.set_cons_zero]))
      | ((with_reducible refine is_s (.binOp .gtr _ _ _ _) ?_); refine s_gB (by rfl) (x_gt (by first | exact e_t (by rfl) | exact e_c | exact e_f) (by first | exact e_t (by rfl) | exact e_c | exact e_f)) (fun hb => ?_) (fun hb => ?_) <;> simp only [decide_eq_true_eq, decide_eq_false_iff_not, Bool.not_eq_true', Bool.not_eq_false', not_true_eq_false, not_false_eq_true] at hb <;> first | (exfalso; omega) | (simp only [Fr.put, List.set_cons_succ, List.set_cons_zero]))
      | ((with_reducible refine is_s (.binOp .geq _ _ _ _) ?_); refine s_gB (by rfl) (x_ge (by first | exact e_t (by rfl) | exact e_c | exact e_f) (by first | exact e_t (by rfl) | exact e_c | exact e_f)) (fun hb => ?_) (fun hb => ?_) <;> simp only [decide_eq_true_eq, decide_eq_false_iff_not, Bool.not_eq_true', Bool.not_eq_false', not_true_eq_false, not_false_eq_true] at hb <;> first | (exfalso; omega) | (simp only [Fr.put, List.set_cons_succ, List.set_cons_zero]))
      | ((with_reducible refine is_s (.call ⟨.value (.func 30), _, _⟩) ?_); refine s_gKB (by rfl) (by rfl) ok_30 rfl (valid_any _) (fun hb => ?_) (fun hb => ?_) <;> simp only [decide_eq_true_eq, decide_eq_false_iff_not, Bool.not_eq_true', Bool.not_eq_false', not_true_eq_false, not_false_eq_true] at hb <;> first | (exfalso; omega) | (simp only [Fr.put, List.set_cons_succ, List.set_cons_zero]))
      | ((with_reducible refine is_s (.load _ _) ?_); refine s_gL (by rfl) (x_load1 (by first | exact s1_3 | exact s1_49 | exact s1_53 | exact s1_22) (by first | exact e_t (by rfl) | exact e_c | exact e_f) (by rfl) (by rfl)) ?_; simp only [Fr.put, List.set_cons_succ, List.set_cons_zero])
      | ((with_reducible refine is_s (.indexAddr _ _ _) ?_); refine s_gL (by rfl) (x_idxS (by first | exact sl_32) (by first | exact e_t (by rfl) | exact e_c | exact e_f) (by first | exact e_t (by rfl) | exact e_c | exact e_f) (by omega) (by omega)) ?_; simp only [Fr.put, List.set_cons_succ, List.set_cons_zero])
      | ((with_reducible refine is_s (.call ⟨.builtin .len, _, _⟩) ?_); refine s_gL (by rfl) (x_lenI hS (by first | exact sl_32) (by first | exact e_t (by rfl) | exact e_c | exact e_f)) ?_; simp only [Fr.put, List.set_cons_succ, List.set_cons_zero])
      | ((with_reducible refine is_s (.indexAddr _ _ _) ?_); refine s_gL (by rfl) (x_idxI hS (by first | exact sl_32) (by first | exact e_t (by rfl) | exact e_c | exact e_f) (by first | exact e_t (by rfl) | exact e_c | exact e_f) (by omega) (by omega)) ?_; simp only [Fr.put, List.set_cons_succ, List.set_cons_zero])
      | ((with_reducible refine is_s (.load _ _) ?_); refine s_gL (by rfl) (x_loadI hS (by first | exact s1_3 | exact s1_49 | exact s1_53 | exact s1_22) (by first | exact e_t (by rfl) | exact e_c | exact e_f) (by omega) (by omega)) ?_; simp only [Fr.put, List.set_cons_succ, List.set_cons_zero, Int.toNat_natCast])
      | ((with_reducible refine is_s (.box _ _) ?_); refine s_gH (by rfl) (x_box1 (by first | exact s1_3 | exact s1_49 | exact s1_53 | exact s1_22) (by first | exact e_t (by rfl) | exact e_c | exact e_f) rfl) ?_; simp only [Fr.put, List.set_cons_succ, List.set_cons_zero, List.length_cons, List.length_nil, List.nil_append, List.cons_append, Nat.reduceAdd])
      | ((with_reducible refine is_s (.store _ _ _) ?_); refine s_gH (by rfl) (x_store1 (by first | exact s1_3 | exact s1_49 | exact s1_53 | exact s1_22) (by first | exact e_t (by rfl) | exact e_c | exact e_f) (by first | exact e_t (by rfl) | exact e_c | exact e_f) rfl (by rfl) (by simp only [List.length_cons, List.length_nil]; omega)) ?_; simp only [Fr.put, List.set_cons_succ, List.set_cons_zero, List.length_cons, List.length_nil, List.nil_append, List.cons_append, Nat.reduceAdd])
      )
    refine s_loop hm (fun (b : Nat × AV × Hp) s' => [I k, s, U, U, nilS, I 0, b.2.1, s' 7, s' 8, s' 9, s' 10, s' 11, s' 12, s' 13, s' 14, s' 15, s, I l.length, I b.1, s' 19, s' 20, s' 21, s' 22, s' 23, s' 24, s' 25, s' 26, s' 27, s' 28, s' 29, s' 30, s' 31, s' 32, s' 33, s' 34, s' 35, s' 36, s' 37, s' 38]) (fun b => b.2.2) (fun b => b.1 ≤ l.length ∧ Low h.length h b.2.2 ∧ ∃ d, codesO k (l.take b.1) = some d ∧ Grow .i64 3 h.length b.2.2 b.2.1 d) (fun b => l.length - b.1) (0, nilS, h) (by rfl) rfl ⟨Nat.zero_le _, Low.refl _ _, [], by rfl, .inl ⟨rfl, rfl⟩⟩ ?_
    rintro ⟨i, z, H⟩ s' ⟨hi1, hL, d, hd, hG⟩
    simp only [] at hi1 hL hd hG ⊢
    have hSH := hS.ext hL.toExt
    have hlv : i < l.length → -9223372036854775808 ≤ l.getD i 0 ∧ l.getD i 0 ≤ 9223372036854775807 := fun hi => by
      rw [List.getD_eq_getElem?_getD, List.getElem?_eq_getElem hi]; exact hl _ (List.getElem_mem hi)
    have hdl := codesO_len k _ _ hd
    rw [List.length_take, Nat.min_eq_left hi1] at hdl
    have cc := fun hi : i < l.length => code_any k (l.getD i 0) (hlv hi).1 (hlv hi).2
    rcases codeN_R hv.1 hv.2 (v := l.getD i 0) with ⟨c, hc, hn, hr⟩ | ⟨hn, hr⟩
    · rw [hr] at cc
      repeat' (first
        | with_reducible refine s_seq ?_
        | with_reducible refine s_then ?_
        | with_reducible refine s_thenR ?_
        | with_reducible refine s_thenE ?_
        | with_reducible refine s_skip ?_
        | with_reducible refine s_ret ?_
        | with_reducible refine s_block ?_
        | with_reducible refine s_blkN ?_
        | with_reducible refine s_blkR ?_
        | with_reducible refine s_blkE ?_
        | with_reducible refine l_exit ?_
        | with_reducible refine l_ret ?_
        | with_reducible refine s_end ?_
        | with_reducible refine s_reg ?_
        | with_reducible refine s_blkX (by rfl) ?_
        | with_reducible refine s_exit ?_
        | ((with_reducible refine is_cond ?_); first | refine s_condT (by first | exact e_t (by rfl) | exact e_c | exact e_f) ?_ | refine s_condF (by first | exact e_t (by rfl) | exact e_c | exact e_f) ?_)
        | ((with_reducible refine is_sG _ ?_); refine s_gN (by rfl) ?_; simp only [Fr.put, List.set_cons_succ, List.set_cons_zero])
        | ((with_reducible refine is_s (.move _) ?_); refine s_gL (by rfl) (x_move (by first | exact e_t (by rfl) | exact e_c | exact e_f)) ?_; simp only [Fr.put, List.set_cons_succ, List.set_cons_zero])
        | ((with_reducible refine is_s (.assign _) ?_); refine s_gL (by rfl) (x_assign (by first | exact e_t (by rfl) | exact e_c | exact e_f)) ?_; simp only [Fr.put, List.set_cons_succ, List.set_cons_zero])
        | ((with_reducible refine is_s (.pick _ _ _) ?_); refine s_gL (by rfl) (x_pickT (by first | exact e_t (by rfl) | exact e_c | exact e_f) (by first | exact e_t (by rfl) | exact e_c | exact e_f)) ?_; simp only [Fr.put, List.set_cons_succ, List.set_cons_zero])
        | ((with_reducible refine is_s (.pick _ _ _) ?_); refine s_gL (by rfl) (x_pickF (by first | exact e_t (by rfl) | exact e_c | exact e_f) (by first | exact e_t (by rfl) | exact e_c | exact e_f)) ?_; simp only [Fr.put, List.set_cons_succ, List.set_cons_zero])
        | ((with_reducible refine is_s (.unOp .not _ _) ?_); refine s_gL (by rfl) (x_notT (by first | exact e_t (by rfl) | exact e_c | exact e_f)) ?_; simp only [Fr.put, List.set_cons_succ, List.set_cons_zero])
        | ((with_reducible refine is_s (.unOp .not _ _) ?_); refine s_gL (by rfl) (x_notF (by first | exact e_t (by rfl) | exact e_c | exact e_f)) ?_; simp only [Fr.put, List.set_cons_succ, List.set_cons_zero])
        | ((with_reducible refine is_s (.extract _ _) ?_); refine s_gL (by rfl) (x_extract (by first | exact e_t (by rfl) | exact e_c | exact e_f) (by rfl)) ?_; simp only [Fr.put, List.set_cons_succ, List.set_cons_zero])
        | ((with_reducible refine is_s (.binOp .add _ _ _ _) ?_); refine s_gL (by rfl) (x_add (by first | exact e_t (by rfl) | exact e_c | exact e_f) (by first | exact e_t (by rfl) | exact e_c | exact e_f) (by first | exact wrap_i64_in (by omega) (by omega) | exact wrap_u64_in (by omega) (by omega) | rfl)) ?_; simp only [Fr.put, List.set_cons_succ, List.set_cons_zero])
        | ((with_reducible refine is_s (.binOp .sub _ _ _ _) ?_); refine s_gL (by rfl) (x_sub (by first | exact e_t (by rfl) | exact e_c | exact e_f) (by first | exact e_t (by rfl) | exact e_c | exact e_f) (by first | exact wrap_i64_in (by omega) (by omega) | exact wrap_u64_in (by omega) (by omega) | rfl)) ?_; simp only [Fr.put, List.set_cons_succ, List.set_cons_zero])
        | ((with_reducible refine is_s (.convert _ _ _) ?_); refine s_gL (by rfl) (x_conv (by first | exact u_3 | exact u_45 | exact u_49 | exact u_22) (by first | exact u_3 | exact u_45 | exact u_49 | exact u_22) (by first | exact e_t (by rfl) | exact e_c | exact e_f) (by first | exact wrap_i64_in (by omega) (by omega) | exact wrap_u64_in (by omega) (by omega) | rfl)) ?_; simp only [Fr.put, List.set_cons_succ, List.set_cons_zero])
        | ((with_reducible refine is_s (.binOp .shr _ _ _ _) ?_); refine s_gL (by rfl) (x_shr (m := 1) (by first | exact e_t (by rfl) | exact e_c | exact e_f) (by first | exact e_t (by rfl) | exact e_c | exact e_f) rfl (by show _ ≤ 64; omega) (by omega)) ?_; simp only [Fr.put, List.set_cons_succ, List.set_cons_zero])
        | ((with_reducible refine is_s (.binOp .shr _ _ _ _) ?_); refine s_gL (by rfl) (x_shr (by first | exact e_t (by rfl) | exact e_c | exact e_f) (by first | exact e_t (by rfl) | exact e_c | exact e_f) (by first | rfl | exact (Int.toNat_of_nonneg (by omega)).symm) (by show _ ≤ 64; omega) (by omega)) ?_; simp only [Fr.put, List.set_cons_succ, List.set_cons_zero])
        | ((with_reducible refine is_s (.binOp .shl _ _ _ _) ?_); refine s_gL (by rfl) (x_shl1 (by first | exact e_t (by rfl) | exact e_c | exact e_f) (by first | exact e_t (by rfl) | exact e_c | exact e_f) (by first | rfl | exact (Int.toNat_of_nonneg (by omega)).symm) (by omega)) ?_; simp only [Fr.put, List.set_cons_succ, List.set_cons_zero])
        | ((with_reducible refine is_s (.makeFunc _ _ _) ?_); refine s_gL (by rfl) (x_func1 (by first | exact e_t (by rfl) | exact e_c | exact e_f)) ?_; simp only [Fr.put, List.set_cons_succ, List.set_cons_zero])
        | ((with_reducible refine is_s (.makeFunc _ _ _) ?_); refine s_gL (by rfl) (x_func2 (by first | exact e_t (by rfl) | exact e_c | exact e_f) (by first | exact e_t (by rfl) | exact e_c | exact e_f)) ?_; simp only [Fr.put, List.set_cons_succ, List.set_cons_zero])
        | ((with_reducible refine is_s (.makeFunc _ _ _) ?_); refine s_gL (by rfl) (x_func3 (by first | exact e_t (by rfl) | exact e_c | exact e_f) (by first | exact e_t (by rfl) | exact e_c | exact e_f) (by first | exact e_t (by rfl) | exact e_c | exact e_f)) ?_; simp only [Fr.put, List.set_cons_succ, List.set_cons_zero])
        | ((with_reducible refine is_s (.makeFunc _ _ _) ?_); refine s_gL (by rfl) (x_func (by rfl)) ?_; simp only [Fr.put, List.set_cons_succ, List.set_cons_zero])
        | ((with_reducible refine is_s (.load _ _) ?_); refine s_gL (by rfl) (x_load (by first | exact e_t (by rfl) | exact e_c | exact e_f) (by rfl)) ?_; simp only [Fr.put, List.set_cons_succ, List.set_cons_zero])
        | ((with_reducible refine is_s (.binOp .eql _ _ _ _) ?_); refine s_gB (by rfl) (x_eq (by first | exact e_t (by rfl) | exact e_c | exact e_f) (by first | exact e_t (by rfl) | exact e_c | exact e_f)) (fun hb => ?_) (fun hb => ?_) <;> simp only [decide_eq_true_eq, decide_eq_false_iff_not, Bool.not_eq_true', Bool.not_eq_false', not_true_eq_false, not_false_eq_true] at hb <;> first | (exfalso; omega) | (simp only [Fr.put, List.set_cons_succ, List.set_cons_zero]))
        | ((with_reducible refine is_s (.binOp .neq _ _ _ _) ?_); refine s_gB (by rfl) (x_ne (by first | exact e_t (by rfl) | exact e_c | exact e_f) (by first | exact e_t (by rfl) | exact e_c | exact e_f)) (fun hb => ?_) (fun hb => ?_) <;> simp only [decide_eq_true_eq, decide_eq_false_iff_not, Bool.not_eq_true', Bool.not_eq_false', not_true_eq_false, not_false_eq_true] at hb <;> first | (exfalso; omega) | (simp only [Fr.put, List.set_cons_succ, List.set_cons_zero]))
        | ((with_reducible refine is_s (.binOp .lss _ _ _ _) ?_); refine s_gB (by rfl) (x_lt (by first | exact e_t (by rfl) | exact e_c | exact e_f) (by first | exact e_t (by rfl) | exact e_c | exact e_f)) (fun hb => ?_) (fun hb => ?_) <;> simp only [decide_eq_true_eq, decide_eq_false_iff_not, Bool.not_eq_true', Bool.not_eq_false', not_true_eq_false, not_false_eq_true] at hb <;> first | (exfalso; omega) | (simp only [Fr.put, List.set_cons_succ, List.set_cons_zero]))
        | ((with_reducible refine is_s (.binOp .leq _ _ _ _) ?_); refine s_gB (by rfl) (x_le (by first | exact e_t (by rfl) | exact e_c | exact e_f) (by first | exact e_t (by rfl) | exact e_c | exact e_f)) (fun hb => ?_) (fun hb => ?_) <;> simp only [decide_eq_true_eq, decide_eq_false_iff_not, Bool.not_eq_true', Bool.not_eq_false', not_true_eq_false, not_false_eq_true] at hb <;> first | (exfalso; omega) | (simp only [Fr.put, List.set_cons_succ, List.set_cons_zero]))
        | ((with_reducible refine is_s (.binOp .gtr _ _ _ _) ?_); refine s_gB (by rfl) (x_gt (by first | exact e_t (by rfl) | exact e_c | exact e_f) (by first | exact e_t (by rfl) | exact e_c | exact e_f)) (fun hb => ?_) (fun hb => ?_) <;> simp only [decide_eq_true_eq, decide_eq_false_iff_not, Bool.not_eq_true', Bool.not_eq_false', not_true_eq_false, not_false_eq_true] at hb <;> first | (exfalso; omega) | (simp only [Fr.put, List.set_cons_succ, List.set_cons_zero]))
        | ((with_reducible refine is_s (.binOp .geq _ _ _ _) ?_); refine s_gB (by rfl) (x_ge (by first | exact e_t (by rfl) | exact e_c | exact e_f) (by first | exact e_t (by rfl) | exact e_c | exact e_f)) (fun hb => ?_) (fun hb => ?_) <;> simp only [decide_eq_true_eq, decide_eq_false_iff_not, Bool.not_eq_true', Bool.not_eq_false', not_true_eq_false, not_false_eq_true] at hb <;> first | (exfalso; omega) | (simp only [Fr.put, List.set_cons_succ, List.set_cons_zero]))
        | ((with_reducible refine is_s (.call ⟨.value (.func 11), _, _⟩) ?_); refine s_gK (by rfl) (by rfl) ok_11 rfl (cc (by omega)) ?_; simp only [Fr.put, List.set_cons_succ, List.set_cons_zero])
        | ((with_reducible refine is_s (.buildSlice _ _ _) ?_); refine s_gH (by rfl) (x_bsl (by rfl) (bs_1 _)) ?_; simp only [Fr.put, List.set_cons_succ, List.set_cons_zero])
        | ((with_reducible refine is_s (.load _ _) ?_); refine s_gL (by rfl) (x_load1 (by first | exact s1_3 | exact s1_49 | exact s1_53 | exact s1_22) (by first | exact e_t (by rfl) | exact e_c | exact e_f) (by rfl) (by rfl)) ?_; simp only [Fr.put, List.set_cons_succ, List.set_cons_zero])
        | ((with_reducible refine is_s (.indexAddr _ _ _) ?_); refine s_gL (by rfl) (x_idxS (by first | exact sl_32) (by first | exact e_t (by rfl) | exact e_c | exact e_f) (by first | exact e_t (by rfl) | exact e_c | exact e_f) (by omega) (by omega)) ?_; simp only [Fr.put, List.set_cons_succ, List.set_cons_zero])
        | ((with_reducible refine is_s (.call ⟨.builtin .len, _, _⟩) ?_); refine s_gL (by rfl) (x_lenI hSH (by first | exact sl_32) (by first | exact e_t (by rfl) | exact e_c | exact e_f)) ?_; simp only [Fr.put, List.set_cons_succ, List.set_cons_zero])
        | ((with_reducible refine is_s (.indexAddr _ _ _) ?_); refine s_gL (by rfl) (x_idxI hSH (by first | exact sl_32) (by first | exact e_t (by rfl) | exact e_c | exact e_f) (by first | exact e_t (by rfl) | exact e_c | exact e_f) (by omega) (by omega)) ?_; simp only [Fr.put, List.set_cons_succ, List.set_cons_zero])
        | ((with_reducible refine is_s (.load _ _) ?_); refine s_gL (by rfl) (x_loadI hSH (by first | exact s1_3 | exact s1_49 | exact s1_53 | exact s1_22) (by first | exact e_t (by rfl) | exact e_c | exact e_f) (by omega) (by omega)) ?_; simp only [Fr.put, List.set_cons_succ, List.set_cons_zero, Int.toNat_natCast])
        | ((with_reducible refine is_s (.box _ _) ?_); refine s_gH (by rfl) (x_box1 (by first | exact s1_3 | exact s1_49 | exact s1_53 | exact s1_22) (by first | exact e_t (by rfl) | exact e_c | exact e_f) rfl) ?_; simp only [Fr.put, List.set_cons_succ, List.set_cons_zero, List.length_cons, List.length_nil, List.nil_append, List.cons_append, Nat.reduceAdd])
        | ((with_reducible refine is_s (.store _ _ _) ?_); refine s_gH (by rfl) (x_store1 (by first | exact s1_3 | exact s1_49 | exact s1_53 | exact s1_22) (by first | exact e_t (by rfl) | exact e_c | exact e_f) (by first | exact e_t (by rfl) | exact e_c | exact e_f) rfl (by rfl) (by simp only [List.length_cons, List.length_nil]; omega)) ?_; simp only [Fr.put, List.set_cons_succ, List.set_cons_zero, List.length_cons, List.length_nil, List.nil_append, List.cons_append, Nat.reduceAdd])
        )
      · obtain ⟨z2, H2, e1, e2, e3⟩ := app_ints (P := Try.prog) (t := 32) (l2 := [(c : Int)]) (u := .sl H.length 0 1 1 false) sl_32 el_3 (hG.ext (Ext.push H (.cells [I c] 3 true))) (by simp; exact Nat.le_succ_of_le hL.1) (.inr ⟨H.length, 0, 1, false, [I c], 3, true, rfl, by simp, by simp, rfl⟩) (by simp; omega)
        refine s_gH (by rfl) (x_app (by first | exact e_t (by rfl) | exact e_c | exact e_f) (by first | exact e_t (by rfl) | exact e_c | exact e_f) e1) ?_
        simp only [Fr.put, List.set_cons_succ, List.set_cons_zero]
        repeat' (first
          | with_reducible refine s_seq ?_
          | with_reducible refine s_then ?_
          | with_reducible refine s_thenR ?_
          | with_reducible refine s_thenE ?_
          | with_reducible refine s_skip ?_
          | with_reducible refine s_ret ?_
          | with_reducible refine s_block ?_
          | with_reducible refine s_blkN ?_
          | with_reducible refine s_blkR ?_
          | with_reducible refine s_blkE ?_
          | with_reducible refine l_exit ?_
          | with_reducible refine l_ret ?_
          | with_reducible refine s_end ?_
          | with_reducible refine s_reg ?_
          | with_reducible refine s_blkX (by rfl) ?_
          | with_reducible refine s_exit ?_
          | ((with_reducible refine is_cond ?_); first | refine s_condT (by first | exact e_t (by rfl) | exact e_c | exact e_f) ?_ | refine s_condF (by first | exact e_t (by rfl) | exact e_c | exact e_f) ?_)
          | ((with_reducible refine is_sG _ ?_); refine s_gN (by rfl) ?_; simp only [Fr.put, List.set_cons_succ, List.set_cons_zero])
          | ((with_reducible refine is_s (.move _) ?_); refine s_gL (by rfl) (x_move (by first | exact e_t (by rfl) | exact e_c | exact e_f)) ?_; simp only [Fr.put, List.set_cons_succ, List.set_cons_zero])
          | ((with_reducible refine is_s (.assign _) ?_); refine s_gL (by rfl) (x_assign (by first | exact e_t (by rfl) | exact e_c | exact e_f)) ?_; simp only [Fr.put, List.set_cons_succ, List.set_cons_zero])
          | ((with_reducible refine is_s (.pick _ _ _) ?_); refine s_gL (by rfl) (x_pickT (by first | exact e_t (by rfl) | exact e_c | exact e_f) (by first | exact e_t (by rfl) | exact e_c | exact e_f)) ?_; simp only [Fr.put, List.set_cons_succ, List.set_cons_zero])
          | ((with_reducible refine is_s (.pick _ _ _) ?_); refine s_gL (by rfl) (x_pickF (by first | exact e_t (by rfl) | exact e_c | exact e_f) (by first | exact e_t (by rfl) | exact e_c | exact e_f)) ?_; simp only [Fr.put, List.set_cons_succ, List.set_cons_zero])
          | ((with_reducible refine is_s (.unOp .not _ _) ?_); refine s_gL (by rfl) (x_notT (by first | exact e_t (by rfl) | exact e_c | exact e_f)) ?_; simp only [Fr.put, List.set_cons_succ, List.set_cons_zero])
          | ((with_reducible refine is_s (.unOp .not _ _) ?_); refine s_gL (by rfl) (x_notF (by first | exact e_t (by rfl) | exact e_c | exact e_f)) ?_; simp only [Fr.put, List.set_cons_succ, List.set_cons_zero])
          | ((with_reducible refine is_s (.extract _ _) ?_); refine s_gL (by rfl) (x_extract (by first | exact e_t (by rfl) | exact e_c | exact e_f) (by rfl)) ?_; simp only [Fr.put, List.set_cons_succ, List.set_cons_zero])
          | ((with_reducible refine is_s (.binOp .add _ _ _ _) ?_); refine s_gL (by rfl) (x_add (by first | exact e_t (by rfl) | exact e_c | exact e_f) (by first | exact e_t (by rfl) | exact e_c | exact e_f) (by first | exact wrap_i64_in (by omega) (by omega) | exact wrap_u64_in (by omega) (by omega) | rfl)) ?_; simp only [Fr.put, List.set_cons_succ, List.set_cons_zero])
          | ((with_reducible refine is_s (.binOp .sub _ _ _ _) ?_); refine s_gL (by rfl) (x_sub (by first | exact e_t (by rfl) | exact e_c | exact e_f) (by first | exact e_t (by rfl) | exact e_c | exact e_f) (by first | exact wrap_i64_in (by omega) (by omega) | exact wrap_u64_in (by omega) (by omega) | rfl)) ?_; simp only [Fr.put, List.set_cons_succ, List.set_cons_zero])
          | ((with_reducible refine is_s (.convert _ _ _) ?_); refine s_gL (by rfl) (x_conv (by first | exact u_3 | exact u_45 | exact u_49 | exact u_22) (by first | exact u_3 | exact u_45 | exact u_49 | exact u_22) (by first | exact e_t (by rfl) | exact e_c | exact e_f) (by first | exact wrap_i64_in (by omega) (by omega) | exact wrap_u64_in (by omega) (by omega) | rfl)) ?_; simp only [Fr.put, List.set_cons_succ, List.set_cons_zero])
          | ((with_reducible refine is_s (.binOp .shr _ _ _ _) ?_); refine s_gL (by rfl) (x_shr (m := 1) (by first | exact e_t (by rfl) | exact e_c | exact e_f) (by first | exact e_t (by rfl) | exact e_c | exact e_f) rfl (by show _ ≤ 64; omega) (by omega)) ?_; simp only [Fr.put, List.set_cons_succ, List.set_cons_zero])
          | ((with_reducible refine is_s (.binOp .shr _ _ _ _) ?_); refine s_gL (by rfl) (x_shr (by first | exact e_t (by rfl) | exact e_c | exact e_f) (by first | exact e_t (by rfl) | exact e_c | exact e_f) (by first | rfl | exact (Int.toNat_of_nonneg (by omega)).symm) (by show _ ≤ 64; omega) (by omega)) ?_; simp only [Fr.put, List.set_cons_succ, List.set_cons_zero])
          | ((with_reducible refine is_s (.binOp .shl _ _ _ _) ?_); refine s_gL (by rfl) (x_shl1 (by first | exact e_t (by rfl) | exact e_c | exact e_f) (by first | exact e_t (by rfl) | exact e_c | exact e_f) (by first | rfl | exact (Int.toNat_of_nonneg (by omega)).symm) (by omega)) ?_; simp only [Fr.put, List.set_cons_succ, List.set_cons_zero])
          | ((with_reducible refine is_s (.makeFunc _ _ _) ?_); refine s_gL (by rfl) (x_func1 (by first | exact e_t (by rfl) | exact e_c | exact e_f)) ?_; simp only [Fr.put, List.set_cons_succ, List.set_cons_zero])
          | ((with_reducible refine is_s (.makeFunc _ _ _) ?_); refine s_gL (by rfl) (x_func2 (by first | exact e_t (by rfl) | exact e_c | exact e_f) (by first | exact e_t (by rfl) | exact e_c | exact e_f)) ?_; simp only [Fr.put, List.set_cons_succ, List.set_cons_zero])
          | ((with_reducible refine is_s (.makeFunc _ _ _) ?_); refine s_gL (by rfl) (x_func3 (by first | exact e_t (by rfl) | exact e_c | exact e_f) (by first | exact e_t (by rfl) | exact e_c | exact e_f) (by first | exact e_t (by rfl) | exact e_c | exact e_f)) ?_; simp only [Fr.put, List.set_cons_succ, List.set_cons_zero])
          | ((with_reducible refine is_s (.makeFunc _ _ _) ?_); refine s_gL (by rfl) (x_func (by rfl)) ?_; simp only [Fr.put, List.set_cons_succ, List.set_cons_zero])
          | ((with_reducible refine is_s (.load _ _) ?_); refine s_gL (by rfl) (x_load (by first | exact e_t (by rfl) | exact e_c | exact e_f) (by rfl)) ?_; simp only [Fr.put, List.set_cons_succ, List.set_cons_zero])
          | ((with_reducible refine is_s (.binOp .eql _ _ _ _) ?_); refine s_gB (by rfl) (x_eq (by first | exact e_t (by rfl) | exact e_c | exact e_f) (by first | exact e_t (by rfl) | exact e_c | exact e_f)) (fun hb => ?_) (fun hb => ?_) <;> simp only [decide_eq_true_eq, decide_eq_false_iff_not, Bool.not_eq_true', Bool.not_eq_false', not_true_eq_false, not_false_eq_true] at hb <;> first | (exfalso; omega) | (simp only [Fr.put, List.set_cons_succ, List.set_cons_zero]))
          | ((with_reducible refine is_s (.binOp .neq _ _ _ _) ?_); refine s_gB (by rfl) (x_ne (by first | exact e_t (by rfl) | exact e_c | exact e_f) (by first | exact e_t (by rfl) | exact e_c | exact e_f)) (fun hb => ?_) (fun hb => ?_) <;> simp only [decide_eq_true_eq, decide_eq_false_iff_not, Bool.not_eq_true', Bool.not_eq_false', not_true_eq_false, not_false_eq_true] at hb <;> first | (exfalso; omega) | (simp only [Fr.put, List.set_cons_succ, List.set_cons_zero]))
          | ((with_reducible refine is_s (.binOp .lss _ _ _ _) ?_); refine s_gB (by rfl) (x_lt (by first | exact e_t (by rfl) | exact e_c | exact e_f) (by first | exact e_t (by rfl) | exact e_c | exact e_f)) (fun hb => ?_) (fun hb => ?_) <;> simp only [decide_eq_true_eq, decide_eq_false_iff_not, Bool.not_eq_true', Bool.not_eq_false', not_true_eq_false, not_false_eq_true] at hb <;> first | (exfalso; omega) | (simp only [Fr.put, List.set_cons_succ, List.set_cons_zero]))
          | ((with_reducible refine is_s (.binOp .leq _ _ _ _) ?_); refine s_gB (by rfl) (x_le (by first | exact e_t (by rfl) | exact e_c | exact e_f) (by first | exact e_t (by rfl) | exact e_c | exact e_f)) (fun hb => ?_) (fun hb => ?_) <;> simp only [decide_eq_true_eq, decide_eq_false_iff_not, Bool.not_eq_true', Bool.not_eq_false', not_true_eq_false, not_false_eq_true] at hb <;> first | (exfalso; omega) | (simp only [Fr.put, List.set_cons_succ, List.set_cons_zero]))
          | ((with_reducible refine is_s (.binOp .gtr _ _ _ _) ?_); refine s_gB (by rfl) (x_gt (by first | exact e_t (by rfl) | exact e_c | exact e_f) (by first | exact e_t (by rfl) | exact e_c | exact e_f)) (fun hb => ?_) (fun hb => ?_) <;> simp only [decide_eq_true_eq, decide_eq_false_iff_not, Bool.not_eq_true', Bool.not_eq_false', not_true_eq_false, not_false_eq_true] at hb <;> first | (exfalso; omega) | (simp only [Fr.put, List.set_cons_succ, List.set_cons_zero]))
          | ((with_reducible refine is_s (.binOp .geq _ _ _ _) ?_); refine s_gB (by rfl) (x_ge (by first | exact e_t (by rfl) | exact e_c | exact e_f) (by first | exact e_t (by rfl) | exact e_c | exact e_f)) (fun hb => ?_) (fun hb => ?_) <;> simp only [decide_eq_true_eq, decide_eq_false_iff_not, Bool.not_eq_true', Bool.not_eq_false', not_true_eq_false, not_false_eq_true] at hb <;> first | (exfalso; omega) | (simp only [Fr.put, List.set_cons_succ, List.set_cons_zero]))
          | ((with_reducible refine is_s (.load _ _) ?_); refine s_gL (by rfl) (x_load1 (by first | exact s1_3 | exact s1_49 | exact s1_53 | exact s1_22) (by first | exact e_t (by rfl) | exact e_c | exact e_f) (by rfl) (by rfl)) ?_; simp only [Fr.put, List.set_cons_succ, List.set_cons_zero])
          | ((with_reducible refine is_s (.indexAddr _ _ _) ?_); refine s_gL (by rfl) (x_idxS (by first | exact sl_32) (by first | exact e_t (by rfl) | exact e_c | exact e_f) (by first | exact e_t (by rfl) | exact e_c | exact e_f) (by omega) (by omega)) ?_; simp only [Fr.put, List.set_cons_succ, List.set_cons_zero])
          | ((with_reducible refine is_s (.box _ _) ?_); refine s_gH (by rfl) (x_box1 (by first | exact s1_3 | exact s1_49 | exact s1_53 | exact s1_22) (by first | exact e_t (by rfl) | exact e_c | exact e_f) rfl) ?_; simp only [Fr.put, List.set_cons_succ, List.set_cons_zero, List.length_cons, List.length_nil, List.nil_append, List.cons_append, Nat.reduceAdd])
          | ((with_reducible refine is_s (.store _ _ _) ?_); refine s_gH (by rfl) (x_store1 (by first | exact s1_3 | exact s1_49 | exact s1_53 | exact s1_22) (by first | exact e_t (by rfl) | exact e_c | exact e_f) (by first | exact e_t (by rfl) | exact e_c | exact e_f) rfl (by rfl) (by simp only [List.length_cons, List.length_nil]; omega)) ?_; simp only [Fr.put, List.set_cons_succ, List.set_cons_zero, List.length_cons, List.length_nil, List.nil_append, List.cons_append, Nat.reduceAdd])
          )
        refine l_next (i + 1, z2, H2) ⟨by simp only []; omega, (hL.trans (Low.push _ hL.1)).trans e3, d ++ [(c : Int)], ?_, e2⟩ (by simp only []; omega) (by rfl) rfl
        simp only []
        rw [take_snoc (by omega), codesO_snoc, hd, hn]
      · refine k_2 rfl (by rfl) (by rfl) ⟨hL.toExt, ?_⟩
        rw [List.take_of_length_le (by omega)] at hd
        rw [if_pos hv, hd]
        exact ⟨z, rfl, hG⟩
    · rw [hr] at cc
      repeat' (first
        | with_reducible refine s_seq ?_
        | with_reducible refine s_then ?_
        | with_reducible refine s_thenR ?_
        | with_reducible refine s_thenE ?_
        | with_reducible refine s_skip ?_
        | with_reducible refine s_ret ?_
        | with_reducible refine s_block ?_
        | with_reducible refine s_blkN ?_
        | with_reducible refine s_blkR ?_
        | with_reducible refine s_blkE ?_
        | with_reducible refine l_exit ?_
        | with_reducible refine l_ret ?_
        | with_reducible refine s_end ?_
        | with_reducible refine s_reg ?_
        | with_reducible refine s_blkX (by rfl) ?_
        | with_reducible refine s_exit ?_
        | ((with_reducible refine is_cond ?_); first | refine s_condT (by first | exact e_t (by rfl) | exact e_c | exact e_f) ?_ | refine s_condF (by first | exact e_t (by rfl) | exact e_c | exact e_f) ?_)
        | ((with_reducible refine is_sG _ ?_); refine s_gN (by rfl) ?_; simp only [Fr.put, List.set_cons_succ, List.set_cons_zero])
        | ((with_reducible refine is_s (.move _) ?_); refine s_gL (by rfl) (x_move (by first | exact e_t (by rfl) | exact e_c | exact e_f)) ?_; simp only [Fr.put, List.set_cons_succ, List.set_cons_zero])
        | ((with_reducible refine is_s (.assign _) ?_); refine s_gL (by rfl) (x_assign (by first | exact e_t (by rfl) | exact e_c | exact e_f)) ?_; simp only [Fr.put, List.set_cons_succ, List.set_cons_zero])
        | ((with_reducible refine is_s (.pick _ _ _) ?_); refine s_gL (by rfl) (x_pickT (by first | exact e_t (by rfl) | exact e_c | exact e_f) (by first | exact e_t (by rfl) | exact e_c | exact e_f)) ?_; simp only [Fr.put, List.set_cons_succ, List.set_cons_zero])
        | ((with_reducible refine is_s (.pick _ _ _) ?_); refine s_gL (by rfl) (x_pickF (by first | exact e_t (by rfl) | exact e_c | exact e_f) (by first | exact e_t (by rfl) | exact e_c | exact e_f)) ?_; simp only [Fr.put, List.set_cons_succ, List.set_cons_zero])
        | ((with_reducible refine is_s (.unOp .not _ _) ?_); refine s_gL (by rfl) (x_notT (by first | exact e_t (by rfl) | exact e_c | exact e_f)) ?_; simp only [Fr.put, List.set_cons_succ, List.set_cons_zero])
        | ((with_reducible refine is_s (.unOp .not _ _) ?_); refine s_gL (by rfl) (x_notF (by first | exact e_t (by rfl) | exact e_c | exact e_f)) ?_; simp only [Fr.put, List.set_cons_succ, List.set_cons_zero])
        | ((with_reducible refine is_s (.extract _ _) ?_); refine s_gL (by rfl) (x_extract (by first | exact e_t (by rfl) | exact e_c | exact e_f) (by rfl)) ?_; simp only [Fr.put, List.set_cons_succ, List.set_cons_zero])
        | ((with_reducible refine is_s (.binOp .add _ _ _ _) ?_); refine s_gL (by rfl) (x_add (by first | exact e_t (by rfl) | exact e_c | exact e_f) (by first | exact e_t (by rfl) | exact e_c | exact e_f) (by first | exact wrap_i64_in (by omega) (by omega) | exact wrap_u64_in (by omega) (by omega) | rfl)) ?_; simp only [Fr.put, List.set_cons_succ, List.set_cons_zero])
        | ((with_reducible refine is_s (.binOp .sub _ _ _ _) ?_); refine s_gL (by rfl) (x_sub (by first | exact e_t (by rfl) | exact e_c | exact e_f) (by first | exact e_t (by rfl) | exact e_c | exact e_f) (by first | exact wrap_i64_in (by omega) (by omega) | exact wrap_u64_in (by omega) (by omega) | rfl)) ?_; simp only [Fr.put, List.set_cons_succ, List.set_cons_zero])
        | ((with_reducible refine is_s (.convert _ _ _) ?_); refine s_gL (by rfl) (x_conv (by first | exact u_3 | exact u_45 | exact u_49 | exact u_22) (by first | exact u_3 | exact u_45 | exact u_49 | exact u_22) (by first | exact e_t (by rfl) | exact e_c | exact e_f) (by first | exact wrap_i64_in (by omega) (by omega) | exact wrap_u64_in (by omega) (by omega) | rfl)) ?_; simp only [Fr.put, List.set_cons_succ, List.set_cons_zero])
        | ((with_reducible refine is_s (.binOp .shr _ _ _ _) ?_); refine s_gL (by rfl) (x_shr (m := 1) (by first | exact e_t (by rfl) | exact e_c | exact e_f) (by first | exact e_t (by rfl) | exact e_c | exact e_f) rfl (by show _ ≤ 64; omega) (by omega)) ?_; simp only [Fr.put, List.set_cons_succ, List.set_cons_zero])
        | ((with_reducible refine is_s (.binOp .shr _ _ _ _) ?_); refine s_gL (by rfl) (x_shr (by first | exact e_t (by rfl) | exact e_c | exact e_f) (by first | exact e_t (by rfl) | exact e_c | exact e_f) (by first | rfl | exact (Int.toNat_of_nonneg (by omega)).symm) (by show _ ≤ 64; omega) (by omega)) ?_; simp only [Fr.put, List.set_cons_succ, List.set_cons_zero])
        | ((with_reducible refine is_s (.binOp .shl _ _ _ _) ?_); refine s_gL (by rfl) (x_shl1 (by first | exact e_t (by rfl) | exact e_c | exact e_f) (by first | exact e_t (by rfl) | exact e_c | exact e_f) (by first | rfl | exact (Int.toNat_of_nonneg (by omega)).symm) (by omega)) ?_; simp only [Fr.put, List.set_cons_succ, List.set_cons_zero])
        | ((with_reducible refine is_s (.makeFunc _ _ _) ?_); refine s_gL (by rfl) (x_func1 (by first | exact e_t (by rfl) | exact e_c | exact e_f)) ?_; simp only [Fr.put, List.set_cons_succ, List.set_cons_zero])
        | ((with_reducible refine is_s (.makeFunc _ _ _) ?_); refine s_gL (by rfl) (x_func2 (by first | exact e_t (by rfl) | exact e_c | exact e_f) (by first | exact e_t (by rfl) | exact e_c | exact e_f)) ?_; simp only [Fr.put, List.set_cons_succ, List.set_cons_zero])
        | ((with_reducible refine is_s (.makeFunc _ _ _) ?_); refine s_gL (by rfl) (x_func3 (by first | exact e_t (by rfl) | exact e_c | exact e_f) (by first | exact e_t (by rfl) | exact e_c | exact e_f) (by first | exact e_t (by rfl) | exact e_c | exact e_f)) ?_; simp only [Fr.put, List.set_cons_succ, List.set_cons_zero])
        | ((with_reducible refine is_s (.makeFunc _ _ _) ?_); refine s_gL (by rfl) (x_func (by rfl)) ?_; simp only [Fr.put, List.set_cons_succ, List.set_cons_zero])
        | ((with_reducible refine is_s (.load _ _) ?_); refine s_gL (by rfl) (x_load (by first | exact e_t (by rfl) | exact e_c | exact e_f) (by rfl)) ?_; simp only [Fr.put, List.set_cons_succ, List.set_cons_zero])
        | ((with_reducible refine is_s (.binOp .eql _ _ _ _) ?_); refine s_gB (by rfl) (x_eq (by first | exact e_t (by rfl) | exact e_c | exact e_f) (by first | exact e_t (by rfl) | exact e_c | exact e_f)) (fun hb => ?_) (fun hb => ?_) <;> simp only [decide_eq_true_eq, decide_eq_false_iff_not, Bool.not_eq_true', Bool.not_eq_false', not_true_eq_false, not_false_eq_true] at hb <;> first | (exfalso; omega) | (simp only [Fr.put, List.set_cons_succ, List.set_cons_zero]))
        | ((with_reducible refine is_s (.binOp .neq _ _ _ _) ?_); refine s_gB (by rfl) (x_ne (by first | exact e_t (by rfl) | exact e_c | exact e_f) (by first | exact e_t (by rfl) | exact e_c | exact e_f)) (fun hb => ?_) (fun hb => ?_) <;> simp only [decide_eq_true_eq, decide_eq_false_iff_not, Bool.not_eq_true', Bool.not_eq_false', not_true_eq_false, not_false_eq_true] at hb <;> first | (exfalso; omega) | (simp only [Fr.put, List.set_cons_succ, List.set_cons_zero]))
        | ((with_reducible refine is_s (.binOp .lss _ _ _ _) ?_); refine s_gB (by rfl) (x_lt (by first | exact e_t (by rfl) | exact e_c | exact e_f) (by first | exact e_t (by rfl) | exact e_c | exact e_f)) (fun hb => ?_) (fun hb => ?_) <;> simp only [decide_eq_true_eq, decide_eq_false_iff_not, Bool.not_eq_true', Bool.not_eq_false', not_true_eq_false, not_false_eq_true] at hb <;> first | (exfalso; omega) | (simp only [Fr.put, List.set_cons_succ, List.set_cons_zero]))
        | ((with_reducible refine is_s (.binOp .leq _ _ _ _) ?_); refine s_gB (by rfl) (x_le (by first | exact e_t (by rfl) | exact e_c | exact e_f) (by first | exact e_t (by rfl) | exact e_c | exact e_f)) (fun hb => ?_) (fun hb => ?_) <;> simp only [decide_eq_true_eq, decide_eq_false_iff_not, Bool.not_eq_true', Bool.not_eq_false', not_true_eq_false, not_false_eq_true] at hb <;> first | (exfalso; omega) | (simp only [Fr.put, List.set_cons_succ, List.set_cons_zero]))
        | ((with_reducible refine is_s (.binOp .gtr _ _ _ _) ?_); refine s_gB (by rfl) (x_gt (by first | exact e_t (by rfl) | exact e_c | exact e_f) (by first | exact e_t (by rfl) | exact e_c | exact e_f)) (fun hb => ?_) (fun hb => ?_) <;> simp only [decide_eq_true_eq, decide_eq_false_iff_not, Bool.not_eq_true', Bool.not_eq_false', not_true_eq_false, not_false_eq_true] at hb <;> first | (exfalso; omega) | (simp only [Fr.put, List.set_cons_succ, List.set_cons_zero]))
        | ((with_reducible refine is_s (.binOp .geq _ _ _ _) ?_); refine s_gB (by rfl) (x_ge (by first | exact e_t (by rfl) | exact e_c | exact e_f) (by first | exact e_t (by rfl) | exact e_c | exact e_f)) (fun hb => ?_) (fun hb => ?_) <;> simp only [decide_eq_true_eq, decide_eq_false_iff_not, Bool.not_eq_true', Bool.not_eq_false', not_true_eq_false, not_false_eq_true] at hb <;> first | (exfalso; omega) | (simp only [Fr.put, List.set_cons_succ, List.set_cons_zero]))
        | ((with_reducible refine is_s (.call ⟨.value (.func 11), _, _⟩) ?_); refine s_gK (by rfl) (by rfl) ok_11 rfl (cc (by omega)) ?_; simp only [Fr.put, List.set_cons_succ, List.set_cons_zero])
        | ((with_reducible refine is_s (.load _ _) ?_); refine s_gL (by rfl) (x_load1 (by first | exact s1_3 | exact s1_49 | exact s1_53 | exact s1_22) (by first | exact e_t (by rfl) | exact e_c | exact e_f) (by rfl) (by rfl)) ?_; simp only [Fr.put, List.set_cons_succ, List.set_cons_zero])
        | ((with_reducible refine is_s (.indexAddr _ _ _) ?_); refine s_gL (by rfl) (x_idxS (by first | exact sl_32) (by first | exact e_t (by rfl) | exact e_c | exact e_f) (by first | exact e_t (by rfl) | exact e_c | exact e_f) (by omega) (by omega)) ?_; simp only [Fr.put, List.set_cons_succ, List.set_cons_zero])
        | ((with_reducible refine is_s (.call ⟨.builtin .len, _, _⟩) ?_); refine s_gL (by rfl) (x_lenI hSH (by first | exact sl_32) (by first | exact e_t (by rfl) | exact e_c | exact e_f)) ?_; simp only [Fr.put, List.set_cons_succ, List.set_cons_zero])
        | ((with_reducible refine is_s (.indexAddr _ _ _) ?_); refine s_gL (by rfl) (x_idxI hSH (by first | exact sl_32) (by first | exact e_t (by rfl) | exact e_c | exact e_f) (by first | exact e_t (by rfl) | exact e_c | exact e_f) (by omega) (by omega)) ?_; simp only [Fr.put, List.set_cons_succ, List.set_cons_zero])
        | ((with_reducible refine is_s (.load _ _) ?_); refine s_gL (by rfl) (x_loadI hSH (by first | exact s1_3 | exact s1_49 | exact s1_53 | exact s1_22) (by first | exact e_t (by rfl) | exact e_c | exact e_f) (by omega) (by omega)) ?_; simp only [Fr.put, List.set_cons_succ, List.set_cons_zero, Int.toNat_natCast])
        | ((with_reducible refine is_s (.box _ _) ?_); refine s_gH (by rfl) (x_box1 (by first | exact s1_3 | exact s1_49 | exact s1_53 | exact s1_22) (by first | exact e_t (by rfl) | exact e_c | exact e_f) rfl) ?_; simp only [Fr.put, List.set_cons_succ, List.set_cons_zero, List.length_cons, List.length_nil, List.nil_append, List.cons_append, Nat.reduceAdd])
        | ((with_reducible refine is_s (.store _ _ _) ?_); refine s_gH (by rfl) (x_store1 (by first | exact s1_3 | exact s1_49 | exact s1_53 | exact s1_22) (by first | exact e_t (by rfl) | exact e_c | exact e_f) (by first | exact e_t (by rfl) | exact e_c | exact e_f) rfl (by rfl) (by simp only [List.length_cons, List.length_nil]; omega)) ?_; simp only [Fr.put, List.set_cons_succ, List.set_cons_zero, List.length_cons, List.length_nil, List.nil_append, List.cons_append, Nat.reduceAdd])
        )
      · refine k_2 rfl (by rfl) (by rfl) ⟨hL.toExt, ?_⟩
        have h5 : codesO k l = none := by
          rw [← List.take_append_drop (i + 1) l]
          refine codesO_cut k _ _ ?_
          rw [take_snoc (by omega), codesO_snoc, hd, hn]
        rw [if_pos hv, h5]
      · refine k_2 rfl (by rfl) (by rfl) ⟨hL.toExt, ?_⟩
        rw [List.take_of_length_le (by omega)] at hd
        rw [if_pos hv, hd]
        exact ⟨z, rfl, hG⟩
  · refine acalls_of_wk hm Try.func19 rfl ?_
    simp only [Try.ntmps19, List.length_cons, List.length_nil, Nat.reduceAdd, Nat.reduceSub, List.reduceReplicate, List.cons_append, List.nil_append]
    show wk _ _ none _ _ ⟨_, []⟩ _
    repeat' (first
      | with_reducible refine s_seq ?_
      | with_reducible refine s_then ?_
      | with_reducible refine s_thenR ?_
      | with_reducible refine s_thenE ?_
      | with_reducible refine s_skip ?_
      | with_reducible refine s_ret ?_
      | with_reducible refine s_block ?_
      | with_reducible refine s_blkN ?_
      | with_reducible refine s_blkR ?_
      | with_reducible refine s_blkE ?_
      | with_reducible refine l_exit ?_
      | with_reducible refine l_ret ?_
      | with_reducible refine s_end ?_
      | with_reducible refine s_reg ?_
      | with_reducible refine s_blkX (by rfl) ?_
      | with_reducible refine s_exit ?_
      | ((with_reducible refine is_cond ?_); first | refine s_condT (by first | exact e_t (by rfl) | exact e_c | exact e_f) ?_ | refine s_condF (by first | exact e_t (by rfl) | exact e_c | exact e_f) ?_)
      | ((with_reducible refine is_sG _ ?_); refine s_gN (by rfl) ?_; simp only [Fr.put, List.set_cons_succ, List.set_cons_zero])
      | ((with_reducible refine is_s (.move _) ?_); refine s_gL (by rfl) (x_move (by first | exact e_t (by rfl) | exact e_c | exact e_f)) ?_; simp only [Fr.put, List.set_cons_succ, List.set_cons_zero])
      | ((with_reducible refine is_s (.assign _) ?_); refine s_gL (by rfl) (x_assign (by first | exact e_t (by rfl) | exact e_c | exact e_f)) ?_; simp only [Fr.put, List.set_cons_succ, List.set_cons_zero])
      | ((with_reducible refine is_s (.pick _ _ _) ?_); refine s_gL (by rfl) (x_pickT (by first | exact e_t (by rfl) | exact e_c | exact e_f) (by first | exact e_t (by rfl) | exact e_c | exact e_f)) ?_; simp only [Fr.put, List.set_cons_succ, List.set_cons_zero])
      | ((with_reducible refine is_s (.pick _ _ _) ?_); refine s_gL (by rfl) (x_pickF (by first | exact e_t (by rfl) | exact e_c | exact e_f) (by first | exact e_t (by rfl) | exact e_c | exact e_f)) ?_; simp only [Fr.put, List.set_cons_succ, List.set_cons_zero])
      | ((with_reducible refine is_s (.unOp .not _ _) ?_); refine s_gL (by rfl) (x_notT (by first | exact e_t (by rfl) | exact e_c | exact e_f)) ?_; simp only [Fr.put, List.set_cons_succ, List.set_cons_zero])
      | ((with_reducible refine is_s (.unOp .not _ _) ?_); refine s_gL (by rfl) (x_notF (by first | exact e_t (by rfl) | exact e_c | exact e_f)) ?_; simp only [Fr.put, List.set_cons_succ, List.set_cons_zero])
      | ((with_reducible refine is_s (.extract _ _) ?_); refine s_gL (by rfl) (x_extract (by first | exact e_t (by rfl) | exact e_c | exact e_f) (by rfl)) ?_; simp only [Fr.put, List.set_cons_succ, List.set_cons_zero])
      | ((with_reducible refine is_s (.binOp .add _ _ _ _) ?_); refine s_gL (by rfl) (x_add (by first | exact e_t (by rfl) | exact e_c | exact e_f) (by first | exact e_t (by rfl) | exact e_c | exact e_f) (by first | exact wrap_i64_in (by omega) (by omega) | exact wrap_u64_in (by omega) (by omega) | rfl)) ?_; simp only [Fr.put, List.set_cons_succ, List.set_cons_zero])
      | ((with_reducible refine is_s (.binOp .sub _ _ _ _) ?_); refine s_gL (by rfl) (x_sub (by first | exact e_t (by rfl) | exact e_c | exact e_f) (by first | exact e_t (by rfl) | exact e_c | exact e_f) (by first | exact wrap_i64_in (by omega) (by omega) | exact wrap_u64_in (by omega) (by omega) | rfl)) ?_; simp only [Fr.put, List.set_cons_succ, List.set_cons_zero])
      | ((with_reducible refine is_s (.convert _ _ _) ?_); refine s_gL (by rfl) (x_conv (by first | exact u_3 | exact u_45 | exact u_49 | exact u_22) (by first | exact u_3 | exact u_45 | exact u_49 | exact u_22) (by first | exact e_t (by rfl) | exact e_c | exact e_f) (by first | exact wrap_i64_in (by omega) (by omega) | exact wrap_u64_in (by omega) (by omega) | rfl)) ?_; simp only [Fr.put, List.set_cons_succ, List.set_cons_zero])
      | ((with_reducible refine is_s (.binOp .shr _ _ _ _) ?_); refine s_gL (by rfl) (x_shr (m := 1) (by first | exact e_t (by rfl) | exact e_c | exact e_f) (by first | exact e_t (by rfl) | exact e_c | exact e_f) rfl (by show _ ≤ 64; omega) (by omega)) ?_; simp only [Fr.put, List.set_cons_succ, List.set_cons_zero])
      | ((with_reducible refine is_s (.binOp .shr _ _ _ _) ?_); refine s_gL (by rfl) (x_shr (by first | exact e_t (by rfl) | exact e_c | exact e_f) (by first | exact e_t (by rfl) | exact e_c | exact e_f) (by first | rfl | exact (Int.toNat_of_nonneg (by omega)).symm) (by show _ ≤ 64; omega) (by omega)) ?_; simp only [Fr.put, List.set_cons_succ, List.set_cons_zero])
      | ((with_reducible refine is_s (.binOp .shl _ _ _ _) ?_); refine s_gL (by rfl) (x_shl1 (by first | exact e_t (by rfl) | exact e_c | exact e_f) (by first | exact e_t (by rfl) | exact e_c | exact e_f) (by first | rfl | exact (Int.toNat_of_nonneg (by omega)).symm) (by omega)) ?_; simp only [Fr.put, List.set_cons_succ, List.set_cons_zero])
      | ((with_reducible refine is_s (.makeFunc _ _ _) ?_); refine s_gL (by rfl) (x_func1 (by first | exact e_t (by rfl) | exact e_c | exact e_f)) ?_; simp only [Fr.put, List.set_cons_succ, List.set_cons_zero])
      | ((with_reducible refine is_s (.makeFunc _ _ _) ?_); refine s_gL (by rfl) (x_func2 (by first | exact e_t (by rfl) | exact e_c | exact e_f) (by first | exact e_t (by rfl) | exact e_c | exact e_f)) ?_; simp only [Fr.put, List.set_cons_succ, List.set_cons_zero])
      | ((with_reducible refine is_s (.makeFunc _ _ _) ?_); refine s_gL (by rfl) (x_func3 (by first | exact e_t (by rfl) | exact e_c | exact e_f) (by first | exact e_t (by rfl) | exact e_c | exact e_f) (by first | exact e_t (by rfl) | exact e_c | exact e_f)) ?_; simp only [Fr.put, List.set_cons_succ, List.set_cons_zero])
      | ((with_reducible refine is_s (.makeFunc _ _ _) ?_); refine s_gL (by rfl) (x_func (by rfl)) ?_; simp only [Fr.put, List.set_cons_succ, List.set_cons_zero])
      | ((with_reducible refine is_s (.load _ _) ?_); refine s_gL (by rfl) (x_load (by first | exact e_t (by rfl) | exact e_c | exact e_f) (by rfl)) ?_; simp only [Fr.put, List.set_cons_succ, List.set_cons_zero])
      | ((with_reducible refine is_s (.binOp .eql _ _ _ _) ?_); refine s_gB (by rfl) (x_eq (by first | exact e_t (by rfl) | exact e_c | exact e_f) (by first | exact e_t (by rfl) | exact e_c | exact e_f)) (fun hb => ?_) (fun hb => ?_) <;> simp only [decide_eq_true_eq, decide_eq_false_iff_not, Bool.not_eq_true', Bool.not_eq_false', not_true_eq_false, not_false_eq_true] at hb <;> first | (exfalso; omega) | (simp only [Fr.put, List.set_cons_succ, List.set_cons_zero]))
      | ((with_reducible refine is_s (.binOp .neq _ _ _ _) ?_); refine s_gB (by rfl) (x_ne (by first | exact e_t (by rfl) | exact e_c | exact e_f) (by first | exact e_t (by rfl) | exact e_c | exact e_f)) (fun hb => ?_) (fun hb => ?_) <;> simp only [decide_eq_true_eq, decide_eq_false_iff_not, Bool.not_eq_true', Bool.not_eq_false', not_true_eq_false, not_false_eq_true] at hb <;> first | (exfalso; omega) | (simp only [Fr.put, List.set_cons_succ, List.set_cons_zero]))
      | ((with_reducible refine is_s (.binOp .lss _ _ _ _) ?_); refine s_gB (by rfl) (x_lt (by first | exact e_t (by rfl) | exact e_c | exact e_f) (by first | exact e_t (by rfl) | exact e_c | exact e_f)) (fun hb => ?_) (fun hb => ?_) <;> simp only [decide_eq_true_eq, decide_eq_false_iff_not, Bool.not_eq_true', Bool.not_eq_false', not_true_eq_false, not_false_eq_true] at hb <;> first | (exfalso; omega) | (simp only [Fr.put, List.set_cons_succ, List.set_cons_zero]))
      | ((with_reducible refine is_s (.binOp .leq _ _ _ _) ?_); refine s_gB (by rfl) (x_le (by first | exact e_t (by rfl) | exact e_c | exact e_f) (by first | exact e_t (by rfl) | exact e_c | exact e_f)) (fun hb => ?_) (fun hb => ?_) <;> simp only [decide_eq_true_eq, decide_eq_false_iff_not, Bool.not_eq_true', Bool.not_eq_false', not_true_eq_false, not_false_eq_true] at hb <;> first | (exfalso; omega) | (simp only [Fr.put, List.set_cons_succ, List.set_cons_zero]))
      | ((with_reducible refine is_s (.binOp .gtr _ _ _ _) ?_); refine s_gB (by rfl) (x_gt (by first | exact e_t (by rfl) | exact e_c | exact e_f) (by first | exact e_t (by rfl) | exact e_c | exact e_f)) (fun hb => ?_) (fun hb => ?_) <;> simp only [decide_eq_true_eq, decide_eq_false_iff_not, Bool.not_eq_true', Bool.not_eq_false', not_true_eq_false, not_false_eq_true] at hb <;> first | (exfalso; omega) | (simp only [Fr.put, List.set_cons_succ, List.set_cons_zero]))
      | ((with_reducible refine is_s (.binOp .geq _ _ _ _) ?_); refine s_gB (by rfl) (x_ge (by first | exact e_t (by rfl) | exact e_c | exact e_f) (by first | exact e_t (by rfl) | exact e_c | exact e_f)) (fun hb => ?_) (fun hb => ?_) <;> simp only [decide_eq_true_eq, decide_eq_false_iff_not, Bool.not_eq_true', Bool.not_eq_false', not_true_eq_false, not_false_eq_true] at hb <;> first | (exfalso; omega) | (simp only [Fr.put, List.set_cons_succ, List.set_cons_zero]))
      | ((with_reducible refine is_s (.call ⟨.value (.func 30), _, _⟩) ?_); refine s_gKB (by rfl) (by rfl) ok_30 rfl (valid_any _) (fun hb => ?_) (fun hb => ?_) <;> simp only [decide_eq_true_eq, decide_eq_false_iff_not, Bool.not_eq_true', Bool.not_eq_false', not_true_eq_false, not_false_eq_true] at hb <;> first | (exfalso; omega) | (simp only [Fr.put, List.set_cons_succ, List.set_cons_zero]))
      | ((with_reducible refine is_s (.load _ _) ?_); refine s_gL (by rfl) (x_load1 (by first | exact s1_3 | exact s1_49 | exact s1_53 | exact s1_22) (by first | exact e_t (by rfl) | exact e_c | exact e_f) (by rfl) (by rfl)) ?_; simp only [Fr.put, List.set_cons_succ, List.set_cons_zero])
      | ((with_reducible refine is_s (.indexAddr _ _ _) ?_); refine s_gL (by rfl) (x_idxS (by first | exact sl_32) (by first | exact e_t (by rfl) | exact e_c | exact e_f) (by first | exact e_t (by rfl) | exact e_c | exact e_f) (by omega) (by omega)) ?_; simp only [Fr.put, List.set_cons_succ, List.set_cons_zero])
      | ((with_reducible refine is_s (.box _ _) ?_); refine s_gH (by rfl) (x_box1 (by first | exact s1_3 | exact s1_49 | exact s1_53 | exact s1_22) (by first | exact e_t (by rfl) | exact e_c | exact e_f) rfl) ?_; simp only [Fr.put, List.set_cons_succ, List.set_cons_zero, List.length_cons, List.length_nil, List.nil_append, List.cons_append, Nat.reduceAdd])
      | ((with_reducible refine is_s (.store _ _ _) ?_); refine s_gH (by rfl) (x_store1 (by first | exact s1_3 | exact s1_49 | exact s1_53 | exact s1_22) (by first | exact e_t (by rfl) | exact e_c | exact e_f) (by first | exact e_t (by rfl) | exact e_c | exact e_f) rfl (by rfl) (by simp only [List.length_cons, List.length_nil]; omega)) ?_; simp only [Fr.put, List.set_cons_succ, List.set_cons_zero, List.length_cons, List.length_nil, List.nil_append, List.cons_append, Nat.reduceAdd])
      )
    all_goals first | refine k_1 rfl (by rfl) ?_ | refine k_2 rfl (by rfl) (by rfl) ?_ | refine k_3 rfl (by rfl) (by rfl) (by rfl) ?_ | refine k_4 rfl (by rfl) (by rfl) (by rfl) (by rfl) ?_
    exact ⟨Ext.refl _, by rw [if_neg hv]⟩
end Go.Proofs.Ytcnkaplepgpmlaa
