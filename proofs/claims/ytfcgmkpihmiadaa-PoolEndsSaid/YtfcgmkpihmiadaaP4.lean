/-
  A part of the proof of a statement of a chapter's seat; conditions: stated at each theorem.
-/
import Derived.Test.YtfcgmkpihmiadaaP3
set_option linter.unusedVariables false
set_option linter.unusedSectionVars false
set_option linter.unusedSimpArgs false
set_option linter.unusedVariables false
set_option maxRecDepth 100000
set_option maxHeartbeats 8000000
namespace Go.Proofs.Ytfcgmkpihmiadaa
open Go.Az Go
theorem bs_24z : bslC Try.prog 24 0 [] = some (68, []) := by kernel_rfl
theorem eqn_24 : bin Try.prog .eql 24 (.v (.slice none 0 0)) (.v (.slice none 0 0)) = some (B true) := by kernel_rfl
theorem eqn_24s (i o n c : Nat) (u : Bool) : bin Try.prog .eql 24 (.sl i o n c u) (.v (.slice none 0 0)) = some (B false) := by kernel_rfl
instance : BS Try.prog 24 0 [] 68 [] := ⟨bs_24z⟩
instance : BN Try.prog .eql 24 (.v (.slice none 0 0)) (.v (.slice none 0 0)) true := ⟨eqn_24⟩
instance (i o n c : Nat) (u : Bool) : BN Try.prog .eql 24 (.sl i o n c u) (.v (.slice none 0 0)) false := ⟨eqn_24s i o n c u⟩
/-- 'append([]T(nil), s..)' behind an empty list of the call's own. -/
theorem app_copy {h : Hp} {s : AV} {l : List Tk} (hS : TS h s l) (hlen : l.length ≤ 1099511627776) : ∃ z H', app Try.prog (h ++ [.cells [] 68 true]) [24, 24] (.sl h.length 0 0 0 false) s = some (z, H') ∧ Own encT 4 68 H' z l ∧ Ext h H' ∧ (∀ i, objOf z = some i → h.length ≤ i) ∧ Tight z := by
  obtain ⟨z, H', e1, e2, e3, e4, e5⟩ := app_own' (P := Try.prog) (t := 24) (l := []) (s := .sl h.length 0 0 0 false) (H := h ++ [.cells [] 68 true]) encT_ok sl_24 el_68 (.inr ⟨h.length, 0, 0, false, [], rfl, ga0, by simp, by simp, by simp, by simp⟩) (hS.ext (ext_app _ _)) (by simp; omega)
  refine ⟨z, H', e1, e2, ⟨Nat.le_trans (by simp) e3.1, fun i hi => ?_⟩, fun i hi => ?_, e5 tight_f⟩
  · rw [e3.2 i (by simp; omega) (by simp [objOf]; omega), List.getElem?_append_left hi]
  · rcases e4 i hi with h1 | h1
    · simp [objOf] at h1; omega
    · simp at h1; omega
theorem clone_any (h : Hp) (s : AV) (l : List Tk) (hS : TS h s l) (hlen : l.length ≤ 1099511627776) : ACalls Try.prog 58 [s] h (fun r h' => RetS encT 68 h l r h') := by
  refine ret_own (e := 68) encT_ok encT_p id (fun _ _ => rfl) (fun _ _ h => h) ?_
  obtain ⟨z, H', e1, e2, e3, e4, e5⟩ := app_copy hS hlen
  rcases hS with ⟨rfl, rfl⟩ | ⟨i, o, c, u, cs, t, ow, rfl, h1, h2, h3⟩
  · refine acalls_of_wk hm Try.func58 rfl ?_
    simp only [Try.ntmps58, List.length_cons, List.length_nil, Nat.reduceAdd, Nat.reduceSub, List.reduceReplicate, List.cons_append, List.nil_append]
    show wk _ _ none _ _ ⟨_, []⟩ _
    focus
      with_reducible refine s_seq ?_
      with_reducible refine s_reg ?_
      refine sassign ?_
      simp only [pu', p0', c1', c0', i1', z0', b8_nat]
      with_reducible refine s_end ?_
      with_reducible refine s_then ?_
      with_reducible refine s_seq ?_
      with_reducible refine s_seq ?_
      with_reducible refine s_reg ?_
      refine smove ?_
      simp only [pu', p0', c1', c0', i1', z0', b8_nat]
      refine sbn (fun hb => ?_) (fun hb => ?_)
      simp only [decide_eq_true_eq, Int.toNat_natCast, decide_eq_false_iff_not, Bool.not_eq_true', Bool.not_eq_false', not_true_eq_false, not_false_eq_true, beq_self_eq_true, Bool.and_true, Bool.true_and, Bool.and_false, Bool.false_and, Bool.and_eq_true, Bool.and_eq_false_iff, beq_iff_eq, beq_eq_false_iff_ne, ne_eq, Bool.not_true, Bool.not_false, Bool.true_eq_false, Bool.false_eq_true, Bool.not_eq_true, Bool.not_eq_false, and_true, true_and, and_false, false_and, or_false, false_or, or_true, true_or] at hb
      simp only [pu', p0', c1', c0', i1', z0', b8_nat]
      with_reducible refine s_end ?_
      with_reducible refine s_then ?_
      refine sCT ?_
      with_reducible refine s_seq ?_
      with_reducible refine s_reg ?_
      refine sassign ?_
      simp only [pu', p0', c1', c0', i1', z0', b8_nat]
      with_reducible refine s_end ?_
      with_reducible refine s_then ?_
      with_reducible refine s_ret ?_
      with_reducible refine s_thenR ?_
      rotate_left 1
      cases hb
    all_goals try with_reducible refine w_n ?_
    all_goals refine w_1 rfl (by first | exact v_t (by rfl) | exact v_c1 (C1.p) (by rfl) (HA.p) (by rfl) | exact v_cF (CA.p) (by rfl) (HA.p) (by rfl)) ?_
    exact ⟨[], nilS, Ext.refl _, rfl, .inl ⟨rfl, rfl⟩, fun i hi => (by cases hi), tight_nil, fun _ _ hh => hh⟩
  · refine acalls_of_wk hm Try.func58 rfl ?_
    simp only [Try.ntmps58, List.length_cons, List.length_nil, Nat.reduceAdd, Nat.reduceSub, List.reduceReplicate, List.cons_append, List.nil_append]
    show wk _ _ none _ _ ⟨_, []⟩ _
    with_reducible refine s_seq ?_
    with_reducible refine s_reg ?_
    refine sassign ?_
    simp only [pu', p0', c1', c0', i1', z0', b8_nat]
    with_reducible refine s_end ?_
    with_reducible refine s_then ?_
    with_reducible refine s_seq ?_
    with_reducible refine s_seq ?_
    with_reducible refine s_reg ?_
    refine smove ?_
    simp only [pu', p0', c1', c0', i1', z0', b8_nat]
    refine sbn (fun hb => ?_) (fun hb => ?_)
    cases hb
    simp only [decide_eq_true_eq, Int.toNat_natCast, decide_eq_false_iff_not, Bool.not_eq_true', Bool.not_eq_false', not_true_eq_false, not_false_eq_true, beq_self_eq_true, Bool.and_true, Bool.true_and, Bool.and_false, Bool.false_and, Bool.and_eq_true, Bool.and_eq_false_iff, beq_iff_eq, beq_eq_false_iff_ne, ne_eq, Bool.not_true, Bool.not_false, Bool.true_eq_false, Bool.false_eq_true, Bool.not_eq_true, Bool.not_eq_false, and_true, true_and, and_false, false_and, or_false, false_or, or_true, true_or] at hb
    simp only [pu', p0', c1', c0', i1', z0', b8_nat]
    with_reducible refine s_end ?_
    with_reducible refine s_then ?_
    refine sCF ?_
    with_reducible refine s_skip ?_
    with_reducible refine s_then ?_
    with_reducible refine s_seq ?_
    with_reducible refine s_reg ?_
    refine sbsl ?_
    simp only [pu', p0', c1', c0', i1', n0', n3', n1', n2', a2', a1', a0', n4', Nat.reduceAdd, z0', n5', sa0, sa1, sa2, sa3, sa4, sa5, sa6, sa7, sa8, sa9, sa10, sa11]
    refine smove ?_
    simp only [pu', p0', c1', c0', i1', z0', b8_nat]
    refine s_gH (by rfl) (x_app (by exact e_any (by rfl)) (by exact e_any (by rfl)) e1) ?_
    simp only [Fr.put, List.set_cons_succ, List.set_cons_zero, Int.toNat_natCast, Nat.zero_add]
    refine sassign ?_
    simp only [pu', p0', c1', c0', i1', z0', b8_nat]
    with_reducible refine s_end ?_
    with_reducible refine s_then ?_
    with_reducible refine s_ret ?_
    all_goals try with_reducible refine w_n ?_
    all_goals refine w_1 rfl (by first | exact v_t (by rfl) | exact v_c1 (C1.p) (by rfl) (HA.p) (by rfl) | exact v_cF (CA.p) (by rfl) (HA.p) (by rfl)) ?_
    exact ⟨l, z, e3, rfl, e2, e4, e5, fun _ _ hh => hh⟩
theorem right_any (h : Hp) (s : AV) (l : List Tk) (hS : TS h s l) (hlen : l.length ≤ 1099511627776) : ACalls Try.prog 69 [s] h (fun r h' => r = I (jobsE l) ∧ h' = h) := by
  refine acalls_back ?_
  refine acalls_of_wk hm Try.func69 rfl ?_
  simp only [Try.ntmps69, List.length_cons, List.length_nil, Nat.reduceAdd, Nat.reduceSub, List.reduceReplicate, List.cons_append, List.nil_append]
  show wk _ _ none _ _ ⟨_, []⟩ _
  have el1 := mkEL encT_ok tk0 hS
  focus
    with_reducible refine s_seq ?_
    with_reducible refine s_reg ?_
    refine sassign ?_
    simp only [pu', p0', c1', c0', i1', z0', b8_nat]
    with_reducible refine s_end ?_
    with_reducible refine s_then ?_
    with_reducible refine s_seq ?_
    with_reducible refine s_seq ?_
    with_reducible refine s_reg ?_
    refine smove ?_
    simp only [pu', p0', c1', c0', i1', z0', b8_nat]
    refine slenE ?_
    simp only [pu', p0', c1', c0', i1', z0', b8_nat]
    refine sGt (fun hb => ?_) (fun hb => ?_)
    replace hb := dT' hb
    simp only [pu', p0', c1', c0', i1', z0', b8_nat]
    with_reducible refine s_end ?_
    with_reducible refine s_then ?_
    refine sCT ?_
    with_reducible refine s_seq ?_
    with_reducible refine s_reg ?_
    refine sassign ?_
    simp only [pu', p0', c1', c0', i1', z0', b8_nat]
    with_reducible refine s_end ?_
    with_reducible refine s_then ?_
    with_reducible refine s_ret ?_
    with_reducible refine s_thenR ?_
    rotate_left 1
    replace hb := dF' hb
    simp only [pu', p0', c1', c0', i1', z0', b8_nat]
    with_reducible refine s_end ?_
    with_reducible refine s_then ?_
    refine sCF ?_
    with_reducible refine s_skip ?_
    with_reducible refine s_then ?_
    with_reducible refine s_seq ?_
    with_reducible refine s_seq ?_
    with_reducible refine s_reg ?_
    refine smove ?_
    simp only [pu', p0', c1', c0', i1', z0', b8_nat]
    refine slenE ?_
    simp only [pu', p0', c1', c0', i1', z0', b8_nat]
    refine smove ?_
    simp only [pu', p0', c1', c0', i1', z0', b8_nat]
    with_reducible refine s_end ?_
    with_reducible refine s_then ?_
    with_reducible refine s_block ?_
    rotate_left 1
  · all_goals try with_reducible refine w_n ?_
    all_goals refine w_1 rfl (by first | exact v_t (by rfl) | exact v_c1 (C1.p) (by rfl) (HA.p) (by rfl) | exact v_cF (CA.p) (by rfl) (HA.p) (by rfl)) ?_
    exact ⟨rfl, Ext.refl _, by rw [jobsE, if_pos (by omega)], trivial⟩
  · refine s_loop hm (fun (b : Nat × Hp) s' => [s, U, I 0, U, s' 4, s' 5, s' 6, s' 7, s, I l.length, I b.1, s' 11, s' 12, s' 13, s' 14, s' 15, s' 16, s' 17, s' 18, s' 19, s' 20, s' 21, s' 22, s' 23, s' 24, s' 25, s' 26, s' 27, s' 28, s' 29, s' 30, s' 31, s' 32, s' 33, s' 34, s' 35, s' 36, s' 37, s' 38, s' 39, s' 40]) (fun b => b.2) (fun b => b.1 ≤ l.length ∧ Ext h b.2 ∧ errs (l.drop b.1) = errs l) (fun b => l.length - b.1) (0, h) (by rfl) rfl ⟨Nat.zero_le _, Ext.refl _, rfl⟩ ?_
    rintro ⟨i, H⟩ s' ⟨hi1, hx, hi2⟩
    simp only [] at hi1 hx hi2 ⊢
    have hH := hS.ext hx
    have el2 := mkEL encT_ok tk0 hH
    focus
      with_reducible refine s_seq ?_
      with_reducible refine s_reg ?_
      refine sLt (fun hb => ?_) (fun hb => ?_)
      replace hb := dT' hb
      simp only [pu', p0', c1', c0', i1', z0', b8_nat]
      with_reducible refine s_end ?_
      with_reducible refine s_then ?_
      with_reducible refine s_seq ?_
      refine sCT ?_
      with_reducible refine s_skip ?_
      with_reducible refine s_then ?_
      with_reducible refine s_seq ?_
      with_reducible refine s_block ?_
      with_reducible refine s_seq ?_
      with_reducible refine s_reg ?_
      refine sidxE ?_
      simp only [pu', p0', c1', c0', i1', z0', b8_nat]
      refine sloadE ?_
      simp only [pu', p0', c1', c0', i1', z0', b8_nat]
      refine salloc ?_
      simp only [pu', p0', c1', c0', i1', n0', n3', n1', n2', a2', a1', a0', n4', Nat.reduceAdd, z0', n5', sa0, sa1, sa2, sa3, sa4, sa5, sa6, sa7, sa8, sa9, sa10, sa11]
      refine sstoreF ?_
      simp only [pu', p0', c1', c0', i1', n0', n3', n1', n2', a2', a1', a0', n4', Nat.reduceAdd, z0', n5', sa0, sa1, sa2, sa3, sa4, sa5, sa6, sa7, sa8, sa9, sa10, sa11]
      with_reducible refine s_end ?_
      with_reducible refine s_then ?_
      with_reducible refine s_block ?_
      with_reducible refine s_seq ?_
      with_reducible refine s_reg ?_
      refine sfad ?_
      simp only [pu', p0', c1', c0', i1', z0', b8_nat]
      refine sload1 ?_
      simp only [pu', p0', c1', c0', i1', z0', b8_nat]
      refine sLt (fun hb => ?_) (fun hb => ?_)
      replace hb := dT' hb
      simp only [pu', p0', c1', c0', i1', z0', b8_nat]
      refine smove ?_
      simp only [pu', p0', c1', c0', i1', z0', b8_nat]
      refine sN ?_
      simp only [pu', p0', c1', c0', i1', z0', b8_nat]
      refine sN ?_
      simp only [pu', p0', c1', c0', i1', z0', b8_nat]
      refine sN ?_
      simp only [pu', p0', c1', c0', i1', z0', b8_nat]
      refine spickT ?_
      simp only [pu', p0', c1', c0', i1', z0', b8_nat]
      refine smove ?_
      simp only [pu', p0', c1', c0', i1', z0', b8_nat]
      refine sN ?_
      simp only [pu', p0', c1', c0', i1', z0', b8_nat]
      refine sN ?_
      simp only [pu', p0', c1', c0', i1', z0', b8_nat]
      refine sN ?_
      simp only [pu', p0', c1', c0', i1', z0', b8_nat]
      refine spickT ?_
      simp only [pu', p0', c1', c0', i1', z0', b8_nat]
      refine smove ?_
      simp only [pu', p0', c1', c0', i1', z0', b8_nat]
      refine sN ?_
      simp only [pu', p0', c1', c0', i1', z0', b8_nat]
      refine sN ?_
      simp only [pu', p0', c1', c0', i1', z0', b8_nat]
      refine sN ?_
      simp only [pu', p0', c1', c0', i1', z0', b8_nat]
      refine spickT ?_
      simp only [pu', p0', c1', c0', i1', z0', b8_nat]
      refine sassign ?_
      simp only [pu', p0', c1', c0', i1', z0', b8_nat]
      with_reducible refine s_end ?_
      with_reducible refine s_then ?_
      refine sCT ?_
      with_reducible refine s_seq ?_
      with_reducible refine s_reg ?_
      refine sassign ?_
      simp only [pu', p0', c1', c0', i1', z0', b8_nat]
      with_reducible refine s_end ?_
      with_reducible refine s_then ?_
      with_reducible refine s_ret ?_
      with_reducible refine s_blkR ?_
      with_reducible refine s_blkR ?_
      with_reducible refine s_thenR ?_
      with_reducible refine l_ret ?_
      with_reducible refine s_blkR ?_
      with_reducible refine s_thenR ?_
      rotate_left 1
      replace hb := dF' hb
      simp only [pu', p0', c1', c0', i1', z0', b8_nat]
      refine smove ?_
      simp only [pu', p0', c1', c0', i1', z0', b8_nat]
      refine sfad ?_
      simp only [pu', p0', c1', c0', i1', z0', b8_nat]
      refine sload1 ?_
      simp only [pu', p0', c1', c0', i1', z0', b8_nat]
      refine sGt (fun hb => ?_) (fun hb => ?_)
      replace hb := dT' hb
      simp only [pu', p0', c1', c0', i1', z0', b8_nat]
      refine spickF ?_
      simp only [pu', p0', c1', c0', i1', z0', b8_nat]
      refine smove ?_
      simp only [pu', p0', c1', c0', i1', z0', b8_nat]
      refine sN ?_
      simp only [pu', p0', c1', c0', i1', z0', b8_nat]
      refine sN ?_
      simp only [pu', p0', c1', c0', i1', z0', b8_nat]
      refine sN ?_
      simp only [pu', p0', c1', c0', i1', z0', b8_nat]
      refine spickT ?_
      simp only [pu', p0', c1', c0', i1', z0', b8_nat]
      refine smove ?_
      simp only [pu', p0', c1', c0', i1', z0', b8_nat]
      refine sN ?_
      simp only [pu', p0', c1', c0', i1', z0', b8_nat]
      refine sN ?_
      simp only [pu', p0', c1', c0', i1', z0', b8_nat]
      refine sN ?_
      simp only [pu', p0', c1', c0', i1', z0', b8_nat]
      refine spickT ?_
      simp only [pu', p0', c1', c0', i1', z0', b8_nat]
      refine sassign ?_
      simp only [pu', p0', c1', c0', i1', z0', b8_nat]
      with_reducible refine s_end ?_
      with_reducible refine s_then ?_
      refine sCT ?_
      with_reducible refine s_seq ?_
      with_reducible refine s_reg ?_
      refine sassign ?_
      simp only [pu', p0', c1', c0', i1', z0', b8_nat]
      with_reducible refine s_end ?_
      with_reducible refine s_then ?_
      with_reducible refine s_ret ?_
      with_reducible refine s_blkR ?_
      with_reducible refine s_blkR ?_
      with_reducible refine s_thenR ?_
      with_reducible refine l_ret ?_
      with_reducible refine s_blkR ?_
      with_reducible refine s_thenR ?_
      rotate_left 1
      replace hb := dF' hb
      simp only [pu', p0', c1', c0', i1', z0', b8_nat]
      refine spickF ?_
      simp only [pu', p0', c1', c0', i1', z0', b8_nat]
      refine smove ?_
      simp only [pu', p0', c1', c0', i1', z0', b8_nat]
      refine sfad ?_
      simp only [pu', p0', c1', c0', i1', z0', b8_nat]
      refine sload1 ?_
      simp only [pu', p0', c1', c0', i1', z0', b8_nat]
      refine sLt (fun hb => ?_) (fun hb => ?_)
      replace hb := dT' hb
      simp only [pu', p0', c1', c0', i1', z0', b8_nat]
      refine spickF ?_
      simp only [pu', p0', c1', c0', i1', z0', b8_nat]
      refine smove ?_
      simp only [pu', p0', c1', c0', i1', z0', b8_nat]
      refine sN ?_
      simp only [pu', p0', c1', c0', i1', z0', b8_nat]
      refine sN ?_
      simp only [pu', p0', c1', c0', i1', z0', b8_nat]
      refine sN ?_
      simp only [pu', p0', c1', c0', i1', z0', b8_nat]
      refine spickT ?_
      simp only [pu', p0', c1', c0', i1', z0', b8_nat]
      refine sassign ?_
      simp only [pu', p0', c1', c0', i1', z0', b8_nat]
      with_reducible refine s_end ?_
      with_reducible refine s_then ?_
      refine sCT ?_
      with_reducible refine s_seq ?_
      with_reducible refine s_reg ?_
      refine sassign ?_
      simp only [pu', p0', c1', c0', i1', z0', b8_nat]
      with_reducible refine s_end ?_
      with_reducible refine s_then ?_
      with_reducible refine s_ret ?_
      with_reducible refine s_blkR ?_
      with_reducible refine s_blkR ?_
      with_reducible refine s_thenR ?_
      with_reducible refine l_ret ?_
      with_reducible refine s_blkR ?_
      with_reducible refine s_thenR ?_
      rotate_left 1
      replace hb := dF' hb
      simp only [pu', p0', c1', c0', i1', z0', b8_nat]
      refine spickF ?_
      simp only [pu', p0', c1', c0', i1', z0', b8_nat]
      refine smove ?_
      simp only [pu', p0', c1', c0', i1', z0', b8_nat]
      refine sfad ?_
      simp only [pu', p0', c1', c0', i1', z0', b8_nat]
      refine sload1 ?_
      simp only [pu', p0', c1', c0', i1', z0', b8_nat]
      refine sGt (fun hb => ?_) (fun hb => ?_)
      replace hb := dT' hb
      simp only [pu', p0', c1', c0', i1', z0', b8_nat]
      refine spickF ?_
      simp only [pu', p0', c1', c0', i1', z0', b8_nat]
      refine sassign ?_
      simp only [pu', p0', c1', c0', i1', z0', b8_nat]
      with_reducible refine s_end ?_
      with_reducible refine s_then ?_
      refine sCT ?_
      with_reducible refine s_seq ?_
      with_reducible refine s_reg ?_
      refine sassign ?_
      simp only [pu', p0', c1', c0', i1', z0', b8_nat]
      with_reducible refine s_end ?_
      with_reducible refine s_then ?_
      with_reducible refine s_ret ?_
      with_reducible refine s_blkR ?_
      with_reducible refine s_blkR ?_
      with_reducible refine s_thenR ?_
      with_reducible refine l_ret ?_
      with_reducible refine s_blkR ?_
      with_reducible refine s_thenR ?_
      rotate_left 1
      replace hb := dF' hb
      simp only [pu', p0', c1', c0', i1', z0', b8_nat]
      refine spickF ?_
      simp only [pu', p0', c1', c0', i1', z0', b8_nat]
      refine sassign ?_
      simp only [pu', p0', c1', c0', i1', z0', b8_nat]
      with_reducible refine s_end ?_
      with_reducible refine s_then ?_
      refine sCF ?_
      with_reducible refine s_seq ?_
      with_reducible refine s_reg ?_
      refine sfad ?_
      simp only [pu', p0', c1', c0', i1', z0', b8_nat]
      refine sloadB1 (fun hb => ?_) (fun hb => ?_)
      simp only [pu', p0', c1', c0', i1', z0', b8_nat]
      refine smove ?_
      simp only [pu', p0', c1', c0', i1', z0', b8_nat]
      refine sfad ?_
      simp only [pu', p0', c1', c0', i1', z0', b8_nat]
      refine sloadB1 (fun hb => ?_) (fun hb => ?_)
      simp only [pu', p0', c1', c0', i1', z0', b8_nat]
      refine spickT ?_
      simp only [pu', p0', c1', c0', i1', z0', b8_nat]
      refine sassign ?_
      simp only [pu', p0', c1', c0', i1', z0', b8_nat]
      with_reducible refine s_end ?_
      with_reducible refine s_then ?_
      refine sCT ?_
      with_reducible refine s_seq ?_
      with_reducible refine s_reg ?_
      refine sassign ?_
      simp only [pu', p0', c1', c0', i1', z0', b8_nat]
      with_reducible refine s_end ?_
      with_reducible refine s_then ?_
      with_reducible refine s_ret ?_
      with_reducible refine s_blkR ?_
      with_reducible refine s_blkR ?_
      with_reducible refine s_thenR ?_
      with_reducible refine l_ret ?_
      with_reducible refine s_blkR ?_
      with_reducible refine s_thenR ?_
      rotate_left 1
      simp only [pu', p0', c1', c0', i1', z0', b8_nat]
      refine spickT ?_
      simp only [pu', p0', c1', c0', i1', z0', b8_nat]
      refine sassign ?_
      simp only [pu', p0', c1', c0', i1', z0', b8_nat]
      with_reducible refine s_end ?_
      with_reducible refine s_then ?_
      refine sCF ?_
      with_reducible refine s_skip ?_
      with_reducible refine s_blkN ?_
      with_reducible refine s_blkN ?_
      with_reducible refine s_then ?_
      with_reducible refine s_reg ?_
      refine sadd ?_
      simp only [pu', p0', c1', c0', i1', z0', b8_nat]
      refine smove ?_
      simp only [pu', p0', c1', c0', i1', z0', b8_nat]
      with_reducible refine s_end ?_
      rotate_left 1
      simp only [pu', p0', c1', c0', i1', z0', b8_nat]
      refine smove ?_
      simp only [pu', p0', c1', c0', i1', z0', b8_nat]
      refine sN ?_
      simp only [pu', p0', c1', c0', i1', z0', b8_nat]
      refine sN ?_
      simp only [pu', p0', c1', c0', i1', z0', b8_nat]
      refine spickF ?_
      simp only [pu', p0', c1', c0', i1', z0', b8_nat]
      refine sassign ?_
      simp only [pu', p0', c1', c0', i1', z0', b8_nat]
      with_reducible refine s_end ?_
      with_reducible refine s_then ?_
      refine sCF ?_
      with_reducible refine s_skip ?_
      with_reducible refine s_blkN ?_
      with_reducible refine s_blkN ?_
      with_reducible refine s_then ?_
      with_reducible refine s_reg ?_
      refine sadd ?_
      simp only [pu', p0', c1', c0', i1', z0', b8_nat]
      refine smove ?_
      simp only [pu', p0', c1', c0', i1', z0', b8_nat]
      with_reducible refine s_end ?_
      rotate_left 1
      replace hb := dF' hb
      simp only [pu', p0', c1', c0', i1', z0', b8_nat]
      with_reducible refine s_end ?_
      with_reducible refine s_then ?_
      with_reducible refine s_seq ?_
      refine sCF ?_
      with_reducible refine s_exit ?_
      with_reducible refine s_thenE ?_
      with_reducible refine l_exit ?_
      with_reducible refine s_blkE ?_
      with_reducible refine s_then ?_
      with_reducible refine s_seq ?_
      with_reducible refine s_reg ?_
      refine sassign ?_
      simp only [pu', p0', c1', c0', i1', z0', b8_nat]
      with_reducible refine s_end ?_
      with_reducible refine s_then ?_
      with_reducible refine s_ret ?_
      rotate_left 1
    all_goals first
      | (refine l_next (i + 1, _) ⟨by simp only []; omega, hx.trans (ext_app _ _), errs_snoc (by omega) hi2 (errT_0 (by omega) (by rintro ⟨x, y⟩; first | (rw [x] at hb; cases hb; done) | (rw [y] at hb; cases hb; done)))⟩ (by simp only []; omega) (by rfl) (by rfl); done)
      | (((try with_reducible refine w_n ?_); refine w_1 rfl (by first | exact v_t (by rfl) | exact v_c1 (C1.p) (by rfl) (HA.p) (by rfl) | exact v_cF (CA.p) (by rfl) (HA.p) (by rfl)) ?_); exact ⟨rfl, hx.trans (ext_app _ _), by rw [jobsE, if_neg (by omega), errs_at (by omega) hi2 (errT_2 (by omega)) (by omega)], trivial⟩)
      | (((try with_reducible refine w_n ?_); refine w_1 rfl (by first | exact v_t (by rfl) | exact v_c1 (C1.p) (by rfl) (HA.p) (by rfl) | exact v_cF (CA.p) (by rfl) (HA.p) (by rfl)) ?_); exact ⟨rfl, hx.trans (ext_app _ _), by rw [jobsE, if_neg (by omega), errs_at (by omega) hi2 (errT_10 (by omega) (by assumption) (by assumption)) (by omega)], trivial⟩)
      | (((try with_reducible refine w_n ?_); refine w_1 rfl (by first | exact v_t (by rfl) | exact v_c1 (C1.p) (by rfl) (HA.p) (by rfl) | exact v_cF (CA.p) (by rfl) (HA.p) (by rfl)) ?_); exact ⟨rfl, hx, by rw [jobsE, if_neg (by omega), ← hi2, List.drop_eq_nil_of_le (by omega)]; rfl, trivial⟩)
theorem free1_any (t : Tk) : ACalls Try.prog 72 [TA t] [] (fun r _ => r = B t.f ∧ r.sc 0 = true) := by
  refine acalls_of_wk hm Try.func72 rfl ?_
  simp only [Try.ntmps72, List.length_cons, List.length_nil, Nat.reduceAdd, Nat.reduceSub, List.reduceReplicate, List.cons_append, List.nil_append]
  show wk _ _ none _ _ ⟨_, []⟩ _
  focus
    with_reducible refine s_seq ?_
    with_reducible refine s_reg ?_
    refine sboxA ?_
    simp only [pu', p0', c1', c0', i1', n0', n3', n1', n2', a2', a1', a0', n4', Nat.reduceAdd, z0', n5', sa0, sa1, sa2, sa3, sa4, sa5, sa6, sa7, sa8, sa9, sa10, sa11]
    refine sassign ?_
    simp only [pu', p0', c1', c0', i1', z0', b8_nat]
    with_reducible refine s_end ?_
    with_reducible refine s_then ?_
    with_reducible refine s_seq ?_
    with_reducible refine s_reg ?_
    refine sfad ?_
    simp only [pu', p0', c1', c0', i1', z0', b8_nat]
    refine sloadB1 (fun hb => ?_) (fun hb => ?_)
    simp only [pu', p0', c1', c0', i1', z0', b8_nat]
    refine sassign ?_
    simp only [pu', p0', c1', c0', i1', z0', b8_nat]
    with_reducible refine s_end ?_
    with_reducible refine s_then ?_
    with_reducible refine s_ret ?_
    rotate_left 1
    simp only [pu', p0', c1', c0', i1', z0', b8_nat]
    refine sassign ?_
    simp only [pu', p0', c1', c0', i1', z0', b8_nat]
    with_reducible refine s_end ?_
    with_reducible refine s_then ?_
    with_reducible refine s_ret ?_
    rotate_left 1
  all_goals try with_reducible refine w_n ?_
  all_goals refine w_1 rfl (by first | exact v_t (by rfl) | exact v_c1 (C1.p) (by rfl) (HA.p) (by rfl) | exact v_cF (CA.p) (by rfl) (HA.p) (by rfl)) ?_
  all_goals exact ⟨by rw [hb], rfl⟩
theorem indexf_any (h : Hp) (s : AV) (l : List Tk) (hS : TS h s l) (hlen : l.length ≤ 1099511627776) : ACalls Try.prog 71 [s, .fn (.func 72) []] h (fun r h' => r = I (fr l 0) ∧ h' = h) := by
  refine acalls_of_wk hm Try.func71 rfl ?_
  simp only [Try.ntmps71, List.length_cons, List.length_nil, Nat.reduceAdd, Nat.reduceSub, List.reduceReplicate, List.cons_append, List.nil_append]
  show wk _ _ none _ _ ⟨_, []⟩ _
  have el5 := mkEL encT_ok tk0 hS
  with_reducible refine s_seq ?_
  with_reducible refine s_reg ?_
  refine sassign ?_
  simp only [pu', p0', c1', c0', i1', z0', b8_nat]
  with_reducible refine s_end ?_
  with_reducible refine s_then ?_
  with_reducible refine s_seq ?_
  with_reducible refine s_seq ?_
  with_reducible refine s_reg ?_
  refine smove ?_
  simp only [pu', p0', c1', c0', i1', z0', b8_nat]
  refine slenE ?_
  simp only [pu', p0', c1', c0', i1', z0', b8_nat]
  refine smove ?_
  simp only [pu', p0', c1', c0', i1', z0', b8_nat]
  with_reducible refine s_end ?_
  with_reducible refine s_then ?_
  with_reducible refine s_block ?_
  refine s_loop hm (fun (b : Nat) s' => [s, .fn (.func 72) [], U, U, I 0, s' 5, s' 6, I l.length, I b, s' 9, s' 10, s' 11, s' 12, s' 13, s' 14, s' 15, s' 16, s' 17, s' 18]) (fun _ => h) (fun b => b ≤ l.length ∧ fr (l.drop b) b = fr l 0) (fun b => l.length - b) 0 (by rfl) rfl ⟨Nat.zero_le _, rfl⟩ ?_
  rintro i s' ⟨hi1, hi2⟩
  have el6 := mkEL encT_ok tk0 hS
  focus
    with_reducible refine s_seq ?_
    with_reducible refine s_reg ?_
    refine sLt (fun hb => ?_) (fun hb => ?_)
    replace hb := dT' hb
    simp only [pu', p0', c1', c0', i1', z0', b8_nat]
    with_reducible refine s_end ?_
    with_reducible refine s_then ?_
    with_reducible refine s_seq ?_
    refine sCT ?_
    with_reducible refine s_skip ?_
    with_reducible refine s_then ?_
    with_reducible refine s_seq ?_
    with_reducible refine s_block ?_
    with_reducible refine s_seq ?_
    with_reducible refine s_reg ?_
    refine smove ?_
    simp only [pu', p0', c1', c0', i1', z0', b8_nat]
    refine sassign ?_
    simp only [pu', p0', c1', c0', i1', z0', b8_nat]
    with_reducible refine s_end ?_
    with_reducible refine s_then ?_
    with_reducible refine s_seq ?_
    with_reducible refine s_reg ?_
    refine smove ?_
    simp only [pu', p0', c1', c0', i1', z0', b8_nat]
    refine smove ?_
    simp only [pu', p0', c1', c0', i1', z0', b8_nat]
    refine smove ?_
    simp only [pu', p0', c1', c0', i1', z0', b8_nat]
    refine sidxE ?_
    simp only [pu', p0', c1', c0', i1', z0', b8_nat]
    refine sloadE ?_
    simp only [pu', p0', c1', c0', i1', z0', b8_nat]
    refine sKB (hx := rfl) (free1_any _) (fun hb => ?_) (fun hb => ?_)
    simp only [pu', p0', c1', c0', i1', z0', b8_nat]
    with_reducible refine s_end ?_
    with_reducible refine s_then ?_
    refine sCT ?_
    with_reducible refine s_seq ?_
    with_reducible refine s_reg ?_
    refine smove ?_
    simp only [pu', p0', c1', c0', i1', z0', b8_nat]
    refine sassign ?_
    simp only [pu', p0', c1', c0', i1', z0', b8_nat]
    with_reducible refine s_end ?_
    with_reducible refine s_then ?_
    with_reducible refine s_ret ?_
    with_reducible refine s_blkR ?_
    with_reducible refine s_thenR ?_
    with_reducible refine l_ret ?_
    with_reducible refine s_blkR ?_
    with_reducible refine s_thenR ?_
    rotate_left 1
    simp only [pu', p0', c1', c0', i1', z0', b8_nat]
    with_reducible refine s_end ?_
    with_reducible refine s_then ?_
    refine sCF ?_
    with_reducible refine s_skip ?_
    with_reducible refine s_blkN ?_
    with_reducible refine s_then ?_
    with_reducible refine s_reg ?_
    refine sadd ?_
    simp only [pu', p0', c1', c0', i1', z0', b8_nat]
    refine smove ?_
    simp only [pu', p0', c1', c0', i1', z0', b8_nat]
    with_reducible refine s_end ?_
    rotate_left 1
    replace hb := dF' hb
    simp only [pu', p0', c1', c0', i1', z0', b8_nat]
    with_reducible refine s_end ?_
    with_reducible refine s_then ?_
    with_reducible refine s_seq ?_
    refine sCF ?_
    with_reducible refine s_exit ?_
    with_reducible refine s_thenE ?_
    with_reducible refine l_exit ?_
    with_reducible refine s_blkE ?_
    with_reducible refine s_then ?_
    with_reducible refine s_seq ?_
    with_reducible refine s_reg ?_
    refine sassign ?_
    simp only [pu', p0', c1', c0', i1', z0', b8_nat]
    with_reducible refine s_end ?_
    with_reducible refine s_then ?_
    with_reducible refine s_ret ?_
    rotate_left 1
  all_goals first
    | (refine l_next (i + 1) ⟨by omega, ?_⟩ (by omega) (by rfl) rfl; rw [dropT (d := tk0) (by omega), fr, if_neg (by rw [hb]; exact Bool.false_ne_true)] at hi2; exact hi2)
    | (((try with_reducible refine w_n ?_); refine w_1 rfl (by first | exact v_t (by rfl) | exact v_c1 (C1.p) (by rfl) (HA.p) (by rfl) | exact v_cF (CA.p) (by rfl) (HA.p) (by rfl)) ?_); refine ⟨?_, rfl⟩; rw [dropT (d := tk0) (by omega), fr, if_pos (by assumption)] at hi2; rw [hi2]; done)
    | (((try with_reducible refine w_n ?_); refine w_1 rfl (by first | exact v_t (by rfl) | exact v_c1 (C1.p) (by rfl) (HA.p) (by rfl) | exact v_cF (CA.p) (by rfl) (HA.p) (by rfl)) ?_); refine ⟨?_, rfl⟩; rw [List.drop_eq_nil_of_le (by omega), fr] at hi2; rw [← hi2])
theorem free_any (h : Hp) (s : AV) (l : List Tk) (hS : TS h s l) (hlen : l.length ≤ 1099511627776) : ACalls Try.prog 59 [s] h (fun r h' => r = I (fr l 0) ∧ h' = h) := by
  refine acalls_of_wk hm Try.func59 rfl ?_
  simp only [Try.ntmps59, List.length_cons, List.length_nil, Nat.reduceAdd, Nat.reduceSub, List.reduceReplicate, List.cons_append, List.nil_append]
  show wk _ _ none _ _ ⟨_, []⟩ _
  with_reducible refine s_seq ?_
  with_reducible refine s_reg ?_
  refine sassign ?_
  simp only [pu', p0', c1', c0', i1', z0', b8_nat]
  with_reducible refine s_end ?_
  with_reducible refine s_then ?_
  with_reducible refine s_seq ?_
  with_reducible refine s_reg ?_
  refine smove ?_
  simp only [pu', p0', c1', c0', i1', z0', b8_nat]
  refine sM (hx := rfl) (indexf_any _ _ _ hS hlen) ?_
  simp only [pu', p0', c1', c0', i1', z0', b8_nat]
  refine sassign ?_
  simp only [pu', p0', c1', c0', i1', z0', b8_nat]
  with_reducible refine s_end ?_
  with_reducible refine s_then ?_
  with_reducible refine s_ret ?_
  all_goals try with_reducible refine w_n ?_
  all_goals refine w_1 rfl (by first | exact v_t (by rfl) | exact v_c1 (C1.p) (by rfl) (HA.p) (by rfl) | exact v_cF (CA.p) (by rfl) (HA.p) (by rfl)) ?_
  exact ⟨rfl, rfl⟩
end Go.Proofs.Ytfcgmkpihmiadaa
