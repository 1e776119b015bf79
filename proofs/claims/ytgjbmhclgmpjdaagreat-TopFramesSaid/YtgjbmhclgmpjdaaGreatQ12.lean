/-
  A part of the proof of a statement of a chapter's seat; conditions: stated at each theorem.
-/
import Derived.Test.YtgjbmhclgmpjdaaGreatQ11
set_option linter.unusedVariables false
set_option linter.unusedSectionVars false
set_option linter.unusedSimpArgs false
set_option linter.unusedVariables false
set_option maxRecDepth 100000
set_option maxHeartbeats 8000000
namespace Go.Proofs.YtgjbmhclgmpjdaaGreat
open Go.Az Go
/-! ### Failing -/
abbrev faA (e a : Int) : AV := .ifc 136 (.agg [I e, I a])
instance (e a : Int) : BD Tryz.prog 136 [(0, .agg [I e, I a])] (.agg [I e, I a]) := ⟨by kernel_rfl⟩
instance (e a : Int) : MI Tryz.prog 136 (.agg [I e, I a]) (faA e a) := ⟨by kernel_rfl⟩
theorem fail_any (e a : Int) : PCalls Tryz.prog 72 [I e, I a] [] (fun _ _ => False) (fun c _ => c = chn (faA e a)) := by
  refine pcalls_of_wk hm Tryz.func72 rfl ?_
  simp only [Tryz.ntmps72, List.length_cons, List.length_nil, Nat.reduceAdd, Nat.reduceSub, List.reduceReplicate, List.cons_append, List.nil_append]
  show wk _ _ none _ _ ⟨_, []⟩ _
  refine s_regPn 5 (by conv => lhs; simp only [List.take_succ_cons, List.take_zero]) (by conv => lhs; simp only [List.drop_succ_cons, List.drop_zero]) ?_
  refine smove ?_
  simp only [pu', p0', c1', c0', i1', z0', b8_nat]
  refine smove ?_
  simp only [pu', p0', c1', c0', i1', z0', b8_nat]
  refine sbuild ?_
  simp only [pu', p0', c1', c0', i1', z0', b8_nat]
  refine sbuild ?_
  simp only [pu', p0', c1', c0', i1', z0', b8_nat]
  refine smif ?_
  simp only [pu', p0', c1', c0', i1', z0', b8_nat]
  with_reducible refine s_end ?_
  refine p_panic ?_
  exact wP_pan rfl
abbrev zst : AV := .agg [I 0, I 0, I 0, nilS, I 0, I 0, I 0, nilS, I 0, I 0, I 0, nilS, I 0, I 0, I 0, nilS]
instance : BD Tryz.prog 115 [] zst := ⟨by kernel_rfl⟩
instance : BN Tryz.prog .neq 20 (.v .nilIface) (.v .nilIface) false := ⟨by kernel_rfl⟩
instance (e a : Int) : BN Tryz.prog .neq 20 (faA e a) (.v .nilIface) true := ⟨by kernel_rfl⟩
theorem recN_any (h : Hp) (a b c d e : Nat) : DCalls Tryz.prog 70 [.ptr a 0, .ptr b 0, .ptr c 0, .ptr d 0, .ptr e 0] h .returning (fun u' h' => u' = .returning ∧ h' = h) := by
  refine dcalls_rec hm (u' := .returning) (.v .nilIface) Tryz.func70 rfl rfl ?_ _ rfl ?_
  · intro c₀ cs hc
    exact .inr ⟨by simp [recoverD, hc], rfl, rfl⟩
  simp only [Tryz.ntmps70, List.length_cons, List.length_nil, Nat.reduceAdd, Nat.reduceSub, List.reduceReplicate, List.cons_append, List.nil_append, Fr.put, List.set_cons_succ, List.set_cons_zero, ev, List.getD_cons_succ, List.getD_cons_zero]
  with_reducible refine s_seq ?_
  with_reducible refine s_reg ?_
  refine smove ?_
  simp only [pu', p0', c1', c0', i1', z0', b8_nat]
  refine sbn (fun hb => ?_) (fun hb => ?_)
  cases hb
  simp only [decide_eq_true_eq, Int.toNat_natCast, decide_eq_false_iff_not, Bool.not_eq_true', Bool.not_eq_false', not_true_eq_false, not_false_eq_true, beq_self_eq_true, Bool.and_true, Bool.true_and, Bool.and_false, Bool.false_and, Bool.and_eq_true, Bool.and_eq_false_iff, beq_iff_eq, beq_eq_false_iff_ne, ne_eq, Bool.not_true, Bool.not_false, Bool.true_eq_false, Bool.false_eq_true, Bool.not_eq_true, Bool.not_eq_false, and_true, true_and, and_false, false_and, or_false, false_or, or_true, true_or] at hb
  simp only [pu', p0', c1', c0', i1', z0', b8_nat]
  with_reducible refine s_end ?_
  with_reducible refine s_then ?_
  refine sCF ?_
  with_reducible refine s_skip ?_
  exact wD_n (wD_0 rfl ⟨rfl, rfl⟩)
abbrev zsL : List AV := [I 0, I 0, I 0, nilS, I 0, I 0, I 0, nilS, I 0, I 0, I 0, nilS, I 0, I 0, I 0, nilS]
theorem recP_any (o0 o6 : AObj) (b0 : AV) (e a : Int) :
    DCalls Tryz.prog 70 [.ptr 1 0, .ptr 2 0, .ptr 3 0, .ptr 4 0, .ptr 5 0] [o0, .cells [St []] 9 true, .cells zsL 115 true, .cells [b0] 4 true, .cells [I 0] 3 true, .cells [I 0, I 0] 27 true, o6] (.panicking (chn (faA e a)))
      (fun u' h' => u' = .panicking (chnR (faA e a)) ∧ h' = [o0, .cells [St []] 9 true, .cells zsL 115 true, .cells [B false] 4 true, .cells [I 0] 3 true, .cells [I e, I a] 27 true, o6, .cells [I e, I a] 136 true]) := by
  refine dcalls_rec hm (u' := .panicking (chnR (faA e a))) (faA e a) Tryz.func70 rfl rfl ?_ _ rfl ?_
  · intro c₀ cs hc
    refine .inl ?_
    simp only [recoverD, hc, chn]
    rfl
  simp only [Tryz.ntmps70, List.length_cons, List.length_nil, Nat.reduceAdd, Nat.reduceSub, List.reduceReplicate, List.cons_append, List.nil_append, Fr.put, List.set_cons_succ, List.set_cons_zero, ev, List.getD_cons_succ, List.getD_cons_zero]
  focus
    with_reducible refine s_seq ?_
    with_reducible refine s_reg ?_
    refine smove ?_
    simp only [pu', p0', c1', c0', i1', z0', b8_nat]
    refine sbn (fun hb => ?_) (fun hb => ?_)
    simp only [decide_eq_true_eq, Int.toNat_natCast, decide_eq_false_iff_not, Bool.not_eq_true', Bool.not_eq_false', not_true_eq_false, not_false_eq_true, beq_self_eq_true, Bool.and_true, Bool.true_and, Bool.and_false, Bool.false_and, Bool.and_eq_true, Bool.and_eq_false_iff, beq_iff_eq, beq_eq_false_iff_ne, ne_eq, Bool.not_true, Bool.not_false, Bool.true_eq_false, Bool.false_eq_true, Bool.not_eq_true, Bool.not_eq_false, and_true, true_and, and_false, false_and, or_false, false_or, or_true, true_or] at hb
    simp only [pu', p0', c1', c0', i1', z0', b8_nat]
    with_reducible refine s_end ?_
    with_reducible refine s_then ?_
    refine sCT ?_
    with_reducible refine s_seq ?_
    rotate_left 1
    cases hb
  refine s_seq (s_regPn 1 (by conv => lhs; simp only [List.take_succ_cons, List.take_zero]) (by conv => lhs; simp only [List.drop_succ_cons, List.drop_zero]) ?_)
  refine smove ?_
  simp only [pu', p0', c1', c0', i1', z0', b8_nat]
  with_reducible refine s_end ?_
  refine p_tas ?_ rfl
  simp only [Fr.put, List.set_cons_succ, List.set_cons_zero, Int.toNat_natCast, Nat.zero_add]
  refine smove ?_
  simp only [pu', p0', c1', c0', i1', z0', b8_nat]
  refine sext ?_
  simp only [pu', p0', c1', c0', i1', z0', b8_nat]
  refine sext ?_
  simp only [pu', p0', c1', c0', i1', z0', b8_nat]
  refine salloc ?_
  simp only [pu', p0', c1', c0', i1', n0', n3', n1', n2', a2', a1', a0', n4', Nat.reduceAdd, z0', n5', sa0, sa1, sa2, sa3, sa4, sa5, sa6, sa7, sa8, sa9, sa10, sa11]
  refine sstoreF ?_
  simp only [pu', p0', c1', c0', i1', n0', n3', n1', n2', a2', a1', a0', n4', Nat.reduceAdd, z0', n5', sa0, sa1, sa2, sa3, sa4, sa5, sa6, sa7, sa8, sa9, sa10, sa11]
  refine sassign ?_
  simp only [pu', p0', c1', c0', i1', z0', b8_nat]
  with_reducible refine s_end ?_
  with_reducible refine s_then ?_
  with_reducible refine s_seq ?_
  with_reducible refine s_seq ?_
  with_reducible refine s_reg ?_
  refine smove ?_
  simp only [pu', p0', c1', c0', i1', z0', b8_nat]
  refine snotT ?_
  simp only [pu', p0', c1', c0', i1', z0', b8_nat]
  with_reducible refine s_end ?_
  with_reducible refine s_then ?_
  refine sCF ?_
  with_reducible refine s_skip ?_
  with_reducible refine s_then ?_
  (refine s_regT (id := 5) (.light 0 (.light 1 (.light 2 (.alt 3 [] (.alt 4 [0] (.alt 5 [0] (.alt 6 [0] (.alt 7 [0, 1, 2] (.done) (.no)) (.no)) (.no)) (.no)) (.no))))) [3, 4, 5, 6, 7] (by kernel_rfl) (by conv => lhs; simp only [pickT, List.getElem?_cons_succ, List.getElem?_cons_zero]) ?_)
  refine tbuild ?_
  simp only [pu', p0', c1', c0', i1', z0', b8_nat]
  refine tfad ?_
  simp only [pu', p0', c1', c0', i1', z0', b8_nat]
  refine tloadW ?_
  simp only [pu', p0', c1', c0', i1', z0', b8_nat]
  refine ustore1 ?_
  simp only [pu', p0', c1', c0', i1', n0', n3', n1', n2', a2', a1', a0', n4', Nat.reduceAdd, z0', n5', sa0, sa1, sa2, sa3, sa4, sa5, sa6, sa7, sa8, sa9, sa10, sa11]
  refine ustoreF ?_
  simp only [pu', p0', c1', c0', i1', n0', n3', n1', n2', a2', a1', a0', n4', Nat.reduceAdd, z0', n5', sa0, sa1, sa2, sa3, sa4, sa5, sa6, sa7, sa8, sa9, sa10, sa11]
  refine ustore1 ?_
  simp only [pu', p0', c1', c0', i1', n0', n3', n1', n2', a2', a1', a0', n4', Nat.reduceAdd, z0', n5', sa0, sa1, sa2, sa3, sa4, sa5, sa6, sa7, sa8, sa9, sa10, sa11]
  refine ustore1 ?_
  simp only [pu', p0', c1', c0', i1', n0', n3', n1', n2', a2', a1', a0', n4', Nat.reduceAdd, z0', n5', sa0, sa1, sa2, sa3, sa4, sa5, sa6, sa7, sa8, sa9, sa10, sa11]
  refine ustoreF ?_
  simp only [pu', p0', c1', c0', i1', n0', n3', n1', n2', a2', a1', a0', n4', Nat.reduceAdd, z0', n5', sa0, sa1, sa2, sa3, sa4, sa5, sa6, sa7, sa8, sa9, sa10, sa11]
  with_reducible refine t_end ?_
  exact wD_n (wD_0 rfl ⟨rfl, rfl⟩)
end Go.Proofs.YtgjbmhclgmpjdaaGreat
