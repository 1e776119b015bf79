/-
  A part of the proof of a statement of a chapter's seat; conditions: stated at each theorem.
-/
import Derived.Test.YtfcgmkpihmiadaaP25
set_option linter.unusedVariables false
set_option linter.unusedSectionVars false
set_option linter.unusedSimpArgs false
set_option linter.unusedVariables false
set_option maxRecDepth 100000
set_option maxHeartbeats 8000000
namespace Go.Proofs.Ytfcgmkpihmiadaa
open Go.Az Go
theorem law3_a (h : Hp) (p : Pl) (su sw st : AV) (n : Int) (f : Bool) (a : EI h su p.us) (b : EK h sw p.ws) (c : ET h st p.ts) (hl : lightP p) : ACalls Try.prog 3 [PA su sw st p.out, I n, B f] h (fun r h' => r = B true ∧ h' = h) := by
  have hf := light_fits hl
  have pu := a.p.sl
  have pw := b.p.sl
  have pt := c.p.sl
  have S0 := Sep.nil h
  have c10 : ∀ Y, EI Y su p.us → EK Y sw p.ws → ET Y st p.ts → ACalls Try.prog 10 [PA su sw st p.out] Y (fun r h' => r = B true ∧ h' = Y) := fun Y a b c => by
    have := light10 Y p su sw st a b c
    rwa [decide_eq_true hl] at this
  have c12 : ∀ Y L, Sep h Y L → EI Y su p.us → EK Y sw p.ws → ET Y st p.ts → ACalls Try.prog 12 [PA su sw st p.out] Y (fun r h' => ∃ zu zw zt, r = PA zu zw zt p.out ∧ SlC zu ∧ SlC zw ∧ SlC zt ∧ Sep h h' (L ++ [WI zu p.us, WK zw p.ws, WT zt p.ts])) := fun Y L S a b c => ownP_in p su sw st S a b c hf
  obtain ⟨qf, ql⟩ := pickQ_fits (p := p) (n := n) (f := f)
  have c13 : ∀ Y L zu zw zt, Sep h Y L → EI Y zu p.us → EK Y zw p.ws → ET Y zt p.ts → ACalls Try.prog 13 [PA zu zw zt p.out, I n, B f] Y (fun r h' => ∃ yu yw yt yl, r = .tup [PA yu yw yt (pickQ p n f).p.out, I (pickQ p n f).w, yl, I (pickQ p n f).e] ∧ SlC yu ∧ SlC yw ∧ SlC yt ∧ SlC yl ∧ Sep h h' (L ++ [WI yu (pickQ p n f).p.us, WK yw (pickQ p n f).p.ws, WT yt (pickQ p n f).p.ts, WI yl (pickQ p n f).l])) := fun Y L zu zw zt S a b c =>
    (pick13 Y p zu zw zt a b c hf n f).mono fun r h' _ ⟨yu, yw, yt, yl, h1, h2, h3, h4, h5, h6⟩ => ⟨yu, yw, yt, yl, h1, h2, h3, h4, h5, S.join h6⟩
  have c14 : ∀ Y L, Sep h Y L → EI Y su p.us → EK Y sw p.ws → ET Y st p.ts → ACalls Try.prog 14 [PA su sw st p.out, I n, B f] Y (fun r h' => ∃ yu yw yt yl, r = .tup [PA yu yw yt (pickQ p n f).p.out, I (pickQ p n f).w, yl, I (pickQ p n f).e] ∧ SlC yu ∧ SlC yw ∧ SlC yt ∧ SlC yl ∧ Sep h h' (L ++ [WI yu (pickQ p n f).p.us, WK yw (pickQ p n f).p.ws, WT yt (pickQ p n f).p.ts, WI yl (pickQ p n f).l])) := fun Y L S a b c =>
    (rpick14 Y p su sw st a b c hf n f).mono fun r h' _ ⟨yu, yw, yt, yl, h1, h2, h3, h4, h5, h6⟩ => ⟨yu, yw, yt, yl, h1, h2, h3, h4, h5, S.join h6⟩
  have c17 := fun Y a b c => check39 Y p su sw st a b c hf
  have c18 := fun Y a b c => rcheck39 Y p su sw st a b c hf
  generalize pickQ p n f = q at *
  generalize poolE p = e at *
  obtain ⟨⟨us', ws', ts', o'⟩, w', l', e'⟩ := q
  obtain ⟨us, ws, ts, out⟩ := p
  simp only [] at a b c c10 c12 c13 c14 c17 c18 qf ql hf ⊢
  refine acalls_back ?_
  refine acalls_of_wk hm Try.func3 rfl ?_
  simp only [Try.ntmps3, List.length_cons, List.length_nil, Nat.reduceAdd, Nat.reduceSub, List.reduceReplicate, List.cons_append, List.nil_append]
  show wk _ _ none _ _ ⟨_, []⟩ _
  focus
    with_reducible refine s_seq ?_
    with_reducible refine s_reg ?_
    refine sboxA ?_
    simp only [pu', p0', c1', c0', i1', n0', n3', n1', n2', a2', a1', a0', n4', Nat.reduceAdd, z0', n5', sa0, sa1, sa2, sa3, sa4, sa5, sa6, sa7, sa8, sa9, sa10, sa11]
    refine sassign ?_
    simp only [pu', p0', c1', c0', i1', z0', b8_nat]
    with_reducible refine s_end ?_
    with_reducible refine s_then ?_
    with_reducible refine s_seq ?_
    with_reducible refine s_seq ?_
    with_reducible refine s_reg ?_
    refine sloadW ?_
    simp only [pu', p0', c1', c0', i1', z0', b8_nat]
    refine sM (hx := rfl) (c10 _ inferInstance inferInstance inferInstance) ?_
    simp only [pu', p0', c1', c0', i1', z0', b8_nat]
    refine snotT ?_
    simp only [pu', p0', c1', c0', i1', z0', b8_nat]
    with_reducible refine s_end ?_
    with_reducible refine s_then ?_
    refine sCF ?_
    with_reducible refine s_skip ?_
    with_reducible refine s_then ?_
    with_reducible refine s_seq ?_
    with_reducible refine s_reg ?_
    refine sloadW ?_
    simp only [pu', p0', c1', c0', i1', z0', b8_nat]
    refine sC (hx := rfl) ((c12 _ _ inferInstance inferInstance inferInstance inferInstance).mono ?_)
    rintro _ m12 _ ⟨zu, zw, zt, rfl, pzu, pzw, pzt, S1⟩
    simp only [pu', p0', c1', c0', i1', n0', n3', n1', n2', a2', a1', a0', n4', Nat.reduceAdd, z0', n5', sa0, sa1, sa2, sa3, sa4, sa5, sa6, sa7, sa8, sa9, sa10, sa11]
    refine salloc ?_
    simp only [pu', p0', c1', c0', i1', n0', n3', n1', n2', a2', a1', a0', n4', Nat.reduceAdd, z0', n5', sa0, sa1, sa2, sa3, sa4, sa5, sa6, sa7, sa8, sa9, sa10, sa11]
    refine sstoreF ?_
    simp only [pu', p0', c1', c0', i1', n0', n3', n1', n2', a2', a1', a0', n4', Nat.reduceAdd, z0', n5', sa0, sa1, sa2, sa3, sa4, sa5, sa6, sa7, sa8, sa9, sa10, sa11]
    with_reducible refine s_end ?_
    with_reducible refine s_then ?_
    with_reducible refine s_seq ?_
    with_reducible refine s_reg ?_
    refine sloadW ?_
    simp only [pu', p0', c1', c0', i1', z0', b8_nat]
    refine smove ?_
    simp only [pu', p0', c1', c0', i1', z0', b8_nat]
    refine smove ?_
    simp only [pu', p0', c1', c0', i1', z0', b8_nat]
    refine sC (hx := rfl) ((c13 _ _ zu zw zt inferInstance inferInstance inferInstance inferInstance).mono ?_)
    rintro _ m13 _ ⟨yu, yw, yt, yl, rfl, pyu, pyw, pyt, pyl, S2⟩
    simp only [pu', p0', c1', c0', i1', n0', n3', n1', n2', a2', a1', a0', n4', Nat.reduceAdd, z0', n5', sa0, sa1, sa2, sa3, sa4, sa5, sa6, sa7, sa8, sa9, sa10, sa11]
    refine smove ?_
    simp only [pu', p0', c1', c0', i1', z0', b8_nat]
    refine sext ?_
    simp only [pu', p0', c1', c0', i1', z0', b8_nat]
    refine sext ?_
    simp only [pu', p0', c1', c0', i1', z0', b8_nat]
    refine sext ?_
    simp only [pu', p0', c1', c0', i1', z0', b8_nat]
    refine sext ?_
    simp only [pu', p0', c1', c0', i1', z0', b8_nat]
    refine salloc ?_
    simp only [pu', p0', c1', c0', i1', n0', n3', n1', n2', a2', a1', a0', n4', Nat.reduceAdd, z0', n5', sa0, sa1, sa2, sa3, sa4, sa5, sa6, sa7, sa8, sa9, sa10, sa11]
    refine sstoreF ?_
    simp only [pu', p0', c1', c0', i1', n0', n3', n1', n2', a2', a1', a0', n4', Nat.reduceAdd, z0', n5', sa0, sa1, sa2, sa3, sa4, sa5, sa6, sa7, sa8, sa9, sa10, sa11]
    refine sassign ?_
    simp only [pu', p0', c1', c0', i1', z0', b8_nat]
    refine sassign ?_
    simp only [pu', p0', c1', c0', i1', z0', b8_nat]
    refine sassign ?_
    simp only [pu', p0', c1', c0', i1', z0', b8_nat]
    with_reducible refine s_end ?_
    with_reducible refine s_then ?_
    with_reducible refine s_seq ?_
    with_reducible refine s_reg ?_
    refine sloadW ?_
    simp only [pu', p0', c1', c0', i1', z0', b8_nat]
    refine smove ?_
    simp only [pu', p0', c1', c0', i1', z0', b8_nat]
    refine smove ?_
    simp only [pu', p0', c1', c0', i1', z0', b8_nat]
    refine sC (hx := rfl) ((c14 _ _ inferInstance inferInstance inferInstance inferInstance).mono ?_)
    rintro _ m14 _ ⟨xu, xw, xt, xl, rfl, pxu, pxw, pxt, pxl, S3⟩
    simp only [pu', p0', c1', c0', i1', n0', n3', n1', n2', a2', a1', a0', n4', Nat.reduceAdd, z0', n5', sa0, sa1, sa2, sa3, sa4, sa5, sa6, sa7, sa8, sa9, sa10, sa11]
    refine smove ?_
    simp only [pu', p0', c1', c0', i1', z0', b8_nat]
    refine sext ?_
    simp only [pu', p0', c1', c0', i1', z0', b8_nat]
    refine sext ?_
    simp only [pu', p0', c1', c0', i1', z0', b8_nat]
    refine sext ?_
    simp only [pu', p0', c1', c0', i1', z0', b8_nat]
    refine sext ?_
    simp only [pu', p0', c1', c0', i1', z0', b8_nat]
    refine salloc ?_
    simp only [pu', p0', c1', c0', i1', n0', n3', n1', n2', a2', a1', a0', n4', Nat.reduceAdd, z0', n5', sa0, sa1, sa2, sa3, sa4, sa5, sa6, sa7, sa8, sa9, sa10, sa11]
    refine sstoreF ?_
    simp only [pu', p0', c1', c0', i1', n0', n3', n1', n2', a2', a1', a0', n4', Nat.reduceAdd, z0', n5', sa0, sa1, sa2, sa3, sa4, sa5, sa6, sa7, sa8, sa9, sa10, sa11]
    refine sassign ?_
    simp only [pu', p0', c1', c0', i1', z0', b8_nat]
    refine sassign ?_
    simp only [pu', p0', c1', c0', i1', z0', b8_nat]
    refine sassign ?_
    simp only [pu', p0', c1', c0', i1', z0', b8_nat]
    with_reducible refine s_end ?_
    with_reducible refine s_then ?_
    with_reducible refine s_seq ?_
    (refine s_regQ (id := 6) [(0, true), (1, true), (2, false), (3, true), (4, true), (5, true), (6, true), (7, true), (8, true), (9, true), (10, true), (11, false), (12, true), (13, true), (14, true), (15, true), (16, true), (17, true), (18, true), (19, true), (21, true), (20, false), (22, false), (23, true), (24, true), (25, true), (26, true), (27, true), (28, false), (29, true), (30, true), (31, false), (32, true), (33, true)] (by kernel_rfl) (by conv => lhs; simp only [pickO, List.getElem?_cons_succ, List.getElem?_cons_zero]) ?_)
    refine qloadW ?_
    simp only [pu', p0', c1', c0', i1', z0', b8_nat]
    refine qloadW ?_
    simp only [pu', p0', c1', c0', i1', z0', b8_nat]
    refine qM (hx := rfl) (sameP_el ⟨us', ws', ts', o'⟩ yu yw yt xu xw xt qf) ?_
    simp only [pu', p0', c1', c0', i1', z0', b8_nat]
    refine qmove ?_
    simp only [pu', p0', c1', c0', i1', z0', b8_nat]
    refine qmove ?_
    simp only [pu', p0', c1', c0', i1', z0', b8_nat]
    refine qmove ?_
    simp only [pu', p0', c1', c0', i1', z0', b8_nat]
    refine qEq (fun hb => ?_) (fun hb => ?_)
    replace hb := dT' hb
    simp only [pu', p0', c1', c0', i1', z0', b8_nat]
    refine qpickT ?_
    simp only [pu', p0', c1', c0', i1', z0', b8_nat]
    refine qmove ?_
    simp only [pu', p0', c1', c0', i1', z0', b8_nat]
    refine qmove ?_
    simp only [pu', p0', c1', c0', i1', z0', b8_nat]
    refine qmove ?_
    simp only [pu', p0', c1', c0', i1', z0', b8_nat]
    refine qM (hx := rfl) (sameI_el (s1 := yl) (s2 := xl) (l := l') (by omega)) ?_
    simp only [pu', p0', c1', c0', i1', z0', b8_nat]
    refine qpickT ?_
    simp only [pu', p0', c1', c0', i1', z0', b8_nat]
    refine qmove ?_
    simp only [pu', p0', c1', c0', i1', z0', b8_nat]
    refine qmove ?_
    simp only [pu', p0', c1', c0', i1', z0', b8_nat]
    refine qmove ?_
    simp only [pu', p0', c1', c0', i1', z0', b8_nat]
    refine qEq (fun hb => ?_) (fun hb => ?_)
    replace hb := dT' hb
    simp only [pu', p0', c1', c0', i1', z0', b8_nat]
    refine qpickT ?_
    simp only [pu', p0', c1', c0', i1', z0', b8_nat]
    refine qmove ?_
    simp only [pu', p0', c1', c0', i1', z0', b8_nat]
    refine qloadW ?_
    simp only [pu', p0', c1', c0', i1', z0', b8_nat]
    refine qloadW ?_
    simp only [pu', p0', c1', c0', i1', z0', b8_nat]
    refine qM (hx := rfl) (c17 _ inferInstance inferInstance inferInstance) ?_
    simp only [pu', p0', c1', c0', i1', z0', b8_nat]
    refine qM (hx := rfl) (c18 _ inferInstance inferInstance inferInstance) ?_
    simp only [pu', p0', c1', c0', i1', z0', b8_nat]
    refine qEq (fun hb => ?_) (fun hb => ?_)
    replace hb := dT' hb
    simp only [pu', p0', c1', c0', i1', z0', b8_nat]
    refine qpickT ?_
    simp only [pu', p0', c1', c0', i1', z0', b8_nat]
    refine qmove ?_
    simp only [pu', p0', c1', c0', i1', z0', b8_nat]
    refine qloadW ?_
    simp only [pu', p0', c1', c0', i1', z0', b8_nat]
    refine qloadW ?_
    simp only [pu', p0', c1', c0', i1', z0', b8_nat]
    refine qM (hx := rfl) (sameP_el ⟨us, ws, ts, out⟩ zu zw zt su sw st hf) ?_
    simp only [pu', p0', c1', c0', i1', z0', b8_nat]
    refine qpickT ?_
    simp only [pu', p0', c1', c0', i1', z0', b8_nat]
    refine qmove ?_
    simp only [pu', p0', c1', c0', i1', z0', b8_nat]
    refine qM (hx := rfl) (awake11 _) ?_
    simp only [pu', p0', c1', c0', i1', z0', b8_nat]
    refine qpickT ?_
    simp only [pu', p0', c1', c0', i1', z0', b8_nat]
    refine qassign ?_
    simp only [pu', p0', c1', c0', i1', z0', b8_nat]
    with_reducible refine q_end ?_
    with_reducible refine s_then ?_
    with_reducible refine s_ret ?_
    rotate_left 1
    replace hb := dF' hb
    exact absurd rfl hb
    replace hb := dF' hb
    exact absurd rfl hb
    replace hb := dF' hb
    exact absurd rfl hb
  all_goals
    all_goals try with_reducible refine w_n ?_
    all_goals refine w_1 rfl (by first | exact v_t (by rfl) | exact v_c1 (C1.p) (by rfl) (HA.p) (by rfl) | exact v_cF (CA.p) (by rfl) (HA.p) (by rfl)) ?_
    exact ⟨rfl, Sep.ext, rfl, trivial⟩
end Go.Proofs.Ytfcgmkpihmiadaa
