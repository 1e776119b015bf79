/-
  A part of the proof of a statement of a chapter's seat; conditions: stated at each theorem.
-/
import Derived.Test.YtfcgmkpihmiadaaP41
import Derived.Test.YtfcgmkpihmiadaaP27
set_option linter.unusedVariables false
set_option linter.unusedSectionVars false
set_option linter.unusedSimpArgs false
set_option linter.unusedVariables false
set_option maxRecDepth 100000
set_option maxHeartbeats 8000000
namespace Go.Proofs.Ytfcgmkpihmiadaa
open Go.Az Go
theorem law8_a (h : Hp) (p : Pl) (su sw st : AV) (a : EI h su p.us) (b : EK h sw p.ws) (c : ET h st p.ts) (hl : lightP p) : ACalls Try.prog 8 [PA su sw st p.out] h (fun r h' => r = B true ∧ h' = h) := by
  have hf := light_fits hl
  have pu := a.p.sl
  have pw := b.p.sl
  have pt := c.p.sl
  have S0 := Sep.nil h
  have c10 : ∀ Y, EI Y su p.us → EK Y sw p.ws → ET Y st p.ts → ACalls Try.prog 10 [PA su sw st p.out] Y (fun r h' => r = B true ∧ h' = Y) := fun Y a b c => by
    have := light10 Y p su sw st a b c
    rwa [decide_eq_true hl] at this
  have c31 : ∀ Y L, Sep h Y L → EI Y su p.us → EK Y sw p.ws → ET Y st p.ts → ACalls Try.prog 31 [PA su sw st p.out] Y (fun r h' => ∃ z, r = .tup [z, I (poolE p)] ∧ SlC z ∧ Sep h h' (L ++ [WI z (waitQ p)])) := fun Y L S a b c =>
    (waiting31 Y p su sw st a b c hf).mono fun r h' _ ⟨z, h1, h2, h3⟩ => ⟨z, h1, h2, S.join h3⟩
  have c32 : ∀ Y L, Sep h Y L → EI Y su p.us → EK Y sw p.ws → ET Y st p.ts → ACalls Try.prog 32 [PA su sw st p.out] Y (fun r h' => ∃ z, r = .tup [z, I (poolE p)] ∧ SlC z ∧ Sep h h' (L ++ [WI z (waitQ p)])) := fun Y L S a b c =>
    (rwaiting32 Y p su sw st a b c hf).mono fun r h' _ ⟨z, h1, h2, h3⟩ => ⟨z, h1, h2, S.join h3⟩
  have c26 : ∀ Y L, Sep h Y L → EI Y su p.us → EK Y sw p.ws → ET Y st p.ts → ACalls Try.prog 26 [PA su sw st p.out] Y (fun r h' => ∃ z, r = .tup [z, I (poolE p)] ∧ SlC z ∧ Sep h h' (L ++ [WI z (busyQ p)])) := fun Y L S a b c =>
    (busy26 Y p su sw st a b c hf).mono fun r h' _ ⟨z, h1, h2, h3⟩ => ⟨z, h1, h2, S.join h3⟩
  have c33 : ∀ Y L, Sep h Y L → EI Y su p.us → EK Y sw p.ws → ET Y st p.ts → ACalls Try.prog 33 [PA su sw st p.out] Y (fun r h' => ∃ z, r = .tup [z, I (poolE p)] ∧ SlC z ∧ Sep h h' (L ++ [WI z (busyQ p)])) := fun Y L S a b c =>
    (rbusy33 Y p su sw st a b c hf).mono fun r h' _ ⟨z, h1, h2, h3⟩ => ⟨z, h1, h2, S.join h3⟩
  have c23 := fun Y a b c => buffers23 Y p su sw st a b c hf
  have c34 := fun Y a b c => rbuffers34 Y p su sw st a b c hf
  have c25 := fun Y a b c => left25 Y p su sw st a b c hf
  have c35 := fun Y a b c => rleft35 Y p su sw st a b c hf
  have c24 := fun Y a b c => over24 Y p su sw st a b c hf
  have c36 := fun Y a b c => rover36 Y p su sw st a b c hf
  have c30 := fun Y a b c => attempts30 Y p su sw st a b c hf
  have c37 := fun Y a b c => rattempts37 Y p su sw st a b c hf
  have w1 : (waitQ p).length ≤ 1099511627776 := by
    have h1 := idx_len Tk.f p.ts 0
    have h2 := hf.t
    unfold waitQ waitL
    split
    · omega
    · simp
  have w2 : (busyQ p).length ≤ 1099511627776 := by
    have h1 := idx_len (busyB p) p.ws 0
    have h2 := hf.w
    unfold busyQ busyL
    split
    · omega
    · simp
  generalize waitQ p = wl at *
  generalize busyQ p = bl at *
  generalize bufQ p = b1 at *
  generalize leftQ p = b2 at *
  generalize overQ p = b3 at *
  generalize sumQ p = b4 at *
  generalize mostQ p = b5 at *
  generalize poolE p = e at *
  obtain ⟨us, ws, ts, out⟩ := p
  simp only [] at a b c c10 c31 c32 c26 c33 c23 c34 c25 c35 c24 c36 c30 c37 ⊢
  refine acalls_back ?_
  refine acalls_of_wk hm Try.func8 rfl ?_
  simp only [Try.ntmps8, List.length_cons, List.length_nil, Nat.reduceAdd, Nat.reduceSub, List.reduceReplicate, List.cons_append, List.nil_append]
  show wk _ _ none _ _ ⟨_, []⟩ _
  focus
    with_reducible refine s_seq ?_
    with_reducible refine s_reg ?_
    refine sboxA ?_
    simp only [pu', p0', c1', c0', i1', n0', n3', n1', n2', a2', a1', a0', n4', Nat.reduceAdd, z0', n5', sa0, sa1, sa2, sa3, sa4, sa5, sa6, sa7, sa8, sa9, sa10, sa11]
    refine sassign ?_
    simp only [pu', p0', c1', c0', i1', z0', b8_nat]
    with_reducible refine s_end ?_
    with_reducible refine s_then ?_
    with_reducible refine s_seq ?_
    with_reducible refine s_seq ?_
    with_reducible refine s_reg ?_
    refine sloadW ?_
    simp only [pu', p0', c1', c0', i1', z0', b8_nat]
    refine sM (hx := rfl) (c10 _ inferInstance inferInstance inferInstance) ?_
    simp only [pu', p0', c1', c0', i1', z0', b8_nat]
    refine snotT ?_
    simp only [pu', p0', c1', c0', i1', z0', b8_nat]
    with_reducible refine s_end ?_
    with_reducible refine s_then ?_
    refine sCF ?_
    with_reducible refine s_skip ?_
    with_reducible refine s_then ?_
    with_reducible refine s_seq ?_
    with_reducible refine s_reg ?_
    refine sloadW ?_
    simp only [pu', p0', c1', c0', i1', z0', b8_nat]
    refine sC (hx := rfl) ((c31 _ _ inferInstance inferInstance inferInstance inferInstance).mono ?_)
    rintro _ m31 _ ⟨y1, rfl, py1, S1⟩
    simp only [pu', p0', c1', c0', i1', n0', n3', n1', n2', a2', a1', a0', n4', Nat.reduceAdd, z0', n5', sa0, sa1, sa2, sa3, sa4, sa5, sa6, sa7, sa8, sa9, sa10, sa11]
    refine smove ?_
    simp only [pu', p0', c1', c0', i1', z0', b8_nat]
    refine sext ?_
    simp only [pu', p0', c1', c0', i1', z0', b8_nat]
    refine sext ?_
    simp only [pu', p0', c1', c0', i1', z0', b8_nat]
    refine sassign ?_
    simp only [pu', p0', c1', c0', i1', z0', b8_nat]
    refine sassign ?_
    simp only [pu', p0', c1', c0', i1', z0', b8_nat]
    with_reducible refine s_end ?_
    with_reducible refine s_then ?_
    with_reducible refine s_seq ?_
    with_reducible refine s_reg ?_
    refine sloadW ?_
    simp only [pu', p0', c1', c0', i1', z0', b8_nat]
    refine sC (hx := rfl) ((c32 _ _ inferInstance inferInstance inferInstance inferInstance).mono ?_)
    rintro _ m32 _ ⟨y2, rfl, py2, S2⟩
    simp only [pu', p0', c1', c0', i1', n0', n3', n1', n2', a2', a1', a0', n4', Nat.reduceAdd, z0', n5', sa0, sa1, sa2, sa3, sa4, sa5, sa6, sa7, sa8, sa9, sa10, sa11]
    refine smove ?_
    simp only [pu', p0', c1', c0', i1', z0', b8_nat]
    refine sext ?_
    simp only [pu', p0', c1', c0', i1', z0', b8_nat]
    refine sext ?_
    simp only [pu', p0', c1', c0', i1', z0', b8_nat]
    refine sassign ?_
    simp only [pu', p0', c1', c0', i1', z0', b8_nat]
    refine sassign ?_
    simp only [pu', p0', c1', c0', i1', z0', b8_nat]
    with_reducible refine s_end ?_
    with_reducible refine s_then ?_
    with_reducible refine s_seq ?_
    with_reducible refine s_reg ?_
    refine sloadW ?_
    simp only [pu', p0', c1', c0', i1', z0', b8_nat]
    refine sC (hx := rfl) ((c26 _ _ inferInstance inferInstance inferInstance inferInstance).mono ?_)
    rintro _ m26 _ ⟨y3, rfl, py3, S3⟩
    simp only [pu', p0', c1', c0', i1', n0', n3', n1', n2', a2', a1', a0', n4', Nat.reduceAdd, z0', n5', sa0, sa1, sa2, sa3, sa4, sa5, sa6, sa7, sa8, sa9, sa10, sa11]
    refine smove ?_
    simp only [pu', p0', c1', c0', i1', z0', b8_nat]
    refine sext ?_
    simp only [pu', p0', c1', c0', i1', z0', b8_nat]
    refine sext ?_
    simp only [pu', p0', c1', c0', i1', z0', b8_nat]
    refine sassign ?_
    simp only [pu', p0', c1', c0', i1', z0', b8_nat]
    refine sassign ?_
    simp only [pu', p0', c1', c0', i1', z0', b8_nat]
    with_reducible refine s_end ?_
    with_reducible refine s_then ?_
    with_reducible refine s_seq ?_
    with_reducible refine s_reg ?_
    refine sloadW ?_
    simp only [pu', p0', c1', c0', i1', z0', b8_nat]
    refine sC (hx := rfl) ((c33 _ _ inferInstance inferInstance inferInstance inferInstance).mono ?_)
    rintro _ m33 _ ⟨y4, rfl, py4, S4⟩
    simp only [pu', p0', c1', c0', i1', n0', n3', n1', n2', a2', a1', a0', n4', Nat.reduceAdd, z0', n5', sa0, sa1, sa2, sa3, sa4, sa5, sa6, sa7, sa8, sa9, sa10, sa11]
    refine smove ?_
    simp only [pu', p0', c1', c0', i1', z0', b8_nat]
    refine sext ?_
    simp only [pu', p0', c1', c0', i1', z0', b8_nat]
    refine sext ?_
    simp only [pu', p0', c1', c0', i1', z0', b8_nat]
    refine sassign ?_
    simp only [pu', p0', c1', c0', i1', z0', b8_nat]
    refine sassign ?_
    simp only [pu', p0', c1', c0', i1', z0', b8_nat]
    with_reducible refine s_end ?_
    with_reducible refine s_then ?_
    with_reducible refine s_seq ?_
    with_reducible refine s_seq ?_
    with_reducible refine s_reg ?_
    refine smove ?_
    simp only [pu', p0', c1', c0', i1', z0', b8_nat]
    refine smove ?_
    simp only [pu', p0', c1', c0', i1', z0', b8_nat]
    refine sM (hx := rfl) (sameI_el (s1 := y1) (s2 := y2) (l := wl) w1) ?_
    simp only [pu', p0', c1', c0', i1', z0', b8_nat]
    refine snotT ?_
    simp only [pu', p0', c1', c0', i1', z0', b8_nat]
    refine smove ?_
    simp only [pu', p0', c1', c0', i1', z0', b8_nat]
    refine smove ?_
    simp only [pu', p0', c1', c0', i1', z0', b8_nat]
    refine smove ?_
    simp only [pu', p0', c1', c0', i1', z0', b8_nat]
    refine sNe (fun hb => ?_) (fun hb => ?_)
    replace hb := dT' hb
    (exfalso; omega)
    replace hb := dF' hb
    simp only [pu', p0', c1', c0', i1', z0', b8_nat]
    refine spickF ?_
    simp only [pu', p0', c1', c0', i1', z0', b8_nat]
    refine smove ?_
    simp only [pu', p0', c1', c0', i1', z0', b8_nat]
    refine smove ?_
    simp only [pu', p0', c1', c0', i1', z0', b8_nat]
    refine smove ?_
    simp only [pu', p0', c1', c0', i1', z0', b8_nat]
    refine sM (hx := rfl) (sameI_el (s1 := y3) (s2 := y4) (l := bl) w2) ?_
    simp only [pu', p0', c1', c0', i1', z0', b8_nat]
    refine snotT ?_
    simp only [pu', p0', c1', c0', i1', z0', b8_nat]
    refine spickF ?_
    simp only [pu', p0', c1', c0', i1', z0', b8_nat]
    refine smove ?_
    simp only [pu', p0', c1', c0', i1', z0', b8_nat]
    refine smove ?_
    simp only [pu', p0', c1', c0', i1', z0', b8_nat]
    refine smove ?_
    simp only [pu', p0', c1', c0', i1', z0', b8_nat]
    refine sNe (fun hb => ?_) (fun hb => ?_)
    replace hb := dT' hb
    (exfalso; omega)
    replace hb := dF' hb
    simp only [pu', p0', c1', c0', i1', z0', b8_nat]
    refine spickF ?_
    simp only [pu', p0', c1', c0', i1', z0', b8_nat]
    with_reducible refine s_end ?_
    with_reducible refine s_then ?_
    refine sCF ?_
    with_reducible refine s_skip ?_
    with_reducible refine s_then ?_
    with_reducible refine s_seq ?_
    with_reducible refine s_reg ?_
    refine sloadW ?_
    simp only [pu', p0', c1', c0', i1', z0', b8_nat]
    refine sM (hx := rfl) (c23 _ inferInstance inferInstance inferInstance) ?_
    simp only [pu', p0', c1', c0', i1', z0', b8_nat]
    refine smove ?_
    simp only [pu', p0', c1', c0', i1', z0', b8_nat]
    refine sext ?_
    simp only [pu', p0', c1', c0', i1', z0', b8_nat]
    refine sext ?_
    simp only [pu', p0', c1', c0', i1', z0', b8_nat]
    refine sassign ?_
    simp only [pu', p0', c1', c0', i1', z0', b8_nat]
    refine sassign ?_
    simp only [pu', p0', c1', c0', i1', z0', b8_nat]
    with_reducible refine s_end ?_
    with_reducible refine s_then ?_
    with_reducible refine s_seq ?_
    with_reducible refine s_reg ?_
    refine sloadW ?_
    simp only [pu', p0', c1', c0', i1', z0', b8_nat]
    refine sM (hx := rfl) (c34 _ inferInstance inferInstance inferInstance) ?_
    simp only [pu', p0', c1', c0', i1', z0', b8_nat]
    refine smove ?_
    simp only [pu', p0', c1', c0', i1', z0', b8_nat]
    refine sext ?_
    simp only [pu', p0', c1', c0', i1', z0', b8_nat]
    refine sext ?_
    simp only [pu', p0', c1', c0', i1', z0', b8_nat]
    refine sassign ?_
    simp only [pu', p0', c1', c0', i1', z0', b8_nat]
    refine sassign ?_
    simp only [pu', p0', c1', c0', i1', z0', b8_nat]
    with_reducible refine s_end ?_
    with_reducible refine s_then ?_
    with_reducible refine s_seq ?_
    with_reducible refine s_reg ?_
    refine sloadW ?_
    simp only [pu', p0', c1', c0', i1', z0', b8_nat]
    refine sM (hx := rfl) (c25 _ inferInstance inferInstance inferInstance) ?_
    simp only [pu', p0', c1', c0', i1', z0', b8_nat]
    refine smove ?_
    simp only [pu', p0', c1', c0', i1', z0', b8_nat]
    refine sext ?_
    simp only [pu', p0', c1', c0', i1', z0', b8_nat]
    refine sext ?_
    simp only [pu', p0', c1', c0', i1', z0', b8_nat]
    refine sassign ?_
    simp only [pu', p0', c1', c0', i1', z0', b8_nat]
    refine sassign ?_
    simp only [pu', p0', c1', c0', i1', z0', b8_nat]
    with_reducible refine s_end ?_
    with_reducible refine s_then ?_
    with_reducible refine s_seq ?_
    with_reducible refine s_reg ?_
    refine sloadW ?_
    simp only [pu', p0', c1', c0', i1', z0', b8_nat]
    refine sM (hx := rfl) (c35 _ inferInstance inferInstance inferInstance) ?_
    simp only [pu', p0', c1', c0', i1', z0', b8_nat]
    refine smove ?_
    simp only [pu', p0', c1', c0', i1', z0', b8_nat]
    refine sext ?_
    simp only [pu', p0', c1', c0', i1', z0', b8_nat]
    refine sext ?_
    simp only [pu', p0', c1', c0', i1', z0', b8_nat]
    refine sassign ?_
    simp only [pu', p0', c1', c0', i1', z0', b8_nat]
    refine sassign ?_
    simp only [pu', p0', c1', c0', i1', z0', b8_nat]
    with_reducible refine s_end ?_
    with_reducible refine s_then ?_
    with_reducible refine s_seq ?_
    with_reducible refine s_seq ?_
    with_reducible refine s_reg ?_
    refine smove ?_
    simp only [pu', p0', c1', c0', i1', z0', b8_nat]
    refine smove ?_
    simp only [pu', p0', c1', c0', i1', z0', b8_nat]
    refine sNe (fun hb => ?_) (fun hb => ?_)
    replace hb := dT' hb
    (exfalso; omega)
    replace hb := dF' hb
    simp only [pu', p0', c1', c0', i1', z0', b8_nat]
    refine smove ?_
    simp only [pu', p0', c1', c0', i1', z0', b8_nat]
    refine smove ?_
    simp only [pu', p0', c1', c0', i1', z0', b8_nat]
    refine smove ?_
    simp only [pu', p0', c1', c0', i1', z0', b8_nat]
    refine sNe (fun hb => ?_) (fun hb => ?_)
    replace hb := dT' hb
    (exfalso; omega)
    replace hb := dF' hb
    simp only [pu', p0', c1', c0', i1', z0', b8_nat]
    refine spickF ?_
    simp only [pu', p0', c1', c0', i1', z0', b8_nat]
    refine smove ?_
    simp only [pu', p0', c1', c0', i1', z0', b8_nat]
    refine smove ?_
    simp only [pu', p0', c1', c0', i1', z0', b8_nat]
    refine smove ?_
    simp only [pu', p0', c1', c0', i1', z0', b8_nat]
    refine sNe (fun hb => ?_) (fun hb => ?_)
    replace hb := dT' hb
    (exfalso; omega)
    replace hb := dF' hb
    simp only [pu', p0', c1', c0', i1', z0', b8_nat]
    refine spickF ?_
    simp only [pu', p0', c1', c0', i1', z0', b8_nat]
    refine smove ?_
    simp only [pu', p0', c1', c0', i1', z0', b8_nat]
    refine smove ?_
    simp only [pu', p0', c1', c0', i1', z0', b8_nat]
    refine smove ?_
    simp only [pu', p0', c1', c0', i1', z0', b8_nat]
    refine sNe (fun hb => ?_) (fun hb => ?_)
    replace hb := dT' hb
    (exfalso; omega)
    replace hb := dF' hb
    simp only [pu', p0', c1', c0', i1', z0', b8_nat]
    refine spickF ?_
    simp only [pu', p0', c1', c0', i1', z0', b8_nat]
    with_reducible refine s_end ?_
    with_reducible refine s_then ?_
    refine sCF ?_
    with_reducible refine s_skip ?_
    with_reducible refine s_then ?_
    with_reducible refine s_seq ?_
    with_reducible refine s_reg ?_
    refine sloadW ?_
    simp only [pu', p0', c1', c0', i1', z0', b8_nat]
    refine sM (hx := rfl) (c24 _ inferInstance inferInstance inferInstance) ?_
    simp only [pu', p0', c1', c0', i1', z0', b8_nat]
    refine smove ?_
    simp only [pu', p0', c1', c0', i1', z0', b8_nat]
    refine sext ?_
    simp only [pu', p0', c1', c0', i1', z0', b8_nat]
    refine sext ?_
    simp only [pu', p0', c1', c0', i1', z0', b8_nat]
    refine sassign ?_
    simp only [pu', p0', c1', c0', i1', z0', b8_nat]
    refine sassign ?_
    simp only [pu', p0', c1', c0', i1', z0', b8_nat]
    with_reducible refine s_end ?_
    with_reducible refine s_then ?_
    with_reducible refine s_seq ?_
    with_reducible refine s_reg ?_
    refine sloadW ?_
    simp only [pu', p0', c1', c0', i1', z0', b8_nat]
    refine sM (hx := rfl) (c36 _ inferInstance inferInstance inferInstance) ?_
    simp only [pu', p0', c1', c0', i1', z0', b8_nat]
    refine smove ?_
    simp only [pu', p0', c1', c0', i1', z0', b8_nat]
    refine sext ?_
    simp only [pu', p0', c1', c0', i1', z0', b8_nat]
    refine sext ?_
    simp only [pu', p0', c1', c0', i1', z0', b8_nat]
    refine sassign ?_
    simp only [pu', p0', c1', c0', i1', z0', b8_nat]
    refine sassign ?_
    simp only [pu', p0', c1', c0', i1', z0', b8_nat]
    with_reducible refine s_end ?_
    with_reducible refine s_then ?_
    with_reducible refine s_seq ?_
    with_reducible refine s_reg ?_
    refine sloadW ?_
    simp only [pu', p0', c1', c0', i1', z0', b8_nat]
    refine sM (hx := rfl) (c30 _ inferInstance inferInstance inferInstance) ?_
    simp only [pu', p0', c1', c0', i1', z0', b8_nat]
    refine smove ?_
    simp only [pu', p0', c1', c0', i1', z0', b8_nat]
    refine sext ?_
    simp only [pu', p0', c1', c0', i1', z0', b8_nat]
    refine sext ?_
    simp only [pu', p0', c1', c0', i1', z0', b8_nat]
    refine sext ?_
    simp only [pu', p0', c1', c0', i1', z0', b8_nat]
    refine sassign ?_
    simp only [pu', p0', c1', c0', i1', z0', b8_nat]
    refine sassign ?_
    simp only [pu', p0', c1', c0', i1', z0', b8_nat]
    refine sassign ?_
    simp only [pu', p0', c1', c0', i1', z0', b8_nat]
    with_reducible refine s_end ?_
    with_reducible refine s_then ?_
    with_reducible refine s_seq ?_
    with_reducible refine s_reg ?_
    refine sloadW ?_
    simp only [pu', p0', c1', c0', i1', z0', b8_nat]
    refine sM (hx := rfl) (c37 _ inferInstance inferInstance inferInstance) ?_
    simp only [pu', p0', c1', c0', i1', z0', b8_nat]
    refine smove ?_
    simp only [pu', p0', c1', c0', i1', z0', b8_nat]
    refine sext ?_
    simp only [pu', p0', c1', c0', i1', z0', b8_nat]
    refine sext ?_
    simp only [pu', p0', c1', c0', i1', z0', b8_nat]
    refine sext ?_
    simp only [pu', p0', c1', c0', i1', z0', b8_nat]
    refine sassign ?_
    simp only [pu', p0', c1', c0', i1', z0', b8_nat]
    refine sassign ?_
    simp only [pu', p0', c1', c0', i1', z0', b8_nat]
    refine sassign ?_
    simp only [pu', p0', c1', c0', i1', z0', b8_nat]
    with_reducible refine s_end ?_
    with_reducible refine s_then ?_
    with_reducible refine s_seq ?_
    with_reducible refine s_reg ?_
    refine smove ?_
    simp only [pu', p0', c1', c0', i1', z0', b8_nat]
    refine smove ?_
    simp only [pu', p0', c1', c0', i1', z0', b8_nat]
    refine seqB (fun hb => ?_) (fun hb => ?_)
    simp only [decide_eq_true_eq, Int.toNat_natCast, decide_eq_false_iff_not, Bool.not_eq_true', Bool.not_eq_false', not_true_eq_false, not_false_eq_true, beq_self_eq_true, Bool.and_true, Bool.true_and, Bool.and_false, Bool.false_and, Bool.and_eq_true, Bool.and_eq_false_iff, beq_iff_eq, beq_eq_false_iff_ne, ne_eq, Bool.not_true, Bool.not_false, Bool.true_eq_false, Bool.false_eq_true, Bool.not_eq_true, Bool.not_eq_false, and_true, true_and, and_false, false_and, or_false, false_or, or_true, true_or] at hb
    simp only [pu', p0', c1', c0', i1', z0', b8_nat]
    refine smove ?_
    simp only [pu', p0', c1', c0', i1', z0', b8_nat]
    refine smove ?_
    simp only [pu', p0', c1', c0', i1', z0', b8_nat]
    refine smove ?_
    simp only [pu', p0', c1', c0', i1', z0', b8_nat]
    refine sEq (fun hb => ?_) (fun hb => ?_)
    replace hb := dT' hb
    simp only [pu', p0', c1', c0', i1', z0', b8_nat]
    refine spickT ?_
    simp only [pu', p0', c1', c0', i1', z0', b8_nat]
    refine smove ?_
    simp only [pu', p0', c1', c0', i1', z0', b8_nat]
    refine smove ?_
    simp only [pu', p0', c1', c0', i1', z0', b8_nat]
    refine smove ?_
    simp only [pu', p0', c1', c0', i1', z0', b8_nat]
    refine sEq (fun hb => ?_) (fun hb => ?_)
    replace hb := dT' hb
    simp only [pu', p0', c1', c0', i1', z0', b8_nat]
    refine spickT ?_
    simp only [pu', p0', c1', c0', i1', z0', b8_nat]
    refine smove ?_
    simp only [pu', p0', c1', c0', i1', z0', b8_nat]
    refine smove ?_
    simp only [pu', p0', c1', c0', i1', z0', b8_nat]
    refine smove ?_
    simp only [pu', p0', c1', c0', i1', z0', b8_nat]
    refine sEq (fun hb => ?_) (fun hb => ?_)
    replace hb := dT' hb
    simp only [pu', p0', c1', c0', i1', z0', b8_nat]
    refine spickT ?_
    simp only [pu', p0', c1', c0', i1', z0', b8_nat]
    refine smove ?_
    simp only [pu', p0', c1', c0', i1', z0', b8_nat]
    refine smove ?_
    simp only [pu', p0', c1', c0', i1', z0', b8_nat]
    refine smove ?_
    simp only [pu', p0', c1', c0', i1', z0', b8_nat]
    refine sEq (fun hb => ?_) (fun hb => ?_)
    replace hb := dT' hb
    simp only [pu', p0', c1', c0', i1', z0', b8_nat]
    refine spickT ?_
    simp only [pu', p0', c1', c0', i1', z0', b8_nat]
    refine smove ?_
    simp only [pu', p0', c1', c0', i1', z0', b8_nat]
    refine sM (hx := rfl) (awake11 _) ?_
    simp only [pu', p0', c1', c0', i1', z0', b8_nat]
    refine spickT ?_
    simp only [pu', p0', c1', c0', i1', z0', b8_nat]
    refine sassign ?_
    simp only [pu', p0', c1', c0', i1', z0', b8_nat]
    with_reducible refine s_end ?_
    with_reducible refine s_then ?_
    with_reducible refine s_ret ?_
    rotate_left 1
    replace hb := dF' hb
    exact absurd rfl hb
    replace hb := dF' hb
    exact absurd rfl hb
    replace hb := dF' hb
    exact absurd rfl hb
    replace hb := dF' hb
    exact absurd rfl hb
    simp only [decide_eq_true_eq, Int.toNat_natCast, decide_eq_false_iff_not, Bool.not_eq_true', Bool.not_eq_false', not_true_eq_false, not_false_eq_true, beq_self_eq_true, Bool.and_true, Bool.true_and, Bool.and_false, Bool.false_and, Bool.and_eq_true, Bool.and_eq_false_iff, beq_iff_eq, beq_eq_false_iff_ne, ne_eq, Bool.not_true, Bool.not_false, Bool.true_eq_false, Bool.false_eq_true, Bool.not_eq_true, Bool.not_eq_false, and_true, true_and, and_false, false_and, or_false, false_or, or_true, true_or] at hb
  all_goals
    all_goals try with_reducible refine w_n ?_
    all_goals refine w_1 rfl (by first | exact v_t (by rfl) | exact v_c1 (C1.p) (by rfl) (HA.p) (by rfl) | exact v_cF (CA.p) (by rfl) (HA.p) (by rfl)) ?_
    exact ⟨rfl, Sep.ext, rfl, trivial⟩
theorem law8 (out : Int) (h : Hp) (su : AV) (us : List Int) (sw : AV) (ws : List Wk) (st : AV) (ts : List Tk) (hU : Elts (encI .i64) 1 h su us) (hW : Elts encW 2 h sw ws) (hT : Elts encT 4 h st ts) : ACalls Try.prog 8 [PA su sw st out] h (fun r _ => r = B true) := by
  have a : EI h su us := mkEL iok 0 hU
  have b : EK h sw ws := mkEL encW_ok wk0 hW
  have c : ET h st ts := mkEL encT_ok tk0 hT
  by_cases hl : lightP ⟨us, ws, ts, out⟩
  · exact (law8_a h ⟨us, ws, ts, out⟩ su sw st a b c hl).mono fun r h' _ hh => hh.1
  · refine ACalls.mono (N := fun r h' => r = B true ∧ h' = h) ?_ fun r h' _ hh => hh.1
    have c10 : ∀ Y, EI Y su us → EK Y sw ws → ET Y st ts → ACalls Try.prog 10 [PA su sw st out] Y (fun r h' => r = B false ∧ h' = Y) := fun Y a b c => by
      have := light10 Y ⟨us, ws, ts, out⟩ su sw st a b c
      rwa [decide_eq_false hl] at this
    have pu := a.p.sl
    have pw := b.p.sl
    have pt := c.p.sl
    clear hl
    refine acalls_back ?_
    refine acalls_of_wk hm Try.func8 rfl ?_
    simp only [Try.ntmps8, List.length_cons, List.length_nil, Nat.reduceAdd, Nat.reduceSub, List.reduceReplicate, List.cons_append, List.nil_append]
    show wk _ _ none _ _ ⟨_, []⟩ _
    with_reducible refine s_seq ?_
    with_reducible refine s_reg ?_
    refine sboxA ?_
    simp only [pu', p0', c1', c0', i1', n0', n3', n1', n2', a2', a1', a0', n4', Nat.reduceAdd, z0', n5', sa0, sa1, sa2, sa3, sa4, sa5, sa6, sa7, sa8, sa9, sa10, sa11]
    refine sassign ?_
    simp only [pu', p0', c1', c0', i1', z0', b8_nat]
    with_reducible refine s_end ?_
    with_reducible refine s_then ?_
    with_reducible refine s_seq ?_
    with_reducible refine s_seq ?_
    with_reducible refine s_reg ?_
    refine sloadW ?_
    simp only [pu', p0', c1', c0', i1', z0', b8_nat]
    refine sM (hx := rfl) (c10 _ inferInstance inferInstance inferInstance) ?_
    simp only [pu', p0', c1', c0', i1', z0', b8_nat]
    refine snotF ?_
    simp only [pu', p0', c1', c0', i1', z0', b8_nat]
    with_reducible refine s_end ?_
    with_reducible refine s_then ?_
    refine sCT ?_
    with_reducible refine s_seq ?_
    with_reducible refine s_reg ?_
    refine sM (hx := rfl) (awake11 _) ?_
    simp only [pu', p0', c1', c0', i1', z0', b8_nat]
    refine sassign ?_
    simp only [pu', p0', c1', c0', i1', z0', b8_nat]
    with_reducible refine s_end ?_
    with_reducible refine s_then ?_
    with_reducible refine s_ret ?_
    with_reducible refine s_thenR ?_
    all_goals try with_reducible refine w_n ?_
    all_goals refine w_1 rfl (by first | exact v_t (by rfl) | exact v_c1 (C1.p) (by rfl) (HA.p) (by rfl) | exact v_cF (CA.p) (by rfl) (HA.p) (by rfl)) ?_
    exact ⟨rfl, ext_app _ _, rfl, trivial⟩
end Go.Proofs.Ytfcgmkpihmiadaa
