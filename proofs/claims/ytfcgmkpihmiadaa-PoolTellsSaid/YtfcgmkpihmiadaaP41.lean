/-
  A part of the proof of a statement of a chapter's seat; conditions: stated at each theorem.
-/
import Derived.Test.YtfcgmkpihmiadaaP40
set_option linter.unusedVariables false
set_option linter.unusedSectionVars false
set_option linter.unusedSimpArgs false
set_option linter.unusedVariables false
set_option maxRecDepth 100000
set_option maxHeartbeats 8000000
namespace Go.Proofs.Ytfcgmkpihmiadaa
open Go.Az Go
/-! ### What is left, as the document says it -/
theorem uR_bd {p : Pl} (h : Inv p) : ∀ k : Nat, k ≤ p.us.length → 0 ≤ sumF (uR p) (List.range k) ∧ sumF (uR p) (List.range k) ≤ k * 1099511627777
  | 0, _ => ⟨Int.le_refl _, by show (0 : Int) ≤ _; omega⟩
  | k + 1, hk => by
    have ih := uR_bd h k (by omega)
    have hb := h.gb k (by omega)
    have hn := (uR_nn h k (by omega)).1
    rw [List.range_succ, sumF_app]
    have e : sumF (uR p) [k] = uR p k + 0 := rfl
    have h1 : uR p k ≤ 1099511627777 := by
      unfold uR
      split
      · omega
      · have := inS_lt h k (by omega) (by assumption)
        omega
    rw [e]
    push_cast
    omega
def inT (i : Int) (w : Wk) : Int := if w.j = i then w.d + 1 else 0
theorem inT_bd {p : Pl} (h : Inv p) (i : Nat) {k : Nat} (hk : k < p.ws.length) : 0 ≤ inT i (p.ws.getD k wk0) ∧ inT i (p.ws.getD k wk0) ≤ 1099511627777 := by
  have := dF_bd1 h hk
  unfold dF at this
  unfold inT
  split
  · rw [if_pos (by omega)] at this; omega
  · omega
theorem inS_bd {p : Pl} (h : Inv p) (i : Nat) : ∀ k : Nat, k ≤ p.ws.length → 0 ≤ sumF (inT i) (p.ws.take k) ∧ sumF (inT i) (p.ws.take k) ≤ k * 1099511627777
  | 0, _ => ⟨Int.le_refl _, by show (0 : Int) ≤ _; omega⟩
  | k + 1, hk => by
    have ih := inS_bd h i k (by omega)
    have hb := inT_bd h i (k := k) (by omega)
    rw [sumF_take (inT i) wk0 (by omega)]
    push_cast
    omega
theorem rleft35 (X : Hp) (p : Pl) (su sw st : AV) (a : EI X su p.us) (b : EK X sw p.ws) (c : ET X st p.ts) (hf : Fits p) : ACalls Try.prog 35 [PA su sw st p.out] X (fun r h' => r = .tup [I (leftQ p), I (poolE p)] ∧ h' = X) := by
  have pu := a.p.sl
  have pw := b.p.sl
  have pt := c.p.sl
  have S0 := Sep.nil X
  have f1 := hf.u
  have f2 := hf.w
  have f3 := hf.t
  have c18 := fun Y a b c => rcheck39 Y p su sw st a b c hf
  have hi := fun h => (inv_iff p).1 h
  refine acalls_back ?_
  by_cases he : poolE p = 0
  · have hgu := (hi he).gu
    have hgn := (hi he).gn
    have hgb := (hi he).gb
    have hbd := uR_bd (hi he)
    have hdb := inS_bd (hi he)
    have hd1 := fun i k (hk : k < p.ws.length) => inT_bd (hi he) i hk
    rw [leftQ, if_pos he, he, ← left_ref (hi he)]
    rw [he] at c18
    have hR1 : ∀ k, ovr p.ts k → uR p k = 0 := fun k h => if_pos h
    have hR2 : ∀ k, ¬ ovr p.ts k → uR p k = p.us.getD k 0 + 1 - sumF (inT k) p.ws := fun k h => if_neg h
    clear hi
    generalize uR p = ur at *
    obtain ⟨us, ws, ts, out⟩ := p
    simp only [] at a b c c18 f1 f2 f3 hgu hgn hgb hbd hdb hd1 hR1 hR2 ⊢
    refine acalls_of_wk hm Try.func35 rfl ?_
    simp only [Try.ntmps35, List.length_cons, List.length_nil, Nat.reduceAdd, Nat.reduceSub, List.reduceReplicate, List.cons_append, List.nil_append]
    show wk _ _ none _ _ ⟨_, []⟩ _
    with_reducible refine s_seq ?_
    with_reducible refine s_reg ?_
    refine sboxA ?_
    simp only [pu', p0', c1', c0', i1', n0', n3', n1', n2', a2', a1', a0', n4', Nat.reduceAdd, z0', n5', sa0, sa1, sa2, sa3, sa4, sa5, sa6, sa7, sa8, sa9, sa10, sa11]
    refine sassign ?_
    simp only [pu', p0', c1', c0', i1', z0', b8_nat]
    refine sassign ?_
    simp only [pu', p0', c1', c0', i1', z0', b8_nat]
    with_reducible refine s_end ?_
    with_reducible refine s_then ?_
    with_reducible refine s_seq ?_
    with_reducible refine s_seq ?_
    with_reducible refine s_reg ?_
    refine sloadW ?_
    simp only [pu', p0', c1', c0', i1', z0', b8_nat]
    refine sM (hx := rfl) (c18 _ inferInstance inferInstance inferInstance) ?_
    simp only [pu', p0', c1', c0', i1', z0', b8_nat]
    refine sassign ?_
    simp only [pu', p0', c1', c0', i1', z0', b8_nat]
    with_reducible refine s_end ?_
    with_reducible refine s_then ?_
    with_reducible refine s_seq ?_
    with_reducible refine s_reg ?_
    refine smove ?_
    simp only [pu', p0', c1', c0', i1', z0', b8_nat]
    refine sNe (fun hb => ?_) (fun hb => ?_)
    replace hb := dT' hb
    (exfalso; omega)
    replace hb := dF' hb
    simp only [pu', p0', c1', c0', i1', z0', b8_nat]
    with_reducible refine s_end ?_
    with_reducible refine s_then ?_
    refine sCF ?_
    with_reducible refine s_skip ?_
    with_reducible refine s_then ?_
    with_reducible refine s_seq ?_
    with_reducible refine s_reg ?_
    refine sassign ?_
    simp only [pu', p0', c1', c0', i1', z0', b8_nat]
    with_reducible refine s_end ?_
    with_reducible refine s_then ?_
    with_reducible refine s_seq ?_
    with_reducible refine s_seq ?_
    with_reducible refine s_reg ?_
    refine sassign ?_
    simp only [pu', p0', c1', c0', i1', z0', b8_nat]
    with_reducible refine s_end ?_
    with_reducible refine s_then ?_
    with_reducible refine s_block ?_
    refine s_loop hm (fun (b : Nat) s' => [s' 0, .ptr X.length 0, s' 2, s' 3, s' 4, I (sumF ur (List.range b)), I b, s' 7, s' 8, s' 9, s' 10, s' 11, s' 12, s' 13, s' 14, s' 15, s' 16, s' 17, s' 18, s' 19, s' 20, s' 21, s' 22, s' 23, s' 24, s' 25, s' 26, s' 27, s' 28, s' 29, s' 30, s' 31, s' 32, s' 33, s' 34, s' 35, s' 36, s' 37, s' 38, s' 39, s' 40, s' 41, s' 42, s' 43, s' 44, s' 45, s' 46, s' 47, s' 48, s' 49, s' 50, s' 51, s' 52, s' 53, s' 54, s' 55, s' 56, s' 57, s' 58, s' 59, s' 60, s' 61, s' 62, s' 63, s' 64, s' 65, s' 66]) (fun _ => X ++ [.cells [su, sw, st, I out] 26 true]) (fun b => b ≤ us.length) (fun b => us.length - b) 0 (by rfl) rfl (Nat.zero_le _) ?_
    intro k s' hk
    have h1 := hbd k hk
    have h2 := hgb k
    have hu : k < us.length → sumF ur (List.range (k + 1)) = sumF ur (List.range k) + ur k := fun h => by
      rw [List.range_succ, sumF_app]; show _ + (ur k + 0) = _; omega
    have hu1 := hR1 k
    have hu2 := hR2 k
    clear hR1 hR2
    by_cases hkl : k < us.length
    · by_cases hov : ovr ts k
      · have ho1 := hov.1
        have ho2 := hov.2
        focus
          with_reducible refine s_seq ?_
          with_reducible refine s_seq ?_
          with_reducible refine s_reg ?_
          refine smove ?_
          simp only [pu', p0', c1', c0', i1', z0', b8_nat]
          refine sfad ?_
          simp only [pu', p0', c1', c0', i1', z0', b8_nat]
          refine sload1 ?_
          simp only [pu', p0', c1', c0', i1', z0', b8_nat]
          refine slenE ?_
          simp only [pu', p0', c1', c0', i1', z0', b8_nat]
          refine sLt (fun hb => ?_) (fun hb => ?_)
          replace hb := dT' hb
          simp only [pu', p0', c1', c0', i1', z0', b8_nat]
          with_reducible refine s_end ?_
          with_reducible refine s_then ?_
          refine sCT ?_
          with_reducible refine s_skip ?_
          with_reducible refine s_then ?_
          with_reducible refine s_seq ?_
          with_reducible refine s_block ?_
          with_reducible refine s_seq ?_
          with_reducible refine s_seq ?_
          with_reducible refine s_reg ?_
          refine smove ?_
          simp only [pu', p0', c1', c0', i1', z0', b8_nat]
          refine sfad ?_
          simp only [pu', p0', c1', c0', i1', z0', b8_nat]
          refine sload1 ?_
          simp only [pu', p0', c1', c0', i1', z0', b8_nat]
          refine slenE ?_
          simp only [pu', p0', c1', c0', i1', z0', b8_nat]
          refine sLt (fun hb => ?_) (fun hb => ?_)
          replace hb := dT' hb
          simp only [pu', p0', c1', c0', i1', z0', b8_nat]
          refine smove ?_
          simp only [pu', p0', c1', c0', i1', z0', b8_nat]
          refine sfad ?_
          simp only [pu', p0', c1', c0', i1', z0', b8_nat]
          refine sload1 ?_
          simp only [pu', p0', c1', c0', i1', z0', b8_nat]
          refine smove ?_
          simp only [pu', p0', c1', c0', i1', z0', b8_nat]
          refine sidxE ?_
          simp only [pu', p0', c1', c0', i1', z0', b8_nat]
          refine sfadE ?_
          simp only [pu', p0', c1', c0', i1', z0', b8_nat]
          refine sloadBF (fun hb => ?_) (fun hb => ?_)
          simp only [decide_eq_true_eq, Int.toNat_natCast, decide_eq_false_iff_not, Bool.not_eq_true', Bool.not_eq_false', not_true_eq_false, not_false_eq_true, beq_self_eq_true, Bool.and_true, Bool.true_and, Bool.and_false, Bool.false_and, Bool.and_eq_true, Bool.and_eq_false_iff, beq_iff_eq, beq_eq_false_iff_ne, ne_eq, Bool.not_true, Bool.not_false, Bool.true_eq_false, Bool.false_eq_true, Bool.not_eq_true, Bool.not_eq_false, and_true, true_and, and_false, false_and, or_false, false_or, or_true, true_or] at hb
          simp only [pu', p0', c1', c0', i1', z0', b8_nat]
          refine spickT ?_
          simp only [pu', p0', c1', c0', i1', z0', b8_nat]
          with_reducible refine s_end ?_
          with_reducible refine s_then ?_
          refine sCT ?_
          with_reducible refine s_exit ?_
          with_reducible refine s_thenE ?_
          with_reducible refine s_blkE ?_
          with_reducible refine s_then ?_
          with_reducible refine s_reg ?_
          refine smove ?_
          simp only [pu', p0', c1', c0', i1', z0', b8_nat]
          refine sadd ?_
          simp only [pu', p0', c1', c0', i1', z0', b8_nat]
          refine sassign ?_
          simp only [pu', p0', c1', c0', i1', z0', b8_nat]
          with_reducible refine s_end ?_
          rotate_left 1
          simp only [decide_eq_true_eq, Int.toNat_natCast, decide_eq_false_iff_not, Bool.not_eq_true', Bool.not_eq_false', not_true_eq_false, not_false_eq_true, beq_self_eq_true, Bool.and_true, Bool.true_and, Bool.and_false, Bool.false_and, Bool.and_eq_true, Bool.and_eq_false_iff, beq_iff_eq, beq_eq_false_iff_ne, ne_eq, Bool.not_true, Bool.not_false, Bool.true_eq_false, Bool.false_eq_true, Bool.not_eq_true, Bool.not_eq_false, and_true, true_and, and_false, false_and, or_false, false_or, or_true, true_or] at hb
          exact bX' (by with_reducible assumption) hb
          replace hb := dF' hb
          (exfalso; omega)
          replace hb := dF' hb
          (exfalso; omega)
        refine l_next (k + 1) (by omega) (by omega) (by
          rw [hu (by omega), hu1 hov, Int.add_zero]; rfl) rfl
      · by_cases hkt : k < ts.length
        · have ho3 : (ts.getD k tk0).o = false := by
            cases hx : (ts.getD k tk0).o
            · rfl
            · exact absurd ⟨hkt, hx⟩ hov
          focus
            with_reducible refine s_seq ?_
            with_reducible refine s_seq ?_
            with_reducible refine s_reg ?_
            refine smove ?_
            simp only [pu', p0', c1', c0', i1', z0', b8_nat]
            refine sfad ?_
            simp only [pu', p0', c1', c0', i1', z0', b8_nat]
            refine sload1 ?_
            simp only [pu', p0', c1', c0', i1', z0', b8_nat]
            refine slenE ?_
            simp only [pu', p0', c1', c0', i1', z0', b8_nat]
            refine sLt (fun hb => ?_) (fun hb => ?_)
            replace hb := dT' hb
            simp only [pu', p0', c1', c0', i1', z0', b8_nat]
            with_reducible refine s_end ?_
            with_reducible refine s_then ?_
            refine sCT ?_
            with_reducible refine s_skip ?_
            with_reducible refine s_then ?_
            with_reducible refine s_seq ?_
            with_reducible refine s_block ?_
            with_reducible refine s_seq ?_
            with_reducible refine s_seq ?_
            with_reducible refine s_reg ?_
            refine smove ?_
            simp only [pu', p0', c1', c0', i1', z0', b8_nat]
            refine sfad ?_
            simp only [pu', p0', c1', c0', i1', z0', b8_nat]
            refine sload1 ?_
            simp only [pu', p0', c1', c0', i1', z0', b8_nat]
            refine slenE ?_
            simp only [pu', p0', c1', c0', i1', z0', b8_nat]
            refine sLt (fun hb => ?_) (fun hb => ?_)
            replace hb := dT' hb
            simp only [pu', p0', c1', c0', i1', z0', b8_nat]
            refine smove ?_
            simp only [pu', p0', c1', c0', i1', z0', b8_nat]
            refine sfad ?_
            simp only [pu', p0', c1', c0', i1', z0', b8_nat]
            refine sload1 ?_
            simp only [pu', p0', c1', c0', i1', z0', b8_nat]
            refine smove ?_
            simp only [pu', p0', c1', c0', i1', z0', b8_nat]
            refine sidxE ?_
            simp only [pu', p0', c1', c0', i1', z0', b8_nat]
            refine sfadE ?_
            simp only [pu', p0', c1', c0', i1', z0', b8_nat]
            refine sloadBF (fun hb => ?_) (fun hb => ?_)
            simp only [decide_eq_true_eq, Int.toNat_natCast, decide_eq_false_iff_not, Bool.not_eq_true', Bool.not_eq_false', not_true_eq_false, not_false_eq_true, beq_self_eq_true, Bool.and_true, Bool.true_and, Bool.and_false, Bool.false_and, Bool.and_eq_true, Bool.and_eq_false_iff, beq_iff_eq, beq_eq_false_iff_ne, ne_eq, Bool.not_true, Bool.not_false, Bool.true_eq_false, Bool.false_eq_true, Bool.not_eq_true, Bool.not_eq_false, and_true, true_and, and_false, false_and, or_false, false_or, or_true, true_or] at hb
            exact bX' hb (by with_reducible assumption)
            simp only [decide_eq_true_eq, Int.toNat_natCast, decide_eq_false_iff_not, Bool.not_eq_true', Bool.not_eq_false', not_true_eq_false, not_false_eq_true, beq_self_eq_true, Bool.and_true, Bool.true_and, Bool.and_false, Bool.false_and, Bool.and_eq_true, Bool.and_eq_false_iff, beq_iff_eq, beq_eq_false_iff_ne, ne_eq, Bool.not_true, Bool.not_false, Bool.true_eq_false, Bool.false_eq_true, Bool.not_eq_true, Bool.not_eq_false, and_true, true_and, and_false, false_and, or_false, false_or, or_true, true_or] at hb
            simp only [pu', p0', c1', c0', i1', z0', b8_nat]
            refine spickT ?_
            simp only [pu', p0', c1', c0', i1', z0', b8_nat]
            with_reducible refine s_end ?_
            with_reducible refine s_then ?_
            refine sCF ?_
            with_reducible refine s_skip ?_
            with_reducible refine s_then ?_
            with_reducible refine s_seq ?_
            with_reducible refine s_reg ?_
            refine smove ?_
            simp only [pu', p0', c1', c0', i1', z0', b8_nat]
            refine sfad ?_
            simp only [pu', p0', c1', c0', i1', z0', b8_nat]
            refine sload1 ?_
            simp only [pu', p0', c1', c0', i1', z0', b8_nat]
            refine smove ?_
            simp only [pu', p0', c1', c0', i1', z0', b8_nat]
            refine sidxE ?_
            simp only [pu', p0', c1', c0', i1', z0', b8_nat]
            refine sloadE1 ?_
            simp only [pu', p0', c1', c0', i1', z0', b8_nat]
            refine sadd ?_
            simp only [pu', p0', c1', c0', i1', z0', b8_nat]
            refine sadd ?_
            simp only [pu', p0', c1', c0', i1', z0', b8_nat]
            refine sassign ?_
            simp only [pu', p0', c1', c0', i1', z0', b8_nat]
            with_reducible refine s_end ?_
            with_reducible refine s_then ?_
            with_reducible refine s_seq ?_
            with_reducible refine s_reg ?_
            refine sassign ?_
            simp only [pu', p0', c1', c0', i1', z0', b8_nat]
            with_reducible refine s_end ?_
            with_reducible refine s_then ?_
            with_reducible refine s_block ?_
            rotate_left 1
            replace hb := dF' hb
            (exfalso; omega)
            replace hb := dF' hb
            (exfalso; omega)
          have hd := hdb k
          refine s_loop hm (fun (b : Nat) s' => [s' 0, .ptr X.length 0, s' 2, s' 3, s' 4, I (sumF ur (List.range k) + us.getD k 0 + 1 - sumF (inT k) (ws.take b)), I k, I b, s' 8, s' 9, s' 10, s' 11, s' 12, s' 13, s' 14, s' 15, s' 16, s' 17, s' 18, s' 19, s' 20, s' 21, s' 22, s' 23, s' 24, s' 25, s' 26, s' 27, s' 28, s' 29, s' 30, s' 31, s' 32, s' 33, s' 34, s' 35, s' 36, s' 37, s' 38, s' 39, s' 40, s' 41, s' 42, s' 43, s' 44, s' 45, s' 46, s' 47, s' 48, s' 49, s' 50, s' 51, s' 52, s' 53, s' 54, s' 55, s' 56, s' 57, s' 58, s' 59, s' 60, s' 61, s' 62, s' 63, s' 64, s' 65, s' 66]) (fun _ => X ++ [.cells [su, sw, st, I out] 26 true]) (fun b => b ≤ ws.length) (fun b => ws.length - b) 0 (by rw [List.take_zero, show sumF (inT k) ([] : List Wk) = 0 from rfl, Int.sub_zero]; rfl) rfl (Nat.zero_le _) ?_
          intro j s' hj
          have h3 := hd j hj
          have h4 := hd1 k j
          have hs : j < ws.length → sumF (inT k) (ws.take (j + 1)) = sumF (inT k) (ws.take j) + inT k (ws.getD j wk0) := fun h => sumF_take (inT k) wk0 h
          have hs1 : (ws.getD j wk0).j = k → inT k (ws.getD j wk0) = (ws.getD j wk0).d + 1 := fun h => if_pos h
          have hs2 : ¬ (ws.getD j wk0).j = k → inT k (ws.getD j wk0) = 0 := fun h => if_neg h
          focus
            with_reducible refine s_seq ?_
            with_reducible refine s_seq ?_
            with_reducible refine s_reg ?_
            refine smove ?_
            simp only [pu', p0', c1', c0', i1', z0', b8_nat]
            refine sfad ?_
            simp only [pu', p0', c1', c0', i1', z0', b8_nat]
            refine sload1 ?_
            simp only [pu', p0', c1', c0', i1', z0', b8_nat]
            refine slenE ?_
            simp only [pu', p0', c1', c0', i1', z0', b8_nat]
            refine sLt (fun hb => ?_) (fun hb => ?_)
            replace hb := dT' hb
            simp only [pu', p0', c1', c0', i1', z0', b8_nat]
            with_reducible refine s_end ?_
            with_reducible refine s_then ?_
            refine sCT ?_
            with_reducible refine s_skip ?_
            with_reducible refine s_then ?_
            with_reducible refine s_seq ?_
            with_reducible refine s_block ?_
            with_reducible refine s_seq ?_
            with_reducible refine s_reg ?_
            refine sfad ?_
            simp only [pu', p0', c1', c0', i1', z0', b8_nat]
            refine sload1 ?_
            simp only [pu', p0', c1', c0', i1', z0', b8_nat]
            refine smove ?_
            simp only [pu', p0', c1', c0', i1', z0', b8_nat]
            refine sidxE ?_
            simp only [pu', p0', c1', c0', i1', z0', b8_nat]
            refine sfadE ?_
            simp only [pu', p0', c1', c0', i1', z0', b8_nat]
            refine sloadF ?_
            simp only [pu', p0', c1', c0', i1', z0', b8_nat]
            refine smove ?_
            simp only [pu', p0', c1', c0', i1', z0', b8_nat]
            refine sEq (fun hb => ?_) (fun hb => ?_)
            replace hb := dT' hb
            simp only [pu', p0', c1', c0', i1', z0', b8_nat]
            with_reducible refine s_end ?_
            with_reducible refine s_then ?_
            refine sCT ?_
            with_reducible refine s_reg ?_
            refine smove ?_
            simp only [pu', p0', c1', c0', i1', z0', b8_nat]
            refine ssub ?_
            simp only [pu', p0', c1', c0', i1', z0', b8_nat]
            refine sfad ?_
            simp only [pu', p0', c1', c0', i1', z0', b8_nat]
            refine sload1 ?_
            simp only [pu', p0', c1', c0', i1', z0', b8_nat]
            refine smove ?_
            simp only [pu', p0', c1', c0', i1', z0', b8_nat]
            refine sidxE ?_
            simp only [pu', p0', c1', c0', i1', z0', b8_nat]
            refine sfadE ?_
            simp only [pu', p0', c1', c0', i1', z0', b8_nat]
            refine sloadF ?_
            simp only [pu', p0', c1', c0', i1', z0', b8_nat]
            refine ssub ?_
            simp only [pu', p0', c1', c0', i1', z0', b8_nat]
            refine sassign ?_
            simp only [pu', p0', c1', c0', i1', z0', b8_nat]
            with_reducible refine s_end ?_
            with_reducible refine s_blkN ?_
            with_reducible refine s_then ?_
            with_reducible refine s_reg ?_
            refine smove ?_
            simp only [pu', p0', c1', c0', i1', z0', b8_nat]
            refine sadd ?_
            simp only [pu', p0', c1', c0', i1', z0', b8_nat]
            refine sassign ?_
            simp only [pu', p0', c1', c0', i1', z0', b8_nat]
            with_reducible refine s_end ?_
            rotate_left 1
            replace hb := dF' hb
            simp only [pu', p0', c1', c0', i1', z0', b8_nat]
            with_reducible refine s_end ?_
            with_reducible refine s_then ?_
            refine sCF ?_
            with_reducible refine s_skip ?_
            with_reducible refine s_blkN ?_
            with_reducible refine s_then ?_
            with_reducible refine s_reg ?_
            refine smove ?_
            simp only [pu', p0', c1', c0', i1', z0', b8_nat]
            refine sadd ?_
            simp only [pu', p0', c1', c0', i1', z0', b8_nat]
            refine sassign ?_
            simp only [pu', p0', c1', c0', i1', z0', b8_nat]
            with_reducible refine s_end ?_
            rotate_left 1
            replace hb := dF' hb
            simp only [pu', p0', c1', c0', i1', z0', b8_nat]
            with_reducible refine s_end ?_
            with_reducible refine s_then ?_
            refine sCF ?_
            with_reducible refine s_exit ?_
            with_reducible refine s_thenE ?_
            with_reducible refine l_exit ?_
            with_reducible refine s_blkE ?_
            with_reducible refine s_blkN ?_
            with_reducible refine s_then ?_
            with_reducible refine s_reg ?_
            refine smove ?_
            simp only [pu', p0', c1', c0', i1', z0', b8_nat]
            refine sadd ?_
            simp only [pu', p0', c1', c0', i1', z0', b8_nat]
            refine sassign ?_
            simp only [pu', p0', c1', c0', i1', z0', b8_nat]
            with_reducible refine s_end ?_
            rotate_left 1
          · refine l_next (j + 1) (by omega) (by omega) (by
              rw [hs (by omega), hs1 (by assumption), show ∀ A B C : Int, A - (B + (C + 1)) = A - B - 1 - C from fun A B C => by omega]; rfl) rfl
          · refine l_next (j + 1) (by omega) (by omega) (by
              rw [hs (by omega), hs2 (by assumption), Int.add_zero]; rfl) rfl
          · refine l_next (k + 1) (by omega) (by omega) (by
              rw [hu (by omega), hu2 hov, List.take_of_length_le (by omega), show ∀ A B C : Int, A + (B + 1 - C) = A + B + 1 - C from fun A B C => by omega]; rfl) rfl
        · with_reducible refine s_seq ?_
          with_reducible refine s_seq ?_
          with_reducible refine s_reg ?_
          refine smove ?_
          simp only [pu', p0', c1', c0', i1', z0', b8_nat]
          refine sfad ?_
          simp only [pu', p0', c1', c0', i1', z0', b8_nat]
          refine sload1 ?_
          simp only [pu', p0', c1', c0', i1', z0', b8_nat]
          refine slenE ?_
          simp only [pu', p0', c1', c0', i1', z0', b8_nat]
          refine sLt (fun hb => ?_) (fun hb => ?_)
          replace hb := dT' hb
          simp only [pu', p0', c1', c0', i1', z0', b8_nat]
          with_reducible refine s_end ?_
          with_reducible refine s_then ?_
          refine sCT ?_
          with_reducible refine s_skip ?_
          with_reducible refine s_then ?_
          with_reducible refine s_seq ?_
          with_reducible refine s_block ?_
          with_reducible refine s_seq ?_
          with_reducible refine s_seq ?_
          with_reducible refine s_reg ?_
          refine smove ?_
          simp only [pu', p0', c1', c0', i1', z0', b8_nat]
          refine sfad ?_
          simp only [pu', p0', c1', c0', i1', z0', b8_nat]
          refine sload1 ?_
          simp only [pu', p0', c1', c0', i1', z0', b8_nat]
          refine slenE ?_
          simp only [pu', p0', c1', c0', i1', z0', b8_nat]
          refine sLt (fun hb => ?_) (fun hb => ?_)
          replace hb := dT' hb
          (exfalso; omega)
          replace hb := dF' hb
          simp only [pu', p0', c1', c0', i1', z0', b8_nat]
          refine smove ?_
          simp only [pu', p0', c1', c0', i1', z0', b8_nat]
          refine sN ?_
          simp only [pu', p0', c1', c0', i1', z0', b8_nat]
          refine sN ?_
          simp only [pu', p0', c1', c0', i1', z0', b8_nat]
          refine sN ?_
          simp only [pu', p0', c1', c0', i1', z0', b8_nat]
          refine sN ?_
          simp only [pu', p0', c1', c0', i1', z0', b8_nat]
          refine sN ?_
          simp only [pu', p0', c1', c0', i1', z0', b8_nat]
          refine sN ?_
          simp only [pu', p0', c1', c0', i1', z0', b8_nat]
          refine spickF ?_
          simp only [pu', p0', c1', c0', i1', z0', b8_nat]
          with_reducible refine s_end ?_
          with_reducible refine s_then ?_
          refine sCF ?_
          with_reducible refine s_skip ?_
          with_reducible refine s_then ?_
          with_reducible refine s_seq ?_
          with_reducible refine s_reg ?_
          refine smove ?_
          simp only [pu', p0', c1', c0', i1', z0', b8_nat]
          refine sfad ?_
          simp only [pu', p0', c1', c0', i1', z0', b8_nat]
          refine sload1 ?_
          simp only [pu', p0', c1', c0', i1', z0', b8_nat]
          refine smove ?_
          simp only [pu', p0', c1', c0', i1', z0', b8_nat]
          refine sidxE ?_
          simp only [pu', p0', c1', c0', i1', z0', b8_nat]
          refine sloadE1 ?_
          simp only [pu', p0', c1', c0', i1', z0', b8_nat]
          refine sadd ?_
          simp only [pu', p0', c1', c0', i1', z0', b8_nat]
          refine sadd ?_
          simp only [pu', p0', c1', c0', i1', z0', b8_nat]
          refine sassign ?_
          simp only [pu', p0', c1', c0', i1', z0', b8_nat]
          with_reducible refine s_end ?_
          with_reducible refine s_then ?_
          with_reducible refine s_seq ?_
          with_reducible refine s_reg ?_
          refine sassign ?_
          simp only [pu', p0', c1', c0', i1', z0', b8_nat]
          with_reducible refine s_end ?_
          with_reducible refine s_then ?_
          with_reducible refine s_block ?_
          rotate_left 1
          replace hb := dF' hb
          (exfalso; omega)
          have hd := hdb k
          refine s_loop hm (fun (b : Nat) s' => [s' 0, .ptr X.length 0, s' 2, s' 3, s' 4, I (sumF ur (List.range k) + us.getD k 0 + 1 - sumF (inT k) (ws.take b)), I k, I b, s' 8, s' 9, s' 10, s' 11, s' 12, s' 13, s' 14, s' 15, s' 16, s' 17, s' 18, s' 19, s' 20, s' 21, s' 22, s' 23, s' 24, s' 25, s' 26, s' 27, s' 28, s' 29, s' 30, s' 31, s' 32, s' 33, s' 34, s' 35, s' 36, s' 37, s' 38, s' 39, s' 40, s' 41, s' 42, s' 43, s' 44, s' 45, s' 46, s' 47, s' 48, s' 49, s' 50, s' 51, s' 52, s' 53, s' 54, s' 55, s' 56, s' 57, s' 58, s' 59, s' 60, s' 61, s' 62, s' 63, s' 64, s' 65, s' 66]) (fun _ => X ++ [.cells [su, sw, st, I out] 26 true]) (fun b => b ≤ ws.length) (fun b => ws.length - b) 0 (by rw [List.take_zero, show sumF (inT k) ([] : List Wk) = 0 from rfl, Int.sub_zero]; rfl) rfl (Nat.zero_le _) ?_
          intro j s' hj
          have h3 := hd j hj
          have h4 := hd1 k j
          have hs : j < ws.length → sumF (inT k) (ws.take (j + 1)) = sumF (inT k) (ws.take j) + inT k (ws.getD j wk0) := fun h => sumF_take (inT k) wk0 h
          have hs1 : (ws.getD j wk0).j = k → inT k (ws.getD j wk0) = (ws.getD j wk0).d + 1 := fun h => if_pos h
          have hs2 : ¬ (ws.getD j wk0).j = k → inT k (ws.getD j wk0) = 0 := fun h => if_neg h
          focus
            with_reducible refine s_seq ?_
            with_reducible refine s_seq ?_
            with_reducible refine s_reg ?_
            refine smove ?_
            simp only [pu', p0', c1', c0', i1', z0', b8_nat]
            refine sfad ?_
            simp only [pu', p0', c1', c0', i1', z0', b8_nat]
            refine sload1 ?_
            simp only [pu', p0', c1', c0', i1', z0', b8_nat]
            refine slenE ?_
            simp only [pu', p0', c1', c0', i1', z0', b8_nat]
            refine sLt (fun hb => ?_) (fun hb => ?_)
            replace hb := dT' hb
            simp only [pu', p0', c1', c0', i1', z0', b8_nat]
            with_reducible refine s_end ?_
            with_reducible refine s_then ?_
            refine sCT ?_
            with_reducible refine s_skip ?_
            with_reducible refine s_then ?_
            with_reducible refine s_seq ?_
            with_reducible refine s_block ?_
            with_reducible refine s_seq ?_
            with_reducible refine s_reg ?_
            refine sfad ?_
            simp only [pu', p0', c1', c0', i1', z0', b8_nat]
            refine sload1 ?_
            simp only [pu', p0', c1', c0', i1', z0', b8_nat]
            refine smove ?_
            simp only [pu', p0', c1', c0', i1', z0', b8_nat]
            refine sidxE ?_
            simp only [pu', p0', c1', c0', i1', z0', b8_nat]
            refine sfadE ?_
            simp only [pu', p0', c1', c0', i1', z0', b8_nat]
            refine sloadF ?_
            simp only [pu', p0', c1', c0', i1', z0', b8_nat]
            refine smove ?_
            simp only [pu', p0', c1', c0', i1', z0', b8_nat]
            refine sEq (fun hb => ?_) (fun hb => ?_)
            replace hb := dT' hb
            simp only [pu', p0', c1', c0', i1', z0', b8_nat]
            with_reducible refine s_end ?_
            with_reducible refine s_then ?_
            refine sCT ?_
            with_reducible refine s_reg ?_
            refine smove ?_
            simp only [pu', p0', c1', c0', i1', z0', b8_nat]
            refine ssub ?_
            simp only [pu', p0', c1', c0', i1', z0', b8_nat]
            refine sfad ?_
            simp only [pu', p0', c1', c0', i1', z0', b8_nat]
            refine sload1 ?_
            simp only [pu', p0', c1', c0', i1', z0', b8_nat]
            refine smove ?_
            simp only [pu', p0', c1', c0', i1', z0', b8_nat]
            refine sidxE ?_
            simp only [pu', p0', c1', c0', i1', z0', b8_nat]
            refine sfadE ?_
            simp only [pu', p0', c1', c0', i1', z0', b8_nat]
            refine sloadF ?_
            simp only [pu', p0', c1', c0', i1', z0', b8_nat]
            refine ssub ?_
            simp only [pu', p0', c1', c0', i1', z0', b8_nat]
            refine sassign ?_
            simp only [pu', p0', c1', c0', i1', z0', b8_nat]
            with_reducible refine s_end ?_
            with_reducible refine s_blkN ?_
            with_reducible refine s_then ?_
            with_reducible refine s_reg ?_
            refine smove ?_
            simp only [pu', p0', c1', c0', i1', z0', b8_nat]
            refine sadd ?_
            simp only [pu', p0', c1', c0', i1', z0', b8_nat]
            refine sassign ?_
            simp only [pu', p0', c1', c0', i1', z0', b8_nat]
            with_reducible refine s_end ?_
            rotate_left 1
            replace hb := dF' hb
            simp only [pu', p0', c1', c0', i1', z0', b8_nat]
            with_reducible refine s_end ?_
            with_reducible refine s_then ?_
            refine sCF ?_
            with_reducible refine s_skip ?_
            with_reducible refine s_blkN ?_
            with_reducible refine s_then ?_
            with_reducible refine s_reg ?_
            refine smove ?_
            simp only [pu', p0', c1', c0', i1', z0', b8_nat]
            refine sadd ?_
            simp only [pu', p0', c1', c0', i1', z0', b8_nat]
            refine sassign ?_
            simp only [pu', p0', c1', c0', i1', z0', b8_nat]
            with_reducible refine s_end ?_
            rotate_left 1
            replace hb := dF' hb
            simp only [pu', p0', c1', c0', i1', z0', b8_nat]
            with_reducible refine s_end ?_
            with_reducible refine s_then ?_
            refine sCF ?_
            with_reducible refine s_exit ?_
            with_reducible refine s_thenE ?_
            with_reducible refine l_exit ?_
            with_reducible refine s_blkE ?_
            with_reducible refine s_blkN ?_
            with_reducible refine s_then ?_
            with_reducible refine s_reg ?_
            refine smove ?_
            simp only [pu', p0', c1', c0', i1', z0', b8_nat]
            refine sadd ?_
            simp only [pu', p0', c1', c0', i1', z0', b8_nat]
            refine sassign ?_
            simp only [pu', p0', c1', c0', i1', z0', b8_nat]
            with_reducible refine s_end ?_
            rotate_left 1
          · refine l_next (j + 1) (by omega) (by omega) (by
              rw [hs (by omega), hs1 (by assumption), show ∀ A B C : Int, A - (B + (C + 1)) = A - B - 1 - C from fun A B C => by omega]; rfl) rfl
          · refine l_next (j + 1) (by omega) (by omega) (by
              rw [hs (by omega), hs2 (by assumption), Int.add_zero]; rfl) rfl
          · refine l_next (k + 1) (by omega) (by omega) (by
              rw [hu (by omega), hu2 hov, List.take_of_length_le (by omega), show ∀ A B C : Int, A + (B + 1 - C) = A + B + 1 - C from fun A B C => by omega]; rfl) rfl
    · with_reducible refine s_seq ?_
      with_reducible refine s_seq ?_
      with_reducible refine s_reg ?_
      refine smove ?_
      simp only [pu', p0', c1', c0', i1', z0', b8_nat]
      refine sfad ?_
      simp only [pu', p0', c1', c0', i1', z0', b8_nat]
      refine sload1 ?_
      simp only [pu', p0', c1', c0', i1', z0', b8_nat]
      refine slenE ?_
      simp only [pu', p0', c1', c0', i1', z0', b8_nat]
      refine sLt (fun hb => ?_) (fun hb => ?_)
      replace hb := dT' hb
      (exfalso; omega)
      replace hb := dF' hb
      simp only [pu', p0', c1', c0', i1', z0', b8_nat]
      with_reducible refine s_end ?_
      with_reducible refine s_then ?_
      refine sCF ?_
      with_reducible refine s_exit ?_
      with_reducible refine s_thenE ?_
      with_reducible refine l_exit ?_
      with_reducible refine s_blkE ?_
      with_reducible refine s_then ?_
      with_reducible refine s_seq ?_
      with_reducible refine s_reg ?_
      refine smove ?_
      simp only [pu', p0', c1', c0', i1', z0', b8_nat]
      refine smin ?_
      simp only [pu', p0', c1', c0', i1', z0', b8_nat]
      refine sassign ?_
      simp only [pu', p0', c1', c0', i1', z0', b8_nat]
      refine sassign ?_
      simp only [pu', p0', c1', c0', i1', z0', b8_nat]
      with_reducible refine s_end ?_
      with_reducible refine s_then ?_
      with_reducible refine s_ret ?_
      all_goals try with_reducible refine w_n ?_
      all_goals refine w_2 rfl (by first | exact v_t (by rfl) | exact v_c1 (C1.p) (by rfl) (HA.p) (by rfl) | exact v_cF (CA.p) (by rfl) (HA.p) (by rfl)) (by first | exact v_t (by rfl) | exact v_c1 (C1.p) (by rfl) (HA.p) (by rfl) | exact v_cF (CA.p) (by rfl) (HA.p) (by rfl)) ?_
      refine ⟨rfl, ext_app _ _, ?_, trivial⟩
      rw [show k = us.length by omega, show ∀ V : Int, (if 1099511627776 < V then 1099511627776 else V) = min V 1099511627776 from fun V => by split <;> omega]
  · rw [leftQ, if_neg he]
    clear hi
    generalize poolE p = e at *
    obtain ⟨us, ws, ts, out⟩ := p
    simp only [] at a b c c18 f1 f2 f3 ⊢
    refine acalls_of_wk hm Try.func35 rfl ?_
    simp only [Try.ntmps35, List.length_cons, List.length_nil, Nat.reduceAdd, Nat.reduceSub, List.reduceReplicate, List.cons_append, List.nil_append]
    show wk _ _ none _ _ ⟨_, []⟩ _
    focus
      with_reducible refine s_seq ?_
      with_reducible refine s_reg ?_
      refine sboxA ?_
      simp only [pu', p0', c1', c0', i1', n0', n3', n1', n2', a2', a1', a0', n4', Nat.reduceAdd, z0', n5', sa0, sa1, sa2, sa3, sa4, sa5, sa6, sa7, sa8, sa9, sa10, sa11]
      refine sassign ?_
      simp only [pu', p0', c1', c0', i1', z0', b8_nat]
      refine sassign ?_
      simp only [pu', p0', c1', c0', i1', z0', b8_nat]
      with_reducible refine s_end ?_
      with_reducible refine s_then ?_
      with_reducible refine s_seq ?_
      with_reducible refine s_seq ?_
      with_reducible refine s_reg ?_
      refine sloadW ?_
      simp only [pu', p0', c1', c0', i1', z0', b8_nat]
      refine sM (hx := rfl) (c18 _ inferInstance inferInstance inferInstance) ?_
      simp only [pu', p0', c1', c0', i1', z0', b8_nat]
      refine sassign ?_
      simp only [pu', p0', c1', c0', i1', z0', b8_nat]
      with_reducible refine s_end ?_
      with_reducible refine s_then ?_
      with_reducible refine s_seq ?_
      with_reducible refine s_reg ?_
      refine smove ?_
      simp only [pu', p0', c1', c0', i1', z0', b8_nat]
      refine sNe (fun hb => ?_) (fun hb => ?_)
      replace hb := dT' hb
      simp only [pu', p0', c1', c0', i1', z0', b8_nat]
      with_reducible refine s_end ?_
      with_reducible refine s_then ?_
      refine sCT ?_
      with_reducible refine s_seq ?_
      with_reducible refine s_reg ?_
      refine smove ?_
      simp only [pu', p0', c1', c0', i1', z0', b8_nat]
      refine sassign ?_
      simp only [pu', p0', c1', c0', i1', z0', b8_nat]
      refine sassign ?_
      simp only [pu', p0', c1', c0', i1', z0', b8_nat]
      with_reducible refine s_end ?_
      with_reducible refine s_then ?_
      with_reducible refine s_ret ?_
      with_reducible refine s_thenR ?_
      rotate_left 1
      replace hb := dF' hb
      exact absurd (by with_reducible assumption) hb
    all_goals try with_reducible refine w_n ?_
    all_goals refine w_2 rfl (by first | exact v_t (by rfl) | exact v_c1 (C1.p) (by rfl) (HA.p) (by rfl) | exact v_cF (CA.p) (by rfl) (HA.p) (by rfl)) (by first | exact v_t (by rfl) | exact v_c1 (C1.p) (by rfl) (HA.p) (by rfl) | exact v_cF (CA.p) (by rfl) (HA.p) (by rfl)) ?_
    exact ⟨rfl, ext_app _ _, rfl, trivial⟩
end Go.Proofs.Ytfcgmkpihmiadaa
