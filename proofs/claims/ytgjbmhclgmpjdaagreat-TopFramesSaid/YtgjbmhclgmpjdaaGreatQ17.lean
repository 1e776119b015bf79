/-
  A part of the proof of a statement of a chapter's seat; conditions: stated at each theorem.
-/
import Derived.Test.YtgjbmhclgmpjdaaGreatQ16
set_option linter.unusedVariables false
set_option linter.unusedSectionVars false
set_option linter.unusedSimpArgs false
set_option linter.unusedVariables false
set_option maxRecDepth 100000
set_option maxHeartbeats 8000000
namespace Go.Proofs.YtgjbmhclgmpjdaaGreat
open Go.Az Go
/-! ### Frames -/
def FrAt (l : List UInt8) (x : Int) (bs : List Bk) (z : Int) : Prop := 0 ≤ x ∧ x + 6 ≤ l.length ∧ sub l x 4 = mgc ∧ at0 l (x + 4) 0 = 0 ∧ at0 l (x + 4 + 1) 0 = 0 ∧ Bks l (x + 6) bs z
theorem iter_lp {l : List UInt8} {x0 m nx0 z : Int} {bs0 : List Bk} {tm : List AV} {ps : Array Tmp} {asg bd : Code} {d : Nat} (ex : Nat) (h0 : 0 ≤ x0) (hl : (l.length : Int) ≤ 1048576) (m0 : 0 ≤ m) (m1 : m ≤ 1048576) (hb0 : Bks l x0 bs0 z)
    (hyN : ∀ (x : Int) (o p : List UInt8) (nx y : Int) (X : Hp) (E : List Pc), Sep [] X (LB l o p x m nx 0 0 (.loop .ready none tm ps asg bd d) stL E) → AYld Tryz.prog 10 [I y, B false] X (fun r h' => r = B true ∧ Sep [] h' (LB l o p x m y 0 0 (.loop .ready none tm ps asg bd d) stL [])))
    (hyL : ∀ (x : Int) (o p : List UInt8) (nx y : Int) (X : Hp) (E : List Pc), Sep [] X (LB l o p x m nx 0 0 (.loop .ready none tm ps asg bd d) stL E) → AYld Tryz.prog 10 [I y, B true] X (fun r h' => r = B false ∧ Sep [] h' (LB l o p x m y 0 0 (.loop .done (some (.exit ex)) tm ps asg bd d) stL []))) :
    ACalls Tryz.prog 54 [.yld 10, .ptr 4 0, .ptr 5 0, .ptr 6 0, .ptr 7 0, .ptr 8 0] [.cells [St []] 9 true, .cells [I nx0] 3 true, .cells [I 0, I 0] 27 true, .cells hdL 96 true, .cells [St l] 9 true, .cells [I x0] 3 true, .cells hdL 96 true, .cells [I m] 3 true, .cells [.fn (.func 50) [.ptr 0 0, .ptr 2 0]] 102 true, .dfr, .loop .ready none tm ps asg bd d]
      (fun _ h' => ((flat bs0).length ≤ m ∧ ∃ o x, Sep [] h' (LB l o (flat bs0) x m z 0 0 (.loop .done (some (.exit ex)) tm ps asg bd d) stL [])) ∨ (m < (flat bs0).length ∧ ∃ o x nx, Sep [] h' (LB l o [] x m nx 18 (limAt m x0 0 bs0) (.loop .ready none tm ps asg bd d) zsL []))) :=
  iter_any l x0 m nx0 z bs0 _ _ h0 hl m0 m1 hb0 hyN hyL
theorem frame_any (l : List UInt8) (x m z : Int) (bs : List Bk) (hl : (l.length : Int) ≤ 1048576) (m0 : 0 ≤ m) (m1 : m ≤ 1048576) (hf : FrAt l x bs z) :
    ACalls Tryz.prog 47 [St l, I x, I m] [] (fun r _ => (((flat bs).length ≤ m ∧ r = .tup [St (flat bs), I z, .agg [I 0, I 0]]) ∨ (m < (flat bs).length ∧ r = .tup [St [], I 0, .agg [I 18, I (limAt m (x + 6) 0 bs)]])) ∧ r.sc 0 = true) := by
  obtain ⟨h0, h2, hs, ha, hc, hb0⟩ := hf
  have c0 := head_any l x m h0 (by omega) h2 hs ha hc m0 m1
  refine acalls_of_wk hm Tryz.func47 rfl ?_
  simp only [Tryz.ntmps47, List.length_cons, List.length_nil, Nat.reduceAdd, Nat.reduceSub, List.reduceReplicate, List.cons_append, List.nil_append]
  show wk _ _ none _ _ ⟨_, []⟩ _
  with_reducible refine s_seq ?_
  with_reducible refine s_reg ?_
  refine salloc ?_
  simp only [pu', p0', c1', c0', i1', n0', n3', n1', n2', a2', a1', a0', n4', Nat.reduceAdd, z0', n5', sa0, sa1, sa2, sa3, sa4, sa5, sa6, sa7, sa8, sa9, sa10, sa11]
  refine salloc ?_
  simp only [pu', p0', c1', c0', i1', n0', n3', n1', n2', a2', a1', a0', n4', Nat.reduceAdd, z0', n5', sa0, sa1, sa2, sa3, sa4, sa5, sa6, sa7, sa8, sa9, sa10, sa11]
  refine salloc ?_
  simp only [pu', p0', c1', c0', i1', n0', n3', n1', n2', a2', a1', a0', n4', Nat.reduceAdd, z0', n5', sa0, sa1, sa2, sa3, sa4, sa5, sa6, sa7, sa8, sa9, sa10, sa11]
  with_reducible refine s_end ?_
  with_reducible refine s_then ?_
  with_reducible refine s_scope hm ?_
  with_reducible refine s_seq ?_
  with_reducible refine s_reg ?_
  refine smove ?_
  simp only [pu', p0', c1', c0', i1', z0', b8_nat]
  refine smove ?_
  simp only [pu', p0', c1', c0', i1', z0', b8_nat]
  refine smove ?_
  simp only [pu', p0', c1', c0', i1', z0', b8_nat]
  refine sK (hx := rfl) (c0) ?_
  simp only [pu', p0', c1', c0', i1', z0', b8_nat]
  refine smove ?_
  simp only [pu', p0', c1', c0', i1', z0', b8_nat]
  refine sext ?_
  simp only [pu', p0', c1', c0', i1', z0', b8_nat]
  refine sext ?_
  simp only [pu', p0', c1', c0', i1', z0', b8_nat]
  refine sext ?_
  simp only [pu', p0', c1', c0', i1', z0', b8_nat]
  refine salloc ?_
  simp only [pu', p0', c1', c0', i1', n0', n3', n1', n2', a2', a1', a0', n4', Nat.reduceAdd, z0', n5', sa0, sa1, sa2, sa3, sa4, sa5, sa6, sa7, sa8, sa9, sa10, sa11]
  refine sstoreF ?_
  simp only [pu', p0', c1', c0', i1', n0', n3', n1', n2', a2', a1', a0', n4', Nat.reduceAdd, z0', n5', sa0, sa1, sa2, sa3, sa4, sa5, sa6, sa7, sa8, sa9, sa10, sa11]
  refine sstore1 ?_
  simp only [pu', p0', c1', c0', i1', n0', n3', n1', n2', a2', a1', a0', n4', Nat.reduceAdd, z0', n5', sa0, sa1, sa2, sa3, sa4, sa5, sa6, sa7, sa8, sa9, sa10, sa11]
  refine sstoreF ?_
  simp only [pu', p0', c1', c0', i1', n0', n3', n1', n2', a2', a1', a0', n4', Nat.reduceAdd, z0', n5', sa0, sa1, sa2, sa3, sa4, sa5, sa6, sa7, sa8, sa9, sa10, sa11]
  with_reducible refine s_end ?_
  with_reducible refine s_then ?_
  with_reducible refine s_seq ?_
  with_reducible refine s_seq ?_
  with_reducible refine s_reg ?_
  refine sfad ?_
  simp only [pu', p0', c1', c0', i1', z0', b8_nat]
  refine sload1 ?_
  simp only [pu', p0', c1', c0', i1', z0', b8_nat]
  refine sNe (fun hb => ?_) (fun hb => ?_)
  replace hb := dT' hb
  (exfalso; omega)
  replace hb := dF' hb
  simp only [pu', p0', c1', c0', i1', z0', b8_nat]
  with_reducible refine s_end ?_
  with_reducible refine s_then ?_
  refine sCF ?_
  with_reducible refine s_skip ?_
  with_reducible refine s_then ?_
  with_reducible refine s_seq ?_
  with_reducible refine s_label ?_
  with_reducible refine s_then ?_
  with_reducible refine s_seq ?_
  with_reducible refine s_seq ?_
  with_reducible refine s_reg ?_
  refine smove ?_
  simp only [pu', p0', c1', c0', i1', z0', b8_nat]
  refine sload1 ?_
  simp only [pu', p0', c1', c0', i1', z0', b8_nat]
  refine sloadW ?_
  simp only [pu', p0', c1', c0', i1', z0', b8_nat]
  refine smove ?_
  simp only [pu', p0', c1', c0', i1', z0', b8_nat]
  refine sfunc2 ?_
  simp only [pu', p0', c1', c0', i1', z0', b8_nat]
  refine sX (hx := rfl) (blocks_mk _ l (x + 6) m _ rfl) ?_
  simp only [pu', p0', c1', c0', i1', n0', n3', n1', n2', a2', a1', a0', n4', Nat.reduceAdd, z0', n5', sa0, sa1, sa2, sa3, sa4, sa5, sa6, sa7, sa8, sa9, sa10, sa11]
  with_reducible refine s_end ?_
  with_reducible refine s_then ?_
  with_reducible refine s_block ?_
  refine s_range ?_
  simp only [Fr.put, List.set_cons_succ, List.set_cons_zero, Int.toNat_natCast, List.length_append, List.length_set, List.length_cons, List.length_nil, List.nil_append, List.cons_append, List.append_assoc, List.length_replicate, Nat.reduceAdd, Nat.zero_add, Nat.add_assoc, sa0, sa1, sa2, sa3, sa4, sa5, sa6, sa7, sa8, sa9, sa10, sa11]
  refine (iter_lp 0 (by omega) hl m0 m1 hb0 ?_ ?_).mono ?_
  · intro x o p nx y X E S
    refine ayld_at2 hm inferInstance ?_
    simp only [Fr.put, List.set_cons_succ, List.set_cons_zero, Int.toNat_natCast, Nat.zero_add]
    with_reducible refine s_seq ?_
    with_reducible refine s_reg ?_
    refine sassign ?_
    simp only [pu', p0', c1', c0', i1', z0', b8_nat]
    with_reducible refine s_end ?_
    with_reducible refine s_then ?_
    with_reducible refine s_reg ?_
    refine sassign ?_
    simp only [pu', p0', c1', c0', i1', z0', b8_nat]
    with_reducible refine s_end ?_
    refine asg_n hm inferInstance ?_
    have hX := ha_lt (inferInstance : HA X 10 _)
    refine wk_gen inferInstance (fun Y S1 => ?_)
    with_reducible refine s_block ?_
    with_reducible refine s_seq ?_
    with_reducible refine s_reg ?_
    refine smove ?_
    simp only [pu', p0', c1', c0', i1', z0', b8_nat]
    refine sstore1 ?_
    simp only [pu', p0', c1', c0', i1', n0', n3', n1', n2', a2', a1', a0', n4', Nat.reduceAdd, z0', n5', sa0, sa1, sa2, sa3, sa4, sa5, sa6, sa7, sa8, sa9, sa10, sa11]
    with_reducible refine s_end ?_
    with_reducible refine s_then ?_
    with_reducible refine s_seq ?_
    with_reducible refine s_reg ?_
    refine smove ?_
    simp only [pu', p0', c1', c0', i1', z0', b8_nat]
    with_reducible refine s_end ?_
    with_reducible refine s_then ?_
    refine sCF ?_
    with_reducible refine s_skip ?_
    with_reducible refine s_blkN ?_
    all_goals refine rnd_n inferInstance ⟨rfl, Sep.sub inferInstance (by repeat' first | exact List.Sublist.refl _ | exact List.sublist_append_left _ _ | exact List.nil_sublist _ | refine List.Sublist.cons_cons _ ?_ | refine List.Sublist.cons _ ?_ | refine List.Sublist.trans ?_ (List.sublist_append_left _ _))⟩
  · intro x o p nx y X E S
    refine ayld_at2 hm inferInstance ?_
    simp only [Fr.put, List.set_cons_succ, List.set_cons_zero, Int.toNat_natCast, Nat.zero_add]
    with_reducible refine s_seq ?_
    with_reducible refine s_reg ?_
    refine sassign ?_
    simp only [pu', p0', c1', c0', i1', z0', b8_nat]
    with_reducible refine s_end ?_
    with_reducible refine s_then ?_
    with_reducible refine s_reg ?_
    refine sassign ?_
    simp only [pu', p0', c1', c0', i1', z0', b8_nat]
    with_reducible refine s_end ?_
    refine asg_n hm inferInstance ?_
    have hX := ha_lt (inferInstance : HA X 10 _)
    refine wk_gen inferInstance (fun Y S1 => ?_)
    with_reducible refine s_block ?_
    with_reducible refine s_seq ?_
    with_reducible refine s_reg ?_
    refine smove ?_
    simp only [pu', p0', c1', c0', i1', z0', b8_nat]
    refine sstore1 ?_
    simp only [pu', p0', c1', c0', i1', n0', n3', n1', n2', a2', a1', a0', n4', Nat.reduceAdd, z0', n5', sa0, sa1, sa2, sa3, sa4, sa5, sa6, sa7, sa8, sa9, sa10, sa11]
    with_reducible refine s_end ?_
    with_reducible refine s_then ?_
    with_reducible refine s_seq ?_
    with_reducible refine s_reg ?_
    refine smove ?_
    simp only [pu', p0', c1', c0', i1', z0', b8_nat]
    with_reducible refine s_end ?_
    with_reducible refine s_then ?_
    refine sCT ?_
    with_reducible refine s_exit ?_
    with_reducible refine s_blkX (by decide) ?_
    all_goals refine rnd_e inferInstance ⟨rfl, Sep.sub inferInstance (by repeat' first | exact List.Sublist.refl _ | exact List.sublist_append_left _ _ | exact List.nil_sublist _ | refine List.Sublist.cons_cons _ ?_ | refine List.Sublist.cons _ ?_ | refine List.Sublist.trans ?_ (List.sublist_append_left _ _))⟩
  · rintro _ Y _ (⟨hm1, o, x', S⟩ | ⟨hm1, o, x', nx, S⟩)
    · refine beh_c hm ?_ inferInstance rfl
      focus
        with_reducible refine s_exit ?_
        with_reducible refine s_blkE ?_
        with_reducible refine s_then ?_
        with_reducible refine s_seq ?_
        with_reducible refine s_seq ?_
        with_reducible refine s_reg ?_
        refine sfad ?_
        simp only [pu', p0', c1', c0', i1', z0', b8_nat]
        refine sload1 ?_
        simp only [pu', p0', c1', c0', i1', z0', b8_nat]
        refine sEq (fun hb => ?_) (fun hb => ?_)
        replace hb := dT' hb
        simp only [pu', p0', c1', c0', i1', z0', b8_nat]
        refine smove ?_
        simp only [pu', p0', c1', c0', i1', z0', b8_nat]
        refine sfad ?_
        simp only [pu', p0', c1', c0', i1', z0', b8_nat]
        refine sload1 ?_
        simp only [pu', p0', c1', c0', i1', z0', b8_nat]
        refine sGe (fun hb => ?_) (fun hb => ?_)
        replace hb := dT' hb
        (exfalso; omega)
        replace hb := dF' hb
        simp only [pu', p0', c1', c0', i1', z0', b8_nat]
        refine spickT ?_
        simp only [pu', p0', c1', c0', i1', z0', b8_nat]
        refine smove ?_
        simp only [pu', p0', c1', c0', i1', z0', b8_nat]
        (with_reducible refine s_gN ?_ ?_; exact wG rfl rfl rfl rfl rfl)
        simp only [pu', p0', c1', c0', i1', z0', b8_nat]
        (with_reducible refine s_gN ?_ ?_; exact wG rfl rfl rfl rfl rfl)
        simp only [pu', p0', c1', c0', i1', z0', b8_nat]
        (with_reducible refine s_gN ?_ ?_; exact wG rfl rfl rfl rfl rfl)
        simp only [pu', p0', c1', c0', i1', z0', b8_nat]
        (with_reducible refine s_gN ?_ ?_; exact wG rfl rfl rfl rfl rfl)
        simp only [pu', p0', c1', c0', i1', z0', b8_nat]
        (with_reducible refine s_gN ?_ ?_; exact wG rfl rfl rfl rfl rfl)
        simp only [pu', p0', c1', c0', i1', z0', b8_nat]
        refine spickF ?_
        simp only [pu', p0', c1', c0', i1', z0', b8_nat]
        with_reducible refine s_end ?_
        with_reducible refine s_then ?_
        refine sCF ?_
        with_reducible refine s_skip ?_
        with_reducible refine s_then ?_
        with_reducible refine s_seq ?_
        with_reducible refine s_seq ?_
        with_reducible refine s_reg ?_
        refine sfad ?_
        simp only [pu', p0', c1', c0', i1', z0', b8_nat]
        refine sload1 ?_
        simp only [pu', p0', c1', c0', i1', z0', b8_nat]
        refine sEq (fun hb => ?_) (fun hb => ?_)
        replace hb := dT' hb
        simp only [pu', p0', c1', c0', i1', z0', b8_nat]
        refine smove ?_
        simp only [pu', p0', c1', c0', i1', z0', b8_nat]
        refine sfad ?_
        simp only [pu', p0', c1', c0', i1', z0', b8_nat]
        refine sloadB1 (fun hb => ?_) (fun hb => ?_)
        cases hb
        simp only [decide_eq_true_eq, Int.toNat_natCast, decide_eq_false_iff_not, Bool.not_eq_true', Bool.not_eq_false', not_true_eq_false, not_false_eq_true, beq_self_eq_true, Bool.and_true, Bool.true_and, Bool.and_false, Bool.false_and, Bool.and_eq_true, Bool.and_eq_false_iff, beq_iff_eq, beq_eq_false_iff_ne, ne_eq, Bool.not_true, Bool.not_false, Bool.true_eq_false, Bool.false_eq_true, Bool.not_eq_true, Bool.not_eq_false, and_true, true_and, and_false, false_and, or_false, false_or, or_true, true_or] at hb
        simp only [pu', p0', c1', c0', i1', z0', b8_nat]
        refine spickT ?_
        simp only [pu', p0', c1', c0', i1', z0', b8_nat]
        with_reducible refine s_end ?_
        with_reducible refine s_then ?_
        refine sCF ?_
        with_reducible refine s_skip ?_
        with_reducible refine s_then ?_
        with_reducible refine s_seq ?_
        with_reducible refine s_seq ?_
        with_reducible refine s_reg ?_
        refine sfad ?_
        simp only [pu', p0', c1', c0', i1', z0', b8_nat]
        refine sload1 ?_
        simp only [pu', p0', c1', c0', i1', z0', b8_nat]
        refine sNe (fun hb => ?_) (fun hb => ?_)
        replace hb := dT' hb
        (exfalso; omega)
        replace hb := dF' hb
        simp only [pu', p0', c1', c0', i1', z0', b8_nat]
        with_reducible refine s_end ?_
        with_reducible refine s_then ?_
        refine sCF ?_
        with_reducible refine s_skip ?_
        with_reducible refine s_then ?_
        with_reducible refine s_seq ?_
        (refine s_regT (id := 19) (.light 0 (.light 1 (.light 2 (.alt 3 [0] (.alt 4 [0, 1] (.alt 5 [0, 1, 2] (.done) (.no)) (.no)) (.no))))) [3, 4, 5] (by kernel_rfl) (by conv => lhs; simp only [pickT, List.getElem?_cons_succ, List.getElem?_cons_zero]) ?_)
        refine tload1 ?_
        simp only [pu', p0', c1', c0', i1', z0', b8_nat]
        refine tload1 ?_
        simp only [pu', p0', c1', c0', i1', z0', b8_nat]
        refine tbuild ?_
        simp only [pu', p0', c1', c0', i1', z0', b8_nat]
        refine ustore1 ?_
        simp only [pu', p0', c1', c0', i1', n0', n3', n1', n2', a2', a1', a0', n4', Nat.reduceAdd, z0', n5', sa0, sa1, sa2, sa3, sa4, sa5, sa6, sa7, sa8, sa9, sa10, sa11]
        refine ustore1 ?_
        simp only [pu', p0', c1', c0', i1', n0', n3', n1', n2', a2', a1', a0', n4', Nat.reduceAdd, z0', n5', sa0, sa1, sa2, sa3, sa4, sa5, sa6, sa7, sa8, sa9, sa10, sa11]
        refine ustoreF ?_
        simp only [pu', p0', c1', c0', i1', n0', n3', n1', n2', a2', a1', a0', n4', Nat.reduceAdd, z0', n5', sa0, sa1, sa2, sa3, sa4, sa5, sa6, sa7, sa8, sa9, sa10, sa11]
        with_reducible refine t_end ?_
        with_reducible refine s_then ?_
        with_reducible refine s_ret ?_
        with_reducible refine s_ngR ?_
        rotate_left 1
        replace hb := dF' hb
        exact absurd rfl hb
        replace hb := dF' hb
        exact absurd rfl hb
      refine rk_dfr ?_ inferInstance
      all_goals try with_reducible refine w_n ?_
      all_goals refine w_3 rfl (by first | exact v_t (by rfl) | exact v_c1 (C1.p) (by rfl) (HA.p) (by rfl) | exact v_cF (CA.p) (by rfl) (HA.p) (by rfl)) (by first | exact v_t (by rfl) | exact v_c1 (C1.p) (by rfl) (HA.p) (by rfl) | exact v_cF (CA.p) (by rfl) (HA.p) (by rfl)) (by first | exact v_t (by rfl) | exact v_c1 (C1.p) (by rfl) (HA.p) (by rfl) | exact v_cF (CA.p) (by rfl) (HA.p) (by rfl)) ?_
      exact ⟨.inl ⟨hm1, rfl⟩, rfl⟩
    · refine beh_n ?_ inferInstance rfl
      focus
        with_reducible refine s_blkN ?_
        with_reducible refine s_then ?_
        with_reducible refine s_seq ?_
        with_reducible refine s_seq ?_
        with_reducible refine s_reg ?_
        refine sfad ?_
        simp only [pu', p0', c1', c0', i1', z0', b8_nat]
        refine sload1 ?_
        simp only [pu', p0', c1', c0', i1', z0', b8_nat]
        refine sEq (fun hb => ?_) (fun hb => ?_)
        replace hb := dT' hb
        (exfalso; omega)
        replace hb := dF' hb
        simp only [pu', p0', c1', c0', i1', z0', b8_nat]
        refine smove ?_
        simp only [pu', p0', c1', c0', i1', z0', b8_nat]
        (with_reducible refine s_gN ?_ ?_; exact wG rfl rfl rfl rfl rfl)
        simp only [pu', p0', c1', c0', i1', z0', b8_nat]
        (with_reducible refine s_gN ?_ ?_; exact wG rfl rfl rfl rfl rfl)
        simp only [pu', p0', c1', c0', i1', z0', b8_nat]
        (with_reducible refine s_gN ?_ ?_; exact wG rfl rfl rfl rfl rfl)
        simp only [pu', p0', c1', c0', i1', z0', b8_nat]
        refine spickF ?_
        simp only [pu', p0', c1', c0', i1', z0', b8_nat]
        refine smove ?_
        simp only [pu', p0', c1', c0', i1', z0', b8_nat]
        (with_reducible refine s_gN ?_ ?_; exact wG rfl rfl rfl rfl rfl)
        simp only [pu', p0', c1', c0', i1', z0', b8_nat]
        (with_reducible refine s_gN ?_ ?_; exact wG rfl rfl rfl rfl rfl)
        simp only [pu', p0', c1', c0', i1', z0', b8_nat]
        (with_reducible refine s_gN ?_ ?_; exact wG rfl rfl rfl rfl rfl)
        simp only [pu', p0', c1', c0', i1', z0', b8_nat]
        (with_reducible refine s_gN ?_ ?_; exact wG rfl rfl rfl rfl rfl)
        simp only [pu', p0', c1', c0', i1', z0', b8_nat]
        (with_reducible refine s_gN ?_ ?_; exact wG rfl rfl rfl rfl rfl)
        simp only [pu', p0', c1', c0', i1', z0', b8_nat]
        refine spickF ?_
        simp only [pu', p0', c1', c0', i1', z0', b8_nat]
        with_reducible refine s_end ?_
        with_reducible refine s_then ?_
        refine sCF ?_
        with_reducible refine s_skip ?_
        with_reducible refine s_then ?_
        with_reducible refine s_seq ?_
        with_reducible refine s_seq ?_
        with_reducible refine s_reg ?_
        refine sfad ?_
        simp only [pu', p0', c1', c0', i1', z0', b8_nat]
        refine sload1 ?_
        simp only [pu', p0', c1', c0', i1', z0', b8_nat]
        refine sEq (fun hb => ?_) (fun hb => ?_)
        replace hb := dT' hb
        (exfalso; omega)
        replace hb := dF' hb
        simp only [pu', p0', c1', c0', i1', z0', b8_nat]
        refine smove ?_
        simp only [pu', p0', c1', c0', i1', z0', b8_nat]
        (with_reducible refine s_gN ?_ ?_; exact wG rfl rfl rfl rfl rfl)
        simp only [pu', p0', c1', c0', i1', z0', b8_nat]
        (with_reducible refine s_gN ?_ ?_; exact wG rfl rfl rfl rfl rfl)
        simp only [pu', p0', c1', c0', i1', z0', b8_nat]
        refine spickF ?_
        simp only [pu', p0', c1', c0', i1', z0', b8_nat]
        with_reducible refine s_end ?_
        with_reducible refine s_then ?_
        refine sCF ?_
        with_reducible refine s_skip ?_
        with_reducible refine s_then ?_
        with_reducible refine s_seq ?_
        with_reducible refine s_seq ?_
        with_reducible refine s_reg ?_
        refine sfad ?_
        simp only [pu', p0', c1', c0', i1', z0', b8_nat]
        refine sload1 ?_
        simp only [pu', p0', c1', c0', i1', z0', b8_nat]
        refine sNe (fun hb => ?_) (fun hb => ?_)
        replace hb := dT' hb
        simp only [pu', p0', c1', c0', i1', z0', b8_nat]
        with_reducible refine s_end ?_
        with_reducible refine s_then ?_
        refine sCT ?_
        with_reducible refine s_seq ?_
        (refine s_regT (id := 18) (.light 0 (.alt 1 [] (.alt 2 [] (.alt 3 [0] (.done) (.no)) (.no)) (.no))) [1, 2, 3] (by kernel_rfl) (by conv => lhs; simp only [pickT, List.getElem?_cons_succ, List.getElem?_cons_zero]) ?_)
        refine tloadW ?_
        simp only [pu', p0', c1', c0', i1', z0', b8_nat]
        refine ustore1 ?_
        simp only [pu', p0', c1', c0', i1', n0', n3', n1', n2', a2', a1', a0', n4', Nat.reduceAdd, z0', n5', sa0, sa1, sa2, sa3, sa4, sa5, sa6, sa7, sa8, sa9, sa10, sa11]
        refine ustore1 ?_
        simp only [pu', p0', c1', c0', i1', n0', n3', n1', n2', a2', a1', a0', n4', Nat.reduceAdd, z0', n5', sa0, sa1, sa2, sa3, sa4, sa5, sa6, sa7, sa8, sa9, sa10, sa11]
        refine ustoreF ?_
        simp only [pu', p0', c1', c0', i1', n0', n3', n1', n2', a2', a1', a0', n4', Nat.reduceAdd, z0', n5', sa0, sa1, sa2, sa3, sa4, sa5, sa6, sa7, sa8, sa9, sa10, sa11]
        with_reducible refine t_end ?_
        with_reducible refine s_then ?_
        with_reducible refine s_ret ?_
        with_reducible refine s_thenR ?_
        with_reducible refine s_ngR ?_
        rotate_left 1
        replace hb := dF' hb
        exact absurd (by with_reducible assumption) hb
      refine rk_dfr ?_ inferInstance
      all_goals try with_reducible refine w_n ?_
      all_goals refine w_3 rfl (by first | exact v_t (by rfl) | exact v_c1 (C1.p) (by rfl) (HA.p) (by rfl) | exact v_cF (CA.p) (by rfl) (HA.p) (by rfl)) (by first | exact v_t (by rfl) | exact v_c1 (C1.p) (by rfl) (HA.p) (by rfl) | exact v_cF (CA.p) (by rfl) (HA.p) (by rfl)) (by first | exact v_t (by rfl) | exact v_c1 (C1.p) (by rfl) (HA.p) (by rfl) | exact v_cF (CA.p) (by rfl) (HA.p) (by rfl)) ?_
      exact ⟨.inr ⟨hm1, rfl⟩, rfl⟩
theorem frame_ok (l : List UInt8) (x m z : Int) (bs : List Bk) (hl : (l.length : Int) ≤ 1048576) (m0 : 0 ≤ m) (m1 : m ≤ 1048576) (hf : FrAt l x bs z) (hm1 : (flat bs).length ≤ m) :
    ACalls Tryz.prog 47 [St l, I x, I m] [] (fun r _ => r = .tup [St (flat bs), I z, .agg [I 0, I 0]] ∧ r.sc 0 = true) :=
  (frame_any l x m z bs hl m0 m1 hf).mono fun r _ _ hr => by
    rcases hr with ⟨⟨_, h⟩ | ⟨h, _⟩, h2⟩
    · exact ⟨h, h2⟩
    · omega
theorem frame_no (l : List UInt8) (x m z : Int) (bs : List Bk) (hl : (l.length : Int) ≤ 1048576) (m0 : 0 ≤ m) (m1 : m ≤ 1048576) (hf : FrAt l x bs z) (hm1 : m < (flat bs).length) :
    ACalls Tryz.prog 47 [St l, I x, I m] [] (fun r _ => r = .tup [St [], I 0, .agg [I 18, I (limAt m (x + 6) 0 bs)]] ∧ r.sc 0 = true) :=
  (frame_any l x m z bs hl m0 m1 hf).mono fun r _ _ hr => by
    rcases hr with ⟨⟨h, _⟩ | ⟨_, h⟩, h2⟩
    · omega
    · exact ⟨h, h2⟩
end Go.Proofs.YtgjbmhclgmpjdaaGreat
