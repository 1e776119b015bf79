/-
  A part of the proof of a statement of a chapter's seat; conditions: stated at each theorem.
-/
import Derived.Test.YtckljanplahbkaaM34
set_option linter.unusedVariables false
set_option linter.unusedSectionVars false
set_option linter.unusedSimpArgs false
set_option linter.unusedVariables false
set_option maxRecDepth 100000
set_option maxHeartbeats 8000000
namespace Go.Proofs.Ytckljanplahbkaa
open Go.Az Go
/-! ### Lengths made of numbers -/
structure MdD where
  k : Nat
  z : AV
  q : List Int
  G : Hp
theorem getD_snoc (l : List Int) (x : Int) : (l ++ [x]).getD l.length 0 = x := by
  rw [List.getD_eq_getElem?_getD, List.getElem?_append_right (Nat.le_refl _), Nat.sub_self]; rfl
theorem getD_app {l r : List Int} {i : Nat} (h : i < l.length) : (l ++ r).getD i 0 = l.getD i 0 := by
  rw [List.getD_eq_getElem?_getD, List.getElem?_append_left h, ← List.getD_eq_getElem?_getD]
theorem cs_made {q : List Int} {k : Nat} (hk : k ≤ 58) (hl : q.length = k + 1) (h0 : q.getD 0 0 = 1) (hb : ∀ i, i < q.length → 0 ≤ q.getD i 0 ∧ q.getD i 0 ≤ 1000) : CsOk (q ++ [3]) := by
  have hll : (q ++ [3]).length = k + 2 := by simp; omega
  have e1 : (q ++ [3]).getD (k + 1) 0 = 3 := by rw [← hl]; exact getD_snoc q 3
  have e0 : (q ++ [3]).getD 0 0 = 1 := by rw [getD_app (by omega)]; exact h0
  refine ⟨by omega, fun i hi => ?_, ?_⟩
  · by_cases hi2 : i < q.length
    · rw [getD_app hi2]; exact hb i hi2
    · rw [show i = k + 1 by omega, e1]; omega
  · have h1 : mnyF (q ++ [3]) 1 = 1 := by
      show (if (q ++ [3]).getD 0 0 = 0 then (0 : Int) else 0 + 1) = 1
      rw [e0]; rfl
    have h2 := mny_mono (q ++ [3]) (a := 1) (b := k + 1) (by omega)
    rw [hll, mnyF, e1, if_neg (by omega)]
    omega
theorem q1_bd : ∀ i, i < [(1 : Int)].length → 0 ≤ [(1 : Int)].getD i 0 ∧ [(1 : Int)].getD i 0 ≤ 1000 := fun i hi => by
  rw [show i = 0 by simp at hi; exact hi]; decide
theorem made30 (X : Hp) (s : AV) (nums : List Int) [a : EI X s nums] : ACalls Try.prog 30 [s] X (fun r h' => ∃ z o, r = .tup [z, B true] ∧ SlC z ∧ Sep X h' [WI z o] ∧ chkW o = 0 ∧ o.length ≤ 60) := by
  have pss := a.p.sl
  have S0 := Sep.nil X
  have c42 : ∀ Y L' z q, Sep X Y L' → CsOk q → EI Y z q → ACalls Try.prog 42 [z] Y (fun r h' => ∃ z o, r = .tup [z, I 0] ∧ SlC z ∧ Sep X h' (L' ++ [WI z o]) ∧ HufOk q o) := fun Y L' z q S hs a =>
    (of42 (h := Y) z hs).mono fun r h' _ ⟨z, o, h1, h2, h3, h4⟩ => ⟨z, o, h1, h2, S.join h3, h4⟩
  refine acalls_of_wk hm Try.func30 rfl ?_
  simp only [Try.ntmps30, List.length_cons, List.length_nil, Nat.reduceAdd, Nat.reduceSub, List.reduceReplicate, List.cons_append, List.nil_append]
  show wk _ _ none _ _ ⟨_, []⟩ _
  with_reducible refine s_seq ?_
  with_reducible refine s_reg ?_
  refine sassign ?_
  simp only [pu', p0', c1', c0', i1', z0', b8_nat]
  refine sassign ?_
  simp only [pu', p0', c1', c0', i1', z0', b8_nat]
  with_reducible refine s_end ?_
  with_reducible refine s_then ?_
  with_reducible refine s_seq ?_
  with_reducible refine s_reg ?_
  refine sbsl ?_
  simp only [pu', p0', c1', c0', i1', n0', n3', n1', n2', a2', a1', a0', n4', Nat.reduceAdd, z0', n5', sa0, sa1, sa2, sa3, sa4, sa5, sa6, sa7, sa8, sa9, sa10, sa11]
  refine sassign ?_
  simp only [pu', p0', c1', c0', i1', z0', b8_nat]
  with_reducible refine s_end ?_
  with_reducible refine s_then ?_
  with_reducible refine s_seq ?_
  with_reducible refine s_seq ?_
  with_reducible refine s_reg ?_
  refine sassign ?_
  simp only [pu', p0', c1', c0', i1', z0', b8_nat]
  with_reducible refine s_end ?_
  with_reducible refine s_then ?_
  with_reducible refine s_block ?_
  refine s_loop hm (fun (b : MdD) s' => [s, s' 1, s' 2, s' 3, b.z, I b.k, s' 6, s' 7, s' 8, s' 9, s' 10, s' 11, s' 12, s' 13, s' 14, s' 15, s' 16, s' 17, s' 18, s' 19, s' 20, s' 21, s' 22, s' 23, s' 24, s' 25, s' 26, s' 27, s' 28, s' 29, s' 30, s' 31, s' 32, s' 33, s' 34, s' 35, s' 36]) (fun b => b.G) (fun b => b.k ≤ nums.length ∧ b.k ≤ 58 ∧ SlC b.z ∧ b.q.length = b.k + 1 ∧ b.q.getD 0 0 = 1 ∧ (∀ i, i < b.q.length → 0 ≤ b.q.getD i 0 ∧ b.q.getD i 0 ≤ 1000) ∧ Sep X b.G [WI b.z b.q]) (fun b => nums.length - b.k) ⟨0, _, [1], _⟩ (by rfl) rfl ⟨Nat.zero_le _, Nat.zero_le _, inferInstance, rfl, rfl, q1_bd, sep_lit (l := [(1 : Int)]) (Sep.lits X [_]) rfl rfl⟩ ?_
  rintro ⟨k, z, q, G⟩ s' ⟨hk, hk12, pz, hql, hq0, hqb, S1⟩
  simp only [] at hk hk12 pz hql hq0 hqb S1 ⊢
  have hk0 := Int.emod_nonneg (nums.getD k 0) (show (1000 : Int) ≠ 0 by omega)
  have hk1 := Int.emod_lt_of_pos (nums.getD k 0) (show (0 : Int) < 1000 by omega)
  have d31 := mod_any (nums.getD k 0) 1000 (by omega) (by omega)
  generalize hkk : nums.getD k 0 % 1000 = kk at *
  by_cases hc : k < nums.length ∧ k < 58
  · obtain ⟨hc1, hc2⟩ := hc
    focus
      with_reducible refine s_seq ?_
      with_reducible refine s_seq ?_
      with_reducible refine s_reg ?_
      refine smove ?_
      simp only [pu', p0', c1', c0', i1', z0', b8_nat]
      refine smove ?_
      simp only [pu', p0', c1', c0', i1', z0', b8_nat]
      refine slenE ?_
      simp only [pu', p0', c1', c0', i1', z0', b8_nat]
      refine sLt (fun hb => ?_) (fun hb => ?_)
      replace hb := dT' hb
      simp only [pu', p0', c1', c0', i1', z0', b8_nat]
      refine smove ?_
      simp only [pu', p0', c1', c0', i1', z0', b8_nat]
      refine smove ?_
      simp only [pu', p0', c1', c0', i1', z0', b8_nat]
      refine sLt (fun hb => ?_) (fun hb => ?_)
      replace hb := dT' hb
      simp only [pu', p0', c1', c0', i1', z0', b8_nat]
      refine spickT ?_
      simp only [pu', p0', c1', c0', i1', z0', b8_nat]
      with_reducible refine s_end ?_
      with_reducible refine s_then ?_
      refine sCT ?_
      with_reducible refine s_skip ?_
      with_reducible refine s_then ?_
      with_reducible refine s_seq ?_
      with_reducible refine s_block ?_
      with_reducible refine s_reg ?_
      refine smove ?_
      simp only [pu', p0', c1', c0', i1', z0', b8_nat]
      refine smove ?_
      simp only [pu', p0', c1', c0', i1', z0', b8_nat]
      refine smove ?_
      simp only [pu', p0', c1', c0', i1', z0', b8_nat]
      refine sidxE ?_
      simp only [pu', p0', c1', c0', i1', z0', b8_nat]
      refine sloadE1 ?_
      simp only [pu', p0', c1', c0', i1', z0', b8_nat]
      refine sK (hx := rfl) (d31) ?_
      simp only [pu', p0', c1', c0', i1', z0', b8_nat]
      refine sbsl ?_
      simp only [pu', p0', c1', c0', i1', n0', n3', n1', n2', a2', a1', a0', n4', Nat.reduceAdd, z0', n5', sa0, sa1, sa2, sa3, sa4, sa5, sa6, sa7, sa8, sa9, sa10, sa11]
      (refine s_app 0 (l2 := [kk]) (fun z1 Y1 T1 x1 => ?_) inferInstance rfl iok (elts_at (l := [kk]) iok inferInstance rfl) (by simp only [List.length_cons, List.length_nil]; omega) inferInstance inferInstance; simp only [a1', c1', c0'] at T1; have pz1 := T1.sl 0 rfl; simp only [Fr.put, List.set_cons_succ, List.set_cons_zero, Int.toNat_natCast, Nat.zero_add])
      refine sassign ?_
      simp only [pu', p0', c1', c0', i1', z0', b8_nat]
      with_reducible refine s_end ?_
      with_reducible refine s_blkN ?_
      with_reducible refine s_then ?_
      with_reducible refine s_reg ?_
      refine smove ?_
      simp only [pu', p0', c1', c0', i1', z0', b8_nat]
      refine sadd ?_
      simp only [pu', p0', c1', c0', i1', z0', b8_nat]
      refine sassign ?_
      simp only [pu', p0', c1', c0', i1', z0', b8_nat]
      with_reducible refine s_end ?_
      rotate_left 1
      replace hb := dF' hb
      (exfalso; omega)
      replace hb := dF' hb
      (exfalso; omega)
    all_goals
      refine l_next ⟨k + 1, z1, q ++ [kk], _⟩ ⟨by simp only []; omega, by simp only []; omega, pz1, by simp only [List.length_append, List.length_singleton]; omega, by simp only []; rw [getD_app (by omega)]; exact hq0, fun i hi => ?_, Sep.sub T1 (by repeat' first | exact List.Sublist.refl _ | exact List.sublist_append_left _ _ | exact List.nil_sublist _ | refine List.Sublist.cons_cons _ ?_ | refine List.Sublist.cons _ ?_ | refine List.Sublist.trans ?_ (List.sublist_append_left _ _))⟩ (by simp only []; omega) (by rfl) rfl
      simp only [List.length_append, List.length_singleton] at hi ⊢
      by_cases hi' : i < q.length
      · rw [getD_app hi']; exact hqb i hi'
      · rw [show i = q.length by omega, getD_snoc]; omega
  · have hcs := cs_made hk12 hql hq0 hqb
    have hend : ∀ o, HufOk (q ++ [3]) o → chkW o = 0 ∧ o.length ≤ 60 := fun o ho => by
      have hl : (q ++ [3]).length = k + 2 := by simp; omega
      refine ⟨huf_chk hcs ho (by omega) ?_, by rw [ho.ol]; omega⟩
      have e : (q ++ [(3 : Int)]).length - 1 = q.length := by omega
      rw [e, getD_snoc]; decide
    have hc' : nums.length ≤ k ∨ 58 ≤ k := by omega
    rcases hc' with hc' | hc'
    · with_reducible refine s_seq ?_
      with_reducible refine s_seq ?_
      with_reducible refine s_reg ?_
      refine smove ?_
      simp only [pu', p0', c1', c0', i1', z0', b8_nat]
      refine smove ?_
      simp only [pu', p0', c1', c0', i1', z0', b8_nat]
      refine slenE ?_
      simp only [pu', p0', c1', c0', i1', z0', b8_nat]
      refine sLt (fun hb => ?_) (fun hb => ?_)
      replace hb := dT' hb
      (exfalso; omega)
      replace hb := dF' hb
      simp only [pu', p0', c1', c0', i1', z0', b8_nat]
      refine smove ?_
      simp only [pu', p0', c1', c0', i1', z0', b8_nat]
      (with_reducible refine s_gN ?_ ?_; exact wG rfl rfl rfl rfl rfl)
      simp only [pu', p0', c1', c0', i1', z0', b8_nat]
      (with_reducible refine s_gN ?_ ?_; exact wG rfl rfl rfl rfl rfl)
      simp only [pu', p0', c1', c0', i1', z0', b8_nat]
      refine spickF ?_
      simp only [pu', p0', c1', c0', i1', z0', b8_nat]
      with_reducible refine s_end ?_
      with_reducible refine s_then ?_
      refine sCF ?_
      with_reducible refine s_exit ?_
      with_reducible refine s_thenE ?_
      with_reducible refine l_exit ?_
      with_reducible refine s_blkE ?_
      with_reducible refine s_then ?_
      with_reducible refine s_seq ?_
      with_reducible refine s_reg ?_
      refine smove ?_
      simp only [pu', p0', c1', c0', i1', z0', b8_nat]
      refine sbsl ?_
      simp only [pu', p0', c1', c0', i1', n0', n3', n1', n2', a2', a1', a0', n4', Nat.reduceAdd, z0', n5', sa0, sa1, sa2, sa3, sa4, sa5, sa6, sa7, sa8, sa9, sa10, sa11]
      (refine s_app 0 (l2 := [(3 : Int)]) (fun z1 Y1 T1 x1 => ?_) inferInstance rfl iok (elts_at (l := [(3 : Int)]) iok inferInstance rfl) (by simp only [List.length_cons, List.length_nil]; omega) inferInstance inferInstance; simp only [a1', c1', c0'] at T1; have pz1 := T1.sl 0 rfl; simp only [Fr.put, List.set_cons_succ, List.set_cons_zero, Int.toNat_natCast, Nat.zero_add])
      refine sC (hx := rfl) ((c42 _ _ z1 (q ++ [3]) inferInstance hcs inferInstance).mono ?_)
      rintro _ m42 _ ⟨zo, o, rfl, pzo, T2, hH⟩
      simp only [pu', p0', c1', c0', i1', n0', n3', n1', n2', a2', a1', a0', n4', Nat.reduceAdd, z0', n5', sa0, sa1, sa2, sa3, sa4, sa5, sa6, sa7, sa8, sa9, sa10, sa11]
      refine smove ?_
      simp only [pu', p0', c1', c0', i1', z0', b8_nat]
      refine sext ?_
      simp only [pu', p0', c1', c0', i1', z0', b8_nat]
      refine sext ?_
      simp only [pu', p0', c1', c0', i1', z0', b8_nat]
      refine sassign ?_
      simp only [pu', p0', c1', c0', i1', z0', b8_nat]
      refine sassign ?_
      simp only [pu', p0', c1', c0', i1', z0', b8_nat]
      with_reducible refine s_end ?_
      with_reducible refine s_then ?_
      with_reducible refine s_seq ?_
      with_reducible refine s_reg ?_
      refine smove ?_
      simp only [pu', p0', c1', c0', i1', z0', b8_nat]
      refine smove ?_
      simp only [pu', p0', c1', c0', i1', z0', b8_nat]
      refine sEq (fun hb => ?_) (fun hb => ?_)
      replace hb := dT' hb
      simp only [pu', p0', c1', c0', i1', z0', b8_nat]
      refine sassign ?_
      simp only [pu', p0', c1', c0', i1', z0', b8_nat]
      refine sassign ?_
      simp only [pu', p0', c1', c0', i1', z0', b8_nat]
      with_reducible refine s_end ?_
      with_reducible refine s_then ?_
      with_reducible refine s_ret ?_
      rotate_left 1
      replace hb := dF' hb
      exact absurd rfl hb
      all_goals
        all_goals try with_reducible refine w_n ?_
        all_goals refine w_2 rfl (by first | exact v_t (by rfl) | exact v_c1 (C1.p) (by rfl) (HA.p) (by rfl) | exact v_cF (CA.p) (by rfl) (HA.p) (by rfl)) (by first | exact v_t (by rfl) | exact v_c1 (C1.p) (by rfl) (HA.p) (by rfl) | exact v_cF (CA.p) (by rfl) (HA.p) (by rfl)) ?_
        exact ⟨zo, o, rfl, pzo, Sep.sub inferInstance (by repeat' first | exact List.Sublist.refl _ | exact List.sublist_append_left _ _ | exact List.nil_sublist _ | refine List.Sublist.cons_cons _ ?_ | refine List.Sublist.cons _ ?_ | refine List.Sublist.trans ?_ (List.sublist_append_left _ _)), (hend o hH).1, (hend o hH).2⟩
    · with_reducible refine s_seq ?_
      with_reducible refine s_seq ?_
      with_reducible refine s_reg ?_
      refine smove ?_
      simp only [pu', p0', c1', c0', i1', z0', b8_nat]
      refine smove ?_
      simp only [pu', p0', c1', c0', i1', z0', b8_nat]
      refine slenE ?_
      simp only [pu', p0', c1', c0', i1', z0', b8_nat]
      refine sLt (fun hb => ?_) (fun hb => ?_)
      replace hb := dT' hb
      simp only [pu', p0', c1', c0', i1', z0', b8_nat]
      refine smove ?_
      simp only [pu', p0', c1', c0', i1', z0', b8_nat]
      refine smove ?_
      simp only [pu', p0', c1', c0', i1', z0', b8_nat]
      refine sLt (fun hb => ?_) (fun hb => ?_)
      replace hb := dT' hb
      (exfalso; omega)
      replace hb := dF' hb
      simp only [pu', p0', c1', c0', i1', z0', b8_nat]
      refine spickT ?_
      simp only [pu', p0', c1', c0', i1', z0', b8_nat]
      with_reducible refine s_end ?_
      with_reducible refine s_then ?_
      refine sCF ?_
      with_reducible refine s_exit ?_
      with_reducible refine s_thenE ?_
      with_reducible refine l_exit ?_
      with_reducible refine s_blkE ?_
      with_reducible refine s_then ?_
      with_reducible refine s_seq ?_
      with_reducible refine s_reg ?_
      refine smove ?_
      simp only [pu', p0', c1', c0', i1', z0', b8_nat]
      refine sbsl ?_
      simp only [pu', p0', c1', c0', i1', n0', n3', n1', n2', a2', a1', a0', n4', Nat.reduceAdd, z0', n5', sa0, sa1, sa2, sa3, sa4, sa5, sa6, sa7, sa8, sa9, sa10, sa11]
      (refine s_app 0 (l2 := [(3 : Int)]) (fun z1 Y1 T1 x1 => ?_) inferInstance rfl iok (elts_at (l := [(3 : Int)]) iok inferInstance rfl) (by simp only [List.length_cons, List.length_nil]; omega) inferInstance inferInstance; simp only [a1', c1', c0'] at T1; have pz1 := T1.sl 0 rfl; simp only [Fr.put, List.set_cons_succ, List.set_cons_zero, Int.toNat_natCast, Nat.zero_add])
      refine sC (hx := rfl) ((c42 _ _ z1 (q ++ [3]) inferInstance hcs inferInstance).mono ?_)
      rintro _ m42 _ ⟨zo, o, rfl, pzo, T2, hH⟩
      simp only [pu', p0', c1', c0', i1', n0', n3', n1', n2', a2', a1', a0', n4', Nat.reduceAdd, z0', n5', sa0, sa1, sa2, sa3, sa4, sa5, sa6, sa7, sa8, sa9, sa10, sa11]
      refine smove ?_
      simp only [pu', p0', c1', c0', i1', z0', b8_nat]
      refine sext ?_
      simp only [pu', p0', c1', c0', i1', z0', b8_nat]
      refine sext ?_
      simp only [pu', p0', c1', c0', i1', z0', b8_nat]
      refine sassign ?_
      simp only [pu', p0', c1', c0', i1', z0', b8_nat]
      refine sassign ?_
      simp only [pu', p0', c1', c0', i1', z0', b8_nat]
      with_reducible refine s_end ?_
      with_reducible refine s_then ?_
      with_reducible refine s_seq ?_
      with_reducible refine s_reg ?_
      refine smove ?_
      simp only [pu', p0', c1', c0', i1', z0', b8_nat]
      refine smove ?_
      simp only [pu', p0', c1', c0', i1', z0', b8_nat]
      refine sEq (fun hb => ?_) (fun hb => ?_)
      replace hb := dT' hb
      simp only [pu', p0', c1', c0', i1', z0', b8_nat]
      refine sassign ?_
      simp only [pu', p0', c1', c0', i1', z0', b8_nat]
      refine sassign ?_
      simp only [pu', p0', c1', c0', i1', z0', b8_nat]
      with_reducible refine s_end ?_
      with_reducible refine s_then ?_
      with_reducible refine s_ret ?_
      rotate_left 1
      replace hb := dF' hb
      exact absurd rfl hb
      replace hb := dF' hb
      simp only [pu', p0', c1', c0', i1', z0', b8_nat]
      refine smove ?_
      simp only [pu', p0', c1', c0', i1', z0', b8_nat]
      (with_reducible refine s_gN ?_ ?_; exact wG rfl rfl rfl rfl rfl)
      simp only [pu', p0', c1', c0', i1', z0', b8_nat]
      (with_reducible refine s_gN ?_ ?_; exact wG rfl rfl rfl rfl rfl)
      simp only [pu', p0', c1', c0', i1', z0', b8_nat]
      refine spickF ?_
      simp only [pu', p0', c1', c0', i1', z0', b8_nat]
      with_reducible refine s_end ?_
      with_reducible refine s_then ?_
      refine sCF ?_
      with_reducible refine s_exit ?_
      with_reducible refine s_thenE ?_
      with_reducible refine l_exit ?_
      with_reducible refine s_blkE ?_
      with_reducible refine s_then ?_
      with_reducible refine s_seq ?_
      with_reducible refine s_reg ?_
      refine smove ?_
      simp only [pu', p0', c1', c0', i1', z0', b8_nat]
      refine sbsl ?_
      simp only [pu', p0', c1', c0', i1', n0', n3', n1', n2', a2', a1', a0', n4', Nat.reduceAdd, z0', n5', sa0, sa1, sa2, sa3, sa4, sa5, sa6, sa7, sa8, sa9, sa10, sa11]
      (refine s_app 0 (l2 := [(3 : Int)]) (fun z1 Y1 T1 x1 => ?_) inferInstance rfl iok (elts_at (l := [(3 : Int)]) iok inferInstance rfl) (by simp only [List.length_cons, List.length_nil]; omega) inferInstance inferInstance; simp only [a1', c1', c0'] at T1; have pz1 := T1.sl 0 rfl; simp only [Fr.put, List.set_cons_succ, List.set_cons_zero, Int.toNat_natCast, Nat.zero_add])
      refine sC (hx := rfl) ((c42 _ _ z1 (q ++ [3]) inferInstance hcs inferInstance).mono ?_)
      rintro _ m42 _ ⟨zo, o, rfl, pzo, T2, hH⟩
      simp only [pu', p0', c1', c0', i1', n0', n3', n1', n2', a2', a1', a0', n4', Nat.reduceAdd, z0', n5', sa0, sa1, sa2, sa3, sa4, sa5, sa6, sa7, sa8, sa9, sa10, sa11]
      refine smove ?_
      simp only [pu', p0', c1', c0', i1', z0', b8_nat]
      refine sext ?_
      simp only [pu', p0', c1', c0', i1', z0', b8_nat]
      refine sext ?_
      simp only [pu', p0', c1', c0', i1', z0', b8_nat]
      refine sassign ?_
      simp only [pu', p0', c1', c0', i1', z0', b8_nat]
      refine sassign ?_
      simp only [pu', p0', c1', c0', i1', z0', b8_nat]
      with_reducible refine s_end ?_
      with_reducible refine s_then ?_
      with_reducible refine s_seq ?_
      with_reducible refine s_reg ?_
      refine smove ?_
      simp only [pu', p0', c1', c0', i1', z0', b8_nat]
      refine smove ?_
      simp only [pu', p0', c1', c0', i1', z0', b8_nat]
      refine sEq (fun hb => ?_) (fun hb => ?_)
      replace hb := dT' hb
      simp only [pu', p0', c1', c0', i1', z0', b8_nat]
      refine sassign ?_
      simp only [pu', p0', c1', c0', i1', z0', b8_nat]
      refine sassign ?_
      simp only [pu', p0', c1', c0', i1', z0', b8_nat]
      with_reducible refine s_end ?_
      with_reducible refine s_then ?_
      with_reducible refine s_ret ?_
      rotate_left 1
      replace hb := dF' hb
      exact absurd rfl hb
      all_goals
        all_goals try with_reducible refine w_n ?_
        all_goals refine w_2 rfl (by first | exact v_t (by rfl) | exact v_c1 (C1.p) (by rfl) (HA.p) (by rfl) | exact v_cF (CA.p) (by rfl) (HA.p) (by rfl)) (by first | exact v_t (by rfl) | exact v_c1 (C1.p) (by rfl) (HA.p) (by rfl) | exact v_cF (CA.p) (by rfl) (HA.p) (by rfl)) ?_
        exact ⟨zo, o, rfl, pzo, Sep.sub inferInstance (by repeat' first | exact List.Sublist.refl _ | exact List.sublist_append_left _ _ | exact List.nil_sublist _ | refine List.Sublist.cons_cons _ ?_ | refine List.Sublist.cons _ ?_ | refine List.Sublist.trans ?_ (List.sublist_append_left _ _)), (hend o hH).1, (hend o hH).2⟩
/-! ### Contracts over pieces -/
abbrev pcR0 (i : Nat) (m : Int) (l : List Int) : Pc := pcC i (.cells (rowC m l l.length) 63 true)
theorem rowW {Y : Hp} {i : Nat} {l : List Int} (hc : chkW l = 0) (hi : HA Y i (.cells (rowC (grt l) l l.length) 63 true)) : EI Y (.sl i 0 l.length l.length false) (wtL l) := by
  have := rowEA hi (Nat.le_refl _) (ln_of hc).len.2
  rw [List.take_of_length_le (by rw [trn_len]; exact Nat.le_refl _)] at this
  rw [wtL, if_pos hc]
  exact mkEL iok 0 this
theorem rowL {Y : Hp} {i : Nat} {l : List Int} (hc : chkW l = 0) (hi : HA Y i (.cells (rowC (grt l) l l.length) 63 true)) : EI Y (.sl i 0 (l.length - 1) (l.length - 1) false) (lsL l) := by
  have := rowEA (k := l.length - 1) hi (by omega) (ln_of hc).len.2
  rw [trn_take, ← ls_is hc] at this
  exact mkEL iok 0 this
theorem rowN {Y : Hp} {i : Nat} {l : List Int} (hc : chkW l = 0) (hi : HA Y i (.cells (rowC (grt l) (wtL l) (wtL l).length) 63 true)) : EI Y (.sl i 0 (wtL l).length (wtL l).length false) l := by
  have hl : (wtL l).length = l.length := by rw [wtL, if_pos hc, trn_len]
  have := rowEA hi (Nat.le_refl _) (by rw [hl]; exact (ln_of hc).len.2)
  have f := imp_ls hc
  have e : trn (grt l) (wtL l) = l := by
    have := ln_ls hc
    rw [lnL, if_pos f.e, f.m, f.w, ← wt_is hc] at this
    exact this
  rw [e, List.take_of_length_le (by rw [hl]; exact Nat.le_refl _)] at this
  exact mkEL iok 0 this
theorem weights12 {h Y : Hp} {L' : List Pc} (S : Sep h Y L') (s : AV) (l : List Int) (a : EI Y s l) (hc : chkW l = 0) : ACalls Try.prog 12 [s] Y (fun r h' => ∃ i, r = .tup [.sl i 0 l.length l.length false, I 0] ∧ Sep h h' (L' ++ [pcR0 i (grt l) l])) :=
  (weights_ok Y s l a.p hc).mono fun r h' _ ⟨h1, h2⟩ => ⟨_, h1, by rw [h2]; exact S.push _⟩
theorem listed14 {h Y : Hp} {L' : List Pc} (S : Sep h Y L') (s : AV) (l : List Int) (a : EI Y s l) (hc : chkW l = 0) : ACalls Try.prog 14 [s] Y (fun r h' => ∃ i, r = .tup [.sl i 0 (l.length - 1) (l.length - 1) false, I 0] ∧ Sep h h' (L' ++ [pcR0 i (grt l) l])) :=
  (listed_ok Y s l a.p hc).mono fun r h' _ ⟨h1, h2⟩ => ⟨_, h1, by rw [h2]; exact S.push _⟩
theorem lengths23 {h Y : Hp} {L' : List Pc} (S : Sep h Y L') (i : Nat) (l : List Int) (a : EI Y (.sl i 0 (l.length - 1) (l.length - 1) false) (lsL l)) (hc : chkW l = 0) : ACalls Try.prog 23 [.sl i 0 (l.length - 1) (l.length - 1) false] Y (fun r h' => ∃ j, r = .tup [.sl j 0 (wtL l).length (wtL l).length false, I 0] ∧ Sep h h' (L' ++ [pcR0 j (grt l) (wtL l)])) := by
  have f := imp_ls hc
  have hl := ls_len hc
  have ap := a.p
  rw [← hl] at ap
  have := lengths_ok Y _ _ ap (cut_lit ap) f.e
  rw [f.m, f.w, ← wt_is hc, hl] at this
  exact this.mono fun r h' _ ⟨h1, h2⟩ => ⟨_, h1, by
    rw [h2]
    exact (S.push3 _ _ _).sub (List.Sublist.append_left (((List.Sublist.refl _).cons _).cons _) _)⟩
theorem implied19 {Y : Hp} (s : AV) (l : List Int) (a : EI Y s (lsL l)) (hc : chkW l = 0) : ACalls Try.prog 19 [s] Y (fun r h' => r = .tup [I (grt l + 1 - l.getD (l.length - 1) 0), I (grt l), I 0] ∧ h' = Y) := by
  have f := imp_ls hc
  have := Implied_any Y s (lsL l) a.p
  rw [f.m, f.w, f.e] at this
  exact this
end Go.Proofs.Ytckljanplahbkaa
