/-
  A part of the proof of a statement of a chapter's seat; conditions: stated at each theorem.
-/
import Derived.Test.YtfcgmkpihmiadaaP25
import Derived.Test.YtfcgmkpihmiadaaAzR
set_option linter.unusedVariables false
set_option linter.unusedSectionVars false
set_option linter.unusedSimpArgs false
set_option linter.unusedVariables false
set_option maxRecDepth 100000
set_option maxHeartbeats 8000000
namespace Go.Proofs.Ytfcgmkpihmiadaa
open Go.Az Go
/-! ### Pools made of numbers -/
theorem mod27 (n m : Int) (h0 : 1 ≤ m) (h1 : m ≤ 1099511627776) : ACalls Try.prog 27 [I n, I m] [] (fun r _ => r = I (n % m) ∧ r.sc 0 = true) := by
  have hb1 := Int.tmod_lt_of_pos n (show 0 < m by omega)
  have hb2 := Int.lt_tmod_of_pos n (show 0 < m by omega)
  have e1 := tmod_lo (n := n) (m := m) (by omega)
  have e2 := tmod_hi (n := n) (m := m) (by omega)
  refine acalls_of_wk hm Try.func27 rfl ?_
  simp only [Try.ntmps27, List.length_cons, List.length_nil, Nat.reduceAdd, Nat.reduceSub, List.reduceReplicate, List.cons_append, List.nil_append]
  show wk _ _ none _ _ ⟨_, []⟩ _
  focus
    with_reducible refine s_seq ?_
    with_reducible refine s_reg ?_
    refine sassign ?_
    simp only [pu', p0', c1', c0', i1', z0', b8_nat]
    with_reducible refine s_end ?_
    with_reducible refine s_then ?_
    with_reducible refine s_seq ?_
    with_reducible refine s_seq ?_
    with_reducible refine s_reg ?_
    refine smove ?_
    simp only [pu', p0', c1', c0', i1', z0', b8_nat]
    refine sLt (fun hb => ?_) (fun hb => ?_)
    replace hb := dT' hb
    (exfalso; omega)
    replace hb := dF' hb
    simp only [pu', p0', c1', c0', i1', z0', b8_nat]
    with_reducible refine s_end ?_
    with_reducible refine s_then ?_
    refine sCF ?_
    with_reducible refine s_skip ?_
    with_reducible refine s_then ?_
    with_reducible refine s_seq ?_
    with_reducible refine s_reg ?_
    refine smove ?_
    simp only [pu', p0', c1', c0', i1', z0', b8_nat]
    refine smove ?_
    simp only [pu', p0', c1', c0', i1', z0', b8_nat]
    refine stmod ?_
    simp only [pu', p0', c1', c0', i1', z0', b8_nat]
    refine sassign ?_
    simp only [pu', p0', c1', c0', i1', z0', b8_nat]
    with_reducible refine s_end ?_
    with_reducible refine s_then ?_
    with_reducible refine s_seq ?_
    with_reducible refine s_seq ?_
    with_reducible refine s_reg ?_
    refine smove ?_
    simp only [pu', p0', c1', c0', i1', z0', b8_nat]
    refine sLt (fun hb => ?_) (fun hb => ?_)
    replace hb := dT' hb
    simp only [pu', p0', c1', c0', i1', z0', b8_nat]
    with_reducible refine s_end ?_
    with_reducible refine s_then ?_
    refine sCT ?_
    with_reducible refine s_reg ?_
    refine smove ?_
    simp only [pu', p0', c1', c0', i1', z0', b8_nat]
    refine smove ?_
    simp only [pu', p0', c1', c0', i1', z0', b8_nat]
    refine sadd ?_
    simp only [pu', p0', c1', c0', i1', z0', b8_nat]
    refine sassign ?_
    simp only [pu', p0', c1', c0', i1', z0', b8_nat]
    with_reducible refine s_end ?_
    with_reducible refine s_then ?_
    with_reducible refine s_seq ?_
    with_reducible refine s_reg ?_
    refine smove ?_
    simp only [pu', p0', c1', c0', i1', z0', b8_nat]
    refine sassign ?_
    simp only [pu', p0', c1', c0', i1', z0', b8_nat]
    with_reducible refine s_end ?_
    with_reducible refine s_then ?_
    with_reducible refine s_ret ?_
    rotate_left 1
    replace hb := dF' hb
    simp only [pu', p0', c1', c0', i1', z0', b8_nat]
    with_reducible refine s_end ?_
    with_reducible refine s_then ?_
    refine sCF ?_
    with_reducible refine s_skip ?_
    with_reducible refine s_then ?_
    with_reducible refine s_seq ?_
    with_reducible refine s_reg ?_
    refine smove ?_
    simp only [pu', p0', c1', c0', i1', z0', b8_nat]
    refine sassign ?_
    simp only [pu', p0', c1', c0', i1', z0', b8_nat]
    with_reducible refine s_end ?_
    with_reducible refine s_then ?_
    with_reducible refine s_ret ?_
    rotate_left 1
  · all_goals try with_reducible refine w_n ?_
    all_goals refine w_1 rfl (by first | exact v_t (by rfl) | exact v_c1 (C1.p) (by rfl) (HA.p) (by rfl) | exact v_cF (CA.p) (by rfl) (HA.p) (by rfl)) ?_
    exact ⟨by rw [e1 (by omega)], rfl⟩
  · all_goals try with_reducible refine w_n ?_
    all_goals refine w_1 rfl (by first | exact v_t (by rfl) | exact v_c1 (C1.p) (by rfl) (HA.p) (by rfl) | exact v_cF (CA.p) (by rfl) (HA.p) (by rfl)) ?_
    exact ⟨by rw [e2 (by omega)], rfl⟩
theorem mkU_snoc (n : Int) (nums : List Int) (k : Nat) (h : k < nums.length) (h7 : k < 7) : mkU n (nums.take (k + 1)) = mkU n (nums.take k) ++ [1 + nums.getD k 0 % 3] := by
  unfold mkU
  rw [List.take_of_length_le (l := nums.take (k + 1)) (by rw [List.length_take]; omega), List.take_of_length_le (l := nums.take k) (by rw [List.length_take]; omega), takeT (d := 0) h, List.map_append]
  rfl
theorem mkU_end (n : Int) (nums : List Int) (k : Nat) (hk : k ≤ nums.length) (h : nums.length ≤ k ∨ 7 ≤ k) (h7 : k ≤ 7) : mkU n (nums.take k) = mkU n nums := by
  unfold mkU
  rw [List.take_take]
  congr 2
  rcases h with h | h
  · rw [List.take_of_length_le (by omega), List.take_of_length_le (by omega)]
  · rw [show min 7 k = 7 by omega]
structure MdB where
  k : Nat
  z : AV
  G : Hp
theorem made21 (X : Hp) (n : Int) (s : AV) (nums : List Int) [a : EI X s nums] : ACalls Try.prog 21 [I n, s] X (fun r h' => ∃ zu zw zt, r = .tup [PA zu zw zt (mkP n nums).out, B true] ∧ SlC zu ∧ SlC zw ∧ SlC zt ∧ Sep X h' [WI zu (mkP n nums).us, WK zw (mkP n nums).ws, WT zt (mkP n nums).ts]) := by
  have ps := a.p.sl
  have S0 := Sep.nil X
  have h3 := Int.emod_nonneg n (show (3 : Int) ≠ 0 by omega)
  have h4 := Int.emod_nonneg n (show (4 : Int) ≠ 0 by omega)
  have h3' := Int.emod_lt_of_pos n (show (0 : Int) < 3 by omega)
  have h4' := Int.emod_lt_of_pos n (show (0 : Int) < 4 by omega)
  have hu := mkU_len n nums
  have hq : newQ (1 + n % 4) (mkU n nums) = ⟨mkP n nums, 0⟩ := by rw [newQ, if_neg (fun hh => hh (mk_giv n nums))]; rfl
  have c19 : ∀ Y L z, Sep X Y L → EI Y z (mkU n nums) → ACalls Try.prog 19 [I (1 + n % 4), z] Y (fun r h' => ∃ zu zw zt, r = .tup [PA zu zw zt (mkP n nums).out, I 0] ∧ SlC zu ∧ SlC zw ∧ SlC zt ∧ Sep X h' (L ++ [WI zu (mkP n nums).us, WK zw (mkP n nums).ws, WT zt (mkP n nums).ts])) := fun Y L z S a => by
    have := new19 Y (1 + n % 4) z (mkU n nums) (a := a) (by omega)
    rw [hq] at this
    exact this.mono fun r h' _ ⟨zu, zw, zt, h1, h2, h3, h4, h5⟩ => ⟨zu, zw, zt, h1, h2, h3, h4, S.join h5⟩
  clear hq
  generalize mkP n nums = q at *
  obtain ⟨us, ws, ts, out⟩ := q
  simp only [] at c19 ⊢
  refine acalls_of_wk hm Try.func21 rfl ?_
  simp only [Try.ntmps21, List.length_cons, List.length_nil, Nat.reduceAdd, Nat.reduceSub, List.reduceReplicate, List.cons_append, List.nil_append]
  show wk _ _ none _ _ ⟨_, []⟩ _
  with_reducible refine s_seq ?_
  with_reducible refine s_reg ?_
  refine salloc ?_
  simp only [pu', p0', c1', c0', i1', n0', n3', n1', n2', a2', a1', a0', n4', Nat.reduceAdd, z0', n5', sa0, sa1, sa2, sa3, sa4, sa5, sa6, sa7, sa8, sa9, sa10, sa11]
  refine sassign ?_
  simp only [pu', p0', c1', c0', i1', z0', b8_nat]
  with_reducible refine s_end ?_
  with_reducible refine s_then ?_
  with_reducible refine s_seq ?_
  with_reducible refine s_reg ?_
  refine smove ?_
  simp only [pu', p0', c1', c0', i1', z0', b8_nat]
  refine sK (hx := rfl) (mod27 _ _ (by omega) (by omega)) ?_
  simp only [pu', p0', c1', c0', i1', z0', b8_nat]
  refine sadd ?_
  simp only [pu', p0', c1', c0', i1', z0', b8_nat]
  refine sbsl ?_
  simp only [pu', p0', c1', c0', i1', n0', n3', n1', n2', a2', a1', a0', n4', Nat.reduceAdd, z0', n5', sa0, sa1, sa2, sa3, sa4, sa5, sa6, sa7, sa8, sa9, sa10, sa11]
  refine sassign ?_
  simp only [pu', p0', c1', c0', i1', z0', b8_nat]
  with_reducible refine s_end ?_
  with_reducible refine s_then ?_
  with_reducible refine s_seq ?_
  with_reducible refine s_seq ?_
  with_reducible refine s_reg ?_
  refine sassign ?_
  simp only [pu', p0', c1', c0', i1', z0', b8_nat]
  with_reducible refine s_end ?_
  with_reducible refine s_then ?_
  with_reducible refine s_block ?_
  refine s_loop hm (fun (b : MdB) s' => [I n, s, s' 2, s' 3, .ptr X.length 0, s' 5, b.z, I b.k, s' 8, s' 9, s' 10, s' 11, s' 12, s' 13, s' 14, s' 15, s' 16, s' 17, s' 18, s' 19, s' 20, s' 21, s' 22, s' 23, s' 24, s' 25, s' 26, s' 27, s' 28, s' 29, s' 30, s' 31, s' 32, s' 33, s' 34, s' 35, s' 36, s' 37, s' 38, s' 39, s' 40, s' 41, s' 42, s' 43]) (fun b => b.G) (fun b => b.k ≤ nums.length ∧ b.k ≤ 7 ∧ SlC b.z ∧ Sep X b.G [WI b.z (mkU n (nums.take b.k)), pcC X.length (.cells [nilS, nilS, nilS, I 0] 26 true)]) (fun b => nums.length - b.k) ⟨0, .sl (X.length + 1) 0 1 1 false, _⟩ (by rfl) rfl ⟨Nat.zero_le _, Nat.zero_le _, inferInstance, ?_⟩ ?_
  · exact Sep.perm (Sep.litW (Sep.lits X [_, _]) 1 rfl iok [1 + n % 3] rfl) (List.perm_append_comm (l₁ := [_]) (l₂ := [_]))
  rintro ⟨k, z, G⟩ s' ⟨hk, hk7, pz, S1⟩
  simp only [] at hk hk7 pz S1 ⊢
  have e1 := mkU_snoc n nums k
  have e2 := mkU_end n nums k hk
  have e3 := mkU_len n (nums.take k)
  have h5 := Int.emod_nonneg (nums.getD k 0) (show (3 : Int) ≠ 0 by omega)
  have h5' := Int.emod_lt_of_pos (nums.getD k 0) (show (0 : Int) < 3 by omega)
  by_cases hc : k < nums.length ∧ k < 7
  · obtain ⟨hc1, hc2⟩ := hc
    rw [← Int.ofNat_lt] at hc1
    focus
      with_reducible refine s_seq ?_
      with_reducible refine s_seq ?_
      with_reducible refine s_reg ?_
      refine smove ?_
      simp only [pu', p0', c1', c0', i1', z0', b8_nat]
      refine smove ?_
      simp only [pu', p0', c1', c0', i1', z0', b8_nat]
      refine slenE ?_
      simp only [pu', p0', c1', c0', i1', z0', b8_nat]
      refine sLt (fun hb => ?_) (fun hb => ?_)
      replace hb := dT' hb
      simp only [pu', p0', c1', c0', i1', z0', b8_nat]
      refine smove ?_
      simp only [pu', p0', c1', c0', i1', z0', b8_nat]
      refine smove ?_
      simp only [pu', p0', c1', c0', i1', z0', b8_nat]
      refine sLt (fun hb => ?_) (fun hb => ?_)
      replace hb := dT' hb
      simp only [pu', p0', c1', c0', i1', z0', b8_nat]
      refine spickT ?_
      simp only [pu', p0', c1', c0', i1', z0', b8_nat]
      with_reducible refine s_end ?_
      with_reducible refine s_then ?_
      refine sCT ?_
      with_reducible refine s_skip ?_
      with_reducible refine s_then ?_
      with_reducible refine s_seq ?_
      with_reducible refine s_block ?_
      with_reducible refine s_reg ?_
      refine smove ?_
      simp only [pu', p0', c1', c0', i1', z0', b8_nat]
      refine smove ?_
      simp only [pu', p0', c1', c0', i1', z0', b8_nat]
      refine smove ?_
      simp only [pu', p0', c1', c0', i1', z0', b8_nat]
      refine sidxE ?_
      simp only [pu', p0', c1', c0', i1', z0', b8_nat]
      refine sloadE1 ?_
      simp only [pu', p0', c1', c0', i1', z0', b8_nat]
      refine sK (hx := rfl) (mod27 _ _ (by omega) (by omega)) ?_
      simp only [pu', p0', c1', c0', i1', z0', b8_nat]
      refine sadd ?_
      simp only [pu', p0', c1', c0', i1', z0', b8_nat]
      refine sbsl ?_
      simp only [pu', p0', c1', c0', i1', n0', n3', n1', n2', a2', a1', a0', n4', Nat.reduceAdd, z0', n5', sa0, sa1, sa2, sa3, sa4, sa5, sa6, sa7, sa8, sa9, sa10, sa11]
      (refine s_app 0 (l2 := [1 + nums.getD k 0 % 3]) (fun z1 Y1 T1 x1 => ?_) inferInstance rfl iok (elts_at (l := [1 + nums.getD k 0 % 3]) iok inferInstance rfl) (by simp only [List.length_cons, List.length_nil]; omega) inferInstance inferInstance; simp only [a1', c1', c0'] at T1; have pz1 := T1.sl 0 rfl; simp only [Fr.put, List.set_cons_succ, List.set_cons_zero, Int.toNat_natCast, Nat.zero_add])
      refine sassign ?_
      simp only [pu', p0', c1', c0', i1', z0', b8_nat]
      with_reducible refine s_end ?_
      with_reducible refine s_blkN ?_
      with_reducible refine s_then ?_
      with_reducible refine s_reg ?_
      refine smove ?_
      simp only [pu', p0', c1', c0', i1', z0', b8_nat]
      refine sadd ?_
      simp only [pu', p0', c1', c0', i1', z0', b8_nat]
      refine sassign ?_
      simp only [pu', p0', c1', c0', i1', z0', b8_nat]
      with_reducible refine s_end ?_
      rotate_left 1
      replace hb := dF' hb
      (exfalso; omega)
      replace hb := dF' hb
      exact absurd (by with_reducible assumption) hb
    refine l_next ⟨k + 1, z1, _⟩ ⟨by simp only []; omega, by simp only []; omega, pz1, ?_⟩ (by simp only []; omega) (by rfl) rfl
    simp only []
    rw [e1 (by omega) (by omega)]
    exact Sep.sub inferInstance (by repeat' first | exact List.Sublist.refl _ | exact List.sublist_append_left _ _ | exact List.nil_sublist _ | refine List.Sublist.cons_cons _ ?_ | refine List.Sublist.cons _ ?_ | refine List.Sublist.trans ?_ (List.sublist_append_left _ _))
  · have hc' : nums.length ≤ k ∨ 7 ≤ k := by omega
    rw [e2 hc' (by omega)] at S1
    rcases hc' with hc' | hc'
    · with_reducible refine s_seq ?_
      with_reducible refine s_seq ?_
      with_reducible refine s_reg ?_
      refine smove ?_
      simp only [pu', p0', c1', c0', i1', z0', b8_nat]
      refine smove ?_
      simp only [pu', p0', c1', c0', i1', z0', b8_nat]
      refine slenE ?_
      simp only [pu', p0', c1', c0', i1', z0', b8_nat]
      refine sLt (fun hb => ?_) (fun hb => ?_)
      replace hb := dT' hb
      (exfalso; omega)
      replace hb := dF' hb
      simp only [pu', p0', c1', c0', i1', z0', b8_nat]
      refine smove ?_
      simp only [pu', p0', c1', c0', i1', z0', b8_nat]
      refine sN ?_
      simp only [pu', p0', c1', c0', i1', z0', b8_nat]
      refine sN ?_
      simp only [pu', p0', c1', c0', i1', z0', b8_nat]
      refine spickF ?_
      simp only [pu', p0', c1', c0', i1', z0', b8_nat]
      with_reducible refine s_end ?_
      with_reducible refine s_then ?_
      refine sCF ?_
      with_reducible refine s_exit ?_
      with_reducible refine s_thenE ?_
      with_reducible refine l_exit ?_
      with_reducible refine s_blkE ?_
      with_reducible refine s_then ?_
      with_reducible refine s_seq ?_
      with_reducible refine s_reg ?_
      refine smove ?_
      simp only [pu', p0', c1', c0', i1', z0', b8_nat]
      refine sK (hx := rfl) (mod27 _ _ (by omega) (by omega)) ?_
      simp only [pu', p0', c1', c0', i1', z0', b8_nat]
      refine sadd ?_
      simp only [pu', p0', c1', c0', i1', z0', b8_nat]
      refine smove ?_
      simp only [pu', p0', c1', c0', i1', z0', b8_nat]
      refine sC (hx := rfl) ((c19 _ _ z inferInstance inferInstance).mono ?_)
      rintro _ m19 _ ⟨zu, zw, zt, rfl, pzu, pzw, pzt, S2⟩
      simp only [pu', p0', c1', c0', i1', n0', n3', n1', n2', a2', a1', a0', n4', Nat.reduceAdd, z0', n5', sa0, sa1, sa2, sa3, sa4, sa5, sa6, sa7, sa8, sa9, sa10, sa11]
      refine smove ?_
      simp only [pu', p0', c1', c0', i1', z0', b8_nat]
      refine sext ?_
      simp only [pu', p0', c1', c0', i1', z0', b8_nat]
      refine sext ?_
      simp only [pu', p0', c1', c0', i1', z0', b8_nat]
      refine salloc ?_
      simp only [pu', p0', c1', c0', i1', n0', n3', n1', n2', a2', a1', a0', n4', Nat.reduceAdd, z0', n5', sa0, sa1, sa2, sa3, sa4, sa5, sa6, sa7, sa8, sa9, sa10, sa11]
      refine sstoreF ?_
      simp only [pu', p0', c1', c0', i1', n0', n3', n1', n2', a2', a1', a0', n4', Nat.reduceAdd, z0', n5', sa0, sa1, sa2, sa3, sa4, sa5, sa6, sa7, sa8, sa9, sa10, sa11]
      refine sassign ?_
      simp only [pu', p0', c1', c0', i1', z0', b8_nat]
      with_reducible refine s_end ?_
      with_reducible refine s_then ?_
      with_reducible refine s_seq ?_
      with_reducible refine s_reg ?_
      refine sloadW ?_
      simp only [pu', p0', c1', c0', i1', z0', b8_nat]
      refine smove ?_
      simp only [pu', p0', c1', c0', i1', z0', b8_nat]
      refine sEq (fun hb => ?_) (fun hb => ?_)
      replace hb := dT' hb
      simp only [pu', p0', c1', c0', i1', z0', b8_nat]
      refine sstoreF ?_
      simp only [pu', p0', c1', c0', i1', n0', n3', n1', n2', a2', a1', a0', n4', Nat.reduceAdd, z0', n5', sa0, sa1, sa2, sa3, sa4, sa5, sa6, sa7, sa8, sa9, sa10, sa11]
      refine sassign ?_
      simp only [pu', p0', c1', c0', i1', z0', b8_nat]
      with_reducible refine s_end ?_
      with_reducible refine s_then ?_
      with_reducible refine s_ret ?_
      rotate_left 1
      replace hb := dF' hb
      exact absurd rfl hb
      all_goals try with_reducible refine w_n ?_
      all_goals refine w_2 rfl (by first | exact v_t (by rfl) | exact v_c1 (C1.p) (by rfl) (HA.p) (by rfl) | exact v_cF (CA.p) (by rfl) (HA.p) (by rfl)) (by first | exact v_t (by rfl) | exact v_c1 (C1.p) (by rfl) (HA.p) (by rfl) | exact v_cF (CA.p) (by rfl) (HA.p) (by rfl)) ?_
      exact ⟨zu, zw, zt, rfl, pzu, pzw, pzt, Sep.sub inferInstance (by repeat' first | exact List.Sublist.refl _ | exact List.sublist_append_left _ _ | exact List.nil_sublist _ | refine List.Sublist.cons_cons _ ?_ | refine List.Sublist.cons _ ?_ | refine List.Sublist.trans ?_ (List.sublist_append_left _ _))⟩
    · with_reducible refine s_seq ?_
      with_reducible refine s_seq ?_
      with_reducible refine s_reg ?_
      refine smove ?_
      simp only [pu', p0', c1', c0', i1', z0', b8_nat]
      refine smove ?_
      simp only [pu', p0', c1', c0', i1', z0', b8_nat]
      refine slenE ?_
      simp only [pu', p0', c1', c0', i1', z0', b8_nat]
      refine sLt (fun hb => ?_) (fun hb => ?_)
      replace hb := dT' hb
      simp only [pu', p0', c1', c0', i1', z0', b8_nat]
      refine smove ?_
      simp only [pu', p0', c1', c0', i1', z0', b8_nat]
      refine smove ?_
      simp only [pu', p0', c1', c0', i1', z0', b8_nat]
      refine sLt (fun hb => ?_) (fun hb => ?_)
      replace hb := dT' hb
      (exfalso; omega)
      replace hb := dF' hb
      simp only [pu', p0', c1', c0', i1', z0', b8_nat]
      refine spickT ?_
      simp only [pu', p0', c1', c0', i1', z0', b8_nat]
      with_reducible refine s_end ?_
      with_reducible refine s_then ?_
      refine sCF ?_
      with_reducible refine s_exit ?_
      with_reducible refine s_thenE ?_
      with_reducible refine l_exit ?_
      with_reducible refine s_blkE ?_
      with_reducible refine s_then ?_
      with_reducible refine s_seq ?_
      with_reducible refine s_reg ?_
      refine smove ?_
      simp only [pu', p0', c1', c0', i1', z0', b8_nat]
      refine sK (hx := rfl) (mod27 _ _ (by omega) (by omega)) ?_
      simp only [pu', p0', c1', c0', i1', z0', b8_nat]
      refine sadd ?_
      simp only [pu', p0', c1', c0', i1', z0', b8_nat]
      refine smove ?_
      simp only [pu', p0', c1', c0', i1', z0', b8_nat]
      refine sC (hx := rfl) ((c19 _ _ z inferInstance inferInstance).mono ?_)
      rintro _ m19 _ ⟨zu, zw, zt, rfl, pzu, pzw, pzt, S2⟩
      simp only [pu', p0', c1', c0', i1', n0', n3', n1', n2', a2', a1', a0', n4', Nat.reduceAdd, z0', n5', sa0, sa1, sa2, sa3, sa4, sa5, sa6, sa7, sa8, sa9, sa10, sa11]
      refine smove ?_
      simp only [pu', p0', c1', c0', i1', z0', b8_nat]
      refine sext ?_
      simp only [pu', p0', c1', c0', i1', z0', b8_nat]
      refine sext ?_
      simp only [pu', p0', c1', c0', i1', z0', b8_nat]
      refine salloc ?_
      simp only [pu', p0', c1', c0', i1', n0', n3', n1', n2', a2', a1', a0', n4', Nat.reduceAdd, z0', n5', sa0, sa1, sa2, sa3, sa4, sa5, sa6, sa7, sa8, sa9, sa10, sa11]
      refine sstoreF ?_
      simp only [pu', p0', c1', c0', i1', n0', n3', n1', n2', a2', a1', a0', n4', Nat.reduceAdd, z0', n5', sa0, sa1, sa2, sa3, sa4, sa5, sa6, sa7, sa8, sa9, sa10, sa11]
      refine sassign ?_
      simp only [pu', p0', c1', c0', i1', z0', b8_nat]
      with_reducible refine s_end ?_
      with_reducible refine s_then ?_
      with_reducible refine s_seq ?_
      with_reducible refine s_reg ?_
      refine sloadW ?_
      simp only [pu', p0', c1', c0', i1', z0', b8_nat]
      refine smove ?_
      simp only [pu', p0', c1', c0', i1', z0', b8_nat]
      refine sEq (fun hb => ?_) (fun hb => ?_)
      replace hb := dT' hb
      simp only [pu', p0', c1', c0', i1', z0', b8_nat]
      refine sstoreF ?_
      simp only [pu', p0', c1', c0', i1', n0', n3', n1', n2', a2', a1', a0', n4', Nat.reduceAdd, z0', n5', sa0, sa1, sa2, sa3, sa4, sa5, sa6, sa7, sa8, sa9, sa10, sa11]
      refine sassign ?_
      simp only [pu', p0', c1', c0', i1', z0', b8_nat]
      with_reducible refine s_end ?_
      with_reducible refine s_then ?_
      with_reducible refine s_ret ?_
      rotate_left 1
      replace hb := dF' hb
      exact absurd rfl hb
      replace hb := dF' hb
      simp only [pu', p0', c1', c0', i1', z0', b8_nat]
      refine smove ?_
      simp only [pu', p0', c1', c0', i1', z0', b8_nat]
      refine sN ?_
      simp only [pu', p0', c1', c0', i1', z0', b8_nat]
      refine sN ?_
      simp only [pu', p0', c1', c0', i1', z0', b8_nat]
      refine spickF ?_
      simp only [pu', p0', c1', c0', i1', z0', b8_nat]
      with_reducible refine s_end ?_
      with_reducible refine s_then ?_
      refine sCF ?_
      with_reducible refine s_exit ?_
      with_reducible refine s_thenE ?_
      with_reducible refine l_exit ?_
      with_reducible refine s_blkE ?_
      with_reducible refine s_then ?_
      with_reducible refine s_seq ?_
      with_reducible refine s_reg ?_
      refine smove ?_
      simp only [pu', p0', c1', c0', i1', z0', b8_nat]
      refine sK (hx := rfl) (mod27 _ _ (by omega) (by omega)) ?_
      simp only [pu', p0', c1', c0', i1', z0', b8_nat]
      refine sadd ?_
      simp only [pu', p0', c1', c0', i1', z0', b8_nat]
      refine smove ?_
      simp only [pu', p0', c1', c0', i1', z0', b8_nat]
      refine sC (hx := rfl) ((c19 _ _ z inferInstance inferInstance).mono ?_)
      rintro _ m19 _ ⟨zu, zw, zt, rfl, pzu, pzw, pzt, S2⟩
      simp only [pu', p0', c1', c0', i1', n0', n3', n1', n2', a2', a1', a0', n4', Nat.reduceAdd, z0', n5', sa0, sa1, sa2, sa3, sa4, sa5, sa6, sa7, sa8, sa9, sa10, sa11]
      refine smove ?_
      simp only [pu', p0', c1', c0', i1', z0', b8_nat]
      refine sext ?_
      simp only [pu', p0', c1', c0', i1', z0', b8_nat]
      refine sext ?_
      simp only [pu', p0', c1', c0', i1', z0', b8_nat]
      refine salloc ?_
      simp only [pu', p0', c1', c0', i1', n0', n3', n1', n2', a2', a1', a0', n4', Nat.reduceAdd, z0', n5', sa0, sa1, sa2, sa3, sa4, sa5, sa6, sa7, sa8, sa9, sa10, sa11]
      refine sstoreF ?_
      simp only [pu', p0', c1', c0', i1', n0', n3', n1', n2', a2', a1', a0', n4', Nat.reduceAdd, z0', n5', sa0, sa1, sa2, sa3, sa4, sa5, sa6, sa7, sa8, sa9, sa10, sa11]
      refine sassign ?_
      simp only [pu', p0', c1', c0', i1', z0', b8_nat]
      with_reducible refine s_end ?_
      with_reducible refine s_then ?_
      with_reducible refine s_seq ?_
      with_reducible refine s_reg ?_
      refine sloadW ?_
      simp only [pu', p0', c1', c0', i1', z0', b8_nat]
      refine smove ?_
      simp only [pu', p0', c1', c0', i1', z0', b8_nat]
      refine sEq (fun hb => ?_) (fun hb => ?_)
      replace hb := dT' hb
      simp only [pu', p0', c1', c0', i1', z0', b8_nat]
      refine sstoreF ?_
      simp only [pu', p0', c1', c0', i1', n0', n3', n1', n2', a2', a1', a0', n4', Nat.reduceAdd, z0', n5', sa0, sa1, sa2, sa3, sa4, sa5, sa6, sa7, sa8, sa9, sa10, sa11]
      refine sassign ?_
      simp only [pu', p0', c1', c0', i1', z0', b8_nat]
      with_reducible refine s_end ?_
      with_reducible refine s_then ?_
      with_reducible refine s_ret ?_
      rotate_left 1
      replace hb := dF' hb
      exact absurd rfl hb
      all_goals
        all_goals try with_reducible refine w_n ?_
        all_goals refine w_2 rfl (by first | exact v_t (by rfl) | exact v_c1 (C1.p) (by rfl) (HA.p) (by rfl) | exact v_cF (CA.p) (by rfl) (HA.p) (by rfl)) (by first | exact v_t (by rfl) | exact v_c1 (C1.p) (by rfl) (HA.p) (by rfl) | exact v_cF (CA.p) (by rfl) (HA.p) (by rfl)) ?_
        exact ⟨zu, zw, zt, rfl, pzu, pzw, pzt, Sep.sub inferInstance (by repeat' first | exact List.Sublist.refl _ | exact List.sublist_append_left _ _ | exact List.nil_sublist _ | refine List.Sublist.cons_cons _ ?_ | refine List.Sublist.cons _ ?_ | refine List.Sublist.trans ?_ (List.sublist_append_left _ _))⟩
end Go.Proofs.Ytfcgmkpihmiadaa
