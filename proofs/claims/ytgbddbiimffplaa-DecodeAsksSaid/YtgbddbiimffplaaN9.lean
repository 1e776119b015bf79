/-
  A part of the proof of a statement of a chapter's seat; conditions: stated at each theorem.
-/
import Derived.Test.YtgbddbiimffplaaN8
set_option linter.unusedVariables false
set_option linter.unusedSectionVars false
set_option linter.unusedSimpArgs false
set_option linter.unusedVariables false
set_option maxRecDepth 100000
set_option maxHeartbeats 8000000
namespace Go.Proofs.Ytgbddbiimffplaa
open Go.Az Go
theorem of10 (h : Hp) (s : AV) (L : Int) (ps : List Int) [a : EI h s ps] (hlen : ps.length ≤ 1099511627776) (hL : L ≤ 9) : ACalls Try.prog 10 [DA s L] h (fun r h' => ∃ z M, r = .tup [z, I (dE L ps)] ∧ SlC z ∧ Sep h h' M ∧ RC h M z (dcQ L ps)) := by
  have pss := a.p.sl
  have S0 := Sep.nil h
  have c29 := fun Y (a : EI Y s ps) => check28 Y s L ps hlen
  have c30 : ∀ Y L', Sep h Y L' → EI Y s ps → ACalls Try.prog 30 [DA s L] Y (fun r h' => ∃ z, r = .tup [z, I (dE L ps)] ∧ SlC z ∧ Sep h h' (L' ++ [WI z (ofL L ps)])) := fun Y L' S a =>
    (of16 Y s L ps hlen).mono fun r h' _ ⟨z, h1, h2, h3⟩ => ⟨z, h1, h2, S.join h3⟩
  by_cases he : dE L ps = 0
  · obtain ⟨n, rfl, h5, h12, hok, hl1, hl2, hlast⟩ := dE_ok he
    rw [dcQ, if_pos he, he, Int.toNat_natCast]
    rw [he, ofL, if_pos he, Int.toNat_natCast] at c30
    rw [he] at c29
    have c31 : ∀ Y L' (S : Sep h Y L') ib zl (g : MemC L' ib (.cells [I n, s] 24 true)) (b : RI h L' zl (sprd (2 ^ n) ps)), ACalls Try.prog 31 [I n, .fn (.func 32) [.ptr ib 0], zl] Y (fun r h' => ∃ z, z = r ∧ SlC z ∧ Sep h h' (WR z (dcd n ps (sprd (2 ^ n) ps)) :: L')) := fun Y L' S ib zl g b => (of31 S n ib s zl ps (by omega) hok g a b).mono fun r h' _ ⟨z, h1, h2⟩ => ⟨z, h1.symm, h2⟩
    clear he
    generalize dcd n ps (sprd (2 ^ n) ps) = dl at *
    generalize sprd (2 ^ n) ps = l at *
    refine acalls_of_wk hm Try.func10 rfl ?_
    simp only [Try.ntmps10, List.length_cons, List.length_nil, Nat.reduceAdd, Nat.reduceSub, List.reduceReplicate, List.cons_append, List.nil_append]
    show wk _ _ none _ _ ⟨_, []⟩ _
    with_reducible refine s_seq ?_
    with_reducible refine s_reg ?_
    refine sboxA ?_
    simp only [pu', p0', c1', c0', i1', n0', n3', n1', n2', a2', a1', a0', n4', Nat.reduceAdd, z0', n5', sa0, sa1, sa2, sa3, sa4, sa5, sa6, sa7, sa8, sa9, sa10, sa11]
    refine sassign ?_
    simp only [pu', p0', c1', c0', i1', z0', b8_nat]
    refine sassign ?_
    simp only [pu', p0', c1', c0', i1', z0', b8_nat]
    with_reducible refine s_end ?_
    with_reducible refine s_then ?_
    with_reducible refine s_seq ?_
    with_reducible refine s_seq ?_
    with_reducible refine s_reg ?_
    refine sloadW ?_
    simp only [pu', p0', c1', c0', i1', z0', b8_nat]
    refine sM (hx := rfl) (c29 _ inferInstance) ?_
    simp only [pu', p0', c1', c0', i1', z0', b8_nat]
    refine sassign ?_
    simp only [pu', p0', c1', c0', i1', z0', b8_nat]
    with_reducible refine s_end ?_
    with_reducible refine s_then ?_
    with_reducible refine s_seq ?_
    with_reducible refine s_reg ?_
    refine smove ?_
    simp only [pu', p0', c1', c0', i1', z0', b8_nat]
    refine sNe (fun hb => ?_) (fun hb => ?_)
    replace hb := dT' hb
    (exfalso; omega)
    replace hb := dF' hb
    simp only [pu', p0', c1', c0', i1', z0', b8_nat]
    with_reducible refine s_end ?_
    with_reducible refine s_then ?_
    refine sCF ?_
    with_reducible refine s_skip ?_
    with_reducible refine s_then ?_
    with_reducible refine s_seq ?_
    with_reducible refine s_reg ?_
    refine sloadW ?_
    simp only [pu', p0', c1', c0', i1', z0', b8_nat]
    refine sC (hx := rfl) ((c30 _ _ inferInstance inferInstance).mono ?_)
    rintro _ m30 _ ⟨zl, rfl, pzl, S1⟩
    simp only [pu', p0', c1', c0', i1', n0', n3', n1', n2', a2', a1', a0', n4', Nat.reduceAdd, z0', n5', sa0, sa1, sa2, sa3, sa4, sa5, sa6, sa7, sa8, sa9, sa10, sa11]
    refine smove ?_
    simp only [pu', p0', c1', c0', i1', z0', b8_nat]
    refine sext ?_
    simp only [pu', p0', c1', c0', i1', z0', b8_nat]
    refine sext ?_
    simp only [pu', p0', c1', c0', i1', z0', b8_nat]
    refine sassign ?_
    simp only [pu', p0', c1', c0', i1', z0', b8_nat]
    refine sassign ?_
    simp only [pu', p0', c1', c0', i1', z0', b8_nat]
    with_reducible refine s_end ?_
    with_reducible refine s_then ?_
    with_reducible refine s_seq ?_
    with_reducible refine s_seq ?_
    with_reducible refine s_reg ?_
    refine smove ?_
    simp only [pu', p0', c1', c0', i1', z0', b8_nat]
    refine sNe (fun hb => ?_) (fun hb => ?_)
    replace hb := dT' hb
    (exfalso; omega)
    replace hb := dF' hb
    simp only [pu', p0', c1', c0', i1', z0', b8_nat]
    with_reducible refine s_end ?_
    with_reducible refine s_then ?_
    refine sCF ?_
    with_reducible refine s_skip ?_
    with_reducible refine s_then ?_
    with_reducible refine s_seq ?_
    with_reducible refine s_reg ?_
    refine sfad ?_
    simp only [pu', p0', c1', c0', i1', z0', b8_nat]
    refine sload1 ?_
    simp only [pu', p0', c1', c0', i1', z0', b8_nat]
    refine sfunc1 ?_
    simp only [pu', p0', c1', c0', i1', z0', b8_nat]
    refine smove ?_
    simp only [pu', p0', c1', c0', i1', z0', b8_nat]
    refine sC (hx := rfl) ((c31 _ _ inferInstance _ zl inferInstance inferInstance).mono ?_)
    rintro _ m31 _ ⟨zr, rfl, pzr, S2⟩
    simp only [pu', p0', c1', c0', i1', n0', n3', n1', n2', a2', a1', a0', n4', Nat.reduceAdd, z0', n5', sa0, sa1, sa2, sa3, sa4, sa5, sa6, sa7, sa8, sa9, sa10, sa11]
    refine sassign ?_
    simp only [pu', p0', c1', c0', i1', z0', b8_nat]
    refine sassign ?_
    simp only [pu', p0', c1', c0', i1', z0', b8_nat]
    with_reducible refine s_end ?_
    with_reducible refine s_then ?_
    with_reducible refine s_ret ?_
    all_goals try with_reducible refine w_n ?_
    all_goals refine w_2 rfl (by first | exact v_t (by rfl) | exact v_c1 (C1.p) (by rfl) (HA.p) (by rfl) | exact v_cF (CA.p) (by rfl) (HA.p) (by rfl)) (by first | exact v_t (by rfl) | exact v_c1 (C1.p) (by rfl) (HA.p) (by rfl) | exact v_cF (CA.p) (by rfl) (HA.p) (by rfl)) ?_
    exact ⟨zr, _, rfl, pzr, S2, inferInstance⟩
  · rw [dcQ, if_neg he]
    generalize dE L ps = e at *
    refine acalls_of_wk hm Try.func10 rfl ?_
    simp only [Try.ntmps10, List.length_cons, List.length_nil, Nat.reduceAdd, Nat.reduceSub, List.reduceReplicate, List.cons_append, List.nil_append]
    show wk _ _ none _ _ ⟨_, []⟩ _
    focus
      with_reducible refine s_seq ?_
      with_reducible refine s_reg ?_
      refine sboxA ?_
      simp only [pu', p0', c1', c0', i1', n0', n3', n1', n2', a2', a1', a0', n4', Nat.reduceAdd, z0', n5', sa0, sa1, sa2, sa3, sa4, sa5, sa6, sa7, sa8, sa9, sa10, sa11]
      refine sassign ?_
      simp only [pu', p0', c1', c0', i1', z0', b8_nat]
      refine sassign ?_
      simp only [pu', p0', c1', c0', i1', z0', b8_nat]
      with_reducible refine s_end ?_
      with_reducible refine s_then ?_
      with_reducible refine s_seq ?_
      with_reducible refine s_seq ?_
      with_reducible refine s_reg ?_
      refine sloadW ?_
      simp only [pu', p0', c1', c0', i1', z0', b8_nat]
      refine sM (hx := rfl) (c29 _ inferInstance) ?_
      simp only [pu', p0', c1', c0', i1', z0', b8_nat]
      refine sassign ?_
      simp only [pu', p0', c1', c0', i1', z0', b8_nat]
      with_reducible refine s_end ?_
      with_reducible refine s_then ?_
      with_reducible refine s_seq ?_
      with_reducible refine s_reg ?_
      refine smove ?_
      simp only [pu', p0', c1', c0', i1', z0', b8_nat]
      refine sNe (fun hb => ?_) (fun hb => ?_)
      replace hb := dT' hb
      simp only [pu', p0', c1', c0', i1', z0', b8_nat]
      with_reducible refine s_end ?_
      with_reducible refine s_then ?_
      refine sCT ?_
      with_reducible refine s_seq ?_
      with_reducible refine s_reg ?_
      refine smove ?_
      simp only [pu', p0', c1', c0', i1', z0', b8_nat]
      refine sassign ?_
      simp only [pu', p0', c1', c0', i1', z0', b8_nat]
      refine sassign ?_
      simp only [pu', p0', c1', c0', i1', z0', b8_nat]
      with_reducible refine s_end ?_
      with_reducible refine s_then ?_
      with_reducible refine s_ret ?_
      with_reducible refine s_thenR ?_
      rotate_left 1
      replace hb := dF' hb
      exact absurd (by with_reducible assumption) hb
    all_goals try with_reducible refine w_n ?_
    all_goals refine w_2 rfl (by first | exact v_t (by rfl) | exact v_c1 (C1.p) (by rfl) (HA.p) (by rfl) | exact v_cF (CA.p) (by rfl) (HA.p) (by rfl)) (by first | exact v_t (by rfl) | exact v_c1 (C1.p) (by rfl) (HA.p) (by rfl) | exact v_cF (CA.p) (by rfl) (HA.p) (by rfl)) ?_
    exact ⟨nilS, _, rfl, inferInstance, (inferInstance : Sep h _ _), ⟨encC_ok, fun Y S => .inl ⟨rfl, rfl⟩⟩⟩
structure RfB where
  k : Nat
  z : AV
  G : Hp
theorem max_base {p : Int} (h : -1 ≤ p) : (if p < -p then -p else p) = baseN p := by
  unfold baseN
  by_cases h1 : p < 0
  · rw [if_pos h1, if_pos (by omega)]; omega
  · rw [if_neg h1, if_neg (by omega)]
theorem base_at {ps : List Int} {k : Nat} (h : k < ps.length) : (ps.map baseN).getD k 0 = baseN (ps.getD k 0) := by
  rw [List.getD_eq_getElem?_getD, List.getElem?_map, List.getElem?_eq_getElem h, List.getD_eq_getElem?_getD, List.getElem?_eq_getElem h]; rfl
theorem nxtL_zero (ps l : List Int) : nxtL ps l 0 = ps.map baseN := by
  refine List.ext_getElem (by rw [nxt_len, List.length_map]) fun j a b => ?_
  simp only [List.length_map] at b
  simp only [nxtL, tabL, List.getElem_map, List.getElem_range, List.take_zero, ctI, Int.add_zero]
  rw [List.getD_eq_getElem?_getD, List.getElem?_eq_getElem b]; rfl
theorem rof11 (h : Hp) (s : AV) (L : Int) (ps : List Int) [a : EI h s ps] (hlen : ps.length ≤ 1099511627776) : ACalls Try.prog 11 [DA s L] h (fun r h' => ∃ z, r = .tup [z, I (dE L ps)] ∧ SlC z ∧ Sep h h' [WC z (dcQ L ps)]) := by
  have pss := a.p.sl
  have S0 := Sep.nil h
  have c34 := fun Y (a : EI Y s ps) => check14 Y s L ps hlen
  have c35 : ∀ Y L', Sep h Y L' → EI Y s ps → ACalls Try.prog 35 [DA s L] Y (fun r h' => ∃ z, r = .tup [z, I (dE L ps)] ∧ SlC z ∧ Sep h h' (L' ++ [WI z (ofL L ps)])) := fun Y L' S a =>
    (rof17 Y s L ps hlen).mono fun r h' _ ⟨z, h1, h2, h3⟩ => ⟨z, h1, h2, S.join h3⟩
  by_cases he : dE L ps = 0
  · obtain ⟨n, rfl, h5, h12, hok, hl1, hl2, hlast⟩ := dE_ok he
    rw [dcQ, if_pos he, he, Int.toNat_natCast]
    rw [he, ofL, if_pos he, Int.toNat_natCast] at c35
    rw [he] at c34
    have hz := okZ_pos hok.okz
    have e := pow_z n
    have hll := dist_len rfl hok
    have hcel := fun (i : Nat) (hi : i < 2 ^ n) => cel_of hok hi
    have hge := fun (k : Nat) (hk : k < ps.length) => hok.ge _ (getD_mem hk)
    have hle := fun (k : Nat) (hk : k < ps.length) => pts_le ps _ (getD_mem hk)
    have hsum := hok.sum
    have hdl := dcd_len (n : Int) ps (sprd (2 ^ n) ps)
    have hda := fun (i : Nat) (hi : i < (sprd (2 ^ n) ps).length) => dcd_at (n := (n : Int)) (ps := ps) hi
    generalize sprd (2 ^ n) ps = l at *
    clear he
    have hbl : (ps.map baseN).length = ps.length := List.length_map ..
    refine acalls_of_wk hm Try.func11 rfl ?_
    simp only [Try.ntmps11, List.length_cons, List.length_nil, Nat.reduceAdd, Nat.reduceSub, List.reduceReplicate, List.cons_append, List.nil_append]
    show wk _ _ none _ _ ⟨_, []⟩ _
    with_reducible refine s_seq ?_
    with_reducible refine s_reg ?_
    refine sboxA ?_
    simp only [pu', p0', c1', c0', i1', n0', n3', n1', n2', a2', a1', a0', n4', Nat.reduceAdd, z0', n5', sa0, sa1, sa2, sa3, sa4, sa5, sa6, sa7, sa8, sa9, sa10, sa11]
    refine sassign ?_
    simp only [pu', p0', c1', c0', i1', z0', b8_nat]
    refine sassign ?_
    simp only [pu', p0', c1', c0', i1', z0', b8_nat]
    with_reducible refine s_end ?_
    with_reducible refine s_then ?_
    with_reducible refine s_seq ?_
    with_reducible refine s_reg ?_
    refine sloadW ?_
    simp only [pu', p0', c1', c0', i1', z0', b8_nat]
    refine sM (hx := rfl) (c34 _ inferInstance) ?_
    simp only [pu', p0', c1', c0', i1', z0', b8_nat]
    refine sassign ?_
    simp only [pu', p0', c1', c0', i1', z0', b8_nat]
    with_reducible refine s_end ?_
    with_reducible refine s_then ?_
    with_reducible refine s_seq ?_
    with_reducible refine s_seq ?_
    with_reducible refine s_reg ?_
    refine smove ?_
    simp only [pu', p0', c1', c0', i1', z0', b8_nat]
    refine sNe (fun hb => ?_) (fun hb => ?_)
    replace hb := dT' hb
    (exfalso; omega)
    replace hb := dF' hb
    simp only [pu', p0', c1', c0', i1', z0', b8_nat]
    with_reducible refine s_end ?_
    with_reducible refine s_then ?_
    refine sCF ?_
    with_reducible refine s_skip ?_
    with_reducible refine s_then ?_
    with_reducible refine s_seq ?_
    with_reducible refine s_reg ?_
    refine sloadW ?_
    simp only [pu', p0', c1', c0', i1', z0', b8_nat]
    refine sC (hx := rfl) ((c35 _ _ inferInstance inferInstance).mono ?_)
    rintro _ m35 _ ⟨zl, rfl, pzl, S1⟩
    simp only [pu', p0', c1', c0', i1', n0', n3', n1', n2', a2', a1', a0', n4', Nat.reduceAdd, z0', n5', sa0, sa1, sa2, sa3, sa4, sa5, sa6, sa7, sa8, sa9, sa10, sa11]
    refine smove ?_
    simp only [pu', p0', c1', c0', i1', z0', b8_nat]
    refine sext ?_
    simp only [pu', p0', c1', c0', i1', z0', b8_nat]
    refine sext ?_
    simp only [pu', p0', c1', c0', i1', z0', b8_nat]
    refine sassign ?_
    simp only [pu', p0', c1', c0', i1', z0', b8_nat]
    refine sassign ?_
    simp only [pu', p0', c1', c0', i1', z0', b8_nat]
    with_reducible refine s_end ?_
    with_reducible refine s_then ?_
    with_reducible refine s_seq ?_
    with_reducible refine s_seq ?_
    with_reducible refine s_reg ?_
    refine smove ?_
    simp only [pu', p0', c1', c0', i1', z0', b8_nat]
    refine sNe (fun hb => ?_) (fun hb => ?_)
    replace hb := dT' hb
    (exfalso; omega)
    replace hb := dF' hb
    simp only [pu', p0', c1', c0', i1', z0', b8_nat]
    with_reducible refine s_end ?_
    with_reducible refine s_then ?_
    refine sCF ?_
    with_reducible refine s_skip ?_
    with_reducible refine s_then ?_
    with_reducible refine s_seq ?_
    with_reducible refine s_reg ?_
    refine sassign ?_
    simp only [pu', p0', c1', c0', i1', z0', b8_nat]
    with_reducible refine s_end ?_
    with_reducible refine s_then ?_
    with_reducible refine s_seq ?_
    with_reducible refine s_seq ?_
    with_reducible refine s_reg ?_
    refine sassign ?_
    simp only [pu', p0', c1', c0', i1', z0', b8_nat]
    with_reducible refine s_end ?_
    with_reducible refine s_then ?_
    with_reducible refine s_block ?_
    refine s_loop hm (fun (b : RfB) s' => [s' 0, .ptr h.length 0, s' 2, s' 3, s' 4, zl, s' 6, b.z, I b.k, s' 9, s' 10, s' 11, s' 12, s' 13, s' 14, s' 15, s' 16, s' 17, s' 18, s' 19, s' 20, s' 21, s' 22, s' 23, s' 24, s' 25, s' 26, s' 27, s' 28, s' 29, s' 30, s' 31, s' 32, s' 33, s' 34, s' 35, s' 36, s' 37, s' 38, s' 39, s' 40, s' 41, s' 42, s' 43, s' 44, s' 45, s' 46, s' 47, s' 48, s' 49, s' 50, s' 51, s' 52, s' 53, s' 54, s' 55, s' 56, s' 57, s' 58, s' 59, s' 60, s' 61, s' 62, s' 63, s' 64, s' 65, s' 66, s' 67, s' 68, s' 69, s' 70, s' 71, s' 72, s' 73, s' 74, s' 75, s' 76, s' 77, s' 78, s' 79, s' 80, s' 81, s' 82, s' 83, s' 84, s' 85, s' 86, s' 87, s' 88, s' 89, s' 90]) (fun b => b.G) (fun b => b.k ≤ ps.length ∧ SlC b.z ∧ Sep h b.G [WI b.z ((ps.map baseN).take b.k), pcC h.length (.cells [I n, s] 24 true), WI zl l]) (fun b => ps.length - b.k) ⟨0, nilS, _⟩ (by rfl) rfl ⟨Nat.zero_le _, inferInstance, Sep.sub (Sep.perm (Sep.addNil S1 _ _ _) (List.perm_append_comm (l₁ := _ ++ _) (l₂ := [_]))) (by repeat' first | exact List.Sublist.refl _ | exact List.sublist_append_left _ _ | exact List.nil_sublist _ | refine List.Sublist.cons_cons _ ?_ | refine List.Sublist.cons _ ?_ | refine List.Sublist.trans ?_ (List.sublist_append_left _ _))⟩ ?_
    clear S1
    rintro ⟨k, z7, G⟩ s' ⟨hk, pz7, S1⟩
    simp only [] at hk pz7 S1 ⊢
    by_cases hkl : k < ps.length
    · have hg := hge k hkl
      have hl' := hle k hkl
      have hmx := max_base hg
      have htk : (ps.map baseN).take (k + 1) = (ps.map baseN).take k ++ [(if ps.getD k 0 < -ps.getD k 0 then -ps.getD k 0 else ps.getD k 0)] := by
        rw [takeT (d := 0) (by omega), base_at hkl, hmx]
      have htl : ((ps.map baseN).take k).length ≤ 256 := by rw [List.length_take]; omega
      focus
        with_reducible refine s_seq ?_
        with_reducible refine s_seq ?_
        with_reducible refine s_reg ?_
        refine smove ?_
        simp only [pu', p0', c1', c0', i1', z0', b8_nat]
        refine sfad ?_
        simp only [pu', p0', c1', c0', i1', z0', b8_nat]
        refine sload1 ?_
        simp only [pu', p0', c1', c0', i1', z0', b8_nat]
        refine slenE ?_
        simp only [pu', p0', c1', c0', i1', z0', b8_nat]
        refine sLt (fun hb => ?_) (fun hb => ?_)
        replace hb := dT' hb
        simp only [pu', p0', c1', c0', i1', z0', b8_nat]
        with_reducible refine s_end ?_
        with_reducible refine s_then ?_
        refine sCT ?_
        with_reducible refine s_skip ?_
        with_reducible refine s_then ?_
        with_reducible refine s_seq ?_
        with_reducible refine s_block ?_
        (refine s_regT (id := 11) (.light 0 (.light 1 (.light 2 (.light 3 (.light 4 (.light 6 (.light 7 (.light 8 (.light 9 (.alt 5 [4] (.alt 10 [4, 9] (.light 11 (.light 12 (.alt 13 [4, 9, 12] (.alt 14 [0, 4, 9, 12] (.light 15 (.done)) (.no)) (.no)))) (.no)) (.alt 10 [9] (.light 11 (.alt 5 [4, 9] (.light 12 (.alt 13 [4, 9, 12] (.alt 14 [0, 4, 9, 12] (.light 15 (.done)) (.no)) (.no))) (.no))) (.no)))))))))))) [5, 10, 13, 14] (by kernel_rfl) (by conv => lhs; simp only [pickT, List.getElem?_cons_succ, List.getElem?_cons_zero]) ?_)
        refine tmove ?_
        simp only [pu', p0', c1', c0', i1', z0', b8_nat]
        refine tfad ?_
        simp only [pu', p0', c1', c0', i1', z0', b8_nat]
        refine tload1 ?_
        simp only [pu', p0', c1', c0', i1', z0', b8_nat]
        refine tmove ?_
        simp only [pu', p0', c1', c0', i1', z0', b8_nat]
        refine tidxE ?_
        simp only [pu', p0', c1', c0', i1', z0', b8_nat]
        refine tfad ?_
        simp only [pu', p0', c1', c0', i1', z0', b8_nat]
        refine tload1 ?_
        simp only [pu', p0', c1', c0', i1', z0', b8_nat]
        refine tmove ?_
        simp only [pu', p0', c1', c0', i1', z0', b8_nat]
        refine tidxE ?_
        simp only [pu', p0', c1', c0', i1', z0', b8_nat]
        with_reducible refine u_both ?_ ?_
        refine uloadE1 ?_
        simp only [pu', p0', c1', c0', i1', z0', b8_nat]
        refine uloadE1 ?_
        simp only [pu', p0', c1', c0', i1', z0', b8_nat]
        (refine t_gL (by rfl) (x_neg (by exact e_any (by rfl)) (by omega) (by omega)) ?_ (by rfl); simp only [Fr.put, List.set_cons_succ, List.set_cons_zero, Int.toNat_natCast, Nat.zero_add])
        refine tmax ?_
        simp only [pu', p0', c1', c0', i1', z0', b8_nat]
        refine ubsl ?_
        simp only [pu', p0', c1', c0', i1', n0', n3', n1', n2', a2', a1', a0', n4', Nat.reduceAdd, z0', n5', sa0, sa1, sa2, sa3, sa4, sa5, sa6, sa7, sa8, sa9, sa10, sa11]
        (refine u_app 0 (l2 := [(if ps.getD k 0 < -ps.getD k 0 then -ps.getD k 0 else ps.getD k 0)]) (fun z1 Y1 T1 x1 => ?_) inferInstance rfl iok (elts_at (l := [(if ps.getD k 0 < -ps.getD k 0 then -ps.getD k 0 else ps.getD k 0)]) iok inferInstance rfl) (by simp only [List.length_cons, List.length_nil]; omega) inferInstance inferInstance; simp only [a1', c1', c0'] at T1; have pz1 := T1.sl 0 rfl; refine ⟨(by repeat' first | exact trivial | refine ⟨.inl rfl, ?_⟩ | refine ⟨.inr (ha_eq inferInstance inferInstance), ?_⟩), ?_⟩; simp only [Fr.put, List.set_cons_succ, List.set_cons_zero, Int.toNat_natCast, Nat.zero_add])
        refine tassign ?_
        simp only [pu', p0', c1', c0', i1', z0', b8_nat]
        with_reducible refine t_end ?_
        with_reducible refine s_blkN ?_
        with_reducible refine s_then ?_
        with_reducible refine s_reg ?_
        refine smove ?_
        simp only [pu', p0', c1', c0', i1', z0', b8_nat]
        refine sadd ?_
        simp only [pu', p0', c1', c0', i1', z0', b8_nat]
        refine sassign ?_
        simp only [pu', p0', c1', c0', i1', z0', b8_nat]
        with_reducible refine s_end ?_
        rotate_left 1
        refine uloadE1 ?_
        simp only [pu', p0', c1', c0', i1', z0', b8_nat]
        (refine t_gL (by rfl) (x_neg (by exact e_any (by rfl)) (by omega) (by omega)) ?_ (by rfl); simp only [Fr.put, List.set_cons_succ, List.set_cons_zero, Int.toNat_natCast, Nat.zero_add])
        refine uloadE1 ?_
        simp only [pu', p0', c1', c0', i1', z0', b8_nat]
        refine tmax ?_
        simp only [pu', p0', c1', c0', i1', z0', b8_nat]
        refine ubsl ?_
        simp only [pu', p0', c1', c0', i1', n0', n3', n1', n2', a2', a1', a0', n4', Nat.reduceAdd, z0', n5', sa0, sa1, sa2, sa3, sa4, sa5, sa6, sa7, sa8, sa9, sa10, sa11]
        (refine u_app 0 (l2 := [(if ps.getD k 0 < -ps.getD k 0 then -ps.getD k 0 else ps.getD k 0)]) (fun z1 Y1 T1 x1 => ?_) inferInstance rfl iok (elts_at (l := [(if ps.getD k 0 < -ps.getD k 0 then -ps.getD k 0 else ps.getD k 0)]) iok inferInstance rfl) (by simp only [List.length_cons, List.length_nil]; omega) inferInstance inferInstance; simp only [a1', c1', c0'] at T1; have pz1 := T1.sl 0 rfl; refine ⟨(by repeat' first | exact trivial | refine ⟨.inl rfl, ?_⟩ | refine ⟨.inr (ha_eq inferInstance inferInstance), ?_⟩), ?_⟩; simp only [Fr.put, List.set_cons_succ, List.set_cons_zero, Int.toNat_natCast, Nat.zero_add])
        refine tassign ?_
        simp only [pu', p0', c1', c0', i1', z0', b8_nat]
        with_reducible refine t_end ?_
        with_reducible refine s_blkN ?_
        with_reducible refine s_then ?_
        with_reducible refine s_reg ?_
        refine smove ?_
        simp only [pu', p0', c1', c0', i1', z0', b8_nat]
        refine sadd ?_
        simp only [pu', p0', c1', c0', i1', z0', b8_nat]
        refine sassign ?_
        simp only [pu', p0', c1', c0', i1', z0', b8_nat]
        with_reducible refine s_end ?_
        rotate_left 1
        replace hb := dF' hb
        (exfalso; omega)
      all_goals
        rw [← htk] at T1
        refine l_next ⟨k + 1, z1, _⟩ ⟨by simp only []; omega, pz1, Sep.sub T1 (by repeat' first | exact List.Sublist.refl _ | exact List.sublist_append_left _ _ | exact List.nil_sublist _ | refine List.Sublist.cons_cons _ ?_ | refine List.Sublist.cons _ ?_ | refine List.Sublist.trans ?_ (List.sublist_append_left _ _))⟩ (by simp only []; omega) (by rfl) rfl
    · rw [List.take_of_length_le (by omega), ← nxtL_zero ps l] at S1
      with_reducible refine s_seq ?_
      with_reducible refine s_seq ?_
      with_reducible refine s_reg ?_
      refine smove ?_
      simp only [pu', p0', c1', c0', i1', z0', b8_nat]
      refine sfad ?_
      simp only [pu', p0', c1', c0', i1', z0', b8_nat]
      refine sload1 ?_
      simp only [pu', p0', c1', c0', i1', z0', b8_nat]
      refine slenE ?_
      simp only [pu', p0', c1', c0', i1', z0', b8_nat]
      refine sLt (fun hb => ?_) (fun hb => ?_)
      replace hb := dT' hb
      (exfalso; omega)
      replace hb := dF' hb
      simp only [pu', p0', c1', c0', i1', z0', b8_nat]
      with_reducible refine s_end ?_
      with_reducible refine s_then ?_
      refine sCF ?_
      with_reducible refine s_exit ?_
      with_reducible refine s_thenE ?_
      with_reducible refine l_exit ?_
      with_reducible refine s_blkE ?_
      with_reducible refine s_then ?_
      with_reducible refine s_seq ?_
      with_reducible refine s_reg ?_
      refine sassign ?_
      simp only [pu', p0', c1', c0', i1', z0', b8_nat]
      with_reducible refine s_end ?_
      with_reducible refine s_then ?_
      with_reducible refine s_seq ?_
      with_reducible refine s_seq ?_
      with_reducible refine s_reg ?_
      refine sassign ?_
      simp only [pu', p0', c1', c0', i1', z0', b8_nat]
      with_reducible refine s_end ?_
      with_reducible refine s_then ?_
      with_reducible refine s_block ?_
      refine s_loop hm (fun (b : RfB) s' => [s' 0, .ptr h.length 0, s' 2, s' 3, s' 4, zl, s' 6, z7, s' 8, b.z, I b.k, s' 11, s' 12, s' 13, s' 14, s' 15, s' 16, s' 17, s' 18, s' 19, s' 20, s' 21, s' 22, s' 23, s' 24, s' 25, s' 26, s' 27, s' 28, s' 29, s' 30, s' 31, s' 32, s' 33, s' 34, s' 35, s' 36, s' 37, s' 38, s' 39, s' 40, s' 41, s' 42, s' 43, s' 44, s' 45, s' 46, s' 47, s' 48, s' 49, s' 50, s' 51, s' 52, s' 53, s' 54, s' 55, s' 56, s' 57, s' 58, s' 59, s' 60, s' 61, s' 62, s' 63, s' 64, s' 65, s' 66, s' 67, s' 68, s' 69, s' 70, s' 71, s' 72, s' 73, s' 74, s' 75, s' 76, s' 77, s' 78, s' 79, s' 80, s' 81, s' 82, s' 83, s' 84, s' 85, s' 86, s' 87, s' 88, s' 89, s' 90]) (fun b => b.G) (fun b => b.k ≤ l.length ∧ SlC b.z ∧ Sep h b.G [WC b.z ((dcd n ps l).take b.k), WI z7 (nxtL ps l b.k), pcC h.length (.cells [I n, s] 24 true), WI zl l]) (fun b => l.length - b.k) ⟨0, nilS, _⟩ (by rfl) rfl ⟨Nat.zero_le _, inferInstance, Sep.sub (Sep.perm (Sep.addNil S1 _ _ _) (List.perm_append_comm (l₁ := [_, _, _]) (l₂ := [_]))) (by repeat' first | exact List.Sublist.refl _ | exact List.sublist_append_left _ _ | exact List.nil_sublist _ | refine List.Sublist.cons_cons _ ?_ | refine List.Sublist.cons _ ?_ | refine List.Sublist.trans ?_ (List.sublist_append_left _ _))⟩ ?_
      clear S1
      rintro ⟨i, z9, G⟩ s' ⟨hi, pz9, S1⟩
      simp only [] at hi pz9 S1 ⊢
      by_cases hil : i < l.length
      · obtain ⟨k2, c⟩ := hcel i (by omega)
        have c1 := c.lt
        have c2 := c.at'
        have c3 := c.n1
        have c4 := c.n2
        have c6 := c.h0
        have c7 := c.hn
        obtain ⟨c8, c9⟩ := c.pw
        have hpl := nxt_len ps l i
        have hva := nxt_at c.lt c.at'
        have hst := nxt_step hil c.lt c.at'
        have hx2 : (l.getD i 0).toNat = k2 := by omega
        rw [← hx2] at hva hst
        have hcA := hda i hil
        rw [celA, ← hva] at hcA
        rw [← hva] at c3 c4 c6 c7 c8 c9 hst
        have htk : (dcd n ps l).take (i + 1) = (dcd n ps l).take i ++ [⟨l.getD i 0, (n : Int) - hiF ((nxtL ps l i).getD (l.getD i 0).toNat 0), (nxtL ps l i).getD (l.getD i 0).toNat 0 * 2 ^ ((n : Int) - hiF ((nxtL ps l i).getD (l.getD i 0).toNat 0)).toNat - 2 ^ n⟩] := by
          rw [takeC (by omega), hcA, Int.toNat_natCast]
        have htl : ((dcd n ps l).take i).length = i := by rw [List.length_take]; omega
        have c22 := rhigh_any ((nxtL ps l i).getD (l.getD i 0).toNat 0) (by omega)
        have hz1 : (2 : Int) ^ n ≤ 4096 := by omega
        focus
          with_reducible refine s_seq ?_
          with_reducible refine s_seq ?_
          with_reducible refine s_reg ?_
          refine smove ?_
          simp only [pu', p0', c1', c0', i1', z0', b8_nat]
          refine smove ?_
          simp only [pu', p0', c1', c0', i1', z0', b8_nat]
          refine slenE ?_
          simp only [pu', p0', c1', c0', i1', z0', b8_nat]
          refine sLt (fun hb => ?_) (fun hb => ?_)
          replace hb := dT' hb
          simp only [pu', p0', c1', c0', i1', z0', b8_nat]
          with_reducible refine s_end ?_
          with_reducible refine s_then ?_
          refine sCT ?_
          with_reducible refine s_skip ?_
          with_reducible refine s_then ?_
          with_reducible refine s_seq ?_
          with_reducible refine s_block ?_
          with_reducible refine s_seq ?_
          with_reducible refine s_reg ?_
          refine smove ?_
          simp only [pu', p0', c1', c0', i1', z0', b8_nat]
          refine smove ?_
          simp only [pu', p0', c1', c0', i1', z0', b8_nat]
          refine sidxE ?_
          simp only [pu', p0', c1', c0', i1', z0', b8_nat]
          refine sloadE1 ?_
          simp only [pu', p0', c1', c0', i1', z0', b8_nat]
          refine sassign ?_
          simp only [pu', p0', c1', c0', i1', z0', b8_nat]
          with_reducible refine s_end ?_
          with_reducible refine s_then ?_
          with_reducible refine s_seq ?_
          (refine s_regQ (id := 17) [(0, true), (1, true), (2, true), (3, true), (4, true), (5, true), (6, false), (7, true), (8, true)] (by kernel_rfl) (by conv => lhs; simp only [pickO, List.getElem?_cons_succ, List.getElem?_cons_zero]) ?_)
          refine qfad ?_
          simp only [pu', p0', c1', c0', i1', z0', b8_nat]
          refine qload1 ?_
          simp only [pu', p0', c1', c0', i1', z0', b8_nat]
          refine qmove ?_
          simp only [pu', p0', c1', c0', i1', z0', b8_nat]
          refine qmove ?_
          simp only [pu', p0', c1', c0', i1', z0', b8_nat]
          refine qidxE ?_
          simp only [pu', p0', c1', c0', i1', z0', b8_nat]
          refine qloadE1 ?_
          simp only [pu', p0', c1', c0', i1', z0', b8_nat]
          refine qK (hx := rfl) (c22) ?_
          simp only [pu', p0', c1', c0', i1', z0', b8_nat]
          refine qsub ?_
          simp only [pu', p0', c1', c0', i1', z0', b8_nat]
          refine qassign ?_
          simp only [pu', p0', c1', c0', i1', z0', b8_nat]
          with_reducible refine q_end ?_
          with_reducible refine s_then ?_
          with_reducible refine s_seq ?_
          (refine s_regT (id := 18) (.light 0 (.light 1 (.light 2 (.light 3 (.light 4 (.light 5 (.light 7 (.light 8 (.light 10 (.light 11 (.light 12 (.light 13 (.alt 6 [5] (.light 9 (.light 14 (.light 15 (.alt 16 [5, 15] (.alt 17 [0, 5, 15] (.light 18 (.done)) (.no)) (.no))))) (.no)))))))))))))) [6, 16, 17] (by kernel_rfl) (by conv => lhs; simp only [pickT, List.getElem?_cons_succ, List.getElem?_cons_zero]) ?_)
          refine tmove ?_
          simp only [pu', p0', c1', c0', i1', z0', b8_nat]
          refine tmove ?_
          simp only [pu', p0', c1', c0', i1', z0', b8_nat]
          refine tmove ?_
          simp only [pu', p0', c1', c0', i1', z0', b8_nat]
          refine tmove ?_
          simp only [pu', p0', c1', c0', i1', z0', b8_nat]
          refine tmove ?_
          simp only [pu', p0', c1', c0', i1', z0', b8_nat]
          refine tidxE ?_
          simp only [pu', p0', c1', c0', i1', z0', b8_nat]
          refine tmove ?_
          simp only [pu', p0', c1', c0', i1', z0', b8_nat]
          refine tconv ?_
          simp only [pu', p0', c1', c0', i1', z0', b8_nat]
          refine tfad ?_
          simp only [pu', p0', c1', c0', i1', z0', b8_nat]
          refine tload1 ?_
          simp only [pu', p0', c1', c0', i1', z0', b8_nat]
          refine tconv ?_
          simp only [pu', p0', c1', c0', i1', z0', b8_nat]
          refine tshl1 ?_
          simp only [pu', p0', c1', c0', i1', z0', b8_nat]
          refine uloadE1 ?_
          simp only [pu', p0', c1', c0', i1', z0', b8_nat]
          refine tshl ?_
          simp only [pu', p0', c1', c0', i1', z0', b8_nat]
          refine tsub ?_
          simp only [pu', p0', c1', c0', i1', z0', b8_nat]
          refine tbuild ?_
          simp only [pu', p0', c1', c0', i1', z0', b8_nat]
          refine ubsl ?_
          simp only [pu', p0', c1', c0', i1', n0', n3', n1', n2', a2', a1', a0', n4', Nat.reduceAdd, z0', n5', sa0, sa1, sa2, sa3, sa4, sa5, sa6, sa7, sa8, sa9, sa10, sa11]
          (refine u_app 0 (l2 := [(⟨l.getD i 0, (n : Int) - hiF ((nxtL ps l i).getD (l.getD i 0).toNat 0), (nxtL ps l i).getD (l.getD i 0).toNat 0 * 2 ^ ((n : Int) - hiF ((nxtL ps l i).getD (l.getD i 0).toNat 0)).toNat - 2 ^ n⟩ : Ce)]) (fun z1 Y1 T1 x1 => ?_) inferInstance rfl encC_ok (elts_at (l := [(⟨l.getD i 0, (n : Int) - hiF ((nxtL ps l i).getD (l.getD i 0).toNat 0), (nxtL ps l i).getD (l.getD i 0).toNat 0 * 2 ^ ((n : Int) - hiF ((nxtL ps l i).getD (l.getD i 0).toNat 0)).toNat - 2 ^ n⟩ : Ce)]) encC_ok inferInstance rfl) (by simp only [List.length_cons, List.length_nil]; omega) inferInstance inferInstance; simp only [a1', c1', c0'] at T1; have pz1 := T1.sl 0 rfl; refine ⟨(by repeat' first | exact trivial | refine ⟨.inl rfl, ?_⟩ | refine ⟨.inr (ha_eq inferInstance inferInstance), ?_⟩), ?_⟩; simp only [Fr.put, List.set_cons_succ, List.set_cons_zero, Int.toNat_natCast, Nat.zero_add])
          refine tassign ?_
          simp only [pu', p0', c1', c0', i1', z0', b8_nat]
          with_reducible refine t_end ?_
          with_reducible refine s_then ?_
          with_reducible refine s_reg ?_
          refine smove ?_
          simp only [pu', p0', c1', c0', i1', z0', b8_nat]
          refine smove ?_
          simp only [pu', p0', c1', c0', i1', z0', b8_nat]
          refine sidxE ?_
          simp only [pu', p0', c1', c0', i1', z0', b8_nat]
          refine sloadE1 ?_
          simp only [pu', p0', c1', c0', i1', z0', b8_nat]
          refine sadd ?_
          simp only [pu', p0', c1', c0', i1', z0', b8_nat]
          refine sidxE ?_
          simp only [pu', p0', c1', c0', i1', z0', b8_nat]
          (refine s_stE (x := l.getD i 0) 1 ((nxtL ps l i).getD (l.getD i 0).toNat 0 + 1) (0 : Int) (fun Y2 T2 => ?_) inferInstance rfl iok inferInstance (by omega) (by omega) (by rfl) inferInstance; simp only [a1', c1', c0'] at T2; simp only [Fr.put, List.set_cons_succ, List.set_cons_zero, Int.toNat_natCast, Nat.zero_add])
          with_reducible refine s_end ?_
          with_reducible refine s_blkN ?_
          with_reducible refine s_then ?_
          with_reducible refine s_reg ?_
          refine smove ?_
          simp only [pu', p0', c1', c0', i1', z0', b8_nat]
          refine sadd ?_
          simp only [pu', p0', c1', c0', i1', z0', b8_nat]
          refine sassign ?_
          simp only [pu', p0', c1', c0', i1', z0', b8_nat]
          with_reducible refine s_end ?_
          rotate_left 1
          replace hb := dF' hb
          (exfalso; omega)
        all_goals
          rw [hst, ← htk] at T2
          refine l_next ⟨i + 1, z1, _⟩ ⟨by simp only []; omega, pz1, Sep.sub T2 (by repeat' first | exact List.Sublist.refl _ | exact List.sublist_append_left _ _ | exact List.nil_sublist _ | refine List.Sublist.cons_cons _ ?_ | refine List.Sublist.cons _ ?_ | refine List.Sublist.trans ?_ (List.sublist_append_left _ _))⟩ (by simp only []; omega) (by rfl) rfl
      · rw [List.take_of_length_le (by omega)] at S1
        with_reducible refine s_seq ?_
        with_reducible refine s_seq ?_
        with_reducible refine s_reg ?_
        refine smove ?_
        simp only [pu', p0', c1', c0', i1', z0', b8_nat]
        refine smove ?_
        simp only [pu', p0', c1', c0', i1', z0', b8_nat]
        refine slenE ?_
        simp only [pu', p0', c1', c0', i1', z0', b8_nat]
        refine sLt (fun hb => ?_) (fun hb => ?_)
        replace hb := dT' hb
        (exfalso; omega)
        replace hb := dF' hb
        simp only [pu', p0', c1', c0', i1', z0', b8_nat]
        with_reducible refine s_end ?_
        with_reducible refine s_then ?_
        refine sCF ?_
        with_reducible refine s_exit ?_
        with_reducible refine s_thenE ?_
        with_reducible refine l_exit ?_
        with_reducible refine s_blkE ?_
        with_reducible refine s_then ?_
        with_reducible refine s_seq ?_
        with_reducible refine s_reg ?_
        refine smove ?_
        simp only [pu', p0', c1', c0', i1', z0', b8_nat]
        refine sassign ?_
        simp only [pu', p0', c1', c0', i1', z0', b8_nat]
        refine sassign ?_
        simp only [pu', p0', c1', c0', i1', z0', b8_nat]
        with_reducible refine s_end ?_
        with_reducible refine s_then ?_
        with_reducible refine s_ret ?_
        all_goals try with_reducible refine w_n ?_
        all_goals refine w_2 rfl (by first | exact v_t (by rfl) | exact v_c1 (C1.p) (by rfl) (HA.p) (by rfl) | exact v_cF (CA.p) (by rfl) (HA.p) (by rfl)) (by first | exact v_t (by rfl) | exact v_c1 (C1.p) (by rfl) (HA.p) (by rfl) | exact v_cF (CA.p) (by rfl) (HA.p) (by rfl)) ?_
        exact ⟨z9, rfl, pz9, Sep.sub inferInstance (by repeat' first | exact List.Sublist.refl _ | exact List.sublist_append_left _ _ | exact List.nil_sublist _ | refine List.Sublist.cons_cons _ ?_ | refine List.Sublist.cons _ ?_ | refine List.Sublist.trans ?_ (List.sublist_append_left _ _))⟩
  · rw [dcQ, if_neg he]
    generalize dE L ps = e at *
    refine acalls_of_wk hm Try.func11 rfl ?_
    simp only [Try.ntmps11, List.length_cons, List.length_nil, Nat.reduceAdd, Nat.reduceSub, List.reduceReplicate, List.cons_append, List.nil_append]
    show wk _ _ none _ _ ⟨_, []⟩ _
    focus
      with_reducible refine s_seq ?_
      with_reducible refine s_reg ?_
      refine sboxA ?_
      simp only [pu', p0', c1', c0', i1', n0', n3', n1', n2', a2', a1', a0', n4', Nat.reduceAdd, z0', n5', sa0, sa1, sa2, sa3, sa4, sa5, sa6, sa7, sa8, sa9, sa10, sa11]
      refine sassign ?_
      simp only [pu', p0', c1', c0', i1', z0', b8_nat]
      refine sassign ?_
      simp only [pu', p0', c1', c0', i1', z0', b8_nat]
      with_reducible refine s_end ?_
      with_reducible refine s_then ?_
      with_reducible refine s_seq ?_
      with_reducible refine s_reg ?_
      refine sloadW ?_
      simp only [pu', p0', c1', c0', i1', z0', b8_nat]
      refine sM (hx := rfl) (c34 _ inferInstance) ?_
      simp only [pu', p0', c1', c0', i1', z0', b8_nat]
      refine sassign ?_
      simp only [pu', p0', c1', c0', i1', z0', b8_nat]
      with_reducible refine s_end ?_
      with_reducible refine s_then ?_
      with_reducible refine s_seq ?_
      with_reducible refine s_seq ?_
      with_reducible refine s_reg ?_
      refine smove ?_
      simp only [pu', p0', c1', c0', i1', z0', b8_nat]
      refine sNe (fun hb => ?_) (fun hb => ?_)
      replace hb := dT' hb
      simp only [pu', p0', c1', c0', i1', z0', b8_nat]
      with_reducible refine s_end ?_
      with_reducible refine s_then ?_
      refine sCT ?_
      with_reducible refine s_seq ?_
      with_reducible refine s_reg ?_
      refine smove ?_
      simp only [pu', p0', c1', c0', i1', z0', b8_nat]
      refine sassign ?_
      simp only [pu', p0', c1', c0', i1', z0', b8_nat]
      refine sassign ?_
      simp only [pu', p0', c1', c0', i1', z0', b8_nat]
      with_reducible refine s_end ?_
      with_reducible refine s_then ?_
      with_reducible refine s_ret ?_
      with_reducible refine s_thenR ?_
      rotate_left 1
      replace hb := dF' hb
      exact absurd (by with_reducible assumption) hb
    all_goals try with_reducible refine w_n ?_
    all_goals refine w_2 rfl (by first | exact v_t (by rfl) | exact v_c1 (C1.p) (by rfl) (HA.p) (by rfl) | exact v_cF (CA.p) (by rfl) (HA.p) (by rfl)) (by first | exact v_t (by rfl) | exact v_c1 (C1.p) (by rfl) (HA.p) (by rfl) | exact v_cF (CA.p) (by rfl) (HA.p) (by rfl)) ?_
    exact ⟨nilS, rfl, inferInstance, Sep.sub (Sep.addNil inferInstance _ _ _) (by repeat' first | exact List.Sublist.refl _ | exact List.sublist_append_left _ _ | exact List.nil_sublist _ | refine List.Sublist.cons_cons _ ?_ | refine List.Sublist.cons _ ?_ | refine List.Sublist.trans ?_ (List.sublist_append_left _ _))⟩
end Go.Proofs.Ytgbddbiimffplaa
