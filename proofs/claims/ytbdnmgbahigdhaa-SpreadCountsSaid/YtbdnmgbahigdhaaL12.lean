/-
  A part of the proof of a statement of a chapter's seat; conditions: stated at each theorem.
-/
import Derived.Test.YtbdnmgbahigdhaaL11
set_option linter.unusedVariables false
set_option linter.unusedSectionVars false
set_option linter.unusedSimpArgs false
set_option linter.unusedVariables false
set_option maxRecDepth 100000
set_option maxHeartbeats 8000000
namespace Go.Proofs.Ytbdnmgbahigdhaa
open Go.Az Go
/-! ### Bits of cells -/
theorem numQ_bd {L : Int} {ps : List Int} (i : Nat) (hi : i < (numQ L ps).length) : 1 ≤ (numQ L ps).getD i 0 ∧ (numQ L ps).getD i 0 ≤ 8192 := by
  unfold numQ at hi ⊢
  split
  · rename_i he
    rw [if_pos he] at hi
    obtain ⟨n, rfl, h5, h12, hok, hl1, hl2, hlast⟩ := dE_ok he
    rw [Int.toNat_natCast] at hi ⊢
    rw [nums_len, dist_len rfl hok] at hi
    obtain ⟨k, c⟩ := cell_of hok hi
    rw [nums_at (by rw [dist_len rfl hok]; exact hi)]
    exact ⟨c.n1, c.n2⟩
  · rename_i he
    rw [if_neg he] at hi; simp at hi
theorem numQ_len {L : Int} {ps : List Int} : (numQ L ps).length ≤ 4096 := by
  unfold numQ
  split
  · rename_i he
    have := ofL_len (L := L) (ps := ps)
    rw [ofL, if_pos he] at this
    rw [nums_len]; exact this
  · simp
theorem bit_at {L : Int} {ps : List Int} {i : Nat} (h : i < (numQ L ps).length) : (bitQ L ps).getD i 0 = L - hiF ((numQ L ps).getD i 0) := by
  rw [bitQ, List.getD_eq_getElem?_getD, List.getElem?_map, List.getElem?_eq_getElem h, List.getD_eq_getElem?_getD, List.getElem?_eq_getElem h]; rfl
theorem bits20 (h : Hp) (s : AV) (L : Int) (ps : List Int) [a : EI h s ps] (hlen : ps.length ≤ 1099511627776) (hL : dE L ps = 0 → 5 ≤ L ∧ L ≤ 12) : ACalls Try.prog 20 [DA s L] h (fun r h' => ∃ z, r = .tup [z, I (dE L ps)] ∧ SlC z ∧ Sep h h' [WI z (bitQ L ps)]) := by
  have pss := a.p.sl
  have S0 := Sep.nil h
  have c18 : ∀ Y L', Sep h Y L' → EI Y s ps → ACalls Try.prog 18 [DA s L] Y (fun r h' => ∃ z, r = .tup [z, I (dE L ps)] ∧ SlC z ∧ Sep h h' (L' ++ [WI z (numQ L ps)])) := fun Y L' S a =>
    (numbers18 Y s L ps hlen).mono fun r h' _ ⟨z, h1, h2, h3⟩ => ⟨z, h1, h2, S.join h3⟩
  have hbd := fun i hi => numQ_bd (L := L) (ps := ps) i hi
  have hle := numQ_len (L := L) (ps := ps)
  have hba := fun i hi => bit_at (L := L) (ps := ps) (i := i) hi
  have hbl : (bitQ L ps).length = (numQ L ps).length := List.length_map ..
  have hne : dE L ps ≠ 0 → (numQ L ps).length = 0 := fun he => by rw [numQ, if_neg he]; rfl
  have hL' : 0 < (numQ L ps).length → 5 ≤ L ∧ L ≤ 12 := fun hh => hL (Classical.byContradiction fun he => by have := hne he; omega)
  clear hL hne
  generalize bitQ L ps = bl at *
  generalize numQ L ps = nl at *
  generalize dE L ps = e at *
  refine acalls_of_wk hm Try.func20 rfl ?_
  simp only [Try.ntmps20, List.length_cons, List.length_nil, Nat.reduceAdd, Nat.reduceSub, List.reduceReplicate, List.cons_append, List.nil_append]
  show wk _ _ none _ _ ⟨_, []⟩ _
  with_reducible refine s_seq ?_
  with_reducible refine s_reg ?_
  refine sboxA ?_
  simp only [pu', p0', c1', c0', i1', n0', n3', n1', n2', a2', a1', a0', n4', Nat.reduceAdd, z0', n5', sa0, sa1, sa2, sa3, sa4, sa5, sa6, sa7, sa8, sa9, sa10, sa11]
  refine sassign ?_
  simp only [pu', p0', c1', c0', i1', z0', b8_nat]
  refine sassign ?_
  simp only [pu', p0', c1', c0', i1', z0', b8_nat]
  with_reducible refine s_end ?_
  with_reducible refine s_then ?_
  with_reducible refine s_seq ?_
  with_reducible refine s_reg ?_
  refine sloadW ?_
  simp only [pu', p0', c1', c0', i1', z0', b8_nat]
  refine sC (hx := rfl) ((c18 _ _ inferInstance inferInstance).mono ?_)
  rintro _ m18 _ ⟨zl, rfl, pzl, S1⟩
  simp only [pu', p0', c1', c0', i1', n0', n3', n1', n2', a2', a1', a0', n4', Nat.reduceAdd, z0', n5', sa0, sa1, sa2, sa3, sa4, sa5, sa6, sa7, sa8, sa9, sa10, sa11]
  refine smove ?_
  simp only [pu', p0', c1', c0', i1', z0', b8_nat]
  refine sext ?_
  simp only [pu', p0', c1', c0', i1', z0', b8_nat]
  refine sext ?_
  simp only [pu', p0', c1', c0', i1', z0', b8_nat]
  refine sassign ?_
  simp only [pu', p0', c1', c0', i1', z0', b8_nat]
  refine sassign ?_
  simp only [pu', p0', c1', c0', i1', z0', b8_nat]
  with_reducible refine s_end ?_
  with_reducible refine s_then ?_
  with_reducible refine s_seq ?_
  with_reducible refine s_seq ?_
  with_reducible refine s_reg ?_
  refine smove ?_
  simp only [pu', p0', c1', c0', i1', z0', b8_nat]
  refine slenE ?_
  simp only [pu', p0', c1', c0', i1', z0', b8_nat]
  refine smove ?_
  simp only [pu', p0', c1', c0', i1', z0', b8_nat]
  with_reducible refine s_end ?_
  with_reducible refine s_then ?_
  with_reducible refine s_block ?_
  refine s_loop hm (fun (b : RoA) s' => [s' 0, .ptr h.length 0, s' 2, s' 3, zl, I e, s' 6, s' 7, s' 8, s' 9, s' 10, s' 11, s' 12, zl, I nl.length, I b.k, s' 16, s' 17, s' 18, s' 19, s' 20, s' 21, s' 22, s' 23, s' 24, s' 25, s' 26, s' 27, s' 28, s' 29, s' 30]) (fun b => b.G) (fun b => b.k ≤ nl.length ∧ Sep h b.G [pcC h.length (.cells [I L, s] 24 true), WI zl (mixL bl nl b.k)]) (fun b => nl.length - b.k) ⟨0, _⟩ (by rfl) rfl ⟨Nat.zero_le _, by simp only []; rw [mix_zero]; exact Sep.sub inferInstance (by repeat' first | exact List.Sublist.refl _ | exact List.sublist_append_left _ _ | exact List.nil_sublist _ | refine List.Sublist.cons_cons _ ?_ | refine List.Sublist.cons _ ?_ | refine List.Sublist.trans ?_ (List.sublist_append_left _ _))⟩ ?_
  clear S1
  rintro ⟨i, G⟩ s' ⟨hi, S1⟩
  simp only [] at hi S1 ⊢
  have hml := mix_len hbl i
  by_cases hil : i < nl.length
  · have hx : ((i : Nat) : Int).toNat = i := Int.toNat_natCast _
    have hms := mix_set hbl (i := i) (by omega)
    have hma := mix_at hbl (i := i) (by omega)
    have hb := hbd i hil
    rw [hba i hil] at hms
    have hLL := hL' (by omega)
    have c32 := high_any (nl.getD i 0) (by omega) (by omega)
    rw [← hma] at c32 hms hb
    have hh1 := hi_bd ((mixL bl nl i).getD i 0)
    have hh2 := hi_lt (n := (mixL bl nl i).getD i 0) (k := 14) (by omega) (by omega)
    focus
      with_reducible refine s_seq ?_
      with_reducible refine s_reg ?_
      refine sLt (fun hb => ?_) (fun hb => ?_)
      replace hb := dT' hb
      simp only [pu', p0', c1', c0', i1', z0', b8_nat]
      with_reducible refine s_end ?_
      with_reducible refine s_then ?_
      with_reducible refine s_seq ?_
      refine sCT ?_
      with_reducible refine s_skip ?_
      with_reducible refine s_then ?_
      with_reducible refine s_seq ?_
      with_reducible refine s_block ?_
      with_reducible refine s_seq ?_
      with_reducible refine s_reg ?_
      refine smove ?_
      simp only [pu', p0', c1', c0', i1', z0', b8_nat]
      refine sidxE ?_
      simp only [pu', p0', c1', c0', i1', z0', b8_nat]
      refine sloadE1 ?_
      simp only [pu', p0', c1', c0', i1', z0', b8_nat]
      refine sassign ?_
      simp only [pu', p0', c1', c0', i1', z0', b8_nat]
      refine sassign ?_
      simp only [pu', p0', c1', c0', i1', z0', b8_nat]
      with_reducible refine s_end ?_
      with_reducible refine s_then ?_
      (refine s_regT (id := 5) (.light 0 (.light 1 (.light 2 (.light 3 (.light 4 (.alt 5 [4] (.light 6 (.light 7 (.alt 8 [0, 1, 2, 3, 4, 6, 7] (.done) (.no)))) (.no))))))) [5, 8] (by kernel_rfl) (by conv => lhs; simp only [pickT, List.getElem?_cons_succ, List.getElem?_cons_zero]) ?_)
      refine tmove ?_
      simp only [pu', p0', c1', c0', i1', z0', b8_nat]
      refine tmove ?_
      simp only [pu', p0', c1', c0', i1', z0', b8_nat]
      refine tfad ?_
      simp only [pu', p0', c1', c0', i1', z0', b8_nat]
      refine tload1 ?_
      simp only [pu', p0', c1', c0', i1', z0', b8_nat]
      refine tmove ?_
      simp only [pu', p0', c1', c0', i1', z0', b8_nat]
      refine uK (hx := rfl) (c32) ?_
      simp only [pu', p0', c1', c0', i1', z0', b8_nat]
      refine tsub ?_
      simp only [pu', p0', c1', c0', i1', z0', b8_nat]
      refine tidxE ?_
      simp only [pu', p0', c1', c0', i1', z0', b8_nat]
      (refine u_stE (x := (i : Int)) 1 (L - hiF ((mixL bl nl i).getD i 0)) (0 : Int) (fun Y1 T1 => ?_) inferInstance rfl iok inferInstance (by omega) (by omega) (by rfl) inferInstance; simp only [a1', c1', c0', hx, hms] at T1; refine ⟨(by repeat' first | exact trivial | refine ⟨.inl rfl, ?_⟩ | refine ⟨.inr (ha_eq inferInstance inferInstance), ?_⟩), ?_⟩; simp only [Fr.put, List.set_cons_succ, List.set_cons_zero, Int.toNat_natCast, Nat.zero_add])
      with_reducible refine t_end ?_
      with_reducible refine s_blkN ?_
      with_reducible refine s_then ?_
      with_reducible refine s_reg ?_
      refine sadd ?_
      simp only [pu', p0', c1', c0', i1', z0', b8_nat]
      refine smove ?_
      simp only [pu', p0', c1', c0', i1', z0', b8_nat]
      with_reducible refine s_end ?_
      rotate_left 1
      replace hb := dF' hb
      (exfalso; omega)
    refine l_next ⟨i + 1, _⟩ ⟨by simp only []; omega, T1⟩ (by simp only []; omega) (by rfl) rfl
  · rw [mix_end hbl (by omega)] at S1
    with_reducible refine s_seq ?_
    with_reducible refine s_reg ?_
    refine sLt (fun hb => ?_) (fun hb => ?_)
    replace hb := dT' hb
    (exfalso; omega)
    replace hb := dF' hb
    simp only [pu', p0', c1', c0', i1', z0', b8_nat]
    with_reducible refine s_end ?_
    with_reducible refine s_then ?_
    with_reducible refine s_seq ?_
    refine sCF ?_
    with_reducible refine s_exit ?_
    with_reducible refine s_thenE ?_
    with_reducible refine l_exit ?_
    with_reducible refine s_blkE ?_
    with_reducible refine s_then ?_
    with_reducible refine s_seq ?_
    with_reducible refine s_reg ?_
    refine smove ?_
    simp only [pu', p0', c1', c0', i1', z0', b8_nat]
    refine smove ?_
    simp only [pu', p0', c1', c0', i1', z0', b8_nat]
    refine sassign ?_
    simp only [pu', p0', c1', c0', i1', z0', b8_nat]
    refine sassign ?_
    simp only [pu', p0', c1', c0', i1', z0', b8_nat]
    with_reducible refine s_end ?_
    with_reducible refine s_then ?_
    with_reducible refine s_ret ?_
    all_goals try with_reducible refine w_n ?_
    all_goals refine w_2 rfl (by first | exact v_t (by rfl) | exact v_c1 (C1.p) (by rfl) (HA.p) (by rfl) | exact v_cF (CA.p) (by rfl) (HA.p) (by rfl)) (by first | exact v_t (by rfl) | exact v_c1 (C1.p) (by rfl) (HA.p) (by rfl) | exact v_cF (CA.p) (by rfl) (HA.p) (by rfl)) ?_
    exact ⟨zl, rfl, pzl, Sep.sub inferInstance (by repeat' first | exact List.Sublist.refl _ | exact List.sublist_append_left _ _ | exact List.nil_sublist _ | refine List.Sublist.cons_cons _ ?_ | refine List.Sublist.cons _ ?_ | refine List.Sublist.trans ?_ (List.sublist_append_left _ _))⟩
theorem rbits21 (h : Hp) (s : AV) (L : Int) (ps : List Int) [a : EI h s ps] (hlen : ps.length ≤ 1099511627776) (hL : dE L ps = 0 → 5 ≤ L ∧ L ≤ 12) : ACalls Try.prog 21 [DA s L] h (fun r h' => ∃ z, r = .tup [z, I (dE L ps)] ∧ SlC z ∧ Sep h h' [WI z (bitQ L ps)]) := by
  have pss := a.p.sl
  have S0 := Sep.nil h
  have c19 : ∀ Y L', Sep h Y L' → EI Y s ps → ACalls Try.prog 19 [DA s L] Y (fun r h' => ∃ z, r = .tup [z, I (dE L ps)] ∧ SlC z ∧ Sep h h' (L' ++ [WI z (numQ L ps)])) := fun Y L' S a =>
    (rnumbers19 Y s L ps hlen).mono fun r h' _ ⟨z, h1, h2, h3⟩ => ⟨z, h1, h2, S.join h3⟩
  have hbd := fun i hi => numQ_bd (L := L) (ps := ps) i hi
  have hle := numQ_len (L := L) (ps := ps)
  have hba := fun i hi => bit_at (L := L) (ps := ps) (i := i) hi
  have hbl : (bitQ L ps).length = (numQ L ps).length := List.length_map ..
  have hne : dE L ps ≠ 0 → bitQ L ps = [] := fun he => by rw [bitQ, numQ, if_neg he]; rfl
  generalize bitQ L ps = bl at *
  generalize numQ L ps = nl at *
  generalize dE L ps = e at *
  by_cases he : e = 0
  · subst he
    have hLL := hL rfl
    clear hL hne
    refine acalls_of_wk hm Try.func21 rfl ?_
    simp only [Try.ntmps21, List.length_cons, List.length_nil, Nat.reduceAdd, Nat.reduceSub, List.reduceReplicate, List.cons_append, List.nil_append]
    show wk _ _ none _ _ ⟨_, []⟩ _
    with_reducible refine s_seq ?_
    with_reducible refine s_reg ?_
    refine sboxA ?_
    simp only [pu', p0', c1', c0', i1', n0', n3', n1', n2', a2', a1', a0', n4', Nat.reduceAdd, z0', n5', sa0, sa1, sa2, sa3, sa4, sa5, sa6, sa7, sa8, sa9, sa10, sa11]
    refine sassign ?_
    simp only [pu', p0', c1', c0', i1', z0', b8_nat]
    refine sassign ?_
    simp only [pu', p0', c1', c0', i1', z0', b8_nat]
    with_reducible refine s_end ?_
    with_reducible refine s_then ?_
    with_reducible refine s_seq ?_
    with_reducible refine s_reg ?_
    refine sloadW ?_
    simp only [pu', p0', c1', c0', i1', z0', b8_nat]
    refine sC (hx := rfl) ((c19 _ _ inferInstance inferInstance).mono ?_)
    rintro _ m19 _ ⟨zl, rfl, pzl, S1⟩
    simp only [pu', p0', c1', c0', i1', n0', n3', n1', n2', a2', a1', a0', n4', Nat.reduceAdd, z0', n5', sa0, sa1, sa2, sa3, sa4, sa5, sa6, sa7, sa8, sa9, sa10, sa11]
    refine smove ?_
    simp only [pu', p0', c1', c0', i1', z0', b8_nat]
    refine sext ?_
    simp only [pu', p0', c1', c0', i1', z0', b8_nat]
    refine sext ?_
    simp only [pu', p0', c1', c0', i1', z0', b8_nat]
    refine sassign ?_
    simp only [pu', p0', c1', c0', i1', z0', b8_nat]
    refine sassign ?_
    simp only [pu', p0', c1', c0', i1', z0', b8_nat]
    with_reducible refine s_end ?_
    with_reducible refine s_then ?_
    with_reducible refine s_seq ?_
    with_reducible refine s_seq ?_
    with_reducible refine s_reg ?_
    refine smove ?_
    simp only [pu', p0', c1', c0', i1', z0', b8_nat]
    refine sNe (fun hb => ?_) (fun hb => ?_)
    replace hb := dT' hb
    (exfalso; omega)
    replace hb := dF' hb
    simp only [pu', p0', c1', c0', i1', z0', b8_nat]
    with_reducible refine s_end ?_
    with_reducible refine s_then ?_
    refine sCF ?_
    with_reducible refine s_skip ?_
    with_reducible refine s_then ?_
    with_reducible refine s_seq ?_
    with_reducible refine s_reg ?_
    refine sassign ?_
    simp only [pu', p0', c1', c0', i1', z0', b8_nat]
    with_reducible refine s_end ?_
    with_reducible refine s_then ?_
    with_reducible refine s_seq ?_
    with_reducible refine s_seq ?_
    with_reducible refine s_reg ?_
    refine sassign ?_
    simp only [pu', p0', c1', c0', i1', z0', b8_nat]
    with_reducible refine s_end ?_
    with_reducible refine s_then ?_
    with_reducible refine s_block ?_
    refine s_loop hm (fun (b : NwB) s' => [s' 0, .ptr h.length 0, s' 2, s' 3, zl, s' 5, b.z, I b.k, s' 8, s' 9, s' 10, s' 11, s' 12, s' 13, s' 14, s' 15, s' 16, s' 17, s' 18, s' 19, s' 20, s' 21, s' 22, s' 23, s' 24, s' 25, s' 26, s' 27, s' 28, s' 29, s' 30, s' 31, s' 32, s' 33]) (fun b => b.G) (fun b => b.k ≤ nl.length ∧ SlC b.z ∧ Sep h b.G [WI b.z (bl.take b.k), pcC h.length (.cells [I L, s] 24 true), WI zl nl]) (fun b => nl.length - b.k) ⟨0, nilS, _⟩ (by rfl) rfl ⟨Nat.zero_le _, inferInstance, Sep.sub (Sep.perm (Sep.addNil S1 _ _ _) (List.perm_append_comm (l₁ := _ ++ _) (l₂ := [_]))) (by repeat' first | exact List.Sublist.refl _ | exact List.sublist_append_left _ _ | exact List.nil_sublist _ | refine List.Sublist.cons_cons _ ?_ | refine List.Sublist.cons _ ?_ | refine List.Sublist.trans ?_ (List.sublist_append_left _ _))⟩ ?_
    clear S1
    rintro ⟨i, z, G⟩ s' ⟨hi, pz, S1⟩
    simp only [] at hi pz S1 ⊢
    have htl : (bl.take i).length ≤ 4096 := by rw [List.length_take]; omega
    by_cases hil : i < nl.length
    · have hb := hbd i hil
      have htk : bl.take (i + 1) = bl.take i ++ [L - hiF (nl.getD i 0)] := by rw [takeT (d := 0) (by omega), hba i hil]
      have c33 := rhigh_any (nl.getD i 0) (by omega)
      have hh1 := hi_bd (nl.getD i 0)
      have hh2 := hi_lt (n := nl.getD i 0) (k := 14) (by omega) (by omega)
      focus
        with_reducible refine s_seq ?_
        with_reducible refine s_seq ?_
        with_reducible refine s_reg ?_
        refine smove ?_
        simp only [pu', p0', c1', c0', i1', z0', b8_nat]
        refine smove ?_
        simp only [pu', p0', c1', c0', i1', z0', b8_nat]
        refine slenE ?_
        simp only [pu', p0', c1', c0', i1', z0', b8_nat]
        refine sLt (fun hb => ?_) (fun hb => ?_)
        replace hb := dT' hb
        simp only [pu', p0', c1', c0', i1', z0', b8_nat]
        with_reducible refine s_end ?_
        with_reducible refine s_then ?_
        refine sCT ?_
        with_reducible refine s_skip ?_
        with_reducible refine s_then ?_
        with_reducible refine s_seq ?_
        with_reducible refine s_block ?_
        (refine s_regT (id := 8) (.light 0 (.light 1 (.light 2 (.light 3 (.light 4 (.light 5 (.alt 6 [5] (.alt 7 [5] (.light 8 (.alt 9 [5, 8] (.alt 10 [0, 5, 8] (.light 11 (.done)) (.no)) (.no))) (.no)) (.no)))))))) [6, 7, 9, 10] (by kernel_rfl) (by conv => lhs; simp only [pickT, List.getElem?_cons_succ, List.getElem?_cons_zero]) ?_)
        refine tmove ?_
        simp only [pu', p0', c1', c0', i1', z0', b8_nat]
        refine tfad ?_
        simp only [pu', p0', c1', c0', i1', z0', b8_nat]
        refine tload1 ?_
        simp only [pu', p0', c1', c0', i1', z0', b8_nat]
        refine tmove ?_
        simp only [pu', p0', c1', c0', i1', z0', b8_nat]
        refine tmove ?_
        simp only [pu', p0', c1', c0', i1', z0', b8_nat]
        refine tidxE ?_
        simp only [pu', p0', c1', c0', i1', z0', b8_nat]
        refine uloadE1 ?_
        simp only [pu', p0', c1', c0', i1', z0', b8_nat]
        refine uK (hx := rfl) (c33) ?_
        simp only [pu', p0', c1', c0', i1', z0', b8_nat]
        refine tsub ?_
        simp only [pu', p0', c1', c0', i1', z0', b8_nat]
        refine ubsl ?_
        simp only [pu', p0', c1', c0', i1', n0', n3', n1', n2', a2', a1', a0', n4', Nat.reduceAdd, z0', n5', sa0, sa1, sa2, sa3, sa4, sa5, sa6, sa7, sa8, sa9, sa10, sa11]
        (refine u_app 0 (l2 := [L - hiF (nl.getD i 0)]) (fun z1 Y1 T1 x1 => ?_) inferInstance rfl iok (elts_at (l := [L - hiF (nl.getD i 0)]) iok inferInstance rfl) (by simp only [List.length_cons, List.length_nil]; omega) inferInstance inferInstance; simp only [a1', c1', c0'] at T1; have pz1 := T1.sl 0 rfl; refine ⟨(by repeat' first | exact trivial | refine ⟨.inl rfl, ?_⟩ | refine ⟨.inr (ha_eq inferInstance inferInstance), ?_⟩), ?_⟩; simp only [Fr.put, List.set_cons_succ, List.set_cons_zero, Int.toNat_natCast, Nat.zero_add])
        refine tassign ?_
        simp only [pu', p0', c1', c0', i1', z0', b8_nat]
        with_reducible refine t_end ?_
        with_reducible refine s_blkN ?_
        with_reducible refine s_then ?_
        with_reducible refine s_reg ?_
        refine smove ?_
        simp only [pu', p0', c1', c0', i1', z0', b8_nat]
        refine sadd ?_
        simp only [pu', p0', c1', c0', i1', z0', b8_nat]
        refine sassign ?_
        simp only [pu', p0', c1', c0', i1', z0', b8_nat]
        with_reducible refine s_end ?_
        rotate_left 1
        replace hb := dF' hb
        (exfalso; omega)
      all_goals
        rw [← htk] at T1
        refine l_next ⟨i + 1, z1, _⟩ ⟨by simp only []; omega, pz1, Sep.sub T1 (by repeat' first | exact List.Sublist.refl _ | exact List.sublist_append_left _ _ | exact List.nil_sublist _ | refine List.Sublist.cons_cons _ ?_ | refine List.Sublist.cons _ ?_ | refine List.Sublist.trans ?_ (List.sublist_append_left _ _))⟩ (by simp only []; omega) (by rfl) rfl
    · rw [List.take_of_length_le (by omega)] at S1
      with_reducible refine s_seq ?_
      with_reducible refine s_seq ?_
      with_reducible refine s_reg ?_
      refine smove ?_
      simp only [pu', p0', c1', c0', i1', z0', b8_nat]
      refine smove ?_
      simp only [pu', p0', c1', c0', i1', z0', b8_nat]
      refine slenE ?_
      simp only [pu', p0', c1', c0', i1', z0', b8_nat]
      refine sLt (fun hb => ?_) (fun hb => ?_)
      replace hb := dT' hb
      (exfalso; omega)
      replace hb := dF' hb
      simp only [pu', p0', c1', c0', i1', z0', b8_nat]
      with_reducible refine s_end ?_
      with_reducible refine s_then ?_
      refine sCF ?_
      with_reducible refine s_exit ?_
      with_reducible refine s_thenE ?_
      with_reducible refine l_exit ?_
      with_reducible refine s_blkE ?_
      with_reducible refine s_then ?_
      with_reducible refine s_seq ?_
      with_reducible refine s_reg ?_
      refine smove ?_
      simp only [pu', p0', c1', c0', i1', z0', b8_nat]
      refine sassign ?_
      simp only [pu', p0', c1', c0', i1', z0', b8_nat]
      refine sassign ?_
      simp only [pu', p0', c1', c0', i1', z0', b8_nat]
      with_reducible refine s_end ?_
      with_reducible refine s_then ?_
      with_reducible refine s_ret ?_
      all_goals try with_reducible refine w_n ?_
      all_goals refine w_2 rfl (by first | exact v_t (by rfl) | exact v_c1 (C1.p) (by rfl) (HA.p) (by rfl) | exact v_cF (CA.p) (by rfl) (HA.p) (by rfl)) (by first | exact v_t (by rfl) | exact v_c1 (C1.p) (by rfl) (HA.p) (by rfl) | exact v_cF (CA.p) (by rfl) (HA.p) (by rfl)) ?_
      exact ⟨z, rfl, pz, Sep.sub inferInstance (by repeat' first | exact List.Sublist.refl _ | exact List.sublist_append_left _ _ | exact List.nil_sublist _ | refine List.Sublist.cons_cons _ ?_ | refine List.Sublist.cons _ ?_ | refine List.Sublist.trans ?_ (List.sublist_append_left _ _))⟩
  · rw [hne he]
    clear hL hne
    refine acalls_of_wk hm Try.func21 rfl ?_
    simp only [Try.ntmps21, List.length_cons, List.length_nil, Nat.reduceAdd, Nat.reduceSub, List.reduceReplicate, List.cons_append, List.nil_append]
    show wk _ _ none _ _ ⟨_, []⟩ _
    focus
      with_reducible refine s_seq ?_
      with_reducible refine s_reg ?_
      refine sboxA ?_
      simp only [pu', p0', c1', c0', i1', n0', n3', n1', n2', a2', a1', a0', n4', Nat.reduceAdd, z0', n5', sa0, sa1, sa2, sa3, sa4, sa5, sa6, sa7, sa8, sa9, sa10, sa11]
      refine sassign ?_
      simp only [pu', p0', c1', c0', i1', z0', b8_nat]
      refine sassign ?_
      simp only [pu', p0', c1', c0', i1', z0', b8_nat]
      with_reducible refine s_end ?_
      with_reducible refine s_then ?_
      with_reducible refine s_seq ?_
      with_reducible refine s_reg ?_
      refine sloadW ?_
      simp only [pu', p0', c1', c0', i1', z0', b8_nat]
      refine sC (hx := rfl) ((c19 _ _ inferInstance inferInstance).mono ?_)
      rintro _ m19 _ ⟨zl, rfl, pzl, S1⟩
      simp only [pu', p0', c1', c0', i1', n0', n3', n1', n2', a2', a1', a0', n4', Nat.reduceAdd, z0', n5', sa0, sa1, sa2, sa3, sa4, sa5, sa6, sa7, sa8, sa9, sa10, sa11]
      refine smove ?_
      simp only [pu', p0', c1', c0', i1', z0', b8_nat]
      refine sext ?_
      simp only [pu', p0', c1', c0', i1', z0', b8_nat]
      refine sext ?_
      simp only [pu', p0', c1', c0', i1', z0', b8_nat]
      refine sassign ?_
      simp only [pu', p0', c1', c0', i1', z0', b8_nat]
      refine sassign ?_
      simp only [pu', p0', c1', c0', i1', z0', b8_nat]
      with_reducible refine s_end ?_
      with_reducible refine s_then ?_
      with_reducible refine s_seq ?_
      with_reducible refine s_seq ?_
      with_reducible refine s_reg ?_
      refine smove ?_
      simp only [pu', p0', c1', c0', i1', z0', b8_nat]
      refine sNe (fun hb => ?_) (fun hb => ?_)
      replace hb := dT' hb
      simp only [pu', p0', c1', c0', i1', z0', b8_nat]
      with_reducible refine s_end ?_
      with_reducible refine s_then ?_
      refine sCT ?_
      with_reducible refine s_seq ?_
      with_reducible refine s_reg ?_
      refine smove ?_
      simp only [pu', p0', c1', c0', i1', z0', b8_nat]
      refine sassign ?_
      simp only [pu', p0', c1', c0', i1', z0', b8_nat]
      refine sassign ?_
      simp only [pu', p0', c1', c0', i1', z0', b8_nat]
      with_reducible refine s_end ?_
      with_reducible refine s_then ?_
      with_reducible refine s_ret ?_
      with_reducible refine s_thenR ?_
      rotate_left 1
      replace hb := dF' hb
      exact absurd (by with_reducible assumption) hb
    all_goals try with_reducible refine w_n ?_
    all_goals refine w_2 rfl (by first | exact v_t (by rfl) | exact v_c1 (C1.p) (by rfl) (HA.p) (by rfl) | exact v_cF (CA.p) (by rfl) (HA.p) (by rfl)) (by first | exact v_t (by rfl) | exact v_c1 (C1.p) (by rfl) (HA.p) (by rfl) | exact v_cF (CA.p) (by rfl) (HA.p) (by rfl)) ?_
    exact ⟨nilS, rfl, inferInstance, Sep.sub (Sep.addNil inferInstance _ _ _) (by repeat' first | exact List.Sublist.refl _ | exact List.sublist_append_left _ _ | exact List.nil_sublist _ | refine List.Sublist.cons_cons _ ?_ | refine List.Sublist.cons _ ?_ | refine List.Sublist.trans ?_ (List.sublist_append_left _ _))⟩
end Go.Proofs.Ytbdnmgbahigdhaa
