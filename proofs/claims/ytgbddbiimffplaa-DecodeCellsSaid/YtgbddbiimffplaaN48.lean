/-
  A part of the proof of a statement of a chapter's seat; conditions: stated at each theorem.
-/
import Derived.Test.YtgbddbiimffplaaN47
set_option linter.unusedVariables false
set_option linter.unusedSectionVars false
set_option linter.unusedSimpArgs false
set_option linter.unusedVariables false
set_option maxRecDepth 100000
set_option maxHeartbeats 8000000
namespace Go.Proofs.Ytgbddbiimffplaa
open Go.Az Go
/-! ### A distribution made of numbers, and its table -/
theorem of40 {X : Hp} (s : AV) {l : List Int} [a : EI X s l] (hs : SmC l) : ACalls Try.prog 40 [s, I 7] X (fun r h' => ∃ (z : AV) (L : Nat) (ps : List Int), r = .tup [DA z L, I 0] ∧ SlC z ∧ Sep X h' [WI z ps] ∧ dE L ps = 0 ∧ 5 ≤ L ∧ L ≤ 7 ∧ ps.length ≤ 14 ∧ ∀ i, i < ps.length → baseN (ps.getD i 0) < 2 ^ L) := by
  have pss := a.p.sl
  have S0 := Sep.nil X
  have c48 := fun Y (a : EI Y s l) => log48 (h := Y) s hs
  have c49 : ∀ (L : Nat), 5 ≤ L → L ≤ 7 → ∀ Y L', Sep X Y L' → EI Y s l → ACalls Try.prog 49 [s, I L] Y (fun r h' => ∃ z ps, r = .tup [DA z L, I 0] ∧ SlC z ∧ Sep X h' (L' ++ [WI z ps]) ∧ dE L ps = 0 ∧ ps.length ≤ 14 ∧ ∀ i, i < ps.length → baseN (ps.getD i 0) < 2 ^ L) := fun L h5 h7 Y L' S a =>
    (with49 (X := Y) s hs L h5 h7).mono fun r h' _ ⟨z, ps, h1, h2, h3, h4⟩ => ⟨z, ps, h1, h2, S.join h3, h4⟩
  refine acalls_of_wk hm Try.func40 rfl ?_
  simp only [Try.ntmps40, List.length_cons, List.length_nil, Nat.reduceAdd, Nat.reduceSub, List.reduceReplicate, List.cons_append, List.nil_append]
  show wk _ _ none _ _ ⟨_, []⟩ _
  with_reducible refine s_seq ?_
  with_reducible refine s_reg ?_
  refine salloc ?_
  simp only [pu', p0', c1', c0', i1', n0', n3', n1', n2', a2', a1', a0', n4', Nat.reduceAdd, z0', n5', sa0, sa1, sa2, sa3, sa4, sa5, sa6, sa7, sa8, sa9, sa10, sa11]
  refine sassign ?_
  simp only [pu', p0', c1', c0', i1', z0', b8_nat]
  with_reducible refine s_end ?_
  with_reducible refine s_then ?_
  with_reducible refine s_seq ?_
  with_reducible refine s_reg ?_
  refine smove ?_
  simp only [pu', p0', c1', c0', i1', z0', b8_nat]
  refine smove ?_
  simp only [pu', p0', c1', c0', i1', z0', b8_nat]
  refine sC (hx := rfl) ((c48 _ inferInstance).mono ?_)
  rintro _ m48 _ ⟨L, rfl, rfl, h5, h7⟩
  simp only [pu', p0', c1', c0', i1', n0', n3', n1', n2', a2', a1', a0', n4', Nat.reduceAdd, z0', n5', sa0, sa1, sa2, sa3, sa4, sa5, sa6, sa7, sa8, sa9, sa10, sa11]
  refine smove ?_
  simp only [pu', p0', c1', c0', i1', z0', b8_nat]
  refine sext ?_
  simp only [pu', p0', c1', c0', i1', z0', b8_nat]
  refine sext ?_
  simp only [pu', p0', c1', c0', i1', z0', b8_nat]
  refine sassign ?_
  simp only [pu', p0', c1', c0', i1', z0', b8_nat]
  refine sassign ?_
  simp only [pu', p0', c1', c0', i1', z0', b8_nat]
  with_reducible refine s_end ?_
  with_reducible refine s_then ?_
  with_reducible refine s_seq ?_
  with_reducible refine s_seq ?_
  with_reducible refine s_reg ?_
  refine smove ?_
  simp only [pu', p0', c1', c0', i1', z0', b8_nat]
  refine sNe (fun hb => ?_) (fun hb => ?_)
  replace hb := dT' hb
  (exfalso; omega)
  replace hb := dF' hb
  simp only [pu', p0', c1', c0', i1', z0', b8_nat]
  with_reducible refine s_end ?_
  with_reducible refine s_then ?_
  refine sCF ?_
  with_reducible refine s_skip ?_
  with_reducible refine s_then ?_
  with_reducible refine s_seq ?_
  with_reducible refine s_reg ?_
  refine smove ?_
  simp only [pu', p0', c1', c0', i1', z0', b8_nat]
  refine smove ?_
  simp only [pu', p0', c1', c0', i1', z0', b8_nat]
  refine sC (hx := rfl) ((c49 L h5 h7 _ _ inferInstance inferInstance).mono ?_)
  rintro _ m49 _ ⟨z, ps, rfl, pz, T1, hd, hp1, hp2⟩
  simp only [pu', p0', c1', c0', i1', n0', n3', n1', n2', a2', a1', a0', n4', Nat.reduceAdd, z0', n5', sa0, sa1, sa2, sa3, sa4, sa5, sa6, sa7, sa8, sa9, sa10, sa11]
  refine sext ?_
  simp only [pu', p0', c1', c0', i1', z0', b8_nat]
  refine sext ?_
  simp only [pu', p0', c1', c0', i1', z0', b8_nat]
  refine sstoreF ?_
  simp only [pu', p0', c1', c0', i1', n0', n3', n1', n2', a2', a1', a0', n4', Nat.reduceAdd, z0', n5', sa0, sa1, sa2, sa3, sa4, sa5, sa6, sa7, sa8, sa9, sa10, sa11]
  refine sassign ?_
  simp only [pu', p0', c1', c0', i1', z0', b8_nat]
  with_reducible refine s_end ?_
  with_reducible refine s_then ?_
  with_reducible refine s_ret ?_
  all_goals
    all_goals try with_reducible refine w_n ?_
    all_goals refine w_2 rfl (by first | exact v_t (by rfl) | exact v_c1 (C1.p) (by rfl) (HA.p) (by rfl) | exact v_cF (CA.p) (by rfl) (HA.p) (by rfl)) (by first | exact v_t (by rfl) | exact v_c1 (C1.p) (by rfl) (HA.p) (by rfl) | exact v_cF (CA.p) (by rfl) (HA.p) (by rfl)) ?_
    exact ⟨z, L, ps, rfl, pz, Sep.sub inferInstance (by repeat' first | exact List.Sublist.refl _ | exact List.sublist_append_left _ _ | exact List.nil_sublist _ | refine List.Sublist.cons_cons _ ?_ | refine List.Sublist.cons _ ?_ | refine List.Sublist.trans ?_ (List.sublist_append_left _ _)), hd, h5, h7, hp1, hp2⟩
theorem sep_lit {h Y : Hp} {L : List Pc} {i : Nat} {cs : List AV} {e : TypeId} {α : Type} {enc : α → List AV} {q : Nat} {l : List α} (S1 : Sep h Y (pcC i (.cells cs e true) :: L)) (hcs : cs = l.flatMap enc) (hl : cs.length = l.length * q) : Sep h Y (pcW enc q e (.sl i 0 l.length l.length false) l :: L) := by
  have hi : Y[i]? = some (.cells cs e true) := S1.all (pcC i (.cells cs e true)) (by simp)
  refine ⟨S1.ext, fun p hp => ?_, fun p hp j hj => ?_, ?_⟩
  · rcases List.mem_cons.1 hp with rfl | hp
    · exact .inr ⟨i, 0, l.length, false, cs, rfl, hi, by omega, by rw [List.drop_zero, ← hl, List.take_length]; exact hcs, (fun h => by cases h), fun _ => ⟨Nat.le_refl _, by omega⟩⟩
    · exact S1.all p (List.mem_cons_of_mem _ hp)
  · rcases List.mem_cons.1 hp with rfl | hp
    · exact S1.low (pcC i (.cells cs e true)) (by simp) j hj
    · exact S1.low p (List.mem_cons_of_mem _ hp) j hj
  · have d := S1.dis
    rw [List.pairwise_cons] at d ⊢
    exact ⟨fun p hp j hj => d.1 p hp j hj, d.2⟩
theorem bs_22_2 (a b : Int) : bslC Try.prog 22 2 [(0, I a), (1, I b)] = some (3, [I a, I b]) := by kernel_rfl
instance (a b : Int) : BS Try.prog 22 2 [(0, I a), (1, I b)] 3 [I a, I b] := ⟨bs_22_2 a b⟩
structure MaD where
  k : Nat
  z : AV
  q : List Int
  G : Hp
theorem sm11 : SmC [1, 1] := ⟨by decide, by decide, fun i hi => by
  have : i = 0 ∨ i = 1 := by simp at hi; omega
  rcases this with rfl | rfl <;> decide, rfl, rfl⟩
theorem made21 (X : Hp) (s : AV) (nums : List Int) [a : EI X s nums] : ACalls Try.prog 21 [s] X (fun r h' => ∃ (z zt : AV) (L : Nat) (ps : List Int) (p : Pc) (M : List Pc), r = .tup [DA z L, zt, B true] ∧ SlC z ∧ SlC zt ∧ Sep X h' (WI z ps :: p :: M) ∧ (∀ h0 L', RC h0 (WI z ps :: p :: L') zt (dcQ L ps)) ∧ dE L ps = 0 ∧ 5 ≤ L ∧ L ≤ 7 ∧ ps.length ≤ 14 ∧ ∀ i, i < ps.length → baseN (ps.getD i 0) < 2 ^ L) := by
  have pss := a.p.sl
  have S0 := Sep.nil X
  have c40 : ∀ Y L' z q, Sep X Y L' → SmC q → EI Y z q → ACalls Try.prog 40 [z, I 7] Y (fun r h' => ∃ (z : AV) (L : Nat) (ps : List Int), r = .tup [DA z L, I 0] ∧ SlC z ∧ Sep X h' (L' ++ [WI z ps]) ∧ dE L ps = 0 ∧ 5 ≤ L ∧ L ≤ 7 ∧ ps.length ≤ 14 ∧ ∀ i, i < ps.length → baseN (ps.getD i 0) < 2 ^ L) := fun Y L' z q S hs a =>
    (of40 (X := Y) z hs).mono fun r h' _ ⟨z, L, ps, h1, h2, h3, h4⟩ => ⟨z, L, ps, h1, h2, S.join h3, h4⟩
  have c10 : ∀ (L : Nat) ps Y L' z, dE L ps = 0 → 5 ≤ L → L ≤ 7 → ps.length ≤ 14 → Sep X Y L' → EI Y z ps → ACalls Try.prog 10 [DA z L] Y (fun r h' => ∃ zt p M, r = .tup [zt, I 0] ∧ SlC zt ∧ Sep X h' (L' ++ (p :: M)) ∧ (∀ h0 L', RC h0 (p :: L') zt (dcQ L ps)) ∧ ((dcQ L ps).length : Int) = 2 ^ L) := fun L ps Y L' z he h5 h7 hl S a => by
    have := of10x Y z L ps (by omega) (by omega)
    rw [he] at this
    exact this.mono fun r h' _ ⟨zt, p, M, h1, h2, h3, h4⟩ => ⟨zt, p, M, h1, h2, S.join h3, h4, by rw [dcQ_n he]; exact (pow_z L).symm⟩
  refine acalls_of_wk hm Try.func21 rfl ?_
  simp only [Try.ntmps21, List.length_cons, List.length_nil, Nat.reduceAdd, Nat.reduceSub, List.reduceReplicate, List.cons_append, List.nil_append]
  show wk _ _ none _ _ ⟨_, []⟩ _
  with_reducible refine s_seq ?_
  with_reducible refine s_reg ?_
  refine salloc ?_
  simp only [pu', p0', c1', c0', i1', n0', n3', n1', n2', a2', a1', a0', n4', Nat.reduceAdd, z0', n5', sa0, sa1, sa2, sa3, sa4, sa5, sa6, sa7, sa8, sa9, sa10, sa11]
  refine sassign ?_
  simp only [pu', p0', c1', c0', i1', z0', b8_nat]
  refine sassign ?_
  simp only [pu', p0', c1', c0', i1', z0', b8_nat]
  with_reducible refine s_end ?_
  with_reducible refine s_then ?_
  with_reducible refine s_seq ?_
  with_reducible refine s_reg ?_
  refine sbsl ?_
  simp only [pu', p0', c1', c0', i1', n0', n3', n1', n2', a2', a1', a0', n4', Nat.reduceAdd, z0', n5', sa0, sa1, sa2, sa3, sa4, sa5, sa6, sa7, sa8, sa9, sa10, sa11]
  refine sassign ?_
  simp only [pu', p0', c1', c0', i1', z0', b8_nat]
  with_reducible refine s_end ?_
  with_reducible refine s_then ?_
  with_reducible refine s_seq ?_
  with_reducible refine s_seq ?_
  with_reducible refine s_reg ?_
  refine sassign ?_
  simp only [pu', p0', c1', c0', i1', z0', b8_nat]
  with_reducible refine s_end ?_
  with_reducible refine s_then ?_
  with_reducible refine s_block ?_
  refine s_loop hm (fun (b : MaD) s' => [s, s' 1, .ptr X.length 0, s' 3, s' 4, b.z, I b.k, s' 7, s' 8, s' 9, s' 10, s' 11, s' 12, s' 13, s' 14, s' 15, s' 16, s' 17, s' 18, s' 19, s' 20, s' 21, s' 22, s' 23, s' 24, s' 25, s' 26, s' 27, s' 28, s' 29, s' 30, s' 31, s' 32, s' 33, s' 34, s' 35, s' 36, s' 37, s' 38, s' 39, s' 40, s' 41, s' 42, s' 43, s' 44, s' 45, s' 46, s' 47, s' 48, s' 49, s' 50, s' 51, s' 52, s' 53, s' 54, s' 55, s' 56]) (fun b => b.G) (fun b => b.k ≤ nums.length ∧ b.k ≤ 12 ∧ SlC b.z ∧ b.q.length = b.k + 2 ∧ SmC b.q ∧ Sep X b.G [WI b.z b.q, pcC X.length (.cells [I 0, nilS] 24 true)]) (fun b => nums.length - b.k) ⟨0, _, [1, 1], _⟩ (by rfl) rfl ⟨Nat.zero_le _, Nat.zero_le _, inferInstance, rfl, sm11, sep_lit (l := [(1 : Int), 1]) (Sep.perm (Sep.lits X [_, _]) (List.perm_append_comm (l₁ := [_]) (l₂ := [_]))) rfl rfl⟩ ?_
  rintro ⟨k, z, q, G⟩ s' ⟨hk, hk12, pz, hql, hq, S1⟩
  simp only [] at hk hk12 pz hql hq S1 ⊢
  have hk0 := Int.emod_nonneg (nums.getD k 0) (show (40 : Int) ≠ 0 by omega)
  have hk1 := Int.emod_lt_of_pos (nums.getD k 0) (show (0 : Int) < 40 by omega)
  have d39 := mod_any (nums.getD k 0) 40 (by omega) (by omega)
  generalize hkk : nums.getD k 0 % 40 = kk at *
  by_cases hc : k < nums.length ∧ k < 12
  · obtain ⟨hc1, hc2⟩ := hc
    focus
      with_reducible refine s_seq ?_
      with_reducible refine s_seq ?_
      with_reducible refine s_reg ?_
      refine smove ?_
      simp only [pu', p0', c1', c0', i1', z0', b8_nat]
      refine smove ?_
      simp only [pu', p0', c1', c0', i1', z0', b8_nat]
      refine slenE ?_
      simp only [pu', p0', c1', c0', i1', z0', b8_nat]
      refine sLt (fun hb => ?_) (fun hb => ?_)
      replace hb := dT' hb
      simp only [pu', p0', c1', c0', i1', z0', b8_nat]
      refine smove ?_
      simp only [pu', p0', c1', c0', i1', z0', b8_nat]
      refine smove ?_
      simp only [pu', p0', c1', c0', i1', z0', b8_nat]
      refine sLt (fun hb => ?_) (fun hb => ?_)
      replace hb := dT' hb
      simp only [pu', p0', c1', c0', i1', z0', b8_nat]
      refine spickT ?_
      simp only [pu', p0', c1', c0', i1', z0', b8_nat]
      with_reducible refine s_end ?_
      with_reducible refine s_then ?_
      refine sCT ?_
      with_reducible refine s_skip ?_
      with_reducible refine s_then ?_
      with_reducible refine s_seq ?_
      with_reducible refine s_block ?_
      with_reducible refine s_reg ?_
      refine smove ?_
      simp only [pu', p0', c1', c0', i1', z0', b8_nat]
      refine smove ?_
      simp only [pu', p0', c1', c0', i1', z0', b8_nat]
      refine smove ?_
      simp only [pu', p0', c1', c0', i1', z0', b8_nat]
      refine sidxE ?_
      simp only [pu', p0', c1', c0', i1', z0', b8_nat]
      refine sloadE1 ?_
      simp only [pu', p0', c1', c0', i1', z0', b8_nat]
      refine sK (hx := rfl) (d39) ?_
      simp only [pu', p0', c1', c0', i1', z0', b8_nat]
      refine sbsl ?_
      simp only [pu', p0', c1', c0', i1', n0', n3', n1', n2', a2', a1', a0', n4', Nat.reduceAdd, z0', n5', sa0, sa1, sa2, sa3, sa4, sa5, sa6, sa7, sa8, sa9, sa10, sa11]
      (refine s_app 0 (l2 := [kk]) (fun z1 Y1 T1 x1 => ?_) inferInstance rfl iok (elts_at (l := [kk]) iok inferInstance rfl) (by simp only [List.length_cons, List.length_nil]; omega) inferInstance inferInstance; simp only [a1', c1', c0'] at T1; have pz1 := T1.sl 0 rfl; simp only [Fr.put, List.set_cons_succ, List.set_cons_zero, Int.toNat_natCast, Nat.zero_add])
      refine sassign ?_
      simp only [pu', p0', c1', c0', i1', z0', b8_nat]
      with_reducible refine s_end ?_
      with_reducible refine s_blkN ?_
      with_reducible refine s_then ?_
      with_reducible refine s_reg ?_
      refine smove ?_
      simp only [pu', p0', c1', c0', i1', z0', b8_nat]
      refine sadd ?_
      simp only [pu', p0', c1', c0', i1', z0', b8_nat]
      refine sassign ?_
      simp only [pu', p0', c1', c0', i1', z0', b8_nat]
      with_reducible refine s_end ?_
      rotate_left 1
      replace hb := dF' hb
      (exfalso; omega)
      replace hb := dF' hb
      (exfalso; omega)
    all_goals
      refine l_next ⟨k + 1, z1, q ++ [kk], _⟩ ⟨by simp only []; omega, by simp only []; omega, pz1, by simp only [List.length_append, List.length_singleton]; omega, ⟨by simp only [List.length_append, List.length_singleton]; omega, by simp only [List.length_append, List.length_singleton]; omega, fun i hi => ?_, ?_, ?_⟩, Sep.sub T1 (by repeat' first | exact List.Sublist.refl _ | exact List.sublist_append_left _ _ | exact List.nil_sublist _ | refine List.Sublist.cons_cons _ ?_ | refine List.Sublist.cons _ ?_ | refine List.Sublist.trans ?_ (List.sublist_append_left _ _))⟩ (by simp only []; omega) (by rfl) rfl
      · simp only [List.length_append, List.length_singleton] at hi ⊢
        rw [List.getD_eq_getElem?_getD]
        by_cases hi' : i < q.length
        · rw [List.getElem?_append_left hi', ← List.getD_eq_getElem?_getD]; exact hq.bd i hi'
        · rw [List.getElem?_append_right (by omega), show i - q.length = 0 by omega]
          simp; omega
      · simp only []
        rw [List.getD_eq_getElem?_getD, List.getElem?_append_left (by omega), ← List.getD_eq_getElem?_getD]; exact hq.c0
      · simp only []
        rw [List.getD_eq_getElem?_getD, List.getElem?_append_left (by omega), ← List.getD_eq_getElem?_getD]; exact hq.c1
  · have hc' : nums.length ≤ k ∨ 12 ≤ k := by omega
    rcases hc' with hc' | hc'
    · with_reducible refine s_seq ?_
      with_reducible refine s_seq ?_
      with_reducible refine s_reg ?_
      refine smove ?_
      simp only [pu', p0', c1', c0', i1', z0', b8_nat]
      refine smove ?_
      simp only [pu', p0', c1', c0', i1', z0', b8_nat]
      refine slenE ?_
      simp only [pu', p0', c1', c0', i1', z0', b8_nat]
      refine sLt (fun hb => ?_) (fun hb => ?_)
      replace hb := dT' hb
      (exfalso; omega)
      replace hb := dF' hb
      simp only [pu', p0', c1', c0', i1', z0', b8_nat]
      refine smove ?_
      simp only [pu', p0', c1', c0', i1', z0', b8_nat]
      (with_reducible refine s_gN ?_ ?_; exact wG rfl rfl rfl rfl rfl)
      simp only [pu', p0', c1', c0', i1', z0', b8_nat]
      (with_reducible refine s_gN ?_ ?_; exact wG rfl rfl rfl rfl rfl)
      simp only [pu', p0', c1', c0', i1', z0', b8_nat]
      refine spickF ?_
      simp only [pu', p0', c1', c0', i1', z0', b8_nat]
      with_reducible refine s_end ?_
      with_reducible refine s_then ?_
      refine sCF ?_
      with_reducible refine s_exit ?_
      with_reducible refine s_thenE ?_
      with_reducible refine l_exit ?_
      with_reducible refine s_blkE ?_
      with_reducible refine s_then ?_
      with_reducible refine s_seq ?_
      with_reducible refine s_reg ?_
      refine smove ?_
      simp only [pu', p0', c1', c0', i1', z0', b8_nat]
      refine sC (hx := rfl) ((c40 _ _ z q inferInstance hq inferInstance).mono ?_)
      rintro _ m40 _ ⟨zd, L, ps, rfl, pzd, T1, hd, h5, h7, hp1, hp2⟩
      simp only [pu', p0', c1', c0', i1', n0', n3', n1', n2', a2', a1', a0', n4', Nat.reduceAdd, z0', n5', sa0, sa1, sa2, sa3, sa4, sa5, sa6, sa7, sa8, sa9, sa10, sa11]
      refine smove ?_
      simp only [pu', p0', c1', c0', i1', z0', b8_nat]
      refine sext ?_
      simp only [pu', p0', c1', c0', i1', z0', b8_nat]
      refine sext ?_
      simp only [pu', p0', c1', c0', i1', z0', b8_nat]
      refine salloc ?_
      simp only [pu', p0', c1', c0', i1', n0', n3', n1', n2', a2', a1', a0', n4', Nat.reduceAdd, z0', n5', sa0, sa1, sa2, sa3, sa4, sa5, sa6, sa7, sa8, sa9, sa10, sa11]
      refine sstoreF ?_
      simp only [pu', p0', c1', c0', i1', n0', n3', n1', n2', a2', a1', a0', n4', Nat.reduceAdd, z0', n5', sa0, sa1, sa2, sa3, sa4, sa5, sa6, sa7, sa8, sa9, sa10, sa11]
      refine sassign ?_
      simp only [pu', p0', c1', c0', i1', z0', b8_nat]
      with_reducible refine s_end ?_
      with_reducible refine s_then ?_
      with_reducible refine s_seq ?_
      with_reducible refine s_reg ?_
      refine sloadW ?_
      simp only [pu', p0', c1', c0', i1', z0', b8_nat]
      refine sC (hx := rfl) ((c10 L ps _ _ zd hd h5 h7 hp1 inferInstance inferInstance).mono ?_)
      rintro _ m10 _ ⟨zt, p, M, rfl, pzt, T2, R2, hlen⟩
      simp only [pu', p0', c1', c0', i1', n0', n3', n1', n2', a2', a1', a0', n4', Nat.reduceAdd, z0', n5', sa0, sa1, sa2, sa3, sa4, sa5, sa6, sa7, sa8, sa9, sa10, sa11]
      refine smove ?_
      simp only [pu', p0', c1', c0', i1', z0', b8_nat]
      refine sext ?_
      simp only [pu', p0', c1', c0', i1', z0', b8_nat]
      refine sext ?_
      simp only [pu', p0', c1', c0', i1', z0', b8_nat]
      refine sassign ?_
      simp only [pu', p0', c1', c0', i1', z0', b8_nat]
      refine sassign ?_
      simp only [pu', p0', c1', c0', i1', z0', b8_nat]
      with_reducible refine s_end ?_
      with_reducible refine s_then ?_
      with_reducible refine s_seq ?_
      (refine s_regT (id := 8) (.light 0 (.light 1 (.light 2 (.light 3 (.light 4 (.light 5 (.light 6 (.light 7 (.light 8 (.light 9 (.light 10 (.light 11 (.light 12 (.light 13 (.light 14 (.light 15 (.light 16 (.alt 17 [0, 8] (.light 18 (.light 19 (.done))) (.no))))))))))))))))))) [17] (by kernel_rfl) (by conv => lhs; simp only [pickT, List.getElem?_cons_succ, List.getElem?_cons_zero]) ?_)
      refine tloadW ?_
      simp only [pu', p0', c1', c0', i1', z0', b8_nat]
      refine tmove ?_
      simp only [pu', p0', c1', c0', i1', z0', b8_nat]
      refine tmove ?_
      simp only [pu', p0', c1', c0', i1', z0', b8_nat]
      refine tEq (fun hb => ?_) (fun hb => ?_)
      replace hb := dT' hb
      simp only [pu', p0', c1', c0', i1', z0', b8_nat]
      refine tmove ?_
      simp only [pu', p0', c1', c0', i1', z0', b8_nat]
      refine tmove ?_
      simp only [pu', p0', c1', c0', i1', z0', b8_nat]
      refine tEq (fun hb => ?_) (fun hb => ?_)
      replace hb := dT' hb
      simp only [pu', p0', c1', c0', i1', z0', b8_nat]
      refine tpickT ?_
      simp only [pu', p0', c1', c0', i1', z0', b8_nat]
      refine tmove ?_
      simp only [pu', p0', c1', c0', i1', z0', b8_nat]
      refine tmove ?_
      simp only [pu', p0', c1', c0', i1', z0', b8_nat]
      refine tlenE ?_
      simp only [pu', p0', c1', c0', i1', z0', b8_nat]
      refine tfad ?_
      simp only [pu', p0', c1', c0', i1', z0', b8_nat]
      refine tload1 ?_
      simp only [pu', p0', c1', c0', i1', z0', b8_nat]
      refine tconv ?_
      simp only [pu', p0', c1', c0', i1', z0', b8_nat]
      refine tshl1 ?_
      simp only [pu', p0', c1', c0', i1', z0', b8_nat]
      refine tEq (fun hb => ?_) (fun hb => ?_)
      replace hb := dT' hb
      simp only [pu', p0', c1', c0', i1', z0', b8_nat]
      refine tpickT ?_
      simp only [pu', p0', c1', c0', i1', z0', b8_nat]
      refine ustoreF ?_
      simp only [pu', p0', c1', c0', i1', n0', n3', n1', n2', a2', a1', a0', n4', Nat.reduceAdd, z0', n5', sa0, sa1, sa2, sa3, sa4, sa5, sa6, sa7, sa8, sa9, sa10, sa11]
      refine tassign ?_
      simp only [pu', p0', c1', c0', i1', z0', b8_nat]
      refine tassign ?_
      simp only [pu', p0', c1', c0', i1', z0', b8_nat]
      with_reducible refine t_end ?_
      with_reducible refine s_then ?_
      with_reducible refine s_ret ?_
      rotate_left 1
      replace hb := dF' hb
      exact absurd (by with_reducible assumption) hb
      replace hb := dF' hb
      exact absurd rfl hb
      replace hb := dF' hb
      exact absurd rfl hb
      all_goals
        all_goals try with_reducible refine w_n ?_
        all_goals refine w_3 rfl (by first | exact v_t (by rfl) | exact v_c1 (C1.p) (by rfl) (HA.p) (by rfl) | exact v_cF (CA.p) (by rfl) (HA.p) (by rfl)) (by first | exact v_t (by rfl) | exact v_c1 (C1.p) (by rfl) (HA.p) (by rfl) | exact v_cF (CA.p) (by rfl) (HA.p) (by rfl)) (by first | exact v_t (by rfl) | exact v_c1 (C1.p) (by rfl) (HA.p) (by rfl) | exact v_cF (CA.p) (by rfl) (HA.p) (by rfl)) ?_
        exact ⟨zd, zt, L, ps, p, M, rfl, pzd, pzt, Sep.sub inferInstance (by repeat' first | exact List.Sublist.refl _ | exact List.sublist_append_left _ _ | exact List.nil_sublist _ | refine List.Sublist.cons_cons _ ?_ | refine List.Sublist.cons _ ?_ | refine List.Sublist.trans ?_ (List.sublist_append_left _ _)), fun h0 L' => (haveI := R2 h0 L'; inferInstance), hd, h5, h7, hp1, hp2⟩
    · with_reducible refine s_seq ?_
      with_reducible refine s_seq ?_
      with_reducible refine s_reg ?_
      refine smove ?_
      simp only [pu', p0', c1', c0', i1', z0', b8_nat]
      refine smove ?_
      simp only [pu', p0', c1', c0', i1', z0', b8_nat]
      refine slenE ?_
      simp only [pu', p0', c1', c0', i1', z0', b8_nat]
      refine sLt (fun hb => ?_) (fun hb => ?_)
      replace hb := dT' hb
      simp only [pu', p0', c1', c0', i1', z0', b8_nat]
      refine smove ?_
      simp only [pu', p0', c1', c0', i1', z0', b8_nat]
      refine smove ?_
      simp only [pu', p0', c1', c0', i1', z0', b8_nat]
      refine sLt (fun hb => ?_) (fun hb => ?_)
      replace hb := dT' hb
      (exfalso; omega)
      replace hb := dF' hb
      simp only [pu', p0', c1', c0', i1', z0', b8_nat]
      refine spickT ?_
      simp only [pu', p0', c1', c0', i1', z0', b8_nat]
      with_reducible refine s_end ?_
      with_reducible refine s_then ?_
      refine sCF ?_
      with_reducible refine s_exit ?_
      with_reducible refine s_thenE ?_
      with_reducible refine l_exit ?_
      with_reducible refine s_blkE ?_
      with_reducible refine s_then ?_
      with_reducible refine s_seq ?_
      with_reducible refine s_reg ?_
      refine smove ?_
      simp only [pu', p0', c1', c0', i1', z0', b8_nat]
      refine sC (hx := rfl) ((c40 _ _ z q inferInstance hq inferInstance).mono ?_)
      rintro _ m40 _ ⟨zd, L, ps, rfl, pzd, T1, hd, h5, h7, hp1, hp2⟩
      simp only [pu', p0', c1', c0', i1', n0', n3', n1', n2', a2', a1', a0', n4', Nat.reduceAdd, z0', n5', sa0, sa1, sa2, sa3, sa4, sa5, sa6, sa7, sa8, sa9, sa10, sa11]
      refine smove ?_
      simp only [pu', p0', c1', c0', i1', z0', b8_nat]
      refine sext ?_
      simp only [pu', p0', c1', c0', i1', z0', b8_nat]
      refine sext ?_
      simp only [pu', p0', c1', c0', i1', z0', b8_nat]
      refine salloc ?_
      simp only [pu', p0', c1', c0', i1', n0', n3', n1', n2', a2', a1', a0', n4', Nat.reduceAdd, z0', n5', sa0, sa1, sa2, sa3, sa4, sa5, sa6, sa7, sa8, sa9, sa10, sa11]
      refine sstoreF ?_
      simp only [pu', p0', c1', c0', i1', n0', n3', n1', n2', a2', a1', a0', n4', Nat.reduceAdd, z0', n5', sa0, sa1, sa2, sa3, sa4, sa5, sa6, sa7, sa8, sa9, sa10, sa11]
      refine sassign ?_
      simp only [pu', p0', c1', c0', i1', z0', b8_nat]
      with_reducible refine s_end ?_
      with_reducible refine s_then ?_
      with_reducible refine s_seq ?_
      with_reducible refine s_reg ?_
      refine sloadW ?_
      simp only [pu', p0', c1', c0', i1', z0', b8_nat]
      refine sC (hx := rfl) ((c10 L ps _ _ zd hd h5 h7 hp1 inferInstance inferInstance).mono ?_)
      rintro _ m10 _ ⟨zt, p, M, rfl, pzt, T2, R2, hlen⟩
      simp only [pu', p0', c1', c0', i1', n0', n3', n1', n2', a2', a1', a0', n4', Nat.reduceAdd, z0', n5', sa0, sa1, sa2, sa3, sa4, sa5, sa6, sa7, sa8, sa9, sa10, sa11]
      refine smove ?_
      simp only [pu', p0', c1', c0', i1', z0', b8_nat]
      refine sext ?_
      simp only [pu', p0', c1', c0', i1', z0', b8_nat]
      refine sext ?_
      simp only [pu', p0', c1', c0', i1', z0', b8_nat]
      refine sassign ?_
      simp only [pu', p0', c1', c0', i1', z0', b8_nat]
      refine sassign ?_
      simp only [pu', p0', c1', c0', i1', z0', b8_nat]
      with_reducible refine s_end ?_
      with_reducible refine s_then ?_
      with_reducible refine s_seq ?_
      (refine s_regT (id := 8) (.light 0 (.light 1 (.light 2 (.light 3 (.light 4 (.light 5 (.light 6 (.light 7 (.light 8 (.light 9 (.light 10 (.light 11 (.light 12 (.light 13 (.light 14 (.light 15 (.light 16 (.alt 17 [0, 8] (.light 18 (.light 19 (.done))) (.no))))))))))))))))))) [17] (by kernel_rfl) (by conv => lhs; simp only [pickT, List.getElem?_cons_succ, List.getElem?_cons_zero]) ?_)
      refine tloadW ?_
      simp only [pu', p0', c1', c0', i1', z0', b8_nat]
      refine tmove ?_
      simp only [pu', p0', c1', c0', i1', z0', b8_nat]
      refine tmove ?_
      simp only [pu', p0', c1', c0', i1', z0', b8_nat]
      refine tEq (fun hb => ?_) (fun hb => ?_)
      replace hb := dT' hb
      simp only [pu', p0', c1', c0', i1', z0', b8_nat]
      refine tmove ?_
      simp only [pu', p0', c1', c0', i1', z0', b8_nat]
      refine tmove ?_
      simp only [pu', p0', c1', c0', i1', z0', b8_nat]
      refine tEq (fun hb => ?_) (fun hb => ?_)
      replace hb := dT' hb
      simp only [pu', p0', c1', c0', i1', z0', b8_nat]
      refine tpickT ?_
      simp only [pu', p0', c1', c0', i1', z0', b8_nat]
      refine tmove ?_
      simp only [pu', p0', c1', c0', i1', z0', b8_nat]
      refine tmove ?_
      simp only [pu', p0', c1', c0', i1', z0', b8_nat]
      refine tlenE ?_
      simp only [pu', p0', c1', c0', i1', z0', b8_nat]
      refine tfad ?_
      simp only [pu', p0', c1', c0', i1', z0', b8_nat]
      refine tload1 ?_
      simp only [pu', p0', c1', c0', i1', z0', b8_nat]
      refine tconv ?_
      simp only [pu', p0', c1', c0', i1', z0', b8_nat]
      refine tshl1 ?_
      simp only [pu', p0', c1', c0', i1', z0', b8_nat]
      refine tEq (fun hb => ?_) (fun hb => ?_)
      replace hb := dT' hb
      simp only [pu', p0', c1', c0', i1', z0', b8_nat]
      refine tpickT ?_
      simp only [pu', p0', c1', c0', i1', z0', b8_nat]
      refine ustoreF ?_
      simp only [pu', p0', c1', c0', i1', n0', n3', n1', n2', a2', a1', a0', n4', Nat.reduceAdd, z0', n5', sa0, sa1, sa2, sa3, sa4, sa5, sa6, sa7, sa8, sa9, sa10, sa11]
      refine tassign ?_
      simp only [pu', p0', c1', c0', i1', z0', b8_nat]
      refine tassign ?_
      simp only [pu', p0', c1', c0', i1', z0', b8_nat]
      with_reducible refine t_end ?_
      with_reducible refine s_then ?_
      with_reducible refine s_ret ?_
      rotate_left 1
      replace hb := dF' hb
      exact absurd (by with_reducible assumption) hb
      replace hb := dF' hb
      exact absurd rfl hb
      replace hb := dF' hb
      exact absurd rfl hb
      replace hb := dF' hb
      simp only [pu', p0', c1', c0', i1', z0', b8_nat]
      refine smove ?_
      simp only [pu', p0', c1', c0', i1', z0', b8_nat]
      (with_reducible refine s_gN ?_ ?_; exact wG rfl rfl rfl rfl rfl)
      simp only [pu', p0', c1', c0', i1', z0', b8_nat]
      (with_reducible refine s_gN ?_ ?_; exact wG rfl rfl rfl rfl rfl)
      simp only [pu', p0', c1', c0', i1', z0', b8_nat]
      refine spickF ?_
      simp only [pu', p0', c1', c0', i1', z0', b8_nat]
      with_reducible refine s_end ?_
      with_reducible refine s_then ?_
      refine sCF ?_
      with_reducible refine s_exit ?_
      with_reducible refine s_thenE ?_
      with_reducible refine l_exit ?_
      with_reducible refine s_blkE ?_
      with_reducible refine s_then ?_
      with_reducible refine s_seq ?_
      with_reducible refine s_reg ?_
      refine smove ?_
      simp only [pu', p0', c1', c0', i1', z0', b8_nat]
      refine sC (hx := rfl) ((c40 _ _ z q inferInstance hq inferInstance).mono ?_)
      rintro _ m40 _ ⟨zd, L, ps, rfl, pzd, T1, hd, h5, h7, hp1, hp2⟩
      simp only [pu', p0', c1', c0', i1', n0', n3', n1', n2', a2', a1', a0', n4', Nat.reduceAdd, z0', n5', sa0, sa1, sa2, sa3, sa4, sa5, sa6, sa7, sa8, sa9, sa10, sa11]
      refine smove ?_
      simp only [pu', p0', c1', c0', i1', z0', b8_nat]
      refine sext ?_
      simp only [pu', p0', c1', c0', i1', z0', b8_nat]
      refine sext ?_
      simp only [pu', p0', c1', c0', i1', z0', b8_nat]
      refine salloc ?_
      simp only [pu', p0', c1', c0', i1', n0', n3', n1', n2', a2', a1', a0', n4', Nat.reduceAdd, z0', n5', sa0, sa1, sa2, sa3, sa4, sa5, sa6, sa7, sa8, sa9, sa10, sa11]
      refine sstoreF ?_
      simp only [pu', p0', c1', c0', i1', n0', n3', n1', n2', a2', a1', a0', n4', Nat.reduceAdd, z0', n5', sa0, sa1, sa2, sa3, sa4, sa5, sa6, sa7, sa8, sa9, sa10, sa11]
      refine sassign ?_
      simp only [pu', p0', c1', c0', i1', z0', b8_nat]
      with_reducible refine s_end ?_
      with_reducible refine s_then ?_
      with_reducible refine s_seq ?_
      with_reducible refine s_reg ?_
      refine sloadW ?_
      simp only [pu', p0', c1', c0', i1', z0', b8_nat]
      refine sC (hx := rfl) ((c10 L ps _ _ zd hd h5 h7 hp1 inferInstance inferInstance).mono ?_)
      rintro _ m10 _ ⟨zt, p, M, rfl, pzt, T2, R2, hlen⟩
      simp only [pu', p0', c1', c0', i1', n0', n3', n1', n2', a2', a1', a0', n4', Nat.reduceAdd, z0', n5', sa0, sa1, sa2, sa3, sa4, sa5, sa6, sa7, sa8, sa9, sa10, sa11]
      refine smove ?_
      simp only [pu', p0', c1', c0', i1', z0', b8_nat]
      refine sext ?_
      simp only [pu', p0', c1', c0', i1', z0', b8_nat]
      refine sext ?_
      simp only [pu', p0', c1', c0', i1', z0', b8_nat]
      refine sassign ?_
      simp only [pu', p0', c1', c0', i1', z0', b8_nat]
      refine sassign ?_
      simp only [pu', p0', c1', c0', i1', z0', b8_nat]
      with_reducible refine s_end ?_
      with_reducible refine s_then ?_
      with_reducible refine s_seq ?_
      (refine s_regT (id := 8) (.light 0 (.light 1 (.light 2 (.light 3 (.light 4 (.light 5 (.light 6 (.light 7 (.light 8 (.light 9 (.light 10 (.light 11 (.light 12 (.light 13 (.light 14 (.light 15 (.light 16 (.alt 17 [0, 8] (.light 18 (.light 19 (.done))) (.no))))))))))))))))))) [17] (by kernel_rfl) (by conv => lhs; simp only [pickT, List.getElem?_cons_succ, List.getElem?_cons_zero]) ?_)
      refine tloadW ?_
      simp only [pu', p0', c1', c0', i1', z0', b8_nat]
      refine tmove ?_
      simp only [pu', p0', c1', c0', i1', z0', b8_nat]
      refine tmove ?_
      simp only [pu', p0', c1', c0', i1', z0', b8_nat]
      refine tEq (fun hb => ?_) (fun hb => ?_)
      replace hb := dT' hb
      simp only [pu', p0', c1', c0', i1', z0', b8_nat]
      refine tmove ?_
      simp only [pu', p0', c1', c0', i1', z0', b8_nat]
      refine tmove ?_
      simp only [pu', p0', c1', c0', i1', z0', b8_nat]
      refine tEq (fun hb => ?_) (fun hb => ?_)
      replace hb := dT' hb
      simp only [pu', p0', c1', c0', i1', z0', b8_nat]
      refine tpickT ?_
      simp only [pu', p0', c1', c0', i1', z0', b8_nat]
      refine tmove ?_
      simp only [pu', p0', c1', c0', i1', z0', b8_nat]
      refine tmove ?_
      simp only [pu', p0', c1', c0', i1', z0', b8_nat]
      refine tlenE ?_
      simp only [pu', p0', c1', c0', i1', z0', b8_nat]
      refine tfad ?_
      simp only [pu', p0', c1', c0', i1', z0', b8_nat]
      refine tload1 ?_
      simp only [pu', p0', c1', c0', i1', z0', b8_nat]
      refine tconv ?_
      simp only [pu', p0', c1', c0', i1', z0', b8_nat]
      refine tshl1 ?_
      simp only [pu', p0', c1', c0', i1', z0', b8_nat]
      refine tEq (fun hb => ?_) (fun hb => ?_)
      replace hb := dT' hb
      simp only [pu', p0', c1', c0', i1', z0', b8_nat]
      refine tpickT ?_
      simp only [pu', p0', c1', c0', i1', z0', b8_nat]
      refine ustoreF ?_
      simp only [pu', p0', c1', c0', i1', n0', n3', n1', n2', a2', a1', a0', n4', Nat.reduceAdd, z0', n5', sa0, sa1, sa2, sa3, sa4, sa5, sa6, sa7, sa8, sa9, sa10, sa11]
      refine tassign ?_
      simp only [pu', p0', c1', c0', i1', z0', b8_nat]
      refine tassign ?_
      simp only [pu', p0', c1', c0', i1', z0', b8_nat]
      with_reducible refine t_end ?_
      with_reducible refine s_then ?_
      with_reducible refine s_ret ?_
      rotate_left 1
      replace hb := dF' hb
      exact absurd (by with_reducible assumption) hb
      replace hb := dF' hb
      exact absurd rfl hb
      replace hb := dF' hb
      exact absurd rfl hb
      all_goals
        all_goals try with_reducible refine w_n ?_
        all_goals refine w_3 rfl (by first | exact v_t (by rfl) | exact v_c1 (C1.p) (by rfl) (HA.p) (by rfl) | exact v_cF (CA.p) (by rfl) (HA.p) (by rfl)) (by first | exact v_t (by rfl) | exact v_c1 (C1.p) (by rfl) (HA.p) (by rfl) | exact v_cF (CA.p) (by rfl) (HA.p) (by rfl)) (by first | exact v_t (by rfl) | exact v_c1 (C1.p) (by rfl) (HA.p) (by rfl) | exact v_cF (CA.p) (by rfl) (HA.p) (by rfl)) ?_
        exact ⟨zd, zt, L, ps, p, M, rfl, pzd, pzt, Sep.sub inferInstance (by repeat' first | exact List.Sublist.refl _ | exact List.sublist_append_left _ _ | exact List.nil_sublist _ | refine List.Sublist.cons_cons _ ?_ | refine List.Sublist.cons _ ?_ | refine List.Sublist.trans ?_ (List.sublist_append_left _ _)), fun h0 L' => (haveI := R2 h0 L'; inferInstance), hd, h5, h7, hp1, hp2⟩
end Go.Proofs.Ytgbddbiimffplaa
