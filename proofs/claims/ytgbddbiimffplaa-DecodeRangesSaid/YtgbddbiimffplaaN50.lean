/-
  A part of the proof of a statement of a chapter's seat; conditions: stated at each theorem.
-/
import Derived.Test.YtgbddbiimffplaaN48
import Derived.Test.YtgbddbiimffplaaN49
set_option linter.unusedVariables false
set_option linter.unusedSectionVars false
set_option linter.unusedSimpArgs false
set_option linter.unusedVariables false
set_option maxRecDepth 100000
set_option maxHeartbeats 8000000
namespace Go.Proofs.Ytgbddbiimffplaa
open Go.Az Go
/-! ### The ranges of a symbol's cells make up all states -/
structure RgA where
  k : Nat
  G : Hp
theorem law5 (h : Hp) (s : AV) (nums : List Int) (hN : Elts (encI .i64) 1 h s nums) : ACalls Try.prog 5 [s] h (fun r _ => r = B true) := by
  have a : EI h s nums := mkEL iok 0 hN
  have pss := a.p.sl
  have S0 := Sep.nil h
  have c4 := law4 h
  have c21 : ∀ Y L', Sep h Y L' → ACalls Try.prog 21 [s] Y (fun r h' => ∃ (z zt : AV) (L : Nat) (ps : List Int) (p : Pc) (M : List Pc), r = .tup [DA z L, zt, B true] ∧ SlC z ∧ SlC zt ∧ Sep h h' (L' ++ [WI z ps, p]) ∧ (∀ h0 L', RC h0 (WI z ps :: p :: L') zt (dcQ L ps)) ∧ dE L ps = 0 ∧ 5 ≤ L ∧ L ≤ 7 ∧ ps.length ≤ 14 ∧ ∀ i, i < ps.length → baseN (ps.getD i 0) < 2 ^ L) := fun Y L' S =>
    (made21 Y s nums).mono fun r h' _ ⟨z, zt, L, ps, p, M, h1, h2, h3, h4, h5⟩ => ⟨z, zt, L, ps, p, M, h1, h2, h3, Sep.sub (S.join h4) (List.Sublist.append_left (((List.nil_sublist M).cons_cons p).cons_cons _) L'), h5⟩
  refine acalls_of_wk hm Try.func5 rfl ?_
  simp only [Try.ntmps5, List.length_cons, List.length_nil, Nat.reduceAdd, Nat.reduceSub, List.reduceReplicate, List.cons_append, List.nil_append]
  show wk _ _ none _ _ ⟨_, []⟩ _
  with_reducible refine s_seq ?_
  with_reducible refine s_reg ?_
  refine sassign ?_
  simp only [pu', p0', c1', c0', i1', z0', b8_nat]
  with_reducible refine s_end ?_
  with_reducible refine s_then ?_
  with_reducible refine s_seq ?_
  with_reducible refine s_reg ?_
  refine sC (hx := rfl) ((c4).mono ?_)
  rintro _ m4 _ ⟨rfl, S1⟩
  simp only [pu', p0', c1', c0', i1', n0', n3', n1', n2', a2', a1', a0', n4', Nat.reduceAdd, z0', n5', sa0, sa1, sa2, sa3, sa4, sa5, sa6, sa7, sa8, sa9, sa10, sa11]
  refine sassign ?_
  simp only [pu', p0', c1', c0', i1', z0', b8_nat]
  with_reducible refine s_end ?_
  with_reducible refine s_then ?_
  with_reducible refine s_seq ?_
  with_reducible refine s_reg ?_
  refine smove ?_
  simp only [pu', p0', c1', c0', i1', z0', b8_nat]
  refine sC (hx := rfl) ((c21 _ _ inferInstance).mono ?_)
  rintro _ m21 _ ⟨z, zt, L, ps, p, M, rfl, pz, pzt, S2, R2, hd, h5, h7, hp1, hp2⟩
  simp only [pu', p0', c1', c0', i1', n0', n3', n1', n2', a2', a1', a0', n4', Nat.reduceAdd, z0', n5', sa0, sa1, sa2, sa3, sa4, sa5, sa6, sa7, sa8, sa9, sa10, sa11]
  refine smove ?_
  simp only [pu', p0', c1', c0', i1', z0', b8_nat]
  refine sext ?_
  simp only [pu', p0', c1', c0', i1', z0', b8_nat]
  refine sext ?_
  simp only [pu', p0', c1', c0', i1', z0', b8_nat]
  refine sext ?_
  simp only [pu', p0', c1', c0', i1', z0', b8_nat]
  refine salloc ?_
  simp only [pu', p0', c1', c0', i1', n0', n3', n1', n2', a2', a1', a0', n4', Nat.reduceAdd, z0', n5', sa0, sa1, sa2, sa3, sa4, sa5, sa6, sa7, sa8, sa9, sa10, sa11]
  refine sstoreF ?_
  simp only [pu', p0', c1', c0', i1', n0', n3', n1', n2', a2', a1', a0', n4', Nat.reduceAdd, z0', n5', sa0, sa1, sa2, sa3, sa4, sa5, sa6, sa7, sa8, sa9, sa10, sa11]
  refine sassign ?_
  simp only [pu', p0', c1', c0', i1', z0', b8_nat]
  refine sassign ?_
  simp only [pu', p0', c1', c0', i1', z0', b8_nat]
  with_reducible refine s_end ?_
  with_reducible refine s_then ?_
  with_reducible refine s_seq ?_
  with_reducible refine s_seq ?_
  with_reducible refine s_reg ?_
  refine smove ?_
  simp only [pu', p0', c1', c0', i1', z0', b8_nat]
  refine snotT ?_
  simp only [pu', p0', c1', c0', i1', z0', b8_nat]
  with_reducible refine s_end ?_
  with_reducible refine s_then ?_
  refine sCF ?_
  with_reducible refine s_skip ?_
  with_reducible refine s_then ?_
  with_reducible refine s_seq ?_
  with_reducible refine s_seq ?_
  with_reducible refine s_reg ?_
  refine sassign ?_
  simp only [pu', p0', c1', c0', i1', z0', b8_nat]
  with_reducible refine s_end ?_
  with_reducible refine s_then ?_
  with_reducible refine s_block ?_
  refine s_loop hm (fun (b : RgA) s' => [s' 0, s' 1, s' 2, B true, .ptr m21.length 0, zt, s' 6, I b.k, s' 8, s' 9, s' 10, s' 11, s' 12, s' 13, s' 14, s' 15, s' 16, s' 17, s' 18, s' 19, s' 20, s' 21, s' 22, s' 23, s' 24, s' 25, s' 26, s' 27, s' 28, s' 29, s' 30, s' 31, s' 32, s' 33, s' 34, s' 35, s' 36, s' 37, s' 38, s' 39, s' 40, s' 41, s' 42, s' 43, s' 44, s' 45, s' 46, s' 47, s' 48, s' 49, s' 50, s' 51, s' 52, s' 53, s' 54, s' 55, s' 56, s' 57, s' 58, s' 59, s' 60, s' 61, s' 62, s' 63, s' 64, s' 65, s' 66, s' 67, s' 68, s' 69, s' 70, s' 71, s' 72, s' 73, s' 74, s' 75, s' 76, s' 77, s' 78, s' 79, s' 80, s' 81, s' 82, s' 83, s' 84, s' 85, s' 86, s' 87, s' 88, s' 89, s' 90, s' 91, s' 92, s' 93, s' 94, s' 95, s' 96, s' 97, s' 98, s' 99, s' 100, s' 101, s' 102, s' 103, s' 104, s' 105, s' 106, s' 107, s' 108, s' 109, s' 110, s' 111, s' 112, s' 113, s' 114, s' 115, s' 116, s' 117, s' 118, s' 119, s' 120, s' 121, s' 122, s' 123, s' 124, s' 125, s' 126, s' 127, s' 128, s' 129, s' 130, s' 131, s' 132, s' 133, s' 134, s' 135]) (fun b => b.G) (fun b => b.k ≤ ps.length ∧ Sep h b.G [WI z ps, p, pcC m21.length (.cells [I L, z] 24 true)]) (fun b => ps.length - b.k) ⟨0, _⟩ (by rfl) rfl ⟨Nat.zero_le _, Sep.sub inferInstance (by repeat' first | exact List.Sublist.refl _ | exact List.sublist_append_left _ _ | exact List.nil_sublist _ | refine List.Sublist.cons_cons _ ?_ | refine List.Sublist.cons _ ?_ | refine List.Sublist.trans ?_ (List.sublist_append_left _ _))⟩ ?_
  have hge := fun k (hk : k < ps.length) => (dE_okN hd).2.2.2.2.2.ge _ (getD_mem hk)
  have hrg := fun k (hk : k < ps.length) i hi hs => rg_of hd hk (hp2 k hk) (i := i) hi hs
  have hen := fun k (hk : k < ps.length) h0 => Pq_end hd hk h0 (hp2 k hk)
  have hms := fun (k i : Nat) p hi hs => Pq_miss (L := L) (T := dcQ L ps) (p := p) (k := k) (i := i) hi hs
  have hTl := dcQ_n hd
  have ez := pow_z L
  have hz : (32 : Int) ≤ 2 ^ L ∧ (2 : Int) ^ L ≤ 128 := by
    have : L = 5 ∨ L = 6 ∨ L = 7 := by omega
    rcases this with rfl | rfl | rfl <;> decide
  have c19 : ∀ i, i < (dcQ L ps).length → (1 : Int) ≤ 2 ^ ((dcQ L ps).getD i ce0).b.toNat → ∀ Y L', Sep h Y L' → EC Y zt (dcQ L ps) → ACalls Try.prog 19 [zt, I i, I 0] Y (fun r h' => r = .tup [I ((dcQ L ps).getD i ce0).x, I 0] ∧ Sep h h' L') := fun i hi hw Y L' S a => by
    have := next19 (h := Y) (s := zt) (t := dcQ L ps) i 0 (by omega)
    rw [nxtQ, if_pos (chk_right hd), if_neg (by rw [Int.toNat_natCast]; omega), Int.toNat_natCast] at this
    exact this.mono fun r h' _ ⟨h1, h2⟩ => ⟨by rw [h1]; simp only [Int.add_zero], dn S h2⟩
  generalize dcQ L ps = T at *
  clear S1 S2
  rintro ⟨k, G⟩ s' ⟨hk, S1⟩
  simp only [] at hk S1 ⊢
  by_cases hkl : k < ps.length
  · by_cases hk0 : ps.getD k 0 = 0
    · with_reducible refine s_seq ?_
      with_reducible refine s_seq ?_
      with_reducible refine s_reg ?_
      refine smove ?_
      simp only [pu', p0', c1', c0', i1', z0', b8_nat]
      refine sfad ?_
      simp only [pu', p0', c1', c0', i1', z0', b8_nat]
      refine sload1 ?_
      simp only [pu', p0', c1', c0', i1', z0', b8_nat]
      refine slenE ?_
      simp only [pu', p0', c1', c0', i1', z0', b8_nat]
      refine sLt (fun hb => ?_) (fun hb => ?_)
      replace hb := dT' hb
      simp only [pu', p0', c1', c0', i1', z0', b8_nat]
      with_reducible refine s_end ?_
      with_reducible refine s_then ?_
      refine sCT ?_
      with_reducible refine s_skip ?_
      with_reducible refine s_then ?_
      with_reducible refine s_seq ?_
      with_reducible refine s_block ?_
      with_reducible refine s_seq ?_
      with_reducible refine s_seq ?_
      with_reducible refine s_reg ?_
      refine sfad ?_
      simp only [pu', p0', c1', c0', i1', z0', b8_nat]
      refine sload1 ?_
      simp only [pu', p0', c1', c0', i1', z0', b8_nat]
      refine smove ?_
      simp only [pu', p0', c1', c0', i1', z0', b8_nat]
      refine sidxE ?_
      simp only [pu', p0', c1', c0', i1', z0', b8_nat]
      refine sloadE1 ?_
      simp only [pu', p0', c1', c0', i1', z0', b8_nat]
      refine sEq (fun hb => ?_) (fun hb => ?_)
      replace hb := dT' hb
      simp only [pu', p0', c1', c0', i1', z0', b8_nat]
      with_reducible refine s_end ?_
      with_reducible refine s_then ?_
      refine sCT ?_
      with_reducible refine s_exit ?_
      with_reducible refine s_thenE ?_
      with_reducible refine s_blkE ?_
      with_reducible refine s_then ?_
      with_reducible refine s_reg ?_
      refine smove ?_
      simp only [pu', p0', c1', c0', i1', z0', b8_nat]
      refine sadd ?_
      simp only [pu', p0', c1', c0', i1', z0', b8_nat]
      refine sassign ?_
      simp only [pu', p0', c1', c0', i1', z0', b8_nat]
      with_reducible refine s_end ?_
      rotate_left 1
      replace hb := dF' hb
      exact absurd (by with_reducible assumption) hb
      replace hb := dF' hb
      (exfalso; omega)
      all_goals
        refine l_next ⟨k + 1, _⟩ ⟨by simp only []; omega, S1⟩ (by simp only []; omega) (by rfl) rfl
    · have hrg := hrg k hkl
      obtain ⟨he1, he2, he3⟩ := hen k hkl hk0
      have hms := fun i hi hs => hms k i (baseN (ps.getD k 0)) hi hs
      generalize baseN (ps.getD k 0) = p0 at *
      have hTi : (T.length : Int) = 2 ^ L := by omega
      focus
        with_reducible refine s_seq ?_
        with_reducible refine s_seq ?_
        with_reducible refine s_reg ?_
        refine smove ?_
        simp only [pu', p0', c1', c0', i1', z0', b8_nat]
        refine sfad ?_
        simp only [pu', p0', c1', c0', i1', z0', b8_nat]
        refine sload1 ?_
        simp only [pu', p0', c1', c0', i1', z0', b8_nat]
        refine slenE ?_
        simp only [pu', p0', c1', c0', i1', z0', b8_nat]
        refine sLt (fun hb => ?_) (fun hb => ?_)
        replace hb := dT' hb
        simp only [pu', p0', c1', c0', i1', z0', b8_nat]
        with_reducible refine s_end ?_
        with_reducible refine s_then ?_
        refine sCT ?_
        with_reducible refine s_skip ?_
        with_reducible refine s_then ?_
        with_reducible refine s_seq ?_
        with_reducible refine s_block ?_
        with_reducible refine s_seq ?_
        with_reducible refine s_seq ?_
        with_reducible refine s_reg ?_
        refine sfad ?_
        simp only [pu', p0', c1', c0', i1', z0', b8_nat]
        refine sload1 ?_
        simp only [pu', p0', c1', c0', i1', z0', b8_nat]
        refine smove ?_
        simp only [pu', p0', c1', c0', i1', z0', b8_nat]
        refine sidxE ?_
        simp only [pu', p0', c1', c0', i1', z0', b8_nat]
        refine sloadE1 ?_
        simp only [pu', p0', c1', c0', i1', z0', b8_nat]
        refine sEq (fun hb => ?_) (fun hb => ?_)
        replace hb := dT' hb
        (exfalso; omega)
        replace hb := dF' hb
        simp only [pu', p0', c1', c0', i1', z0', b8_nat]
        with_reducible refine s_end ?_
        with_reducible refine s_then ?_
        refine sCF ?_
        with_reducible refine s_skip ?_
        with_reducible refine s_then ?_
        with_reducible refine s_seq ?_
        with_reducible refine s_reg ?_
        refine smove ?_
        simp only [pu', p0', c1', c0', i1', z0', b8_nat]
        refine slenE ?_
        simp only [pu', p0', c1', c0', i1', z0', b8_nat]
        (refine s_mks (n := (T.length : Int)) (encI .i64) (0 : Int) (fun zh Y1 pzh T1 => ?_) inferInstance iok inferInstance rfl (by omega) (by omega) (by omega); simp only [Fr.put, List.set_cons_succ, List.set_cons_zero, Int.toNat_natCast, Nat.zero_add])
        refine sassign ?_
        simp only [pu', p0', c1', c0', i1', z0', b8_nat]
        with_reducible refine s_end ?_
        with_reducible refine s_then ?_
        with_reducible refine s_seq ?_
        with_reducible refine s_seq ?_
        with_reducible refine s_reg ?_
        refine sassign ?_
        simp only [pu', p0', c1', c0', i1', z0', b8_nat]
        with_reducible refine s_end ?_
        with_reducible refine s_then ?_
        with_reducible refine s_block ?_
        rotate_left 1
        replace hb := dF' hb
        (exfalso; omega)
      rw [Int.toNat_natCast, ← hit_zero (a := Pq L T p0 k 0) he2] at T1
      refine s_loop hm (fun (b : RgA) s' => [s' 0, s' 1, s' 2, B true, .ptr m21.length 0, zt, s' 6, I k, zh, I b.k, s' 10, s' 11, s' 12, s' 13, s' 14, s' 15, s' 16, s' 17, s' 18, s' 19, s' 20, s' 21, s' 22, s' 23, s' 24, s' 25, s' 26, s' 27, s' 28, s' 29, s' 30, s' 31, s' 32, s' 33, s' 34, s' 35, s' 36, s' 37, s' 38, s' 39, s' 40, s' 41, s' 42, s' 43, s' 44, s' 45, s' 46, s' 47, s' 48, s' 49, s' 50, s' 51, s' 52, s' 53, s' 54, s' 55, s' 56, s' 57, s' 58, s' 59, s' 60, s' 61, s' 62, s' 63, s' 64, s' 65, s' 66, s' 67, s' 68, s' 69, s' 70, s' 71, s' 72, s' 73, s' 74, s' 75, s' 76, s' 77, s' 78, s' 79, s' 80, s' 81, s' 82, s' 83, s' 84, s' 85, s' 86, s' 87, s' 88, s' 89, s' 90, s' 91, s' 92, s' 93, s' 94, s' 95, s' 96, s' 97, s' 98, s' 99, s' 100, s' 101, s' 102, s' 103, s' 104, s' 105, s' 106, s' 107, s' 108, s' 109, s' 110, s' 111, s' 112, s' 113, s' 114, s' 115, s' 116, s' 117, s' 118, s' 119, s' 120, s' 121, s' 122, s' 123, s' 124, s' 125, s' 126, s' 127, s' 128, s' 129, s' 130, s' 131, s' 132, s' 133, s' 134, s' 135]) (fun b => b.G) (fun b => b.k ≤ T.length ∧ Sep h b.G [WI z ps, p, pcC m21.length (.cells [I L, z] 24 true), WI zh (hitL T.length (Pq L T p0 k 0) (Pq L T p0 k b.k))]) (fun b => T.length - b.k) ⟨0, _⟩ (by rfl) rfl ⟨Nat.zero_le _, T1⟩ ?_
      clear T1
      rintro ⟨i, G2⟩ s' ⟨hi, S2⟩
      simp only [] at hi S2 ⊢
      by_cases hil : i < T.length
      · by_cases hs : (T.getD i ce0).s = k
        · have f := hrg i hil hs
          obtain ⟨f1, f2, f3, f4, f5, f6, f7, f8, f9, _⟩ := f
          have c19 := c19 i hil f3
          generalize hP1 : Pq L T p0 k (i + 1) = P1 at *
          generalize Pq L T p0 k i = P0 at *
          generalize Pq L T p0 k 0 = A0 at *
          focus
            with_reducible refine s_seq ?_
            with_reducible refine s_seq ?_
            with_reducible refine s_reg ?_
            refine smove ?_
            simp only [pu', p0', c1', c0', i1', z0', b8_nat]
            refine smove ?_
            simp only [pu', p0', c1', c0', i1', z0', b8_nat]
            refine slenE ?_
            simp only [pu', p0', c1', c0', i1', z0', b8_nat]
            refine sLt (fun hb => ?_) (fun hb => ?_)
            replace hb := dT' hb
            simp only [pu', p0', c1', c0', i1', z0', b8_nat]
            with_reducible refine s_end ?_
            with_reducible refine s_then ?_
            refine sCT ?_
            with_reducible refine s_skip ?_
            with_reducible refine s_then ?_
            with_reducible refine s_seq ?_
            with_reducible refine s_block ?_
            with_reducible refine s_seq ?_
            with_reducible refine s_seq ?_
            with_reducible refine s_reg ?_
            refine smove ?_
            simp only [pu', p0', c1', c0', i1', z0', b8_nat]
            refine smove ?_
            simp only [pu', p0', c1', c0', i1', z0', b8_nat]
            refine sidxE ?_
            simp only [pu', p0', c1', c0', i1', z0', b8_nat]
            refine sfadE ?_
            simp only [pu', p0', c1', c0', i1', z0', b8_nat]
            refine sloadF ?_
            simp only [pu', p0', c1', c0', i1', z0', b8_nat]
            refine smove ?_
            simp only [pu', p0', c1', c0', i1', z0', b8_nat]
            refine sNe (fun hb => ?_) (fun hb => ?_)
            replace hb := dT' hb
            (exfalso; omega)
            replace hb := dF' hb
            simp only [pu', p0', c1', c0', i1', z0', b8_nat]
            with_reducible refine s_end ?_
            with_reducible refine s_then ?_
            refine sCF ?_
            with_reducible refine s_skip ?_
            with_reducible refine s_then ?_
            with_reducible refine s_seq ?_
            with_reducible refine s_seq ?_
            (refine s_regQ (id := 14) [(0, true), (1, true), (2, true), (3, true), (4, true), (5, true), (6, true), (7, true), (8, true), (9, true), (10, true), (11, true), (12, true), (13, true), (14, true), (15, true)] (by kernel_rfl) (by conv => lhs; simp only [pickO, List.getElem?_cons_succ, List.getElem?_cons_zero]) ?_)
            refine qmove ?_
            simp only [pu', p0', c1', c0', i1', z0', b8_nat]
            refine qmove ?_
            simp only [pu', p0', c1', c0', i1', z0', b8_nat]
            refine qidxE ?_
            simp only [pu', p0', c1', c0', i1', z0', b8_nat]
            refine qfadE ?_
            simp only [pu', p0', c1', c0', i1', z0', b8_nat]
            refine qloadF ?_
            simp only [pu', p0', c1', c0', i1', z0', b8_nat]
            refine qLt (fun hb => ?_) (fun hb => ?_)
            replace hb := dT' hb
            (exfalso; omega)
            replace hb := dF' hb
            simp only [pu', p0', c1', c0', i1', z0', b8_nat]
            refine qmove ?_
            simp only [pu', p0', c1', c0', i1', z0', b8_nat]
            refine qmove ?_
            simp only [pu', p0', c1', c0', i1', z0', b8_nat]
            refine qmove ?_
            simp only [pu', p0', c1', c0', i1', z0', b8_nat]
            refine qidxE ?_
            simp only [pu', p0', c1', c0', i1', z0', b8_nat]
            refine qfadE ?_
            simp only [pu', p0', c1', c0', i1', z0', b8_nat]
            refine qloadF ?_
            simp only [pu', p0', c1', c0', i1', z0', b8_nat]
            refine qfad ?_
            simp only [pu', p0', c1', c0', i1', z0', b8_nat]
            refine qload1 ?_
            simp only [pu', p0', c1', c0', i1', z0', b8_nat]
            refine qGt (fun hb => ?_) (fun hb => ?_)
            replace hb := dT' hb
            (exfalso; omega)
            replace hb := dF' hb
            simp only [pu', p0', c1', c0', i1', z0', b8_nat]
            refine qpickF ?_
            simp only [pu', p0', c1', c0', i1', z0', b8_nat]
            with_reducible refine q_end ?_
            with_reducible refine s_then ?_
            refine sCF ?_
            with_reducible refine s_skip ?_
            with_reducible refine s_then ?_
            with_reducible refine s_seq ?_
            with_reducible refine s_reg ?_
            refine sassign ?_
            simp only [pu', p0', c1', c0', i1', z0', b8_nat]
            with_reducible refine s_end ?_
            with_reducible refine s_then ?_
            with_reducible refine s_block ?_
            rotate_left 1
            replace hb := dF' hb
            (exfalso; omega)
          refine s_loop hm (fun (b : RgA) s' => [s' 0, s' 1, s' 2, B true, .ptr m21.length 0, zt, s' 6, I k, zh, I i, I b.k, s' 11, s' 12, s' 13, s' 14, s' 15, s' 16, s' 17, s' 18, s' 19, s' 20, s' 21, s' 22, s' 23, s' 24, s' 25, s' 26, s' 27, s' 28, s' 29, s' 30, s' 31, s' 32, s' 33, s' 34, s' 35, s' 36, s' 37, s' 38, s' 39, s' 40, s' 41, s' 42, s' 43, s' 44, s' 45, s' 46, s' 47, s' 48, s' 49, s' 50, s' 51, s' 52, s' 53, s' 54, s' 55, s' 56, s' 57, s' 58, s' 59, s' 60, s' 61, s' 62, s' 63, s' 64, s' 65, s' 66, s' 67, s' 68, s' 69, s' 70, s' 71, s' 72, s' 73, s' 74, s' 75, s' 76, s' 77, s' 78, s' 79, s' 80, s' 81, s' 82, s' 83, s' 84, s' 85, s' 86, s' 87, s' 88, s' 89, s' 90, s' 91, s' 92, s' 93, s' 94, s' 95, s' 96, s' 97, s' 98, s' 99, s' 100, s' 101, s' 102, s' 103, s' 104, s' 105, s' 106, s' 107, s' 108, s' 109, s' 110, s' 111, s' 112, s' 113, s' 114, s' 115, s' 116, s' 117, s' 118, s' 119, s' 120, s' 121, s' 122, s' 123, s' 124, s' 125, s' 126, s' 127, s' 128, s' 129, s' 130, s' 131, s' 132, s' 133, s' 134, s' 135]) (fun b => b.G) (fun b => (b.k : Int) ≤ 2 ^ (T.getD i ce0).b.toNat ∧ Sep h b.G [WI z ps, p, pcC m21.length (.cells [I L, z] 24 true), WI zh (hitL T.length A0 (P0 + b.k))]) (fun b => (2 ^ (T.getD i ce0).b.toNat : Nat) - b.k) ⟨0, _⟩ (by rfl) rfl ⟨by simp only []; omega, by simp only []; rw [show P0 + ((0 : Nat) : Int) = P0 by omega]; exact S2⟩ ?_
          clear S2
          have ew := pow_z (T.getD i ce0).b.toNat
          rintro ⟨v, G3⟩ s' ⟨hv, S3⟩
          simp only [] at hv S3 ⊢
          by_cases hvl : (v : Int) < 2 ^ (T.getD i ce0).b.toNat
          · have hx0 : 0 ≤ (T.getD i ce0).x ∧ (T.getD i ce0).x + v < 2 ^ L := by rw [f8]; split <;> omega
            obtain ⟨g1, g2, g3⟩ := hit_at (z := T.length) (a := A0) (q := P0 + v) (i := ((T.getD i ce0).x + v).toNat) he2 (by omega) (by omega) (by omega) (by rw [f8] at hx0 ⊢; split <;> split <;> omega)
            have hhl := hit_len T.length A0 (P0 + v)
            by_cases hv0 : v = 0
            · subst hv0
              rw [show (T.getD i ce0).x + ((0 : Nat) : Int) = (T.getD i ce0).x by omega] at g1 g2 g3
              focus
                with_reducible refine s_seq ?_
                with_reducible refine s_seq ?_
                with_reducible refine s_reg ?_
                refine smove ?_
                simp only [pu', p0', c1', c0', i1', z0', b8_nat]
                refine smove ?_
                simp only [pu', p0', c1', c0', i1', z0', b8_nat]
                refine smove ?_
                simp only [pu', p0', c1', c0', i1', z0', b8_nat]
                refine sidxE ?_
                simp only [pu', p0', c1', c0', i1', z0', b8_nat]
                refine sfadE ?_
                simp only [pu', p0', c1', c0', i1', z0', b8_nat]
                refine sloadF ?_
                simp only [pu', p0', c1', c0', i1', z0', b8_nat]
                refine sconv ?_
                simp only [pu', p0', c1', c0', i1', z0', b8_nat]
                refine sshl1 ?_
                simp only [pu', p0', c1', c0', i1', z0', b8_nat]
                refine sLt (fun hb => ?_) (fun hb => ?_)
                replace hb := dT' hb
                simp only [pu', p0', c1', c0', i1', z0', b8_nat]
                with_reducible refine s_end ?_
                with_reducible refine s_then ?_
                refine sCT ?_
                with_reducible refine s_skip ?_
                with_reducible refine s_then ?_
                with_reducible refine s_seq ?_
                with_reducible refine s_block ?_
                with_reducible refine s_seq ?_
                with_reducible refine s_reg ?_
                refine smove ?_
                simp only [pu', p0', c1', c0', i1', z0', b8_nat]
                refine smove ?_
                simp only [pu', p0', c1', c0', i1', z0', b8_nat]
                refine sidxE ?_
                simp only [pu', p0', c1', c0', i1', z0', b8_nat]
                refine sfadE ?_
                simp only [pu', p0', c1', c0', i1', z0', b8_nat]
                refine sloadF ?_
                simp only [pu', p0', c1', c0', i1', z0', b8_nat]
                refine smove ?_
                simp only [pu', p0', c1', c0', i1', z0', b8_nat]
                refine sadd ?_
                simp only [pu', p0', c1', c0', i1', z0', b8_nat]
                refine sassign ?_
                simp only [pu', p0', c1', c0', i1', z0', b8_nat]
                refine sassign ?_
                simp only [pu', p0', c1', c0', i1', z0', b8_nat]
                with_reducible refine s_end ?_
                with_reducible refine s_then ?_
                with_reducible refine s_seq ?_
                with_reducible refine s_seq ?_
                with_reducible refine s_reg ?_
                refine smove ?_
                simp only [pu', p0', c1', c0', i1', z0', b8_nat]
                refine sEq (fun hb => ?_) (fun hb => ?_)
                replace hb := dT' hb
                simp only [pu', p0', c1', c0', i1', z0', b8_nat]
                with_reducible refine s_end ?_
                with_reducible refine s_then ?_
                refine sCT ?_
                with_reducible refine s_reg ?_
                refine smove ?_
                simp only [pu', p0', c1', c0', i1', z0', b8_nat]
                refine smove ?_
                simp only [pu', p0', c1', c0', i1', z0', b8_nat]
                refine smove ?_
                simp only [pu', p0', c1', c0', i1', z0', b8_nat]
                refine sC (hx := rfl) ((c19 _ _ inferInstance inferInstance).mono ?_)
                rintro _ m19 _ ⟨rfl, S4⟩
                simp only [pu', p0', c1', c0', i1', n0', n3', n1', n2', a2', a1', a0', n4', Nat.reduceAdd, z0', n5', sa0, sa1, sa2, sa3, sa4, sa5, sa6, sa7, sa8, sa9, sa10, sa11]
                refine smove ?_
                simp only [pu', p0', c1', c0', i1', z0', b8_nat]
                refine sext ?_
                simp only [pu', p0', c1', c0', i1', z0', b8_nat]
                refine sext ?_
                simp only [pu', p0', c1', c0', i1', z0', b8_nat]
                refine sassign ?_
                simp only [pu', p0', c1', c0', i1', z0', b8_nat]
                refine sassign ?_
                simp only [pu', p0', c1', c0', i1', z0', b8_nat]
                with_reducible refine s_end ?_
                with_reducible refine s_then ?_
                with_reducible refine s_seq ?_
                with_reducible refine s_seq ?_
                with_reducible refine s_reg ?_
                refine smove ?_
                simp only [pu', p0', c1', c0', i1', z0', b8_nat]
                refine sNe (fun hb => ?_) (fun hb => ?_)
                replace hb := dT' hb
                (exfalso; omega)
                replace hb := dF' hb
                simp only [pu', p0', c1', c0', i1', z0', b8_nat]
                refine smove ?_
                simp only [pu', p0', c1', c0', i1', z0', b8_nat]
                refine smove ?_
                simp only [pu', p0', c1', c0', i1', z0', b8_nat]
                refine sLt (fun hb => ?_) (fun hb => ?_)
                replace hb := dT' hb
                (exfalso; omega)
                replace hb := dF' hb
                simp only [pu', p0', c1', c0', i1', z0', b8_nat]
                refine spickF ?_
                simp only [pu', p0', c1', c0', i1', z0', b8_nat]
                refine smove ?_
                simp only [pu', p0', c1', c0', i1', z0', b8_nat]
                refine smove ?_
                simp only [pu', p0', c1', c0', i1', z0', b8_nat]
                refine smove ?_
                simp only [pu', p0', c1', c0', i1', z0', b8_nat]
                refine slenE ?_
                simp only [pu', p0', c1', c0', i1', z0', b8_nat]
                refine sGe (fun hb => ?_) (fun hb => ?_)
                replace hb := dT' hb
                (exfalso; omega)
                replace hb := dF' hb
                simp only [pu', p0', c1', c0', i1', z0', b8_nat]
                refine spickF ?_
                simp only [pu', p0', c1', c0', i1', z0', b8_nat]
                refine smove ?_
                simp only [pu', p0', c1', c0', i1', z0', b8_nat]
                refine smove ?_
                simp only [pu', p0', c1', c0', i1', z0', b8_nat]
                refine smove ?_
                simp only [pu', p0', c1', c0', i1', z0', b8_nat]
                refine smove ?_
                simp only [pu', p0', c1', c0', i1', z0', b8_nat]
                refine sidxE ?_
                simp only [pu', p0', c1', c0', i1', z0', b8_nat]
                refine sfadE ?_
                simp only [pu', p0', c1', c0', i1', z0', b8_nat]
                refine sloadF ?_
                simp only [pu', p0', c1', c0', i1', z0', b8_nat]
                refine smove ?_
                simp only [pu', p0', c1', c0', i1', z0', b8_nat]
                refine sadd ?_
                simp only [pu', p0', c1', c0', i1', z0', b8_nat]
                refine sNe (fun hb => ?_) (fun hb => ?_)
                replace hb := dT' hb
                (exfalso; omega)
                replace hb := dF' hb
                simp only [pu', p0', c1', c0', i1', z0', b8_nat]
                refine spickF ?_
                simp only [pu', p0', c1', c0', i1', z0', b8_nat]
                with_reducible refine s_end ?_
                with_reducible refine s_then ?_
                refine sCF ?_
                with_reducible refine s_skip ?_
                with_reducible refine s_then ?_
                with_reducible refine s_reg ?_
                refine smove ?_
                simp only [pu', p0', c1', c0', i1', z0', b8_nat]
                refine smove ?_
                simp only [pu', p0', c1', c0', i1', z0', b8_nat]
                refine sidxE ?_
                simp only [pu', p0', c1', c0', i1', z0', b8_nat]
                refine sloadE1 ?_
                simp only [pu', p0', c1', c0', i1', z0', b8_nat]
                refine sadd ?_
                simp only [pu', p0', c1', c0', i1', z0', b8_nat]
                refine sidxE ?_
                simp only [pu', p0', c1', c0', i1', z0', b8_nat]
                (refine s_stE (x := (T.getD i ce0).x) 3 ((hitL T.length A0 (P0 + ((0 : Nat) : Int))).getD (T.getD i ce0).x.toNat 0 + 1) (0 : Int) (fun Y2 T2 => ?_) inferInstance rfl iok inferInstance (by omega) (by omega) (by rfl) inferInstance; simp only [a1', c1', c0'] at T2; simp only [Fr.put, List.set_cons_succ, List.set_cons_zero, Int.toNat_natCast, Nat.zero_add])
                with_reducible refine s_end ?_
                with_reducible refine s_blkN ?_
                with_reducible refine s_then ?_
                with_reducible refine s_reg ?_
                refine smove ?_
                simp only [pu', p0', c1', c0', i1', z0', b8_nat]
                refine sadd ?_
                simp only [pu', p0', c1', c0', i1', z0', b8_nat]
                refine sassign ?_
                simp only [pu', p0', c1', c0', i1', z0', b8_nat]
                with_reducible refine s_end ?_
                rotate_left 1
                replace hb := dF' hb
                exact absurd rfl hb
                replace hb := dF' hb
                exact absurd (by with_reducible assumption) hb
              all_goals
                rw [g2, Int.zero_add, g3] at T2
                refine l_next ⟨0 + 1, _⟩ ⟨by simp only []; omega, by simp only []; rw [show P0 + ((0 + 1 : Nat) : Int) = P0 + ((0 : Nat) : Int) + 1 by omega]; exact Sep.sub T2 (by repeat' first | exact List.Sublist.refl _ | exact List.sublist_append_left _ _ | exact List.nil_sublist _ | refine List.Sublist.cons_cons _ ?_ | refine List.Sublist.cons _ ?_ | refine List.Sublist.trans ?_ (List.sublist_append_left _ _))⟩ (by simp only []; omega) (by rfl) rfl
            · with_reducible refine s_seq ?_
              with_reducible refine s_seq ?_
              with_reducible refine s_reg ?_
              refine smove ?_
              simp only [pu', p0', c1', c0', i1', z0', b8_nat]
              refine smove ?_
              simp only [pu', p0', c1', c0', i1', z0', b8_nat]
              refine smove ?_
              simp only [pu', p0', c1', c0', i1', z0', b8_nat]
              refine sidxE ?_
              simp only [pu', p0', c1', c0', i1', z0', b8_nat]
              refine sfadE ?_
              simp only [pu', p0', c1', c0', i1', z0', b8_nat]
              refine sloadF ?_
              simp only [pu', p0', c1', c0', i1', z0', b8_nat]
              refine sconv ?_
              simp only [pu', p0', c1', c0', i1', z0', b8_nat]
              refine sshl1 ?_
              simp only [pu', p0', c1', c0', i1', z0', b8_nat]
              refine sLt (fun hb => ?_) (fun hb => ?_)
              replace hb := dT' hb
              simp only [pu', p0', c1', c0', i1', z0', b8_nat]
              with_reducible refine s_end ?_
              with_reducible refine s_then ?_
              refine sCT ?_
              with_reducible refine s_skip ?_
              with_reducible refine s_then ?_
              with_reducible refine s_seq ?_
              with_reducible refine s_block ?_
              with_reducible refine s_seq ?_
              with_reducible refine s_reg ?_
              refine smove ?_
              simp only [pu', p0', c1', c0', i1', z0', b8_nat]
              refine smove ?_
              simp only [pu', p0', c1', c0', i1', z0', b8_nat]
              refine sidxE ?_
              simp only [pu', p0', c1', c0', i1', z0', b8_nat]
              refine sfadE ?_
              simp only [pu', p0', c1', c0', i1', z0', b8_nat]
              refine sloadF ?_
              simp only [pu', p0', c1', c0', i1', z0', b8_nat]
              refine smove ?_
              simp only [pu', p0', c1', c0', i1', z0', b8_nat]
              refine sadd ?_
              simp only [pu', p0', c1', c0', i1', z0', b8_nat]
              refine sassign ?_
              simp only [pu', p0', c1', c0', i1', z0', b8_nat]
              refine sassign ?_
              simp only [pu', p0', c1', c0', i1', z0', b8_nat]
              with_reducible refine s_end ?_
              with_reducible refine s_then ?_
              with_reducible refine s_seq ?_
              with_reducible refine s_seq ?_
              with_reducible refine s_reg ?_
              refine smove ?_
              simp only [pu', p0', c1', c0', i1', z0', b8_nat]
              refine sEq (fun hb => ?_) (fun hb => ?_)
              replace hb := dT' hb
              (exfalso; omega)
              replace hb := dF' hb
              simp only [pu', p0', c1', c0', i1', z0', b8_nat]
              with_reducible refine s_end ?_
              with_reducible refine s_then ?_
              refine sCF ?_
              with_reducible refine s_skip ?_
              with_reducible refine s_then ?_
              with_reducible refine s_seq ?_
              with_reducible refine s_seq ?_
              with_reducible refine s_reg ?_
              refine smove ?_
              simp only [pu', p0', c1', c0', i1', z0', b8_nat]
              refine sNe (fun hb => ?_) (fun hb => ?_)
              replace hb := dT' hb
              (exfalso; omega)
              replace hb := dF' hb
              simp only [pu', p0', c1', c0', i1', z0', b8_nat]
              refine smove ?_
              simp only [pu', p0', c1', c0', i1', z0', b8_nat]
              refine smove ?_
              simp only [pu', p0', c1', c0', i1', z0', b8_nat]
              refine sLt (fun hb => ?_) (fun hb => ?_)
              replace hb := dT' hb
              (exfalso; omega)
              replace hb := dF' hb
              simp only [pu', p0', c1', c0', i1', z0', b8_nat]
              refine spickF ?_
              simp only [pu', p0', c1', c0', i1', z0', b8_nat]
              refine smove ?_
              simp only [pu', p0', c1', c0', i1', z0', b8_nat]
              refine smove ?_
              simp only [pu', p0', c1', c0', i1', z0', b8_nat]
              refine smove ?_
              simp only [pu', p0', c1', c0', i1', z0', b8_nat]
              refine slenE ?_
              simp only [pu', p0', c1', c0', i1', z0', b8_nat]
              refine sGe (fun hb => ?_) (fun hb => ?_)
              replace hb := dT' hb
              (exfalso; omega)
              replace hb := dF' hb
              simp only [pu', p0', c1', c0', i1', z0', b8_nat]
              refine spickF ?_
              simp only [pu', p0', c1', c0', i1', z0', b8_nat]
              refine smove ?_
              simp only [pu', p0', c1', c0', i1', z0', b8_nat]
              refine smove ?_
              simp only [pu', p0', c1', c0', i1', z0', b8_nat]
              refine smove ?_
              simp only [pu', p0', c1', c0', i1', z0', b8_nat]
              refine smove ?_
              simp only [pu', p0', c1', c0', i1', z0', b8_nat]
              refine sidxE ?_
              simp only [pu', p0', c1', c0', i1', z0', b8_nat]
              refine sfadE ?_
              simp only [pu', p0', c1', c0', i1', z0', b8_nat]
              refine sloadF ?_
              simp only [pu', p0', c1', c0', i1', z0', b8_nat]
              refine smove ?_
              simp only [pu', p0', c1', c0', i1', z0', b8_nat]
              refine sadd ?_
              simp only [pu', p0', c1', c0', i1', z0', b8_nat]
              refine sNe (fun hb => ?_) (fun hb => ?_)
              replace hb := dT' hb
              (exfalso; omega)
              replace hb := dF' hb
              simp only [pu', p0', c1', c0', i1', z0', b8_nat]
              refine spickF ?_
              simp only [pu', p0', c1', c0', i1', z0', b8_nat]
              with_reducible refine s_end ?_
              with_reducible refine s_then ?_
              refine sCF ?_
              with_reducible refine s_skip ?_
              with_reducible refine s_then ?_
              with_reducible refine s_reg ?_
              refine smove ?_
              simp only [pu', p0', c1', c0', i1', z0', b8_nat]
              refine smove ?_
              simp only [pu', p0', c1', c0', i1', z0', b8_nat]
              refine sidxE ?_
              simp only [pu', p0', c1', c0', i1', z0', b8_nat]
              refine sloadE1 ?_
              simp only [pu', p0', c1', c0', i1', z0', b8_nat]
              refine sadd ?_
              simp only [pu', p0', c1', c0', i1', z0', b8_nat]
              refine sidxE ?_
              simp only [pu', p0', c1', c0', i1', z0', b8_nat]
              (refine s_stE (x := (T.getD i ce0).x + v) 3 ((hitL T.length A0 (P0 + v)).getD ((T.getD i ce0).x + v).toNat 0 + 1) (0 : Int) (fun Y2 T2 => ?_) inferInstance rfl iok inferInstance (by omega) (by omega) (by rfl) inferInstance; simp only [a1', c1', c0'] at T2; simp only [Fr.put, List.set_cons_succ, List.set_cons_zero, Int.toNat_natCast, Nat.zero_add])
              with_reducible refine s_end ?_
              with_reducible refine s_blkN ?_
              with_reducible refine s_then ?_
              with_reducible refine s_reg ?_
              refine smove ?_
              simp only [pu', p0', c1', c0', i1', z0', b8_nat]
              refine sadd ?_
              simp only [pu', p0', c1', c0', i1', z0', b8_nat]
              refine sassign ?_
              simp only [pu', p0', c1', c0', i1', z0', b8_nat]
              with_reducible refine s_end ?_
              rotate_left 1
              replace hb := dF' hb
              exact absurd (by with_reducible assumption) hb
              all_goals
                rw [g2, Int.zero_add, g3] at T2
                refine l_next ⟨v + 1, _⟩ ⟨by simp only []; omega, by simp only []; rw [show P0 + ((v + 1 : Nat) : Int) = P0 + v + 1 by omega]; exact Sep.sub T2 (by repeat' first | exact List.Sublist.refl _ | exact List.sublist_append_left _ _ | exact List.nil_sublist _ | refine List.Sublist.cons_cons _ ?_ | refine List.Sublist.cons _ ?_ | refine List.Sublist.trans ?_ (List.sublist_append_left _ _))⟩ (by simp only []; omega) (by rfl) rfl
          · have hve : (v : Int) = 2 ^ (T.getD i ce0).b.toNat := by omega
            rw [hve, ← f6] at S3
            with_reducible refine s_seq ?_
            with_reducible refine s_seq ?_
            with_reducible refine s_reg ?_
            refine smove ?_
            simp only [pu', p0', c1', c0', i1', z0', b8_nat]
            refine smove ?_
            simp only [pu', p0', c1', c0', i1', z0', b8_nat]
            refine smove ?_
            simp only [pu', p0', c1', c0', i1', z0', b8_nat]
            refine sidxE ?_
            simp only [pu', p0', c1', c0', i1', z0', b8_nat]
            refine sfadE ?_
            simp only [pu', p0', c1', c0', i1', z0', b8_nat]
            refine sloadF ?_
            simp only [pu', p0', c1', c0', i1', z0', b8_nat]
            refine sconv ?_
            simp only [pu', p0', c1', c0', i1', z0', b8_nat]
            refine sshl1 ?_
            simp only [pu', p0', c1', c0', i1', z0', b8_nat]
            refine sLt (fun hb => ?_) (fun hb => ?_)
            replace hb := dT' hb
            (exfalso; omega)
            replace hb := dF' hb
            simp only [pu', p0', c1', c0', i1', z0', b8_nat]
            with_reducible refine s_end ?_
            with_reducible refine s_then ?_
            refine sCF ?_
            with_reducible refine s_exit ?_
            with_reducible refine s_thenE ?_
            with_reducible refine l_exit ?_
            with_reducible refine s_blkE ?_
            with_reducible refine s_blkN ?_
            with_reducible refine s_then ?_
            with_reducible refine s_reg ?_
            refine smove ?_
            simp only [pu', p0', c1', c0', i1', z0', b8_nat]
            refine sadd ?_
            simp only [pu', p0', c1', c0', i1', z0', b8_nat]
            refine sassign ?_
            simp only [pu', p0', c1', c0', i1', z0', b8_nat]
            with_reducible refine s_end ?_
            all_goals
              refine l_next ⟨i + 1, _⟩ ⟨by simp only []; omega, by simp only []; rw [hP1]; exact S3⟩ (by simp only []; omega) (by rfl) rfl
        · have hms := hms i hil hs
          focus
            with_reducible refine s_seq ?_
            with_reducible refine s_seq ?_
            with_reducible refine s_reg ?_
            refine smove ?_
            simp only [pu', p0', c1', c0', i1', z0', b8_nat]
            refine smove ?_
            simp only [pu', p0', c1', c0', i1', z0', b8_nat]
            refine slenE ?_
            simp only [pu', p0', c1', c0', i1', z0', b8_nat]
            refine sLt (fun hb => ?_) (fun hb => ?_)
            replace hb := dT' hb
            simp only [pu', p0', c1', c0', i1', z0', b8_nat]
            with_reducible refine s_end ?_
            with_reducible refine s_then ?_
            refine sCT ?_
            with_reducible refine s_skip ?_
            with_reducible refine s_then ?_
            with_reducible refine s_seq ?_
            with_reducible refine s_block ?_
            with_reducible refine s_seq ?_
            with_reducible refine s_seq ?_
            with_reducible refine s_reg ?_
            refine smove ?_
            simp only [pu', p0', c1', c0', i1', z0', b8_nat]
            refine smove ?_
            simp only [pu', p0', c1', c0', i1', z0', b8_nat]
            refine sidxE ?_
            simp only [pu', p0', c1', c0', i1', z0', b8_nat]
            refine sfadE ?_
            simp only [pu', p0', c1', c0', i1', z0', b8_nat]
            refine sloadF ?_
            simp only [pu', p0', c1', c0', i1', z0', b8_nat]
            refine smove ?_
            simp only [pu', p0', c1', c0', i1', z0', b8_nat]
            refine sNe (fun hb => ?_) (fun hb => ?_)
            replace hb := dT' hb
            simp only [pu', p0', c1', c0', i1', z0', b8_nat]
            with_reducible refine s_end ?_
            with_reducible refine s_then ?_
            refine sCT ?_
            with_reducible refine s_exit ?_
            with_reducible refine s_thenE ?_
            with_reducible refine s_blkE ?_
            with_reducible refine s_then ?_
            with_reducible refine s_reg ?_
            refine smove ?_
            simp only [pu', p0', c1', c0', i1', z0', b8_nat]
            refine sadd ?_
            simp only [pu', p0', c1', c0', i1', z0', b8_nat]
            refine sassign ?_
            simp only [pu', p0', c1', c0', i1', z0', b8_nat]
            with_reducible refine s_end ?_
            rotate_left 1
            replace hb := dF' hb
            exact absurd (by with_reducible assumption) hb
            replace hb := dF' hb
            (exfalso; omega)
          all_goals
            refine l_next ⟨i + 1, _⟩ ⟨by simp only []; omega, by simp only []; rw [hms]; exact S2⟩ (by simp only []; omega) (by rfl) rfl
      · have hie : i = T.length := by omega
        subst hie
        rw [he1] at S2
        with_reducible refine s_seq ?_
        with_reducible refine s_seq ?_
        with_reducible refine s_reg ?_
        refine smove ?_
        simp only [pu', p0', c1', c0', i1', z0', b8_nat]
        refine smove ?_
        simp only [pu', p0', c1', c0', i1', z0', b8_nat]
        refine slenE ?_
        simp only [pu', p0', c1', c0', i1', z0', b8_nat]
        refine sLt (fun hb => ?_) (fun hb => ?_)
        replace hb := dT' hb
        (exfalso; omega)
        replace hb := dF' hb
        simp only [pu', p0', c1', c0', i1', z0', b8_nat]
        with_reducible refine s_end ?_
        with_reducible refine s_then ?_
        refine sCF ?_
        with_reducible refine s_exit ?_
        with_reducible refine s_thenE ?_
        with_reducible refine l_exit ?_
        with_reducible refine s_blkE ?_
        with_reducible refine s_then ?_
        with_reducible refine s_seq ?_
        with_reducible refine s_reg ?_
        refine sassign ?_
        simp only [pu', p0', c1', c0', i1', z0', b8_nat]
        with_reducible refine s_end ?_
        with_reducible refine s_then ?_
        with_reducible refine s_block ?_
        refine s_loop hm (fun (b : Nat) s' => [s' 0, s' 1, s' 2, B true, .ptr m21.length 0, zt, s' 6, I k, zh, s' 9, s' 10, s' 11, s' 12, I b, s' 14, s' 15, s' 16, s' 17, s' 18, s' 19, s' 20, s' 21, s' 22, s' 23, s' 24, s' 25, s' 26, s' 27, s' 28, s' 29, s' 30, s' 31, s' 32, s' 33, s' 34, s' 35, s' 36, s' 37, s' 38, s' 39, s' 40, s' 41, s' 42, s' 43, s' 44, s' 45, s' 46, s' 47, s' 48, s' 49, s' 50, s' 51, s' 52, s' 53, s' 54, s' 55, s' 56, s' 57, s' 58, s' 59, s' 60, s' 61, s' 62, s' 63, s' 64, s' 65, s' 66, s' 67, s' 68, s' 69, s' 70, s' 71, s' 72, s' 73, s' 74, s' 75, s' 76, s' 77, s' 78, s' 79, s' 80, s' 81, s' 82, s' 83, s' 84, s' 85, s' 86, s' 87, s' 88, s' 89, s' 90, s' 91, s' 92, s' 93, s' 94, s' 95, s' 96, s' 97, s' 98, s' 99, s' 100, s' 101, s' 102, s' 103, s' 104, s' 105, s' 106, s' 107, s' 108, s' 109, s' 110, s' 111, s' 112, s' 113, s' 114, s' 115, s' 116, s' 117, s' 118, s' 119, s' 120, s' 121, s' 122, s' 123, s' 124, s' 125, s' 126, s' 127, s' 128, s' 129, s' 130, s' 131, s' 132, s' 133, s' 134, s' 135]) (fun b => G2) (fun b => b ≤ T.length) (fun b => T.length - b) 0 (by rfl) rfl (Nat.zero_le _) ?_
        intro j s' hj
        have hhl := hit_len T.length (Pq L T p0 k 0) (Pq L T p0 k 0 + 2 ^ L)
        by_cases hjl : j < T.length
        · have hone := hit_end (a := Pq L T p0 k 0) he2 (by omega) hjl
          rw [hTi] at hone
          focus
            with_reducible refine s_seq ?_
            with_reducible refine s_seq ?_
            with_reducible refine s_reg ?_
            refine smove ?_
            simp only [pu', p0', c1', c0', i1', z0', b8_nat]
            refine smove ?_
            simp only [pu', p0', c1', c0', i1', z0', b8_nat]
            refine slenE ?_
            simp only [pu', p0', c1', c0', i1', z0', b8_nat]
            refine sLt (fun hb => ?_) (fun hb => ?_)
            replace hb := dT' hb
            simp only [pu', p0', c1', c0', i1', z0', b8_nat]
            with_reducible refine s_end ?_
            with_reducible refine s_then ?_
            refine sCT ?_
            with_reducible refine s_skip ?_
            with_reducible refine s_then ?_
            with_reducible refine s_seq ?_
            with_reducible refine s_block ?_
            with_reducible refine s_seq ?_
            with_reducible refine s_reg ?_
            refine smove ?_
            simp only [pu', p0', c1', c0', i1', z0', b8_nat]
            refine smove ?_
            simp only [pu', p0', c1', c0', i1', z0', b8_nat]
            refine sidxE ?_
            simp only [pu', p0', c1', c0', i1', z0', b8_nat]
            refine sloadE1 ?_
            simp only [pu', p0', c1', c0', i1', z0', b8_nat]
            refine sNe (fun hb => ?_) (fun hb => ?_)
            replace hb := dT' hb
            (exfalso; omega)
            replace hb := dF' hb
            simp only [pu', p0', c1', c0', i1', z0', b8_nat]
            with_reducible refine s_end ?_
            with_reducible refine s_then ?_
            refine sCF ?_
            with_reducible refine s_skip ?_
            with_reducible refine s_blkN ?_
            with_reducible refine s_then ?_
            with_reducible refine s_reg ?_
            refine smove ?_
            simp only [pu', p0', c1', c0', i1', z0', b8_nat]
            refine sadd ?_
            simp only [pu', p0', c1', c0', i1', z0', b8_nat]
            refine sassign ?_
            simp only [pu', p0', c1', c0', i1', z0', b8_nat]
            with_reducible refine s_end ?_
            rotate_left 1
            replace hb := dF' hb
            (exfalso; omega)
          all_goals
            refine l_next (j + 1) (by omega) (by omega) (by rfl) rfl
        · with_reducible refine s_seq ?_
          with_reducible refine s_seq ?_
          with_reducible refine s_reg ?_
          refine smove ?_
          simp only [pu', p0', c1', c0', i1', z0', b8_nat]
          refine smove ?_
          simp only [pu', p0', c1', c0', i1', z0', b8_nat]
          refine slenE ?_
          simp only [pu', p0', c1', c0', i1', z0', b8_nat]
          refine sLt (fun hb => ?_) (fun hb => ?_)
          replace hb := dT' hb
          (exfalso; omega)
          replace hb := dF' hb
          simp only [pu', p0', c1', c0', i1', z0', b8_nat]
          with_reducible refine s_end ?_
          with_reducible refine s_then ?_
          refine sCF ?_
          with_reducible refine s_exit ?_
          with_reducible refine s_thenE ?_
          with_reducible refine l_exit ?_
          with_reducible refine s_blkE ?_
          with_reducible refine s_blkN ?_
          with_reducible refine s_then ?_
          with_reducible refine s_reg ?_
          refine smove ?_
          simp only [pu', p0', c1', c0', i1', z0', b8_nat]
          refine sadd ?_
          simp only [pu', p0', c1', c0', i1', z0', b8_nat]
          refine sassign ?_
          simp only [pu', p0', c1', c0', i1', z0', b8_nat]
          with_reducible refine s_end ?_
          all_goals
            refine l_next ⟨k + 1, _⟩ ⟨by simp only []; omega, Sep.sub S2 (by repeat' first | exact List.Sublist.refl _ | exact List.sublist_append_left _ _ | exact List.nil_sublist _ | refine List.Sublist.cons_cons _ ?_ | refine List.Sublist.cons _ ?_ | refine List.Sublist.trans ?_ (List.sublist_append_left _ _))⟩ (by simp only []; omega) (by rfl) rfl
  · with_reducible refine s_seq ?_
    with_reducible refine s_seq ?_
    with_reducible refine s_reg ?_
    refine smove ?_
    simp only [pu', p0', c1', c0', i1', z0', b8_nat]
    refine sfad ?_
    simp only [pu', p0', c1', c0', i1', z0', b8_nat]
    refine sload1 ?_
    simp only [pu', p0', c1', c0', i1', z0', b8_nat]
    refine slenE ?_
    simp only [pu', p0', c1', c0', i1', z0', b8_nat]
    refine sLt (fun hb => ?_) (fun hb => ?_)
    replace hb := dT' hb
    (exfalso; omega)
    replace hb := dF' hb
    simp only [pu', p0', c1', c0', i1', z0', b8_nat]
    with_reducible refine s_end ?_
    with_reducible refine s_then ?_
    refine sCF ?_
    with_reducible refine s_exit ?_
    with_reducible refine s_thenE ?_
    with_reducible refine l_exit ?_
    with_reducible refine s_blkE ?_
    with_reducible refine s_then ?_
    with_reducible refine s_seq ?_
    with_reducible refine s_reg ?_
    refine smove ?_
    simp only [pu', p0', c1', c0', i1', z0', b8_nat]
    refine sassign ?_
    simp only [pu', p0', c1', c0', i1', z0', b8_nat]
    with_reducible refine s_end ?_
    with_reducible refine s_then ?_
    with_reducible refine s_ret ?_
    all_goals
      all_goals try with_reducible refine w_n ?_
      all_goals refine w_1 rfl (by first | exact v_t (by rfl) | exact v_c1 (C1.p) (by rfl) (HA.p) (by rfl) | exact v_cF (CA.p) (by rfl) (HA.p) (by rfl)) ?_
      exact rfl
end Go.Proofs.Ytgbddbiimffplaa
