/-
  A part of the proof of a statement of a chapter's seat; conditions: stated at each theorem.
-/
import Derived.Test.YtgbddbiimffplaaN48
import Derived.Test.YtgbddbiimffplaaN52
set_option linter.unusedVariables false
set_option linter.unusedSectionVars false
set_option linter.unusedSimpArgs false
set_option linter.unusedVariables false
set_option maxRecDepth 100000
set_option maxHeartbeats 8000000
namespace Go.Proofs.Ytgbddbiimffplaa
open Go.Az Go
/-! ### Bits of cells -/
structure RgC where
  k : Nat
  G : Hp
theorem law6 (h : Hp) (s : AV) (nums : List Int) (hN : Elts (encI .i64) 1 h s nums) : ACalls Try.prog 6 [s] h (fun r _ => r = B true) := by
  have a : EI h s nums := mkEL iok 0 hN
  have pss := a.p.sl
  have S0 := Sep.nil h
  have c4 := law4 h
  have c21 : ∀ Y L', Sep h Y L' → ACalls Try.prog 21 [s] Y (fun r h' => ∃ (z zt : AV) (L : Nat) (ps : List Int) (p : Pc) (M : List Pc), r = .tup [DA z L, zt, B true] ∧ SlC z ∧ SlC zt ∧ Sep h h' (L' ++ [WI z ps, p]) ∧ (∀ h0 L', RC h0 (WI z ps :: p :: L') zt (dcQ L ps)) ∧ dE L ps = 0 ∧ 5 ≤ L ∧ L ≤ 7 ∧ ps.length ≤ 14 ∧ ∀ i, i < ps.length → baseN (ps.getD i 0) < 2 ^ L) := fun Y L' S =>
    (made21 Y s nums).mono fun r h' _ ⟨z, zt, L, ps, p, M, h1, h2, h3, h4, h5⟩ => ⟨z, zt, L, ps, p, M, h1, h2, h3, Sep.sub (S.join h4) (List.Sublist.append_left (((List.nil_sublist M).cons_cons p).cons_cons _) L'), h5⟩
  refine acalls_of_wk hm Try.func6 rfl ?_
  simp only [Try.ntmps6, List.length_cons, List.length_nil, Nat.reduceAdd, Nat.reduceSub, List.reduceReplicate, List.cons_append, List.nil_append]
  show wk _ _ none _ _ ⟨_, []⟩ _
  with_reducible refine s_seq ?_
  with_reducible refine s_reg ?_
  refine sassign ?_
  simp only [pu', p0', c1', c0', i1', z0', b8_nat]
  with_reducible refine s_end ?_
  with_reducible refine s_then ?_
  with_reducible refine s_seq ?_
  with_reducible refine s_reg ?_
  refine sC (hx := rfl) ((c4).mono ?_)
  rintro _ m4 _ ⟨rfl, S1⟩
  simp only [pu', p0', c1', c0', i1', n0', n3', n1', n2', a2', a1', a0', n4', Nat.reduceAdd, z0', n5', sa0, sa1, sa2, sa3, sa4, sa5, sa6, sa7, sa8, sa9, sa10, sa11]
  refine sassign ?_
  simp only [pu', p0', c1', c0', i1', z0', b8_nat]
  with_reducible refine s_end ?_
  with_reducible refine s_then ?_
  with_reducible refine s_seq ?_
  with_reducible refine s_reg ?_
  refine smove ?_
  simp only [pu', p0', c1', c0', i1', z0', b8_nat]
  refine sC (hx := rfl) ((c21 _ _ inferInstance).mono ?_)
  rintro _ m21 _ ⟨z, zt, L, ps, p, M, rfl, pz, pzt, S2, R2, hd, h5, h7, hp1, hp2⟩
  simp only [pu', p0', c1', c0', i1', n0', n3', n1', n2', a2', a1', a0', n4', Nat.reduceAdd, z0', n5', sa0, sa1, sa2, sa3, sa4, sa5, sa6, sa7, sa8, sa9, sa10, sa11]
  refine smove ?_
  simp only [pu', p0', c1', c0', i1', z0', b8_nat]
  refine sext ?_
  simp only [pu', p0', c1', c0', i1', z0', b8_nat]
  refine sext ?_
  simp only [pu', p0', c1', c0', i1', z0', b8_nat]
  refine sext ?_
  simp only [pu', p0', c1', c0', i1', z0', b8_nat]
  refine salloc ?_
  simp only [pu', p0', c1', c0', i1', n0', n3', n1', n2', a2', a1', a0', n4', Nat.reduceAdd, z0', n5', sa0, sa1, sa2, sa3, sa4, sa5, sa6, sa7, sa8, sa9, sa10, sa11]
  refine sstoreF ?_
  simp only [pu', p0', c1', c0', i1', n0', n3', n1', n2', a2', a1', a0', n4', Nat.reduceAdd, z0', n5', sa0, sa1, sa2, sa3, sa4, sa5, sa6, sa7, sa8, sa9, sa10, sa11]
  refine sassign ?_
  simp only [pu', p0', c1', c0', i1', z0', b8_nat]
  refine sassign ?_
  simp only [pu', p0', c1', c0', i1', z0', b8_nat]
  with_reducible refine s_end ?_
  with_reducible refine s_then ?_
  with_reducible refine s_seq ?_
  with_reducible refine s_seq ?_
  with_reducible refine s_reg ?_
  refine smove ?_
  simp only [pu', p0', c1', c0', i1', z0', b8_nat]
  refine snotT ?_
  simp only [pu', p0', c1', c0', i1', z0', b8_nat]
  with_reducible refine s_end ?_
  with_reducible refine s_then ?_
  refine sCF ?_
  with_reducible refine s_skip ?_
  with_reducible refine s_then ?_
  with_reducible refine s_seq ?_
  with_reducible refine s_seq ?_
  with_reducible refine s_reg ?_
  refine sassign ?_
  simp only [pu', p0', c1', c0', i1', z0', b8_nat]
  with_reducible refine s_end ?_
  with_reducible refine s_then ?_
  with_reducible refine s_block ?_
  refine s_loop hm (fun (b : RgC) s' => [s' 0, s' 1, s' 2, B true, .ptr m21.length 0, zt, s' 6, I b.k, s' 8, s' 9, s' 10, s' 11, s' 12, s' 13, s' 14, s' 15, s' 16, s' 17, s' 18, s' 19, s' 20, s' 21, s' 22, s' 23, s' 24, s' 25, s' 26, s' 27, s' 28, s' 29, s' 30, s' 31, s' 32, s' 33, s' 34, s' 35, s' 36, s' 37, s' 38, s' 39, s' 40, s' 41, s' 42, s' 43, s' 44, s' 45, s' 46, s' 47, s' 48, s' 49, s' 50, s' 51, s' 52, s' 53, s' 54, s' 55, s' 56, s' 57, s' 58, s' 59, s' 60, s' 61, s' 62, s' 63, s' 64, s' 65, s' 66, s' 67, s' 68, s' 69, s' 70, s' 71, s' 72, s' 73, s' 74, s' 75, s' 76, s' 77, s' 78, s' 79, s' 80, s' 81, s' 82, s' 83, s' 84, s' 85, s' 86, s' 87, s' 88, s' 89, s' 90, s' 91, s' 92, s' 93, s' 94, s' 95, s' 96, s' 97, s' 98, s' 99, s' 100, s' 101, s' 102, s' 103, s' 104, s' 105, s' 106, s' 107, s' 108, s' 109, s' 110, s' 111, s' 112, s' 113, s' 114, s' 115, s' 116, s' 117, s' 118, s' 119, s' 120, s' 121, s' 122, s' 123, s' 124, s' 125, s' 126, s' 127, s' 128, s' 129, s' 130, s' 131, s' 132, s' 133, s' 134, s' 135, s' 136, s' 137, s' 138]) (fun b => b.G) (fun b => b.k ≤ ps.length ∧ Sep h b.G [WI z ps, p, pcC m21.length (.cells [I L, z] 24 true)]) (fun b => ps.length - b.k) ⟨0, _⟩ (by rfl) rfl ⟨Nat.zero_le _, Sep.sub inferInstance (by repeat' first | exact List.Sublist.refl _ | exact List.sublist_append_left _ _ | exact List.nil_sublist _ | refine List.Sublist.cons_cons _ ?_ | refine List.Sublist.cons _ ?_ | refine List.Sublist.trans ?_ (List.sublist_append_left _ _))⟩ ?_
  have hge := fun k (hk : k < ps.length) => (dE_okN hd).2.2.2.2.2.ge _ (getD_mem hk)
  have hrg := fun k (hk : k < ps.length) i hi hs => rg_of hd hk (hp2 k hk) (i := i) hi hs
  have hsy := fun (k i : Nat) hi hs => sy_miss (T := dcQ L ps) (k := k) (i := i) hi hs
  have hsz := fun k => sy_zero (dcQ L ps) k
  have hse := fun k (hk : k < ps.length) => sy_end hd hk
  have hsn := fun (k i : Nat) => And.intro (sy_nn (dcQ L ps) k i) (sy_le (dcQ L ps) k i)
  have hno := fun k => sy_none (T := dcQ L ps) (k := k)
  have hst := fun (k i : Nat) p h1 h2 => non_step (L := L) (T := dcQ L ps) (p := p) (k := k) (i := i) h1 h2
  have hTl := dcQ_n hd
  have ez := pow_z L
  have hz : ((32 : Int) ≤ 2 ^ L ∧ (2 : Int) ^ L ≤ 128) ∧ ∃ y : Int, (2 : Int) ^ L = 2 * y := by
    have : L = 5 ∨ L = 6 ∨ L = 7 := by omega
    rcases this with rfl | rfl | rfl
    · exact ⟨by decide, 16, by decide⟩
    · exact ⟨by decide, 32, by decide⟩
    · exact ⟨by decide, 64, by decide⟩
  obtain ⟨hz, y, hy⟩ := hz
  have c18a : ∀ k, k < ps.length → ps.getD k 0 = 0 → ∀ Y L', Sep h Y L' → EC Y zt (dcQ L ps) → ACalls Try.prog 18 [zt, I k] Y (fun r h' => r = .tup [I 0, I 7] ∧ Sep h h' L') := fun k hk h0 Y L' S a => by
    have := first18 (h := Y) (s := zt) (t := dcQ L ps) k (by omega)
    rw [fst_no hd hk h0] at this
    exact this.mono fun r h' _ ⟨h1, h2⟩ => ⟨h1, dn S h2⟩
  have c18b : ∀ k, k < ps.length → ps.getD k 0 ≠ 0 → ∃ j : Nat, j < (dcQ L ps).length ∧ ((dcQ L ps).getD j ce0).s = k ∧ ((dcQ L ps).getD j ce0).b = (L : Int) - hiF (baseN (ps.getD k 0)) ∧ ∀ Y L', Sep h Y L' → EC Y zt (dcQ L ps) → ACalls Try.prog 18 [zt, I k] Y (fun r h' => r = .tup [I j, I 0] ∧ Sep h h' L') := fun k hk h0 => by
    obtain ⟨j, h1, h2, h3, h4⟩ := fst_yes hd hk h0 (hp2 k hk)
    refine ⟨j, h1, h3, h4, fun Y L' S a => ?_⟩
    have := first18 (h := Y) (s := zt) (t := dcQ L ps) k (by omega)
    rw [h2] at this
    exact this.mono fun r h' _ ⟨h1, h2⟩ => ⟨h1, dn S h2⟩
  generalize dcQ L ps = T at *
  clear S1 S2
  rintro ⟨k, G⟩ s' ⟨hk, S1⟩
  simp only [] at hk S1 ⊢
  by_cases hkl : k < ps.length
  · have hgk := hge k hkl
    have hrg := hrg k hkl
    have hse := hse k hkl
    have hsn := hsn k
    have hsz := hsz k
    have hp2 := hp2 k hkl
    have hTi : (T.length : Int) = 2 ^ L := by omega
    have hb0 : ps.getD k 0 ≠ 0 → 1 ≤ baseN (ps.getD k 0) := fun h0 => by unfold baseN; split <;> omega
    have hb00 : ps.getD k 0 = 0 → baseN (ps.getD k 0) = 0 := fun h0 => by rw [h0]; decide
    have hpz : baseN (ps.getD k 0) = 0 → ps.getD k 0 = 0 := fun h0 => by
      apply Classical.byContradiction
      intro hh
      have := hb0 hh
      omega
    have hb1 : 0 ≤ baseN (ps.getD k 0) := by unfold baseN; split <;> omega
    have hmb := max_base (p := ps.getD k 0) hgk
    have c18a := c18a k hkl
    have c18b := c18b k hkl
    have hbg : ps.getD k 0 ≤ 1000 := by
      unfold baseN at hp2; split at hp2 <;> omega
    have c22 := rhigh_any (baseN (ps.getD k 0)) (by omega)
    have hh1 := hi_bd (baseN (ps.getD k 0))
    have hh2 := hi_lt (n := baseN (ps.getD k 0)) (k := 8) (by omega) (by omega)
    generalize hiF (baseN (ps.getD k 0)) = x0 at *
    generalize hp0 : baseN (ps.getD k 0) = p0 at *
    have hnz : nonF (2 ^ L) p0 0 = 0 := by rw [nonF, if_neg (by omega)]
    focus
      with_reducible refine s_seq ?_
      with_reducible refine s_seq ?_
      with_reducible refine s_reg ?_
      refine smove ?_
      simp only [pu', p0', c1', c0', i1', z0', b8_nat]
      refine sfad ?_
      simp only [pu', p0', c1', c0', i1', z0', b8_nat]
      refine sload1 ?_
      simp only [pu', p0', c1', c0', i1', z0', b8_nat]
      refine slenE ?_
      simp only [pu', p0', c1', c0', i1', z0', b8_nat]
      refine sLt (fun hb => ?_) (fun hb => ?_)
      replace hb := dT' hb
      simp only [pu', p0', c1', c0', i1', z0', b8_nat]
      with_reducible refine s_end ?_
      with_reducible refine s_then ?_
      refine sCT ?_
      with_reducible refine s_skip ?_
      with_reducible refine s_then ?_
      with_reducible refine s_seq ?_
      with_reducible refine s_block ?_
      with_reducible refine s_seq ?_
      (refine s_regQ (id := 8) [(0, true), (1, true), (2, true), (3, true), (4, true), (5, true), (6, true), (7, true), (8, true), (9, true), (10, true), (11, true), (12, true)] (by kernel_rfl) (by conv => lhs; simp only [pickO, List.getElem?_cons_succ, List.getElem?_cons_zero]) ?_)
      refine qfad ?_
      simp only [pu', p0', c1', c0', i1', z0', b8_nat]
      refine qload1 ?_
      simp only [pu', p0', c1', c0', i1', z0', b8_nat]
      refine qmove ?_
      simp only [pu', p0', c1', c0', i1', z0', b8_nat]
      refine qidxE ?_
      simp only [pu', p0', c1', c0', i1', z0', b8_nat]
      refine qloadE1 ?_
      simp only [pu', p0', c1', c0', i1', z0', b8_nat]
      refine qfad ?_
      simp only [pu', p0', c1', c0', i1', z0', b8_nat]
      refine qload1 ?_
      simp only [pu', p0', c1', c0', i1', z0', b8_nat]
      refine qmove ?_
      simp only [pu', p0', c1', c0', i1', z0', b8_nat]
      refine qidxE ?_
      simp only [pu', p0', c1', c0', i1', z0', b8_nat]
      refine qloadE1 ?_
      simp only [pu', p0', c1', c0', i1', z0', b8_nat]
      (refine q_gL (by rfl) (x_neg (by exact e_any (by rfl)) (by omega) (by omega)) ?_; simp only [Fr.put, List.set_cons_succ, List.set_cons_zero, Int.toNat_natCast, Nat.zero_add])
      refine qmax ?_
      simp only [pu', p0', c1', c0', i1', z0', b8_nat]
      refine qassign ?_
      simp only [pu', p0', c1', c0', i1', z0', b8_nat]
      with_reducible refine q_end ?_
      with_reducible refine s_then ?_
      with_reducible refine s_seq ?_
      with_reducible refine s_reg ?_
      refine sassign ?_
      simp only [pu', p0', c1', c0', i1', z0', b8_nat]
      refine sassign ?_
      simp only [pu', p0', c1', c0', i1', z0', b8_nat]
      with_reducible refine s_end ?_
      with_reducible refine s_then ?_
      with_reducible refine s_seq ?_
      with_reducible refine s_seq ?_
      with_reducible refine s_reg ?_
      refine sassign ?_
      simp only [pu', p0', c1', c0', i1', z0', b8_nat]
      with_reducible refine s_end ?_
      with_reducible refine s_then ?_
      with_reducible refine s_block ?_
      rotate_left 1
      replace hb := dF' hb
      (exfalso; omega)
    refine s_loop hm (fun (b : Nat) s' => [s' 0, s' 1, s' 2, B true, .ptr m21.length 0, zt, s' 6, I k, I p0, I (symC T k b), I (nonF (2 ^ L) p0 (symC T k b)), I b, s' 12, s' 13, s' 14, s' 15, s' 16, s' 17, s' 18, s' 19, s' 20, s' 21, s' 22, s' 23, s' 24, s' 25, s' 26, s' 27, s' 28, s' 29, s' 30, s' 31, s' 32, s' 33, s' 34, s' 35, s' 36, s' 37, s' 38, s' 39, s' 40, s' 41, s' 42, s' 43, s' 44, s' 45, s' 46, s' 47, s' 48, s' 49, s' 50, s' 51, s' 52, s' 53, s' 54, s' 55, s' 56, s' 57, s' 58, s' 59, s' 60, s' 61, s' 62, s' 63, s' 64, s' 65, s' 66, s' 67, s' 68, s' 69, s' 70, s' 71, s' 72, s' 73, s' 74, s' 75, s' 76, s' 77, s' 78, s' 79, s' 80, s' 81, s' 82, s' 83, s' 84, s' 85, s' 86, s' 87, s' 88, s' 89, s' 90, s' 91, s' 92, s' 93, s' 94, s' 95, s' 96, s' 97, s' 98, s' 99, s' 100, s' 101, s' 102, s' 103, s' 104, s' 105, s' 106, s' 107, s' 108, s' 109, s' 110, s' 111, s' 112, s' 113, s' 114, s' 115, s' 116, s' 117, s' 118, s' 119, s' 120, s' 121, s' 122, s' 123, s' 124, s' 125, s' 126, s' 127, s' 128, s' 129, s' 130, s' 131, s' 132, s' 133, s' 134, s' 135, s' 136, s' 137, s' 138]) (fun b => G) (fun b => b ≤ T.length) (fun b => T.length - b) 0 (by rw [hsz, hnz, ← hmb]; rfl) rfl (Nat.zero_le _) ?_
    intro i s' hi
    have hsni := hsn i
    have hnn : 0 ≤ nonF (2 ^ L) p0 (symC T k i) ∧ nonF (2 ^ L) p0 (symC T k i) ≤ 1000 := by unfold nonF; split <;> omega
    by_cases hil : i < T.length
    · by_cases hs : (T.getD i ce0).s = k
      · by_cases h0 : ps.getD k 0 = 0
        · rw [hb00 h0] at hse
          exact absurd hs (hno k hse i hil)
        · have f := hrg i hil hs
          obtain ⟨st1, st2⟩ := hst k i p0 (hb0 h0) hp2 f
          have f6 := f.sy
          have f1 := f.b0
          have f2 := f.bL
          by_cases hbz : (T.getD i ce0).b = 0
          · have e := st1 hbz
            generalize nonF (2 ^ L) p0 (symC T k i) = nn at *
            generalize symC T k i = cc at *
            focus
              with_reducible refine s_seq ?_
              with_reducible refine s_seq ?_
              with_reducible refine s_reg ?_
              refine smove ?_
              simp only [pu', p0', c1', c0', i1', z0', b8_nat]
              refine smove ?_
              simp only [pu', p0', c1', c0', i1', z0', b8_nat]
              refine slenE ?_
              simp only [pu', p0', c1', c0', i1', z0', b8_nat]
              refine sLt (fun hb => ?_) (fun hb => ?_)
              replace hb := dT' hb
              simp only [pu', p0', c1', c0', i1', z0', b8_nat]
              with_reducible refine s_end ?_
              with_reducible refine s_then ?_
              refine sCT ?_
              with_reducible refine s_skip ?_
              with_reducible refine s_then ?_
              with_reducible refine s_seq ?_
              with_reducible refine s_block ?_
              with_reducible refine s_seq ?_
              with_reducible refine s_reg ?_
              refine smove ?_
              simp only [pu', p0', c1', c0', i1', z0', b8_nat]
              refine smove ?_
              simp only [pu', p0', c1', c0', i1', z0', b8_nat]
              refine sidxE ?_
              simp only [pu', p0', c1', c0', i1', z0', b8_nat]
              refine sfadE ?_
              simp only [pu', p0', c1', c0', i1', z0', b8_nat]
              refine sloadF ?_
              simp only [pu', p0', c1', c0', i1', z0', b8_nat]
              refine smove ?_
              simp only [pu', p0', c1', c0', i1', z0', b8_nat]
              refine sEq (fun hb => ?_) (fun hb => ?_)
              replace hb := dT' hb
              simp only [pu', p0', c1', c0', i1', z0', b8_nat]
              with_reducible refine s_end ?_
              with_reducible refine s_then ?_
              refine sCT ?_
              with_reducible refine s_seq ?_
              with_reducible refine s_reg ?_
              refine smove ?_
              simp only [pu', p0', c1', c0', i1', z0', b8_nat]
              refine sadd ?_
              simp only [pu', p0', c1', c0', i1', z0', b8_nat]
              refine sassign ?_
              simp only [pu', p0', c1', c0', i1', z0', b8_nat]
              with_reducible refine s_end ?_
              with_reducible refine s_then ?_
              with_reducible refine s_seq ?_
              with_reducible refine s_seq ?_
              with_reducible refine s_reg ?_
              refine smove ?_
              simp only [pu', p0', c1', c0', i1', z0', b8_nat]
              refine smove ?_
              simp only [pu', p0', c1', c0', i1', z0', b8_nat]
              refine sidxE ?_
              simp only [pu', p0', c1', c0', i1', z0', b8_nat]
              refine sfadE ?_
              simp only [pu', p0', c1', c0', i1', z0', b8_nat]
              refine sloadF ?_
              simp only [pu', p0', c1', c0', i1', z0', b8_nat]
              refine sEq (fun hb => ?_) (fun hb => ?_)
              replace hb := dT' hb
              simp only [pu', p0', c1', c0', i1', z0', b8_nat]
              with_reducible refine s_end ?_
              with_reducible refine s_then ?_
              refine sCT ?_
              with_reducible refine s_reg ?_
              refine smove ?_
              simp only [pu', p0', c1', c0', i1', z0', b8_nat]
              refine sadd ?_
              simp only [pu', p0', c1', c0', i1', z0', b8_nat]
              refine sassign ?_
              simp only [pu', p0', c1', c0', i1', z0', b8_nat]
              with_reducible refine s_end ?_
              with_reducible refine s_then ?_
              with_reducible refine s_seq ?_
              (refine s_regQ (id := 17) [(0, true), (1, true), (2, true), (3, true), (4, true), (5, true), (6, true), (7, true), (8, true), (9, true), (10, true), (11, true), (12, true), (13, true), (14, true), (15, true)] (by kernel_rfl) (by conv => lhs; simp only [pickO, List.getElem?_cons_succ, List.getElem?_cons_zero]) ?_)
              refine qmove ?_
              simp only [pu', p0', c1', c0', i1', z0', b8_nat]
              refine qmove ?_
              simp only [pu', p0', c1', c0', i1', z0', b8_nat]
              refine qidxE ?_
              simp only [pu', p0', c1', c0', i1', z0', b8_nat]
              refine qfadE ?_
              simp only [pu', p0', c1', c0', i1', z0', b8_nat]
              refine qloadF ?_
              simp only [pu', p0', c1', c0', i1', z0', b8_nat]
              refine qLt (fun hb => ?_) (fun hb => ?_)
              replace hb := dT' hb
              (exfalso; omega)
              replace hb := dF' hb
              simp only [pu', p0', c1', c0', i1', z0', b8_nat]
              refine qmove ?_
              simp only [pu', p0', c1', c0', i1', z0', b8_nat]
              refine qmove ?_
              simp only [pu', p0', c1', c0', i1', z0', b8_nat]
              refine qmove ?_
              simp only [pu', p0', c1', c0', i1', z0', b8_nat]
              refine qidxE ?_
              simp only [pu', p0', c1', c0', i1', z0', b8_nat]
              refine qfadE ?_
              simp only [pu', p0', c1', c0', i1', z0', b8_nat]
              refine qloadF ?_
              simp only [pu', p0', c1', c0', i1', z0', b8_nat]
              refine qfad ?_
              simp only [pu', p0', c1', c0', i1', z0', b8_nat]
              refine qload1 ?_
              simp only [pu', p0', c1', c0', i1', z0', b8_nat]
              refine qGt (fun hb => ?_) (fun hb => ?_)
              replace hb := dT' hb
              (exfalso; omega)
              replace hb := dF' hb
              simp only [pu', p0', c1', c0', i1', z0', b8_nat]
              refine qpickF ?_
              simp only [pu', p0', c1', c0', i1', z0', b8_nat]
              with_reducible refine q_end ?_
              with_reducible refine s_then ?_
              refine sCF ?_
              with_reducible refine s_skip ?_
              with_reducible refine s_blkN ?_
              with_reducible refine s_then ?_
              with_reducible refine s_reg ?_
              refine smove ?_
              simp only [pu', p0', c1', c0', i1', z0', b8_nat]
              refine sadd ?_
              simp only [pu', p0', c1', c0', i1', z0', b8_nat]
              refine sassign ?_
              simp only [pu', p0', c1', c0', i1', z0', b8_nat]
              with_reducible refine s_end ?_
              rotate_left 1
              replace hb := dF' hb
              exact absurd (by with_reducible assumption) hb
              replace hb := dF' hb
              exact absurd (by with_reducible assumption) hb
              replace hb := dF' hb
              (exfalso; omega)
            all_goals
              refine l_next (i + 1) (by omega) (by omega) (by rw [e, f6]; rfl) rfl
          · have e := st2 hbz
            generalize nonF (2 ^ L) p0 (symC T k i) = nn at *
            generalize symC T k i = cc at *
            focus
              with_reducible refine s_seq ?_
              with_reducible refine s_seq ?_
              with_reducible refine s_reg ?_
              refine smove ?_
              simp only [pu', p0', c1', c0', i1', z0', b8_nat]
              refine smove ?_
              simp only [pu', p0', c1', c0', i1', z0', b8_nat]
              refine slenE ?_
              simp only [pu', p0', c1', c0', i1', z0', b8_nat]
              refine sLt (fun hb => ?_) (fun hb => ?_)
              replace hb := dT' hb
              simp only [pu', p0', c1', c0', i1', z0', b8_nat]
              with_reducible refine s_end ?_
              with_reducible refine s_then ?_
              refine sCT ?_
              with_reducible refine s_skip ?_
              with_reducible refine s_then ?_
              with_reducible refine s_seq ?_
              with_reducible refine s_block ?_
              with_reducible refine s_seq ?_
              with_reducible refine s_reg ?_
              refine smove ?_
              simp only [pu', p0', c1', c0', i1', z0', b8_nat]
              refine smove ?_
              simp only [pu', p0', c1', c0', i1', z0', b8_nat]
              refine sidxE ?_
              simp only [pu', p0', c1', c0', i1', z0', b8_nat]
              refine sfadE ?_
              simp only [pu', p0', c1', c0', i1', z0', b8_nat]
              refine sloadF ?_
              simp only [pu', p0', c1', c0', i1', z0', b8_nat]
              refine smove ?_
              simp only [pu', p0', c1', c0', i1', z0', b8_nat]
              refine sEq (fun hb => ?_) (fun hb => ?_)
              replace hb := dT' hb
              simp only [pu', p0', c1', c0', i1', z0', b8_nat]
              with_reducible refine s_end ?_
              with_reducible refine s_then ?_
              refine sCT ?_
              with_reducible refine s_seq ?_
              with_reducible refine s_reg ?_
              refine smove ?_
              simp only [pu', p0', c1', c0', i1', z0', b8_nat]
              refine sadd ?_
              simp only [pu', p0', c1', c0', i1', z0', b8_nat]
              refine sassign ?_
              simp only [pu', p0', c1', c0', i1', z0', b8_nat]
              with_reducible refine s_end ?_
              with_reducible refine s_then ?_
              with_reducible refine s_seq ?_
              with_reducible refine s_seq ?_
              with_reducible refine s_reg ?_
              refine smove ?_
              simp only [pu', p0', c1', c0', i1', z0', b8_nat]
              refine smove ?_
              simp only [pu', p0', c1', c0', i1', z0', b8_nat]
              refine sidxE ?_
              simp only [pu', p0', c1', c0', i1', z0', b8_nat]
              refine sfadE ?_
              simp only [pu', p0', c1', c0', i1', z0', b8_nat]
              refine sloadF ?_
              simp only [pu', p0', c1', c0', i1', z0', b8_nat]
              refine sEq (fun hb => ?_) (fun hb => ?_)
              replace hb := dT' hb
              (exfalso; omega)
              replace hb := dF' hb
              simp only [pu', p0', c1', c0', i1', z0', b8_nat]
              with_reducible refine s_end ?_
              with_reducible refine s_then ?_
              refine sCF ?_
              with_reducible refine s_skip ?_
              with_reducible refine s_then ?_
              with_reducible refine s_seq ?_
              (refine s_regQ (id := 17) [(0, true), (1, true), (2, true), (3, true), (4, true), (5, true), (6, true), (7, true), (8, true), (9, true), (10, true), (11, true), (12, true), (13, true), (14, true), (15, true)] (by kernel_rfl) (by conv => lhs; simp only [pickO, List.getElem?_cons_succ, List.getElem?_cons_zero]) ?_)
              refine qmove ?_
              simp only [pu', p0', c1', c0', i1', z0', b8_nat]
              refine qmove ?_
              simp only [pu', p0', c1', c0', i1', z0', b8_nat]
              refine qidxE ?_
              simp only [pu', p0', c1', c0', i1', z0', b8_nat]
              refine qfadE ?_
              simp only [pu', p0', c1', c0', i1', z0', b8_nat]
              refine qloadF ?_
              simp only [pu', p0', c1', c0', i1', z0', b8_nat]
              refine qLt (fun hb => ?_) (fun hb => ?_)
              replace hb := dT' hb
              (exfalso; omega)
              replace hb := dF' hb
              simp only [pu', p0', c1', c0', i1', z0', b8_nat]
              refine qmove ?_
              simp only [pu', p0', c1', c0', i1', z0', b8_nat]
              refine qmove ?_
              simp only [pu', p0', c1', c0', i1', z0', b8_nat]
              refine qmove ?_
              simp only [pu', p0', c1', c0', i1', z0', b8_nat]
              refine qidxE ?_
              simp only [pu', p0', c1', c0', i1', z0', b8_nat]
              refine qfadE ?_
              simp only [pu', p0', c1', c0', i1', z0', b8_nat]
              refine qloadF ?_
              simp only [pu', p0', c1', c0', i1', z0', b8_nat]
              refine qfad ?_
              simp only [pu', p0', c1', c0', i1', z0', b8_nat]
              refine qload1 ?_
              simp only [pu', p0', c1', c0', i1', z0', b8_nat]
              refine qGt (fun hb => ?_) (fun hb => ?_)
              replace hb := dT' hb
              (exfalso; omega)
              replace hb := dF' hb
              simp only [pu', p0', c1', c0', i1', z0', b8_nat]
              refine qpickF ?_
              simp only [pu', p0', c1', c0', i1', z0', b8_nat]
              with_reducible refine q_end ?_
              with_reducible refine s_then ?_
              refine sCF ?_
              with_reducible refine s_skip ?_
              with_reducible refine s_blkN ?_
              with_reducible refine s_then ?_
              with_reducible refine s_reg ?_
              refine smove ?_
              simp only [pu', p0', c1', c0', i1', z0', b8_nat]
              refine sadd ?_
              simp only [pu', p0', c1', c0', i1', z0', b8_nat]
              refine sassign ?_
              simp only [pu', p0', c1', c0', i1', z0', b8_nat]
              with_reducible refine s_end ?_
              rotate_left 1
              replace hb := dF' hb
              exact absurd (by with_reducible assumption) hb
              replace hb := dF' hb
              (exfalso; omega)
            all_goals
              refine l_next (i + 1) (by omega) (by omega) (by rw [e, f6]; rfl) rfl
      · have e := hsy k i hil hs
        focus
          with_reducible refine s_seq ?_
          with_reducible refine s_seq ?_
          with_reducible refine s_reg ?_
          refine smove ?_
          simp only [pu', p0', c1', c0', i1', z0', b8_nat]
          refine smove ?_
          simp only [pu', p0', c1', c0', i1', z0', b8_nat]
          refine slenE ?_
          simp only [pu', p0', c1', c0', i1', z0', b8_nat]
          refine sLt (fun hb => ?_) (fun hb => ?_)
          replace hb := dT' hb
          simp only [pu', p0', c1', c0', i1', z0', b8_nat]
          with_reducible refine s_end ?_
          with_reducible refine s_then ?_
          refine sCT ?_
          with_reducible refine s_skip ?_
          with_reducible refine s_then ?_
          with_reducible refine s_seq ?_
          with_reducible refine s_block ?_
          with_reducible refine s_seq ?_
          with_reducible refine s_reg ?_
          refine smove ?_
          simp only [pu', p0', c1', c0', i1', z0', b8_nat]
          refine smove ?_
          simp only [pu', p0', c1', c0', i1', z0', b8_nat]
          refine sidxE ?_
          simp only [pu', p0', c1', c0', i1', z0', b8_nat]
          refine sfadE ?_
          simp only [pu', p0', c1', c0', i1', z0', b8_nat]
          refine sloadF ?_
          simp only [pu', p0', c1', c0', i1', z0', b8_nat]
          refine smove ?_
          simp only [pu', p0', c1', c0', i1', z0', b8_nat]
          refine sEq (fun hb => ?_) (fun hb => ?_)
          replace hb := dT' hb
          (exfalso; omega)
          replace hb := dF' hb
          simp only [pu', p0', c1', c0', i1', z0', b8_nat]
          with_reducible refine s_end ?_
          with_reducible refine s_then ?_
          refine sCF ?_
          with_reducible refine s_skip ?_
          with_reducible refine s_blkN ?_
          with_reducible refine s_then ?_
          with_reducible refine s_reg ?_
          refine smove ?_
          simp only [pu', p0', c1', c0', i1', z0', b8_nat]
          refine sadd ?_
          simp only [pu', p0', c1', c0', i1', z0', b8_nat]
          refine sassign ?_
          simp only [pu', p0', c1', c0', i1', z0', b8_nat]
          with_reducible refine s_end ?_
          rotate_left 1
          replace hb := dF' hb
          (exfalso; omega)
        all_goals
          refine l_next (i + 1) (by omega) (by omega) (by rw [e]; rfl) rfl
    · have hie : i = T.length := by omega
      subst hie
      rw [hse]
      have hnv : nonF (2 ^ L) p0 p0 = if 2 ^ L < p0 + p0 then p0 + p0 - 2 ^ L else 0 := rfl
      have hnv2 : 0 < nonF (2 ^ L) p0 p0 ↔ (T.length : Int) / 2 < p0 := by rw [hnv]; split <;> omega
      generalize nonF (2 ^ L) p0 p0 = nn at *
      by_cases h0 : ps.getD k 0 = 0
      · have hp0z := hb00 h0
        have c18a := c18a h0
        focus
          with_reducible refine s_seq ?_
          with_reducible refine s_seq ?_
          with_reducible refine s_reg ?_
          refine smove ?_
          simp only [pu', p0', c1', c0', i1', z0', b8_nat]
          refine smove ?_
          simp only [pu', p0', c1', c0', i1', z0', b8_nat]
          refine slenE ?_
          simp only [pu', p0', c1', c0', i1', z0', b8_nat]
          refine sLt (fun hb => ?_) (fun hb => ?_)
          replace hb := dT' hb
          (exfalso; omega)
          replace hb := dF' hb
          simp only [pu', p0', c1', c0', i1', z0', b8_nat]
          with_reducible refine s_end ?_
          with_reducible refine s_then ?_
          refine sCF ?_
          with_reducible refine s_exit ?_
          with_reducible refine s_thenE ?_
          with_reducible refine l_exit ?_
          with_reducible refine s_blkE ?_
          with_reducible refine s_then ?_
          with_reducible refine s_seq ?_
          with_reducible refine s_seq ?_
          with_reducible refine s_reg ?_
          refine smove ?_
          simp only [pu', p0', c1', c0', i1', z0', b8_nat]
          refine smove ?_
          simp only [pu', p0', c1', c0', i1', z0', b8_nat]
          refine sNe (fun hb => ?_) (fun hb => ?_)
          replace hb := dT' hb
          (exfalso; omega)
          replace hb := dF' hb
          simp only [pu', p0', c1', c0', i1', z0', b8_nat]
          refine smove ?_
          simp only [pu', p0', c1', c0', i1', z0', b8_nat]
          refine smove ?_
          simp only [pu', p0', c1', c0', i1', z0', b8_nat]
          refine sGt (fun hb => ?_) (fun hb => ?_)
          replace hb := dT' hb
          (exfalso; omega)
          replace hb := dF' hb
          simp only [pu', p0', c1', c0', i1', z0', b8_nat]
          refine smove ?_
          simp only [pu', p0', c1', c0', i1', z0', b8_nat]
          refine smove ?_
          simp only [pu', p0', c1', c0', i1', z0', b8_nat]
          refine slenE ?_
          simp only [pu', p0', c1', c0', i1', z0', b8_nat]
          refine squo ?_
          simp only [pu', p0', c1', c0', i1', z0', b8_nat]
          refine sGt (fun hb => ?_) (fun hb => ?_)
          replace hb := dT' hb
          (exfalso; omega)
          replace hb := dF' hb
          simp only [pu', p0', c1', c0', i1', z0', b8_nat]
          refine sneB (fun hb => ?_) (fun hb => ?_)
          simp only [decide_eq_true_eq, Int.toNat_natCast, decide_eq_false_iff_not, Bool.not_eq_true', Bool.not_eq_false', not_true_eq_false, not_false_eq_true, beq_self_eq_true, Bool.and_true, Bool.true_and, Bool.and_false, Bool.false_and, Bool.and_eq_true, Bool.and_eq_false_iff, beq_iff_eq, beq_eq_false_iff_ne, ne_eq, Bool.not_true, Bool.not_false, Bool.true_eq_false, Bool.false_eq_true, Bool.not_eq_true, Bool.not_eq_false, and_true, true_and, and_false, false_and, or_false, false_or, or_true, true_or] at hb
          simp only [decide_eq_true_eq, Int.toNat_natCast, decide_eq_false_iff_not, Bool.not_eq_true', Bool.not_eq_false', not_true_eq_false, not_false_eq_true, beq_self_eq_true, Bool.and_true, Bool.true_and, Bool.and_false, Bool.false_and, Bool.and_eq_true, Bool.and_eq_false_iff, beq_iff_eq, beq_eq_false_iff_ne, ne_eq, Bool.not_true, Bool.not_false, Bool.true_eq_false, Bool.false_eq_true, Bool.not_eq_true, Bool.not_eq_false, and_true, true_and, and_false, false_and, or_false, false_or, or_true, true_or] at hb
          simp only [pu', p0', c1', c0', i1', z0', b8_nat]
          refine spickF ?_
          simp only [pu', p0', c1', c0', i1', z0', b8_nat]
          with_reducible refine s_end ?_
          with_reducible refine s_then ?_
          refine sCF ?_
          with_reducible refine s_skip ?_
          with_reducible refine s_then ?_
          with_reducible refine s_seq ?_
          with_reducible refine s_reg ?_
          refine smove ?_
          simp only [pu', p0', c1', c0', i1', z0', b8_nat]
          refine smove ?_
          simp only [pu', p0', c1', c0', i1', z0', b8_nat]
          refine sC (hx := rfl) ((c18a _ _ inferInstance inferInstance).mono ?_)
          rintro _ m18 _ ⟨rfl, S3⟩
          simp only [pu', p0', c1', c0', i1', n0', n3', n1', n2', a2', a1', a0', n4', Nat.reduceAdd, z0', n5', sa0, sa1, sa2, sa3, sa4, sa5, sa6, sa7, sa8, sa9, sa10, sa11]
          refine smove ?_
          simp only [pu', p0', c1', c0', i1', z0', b8_nat]
          refine sext ?_
          simp only [pu', p0', c1', c0', i1', z0', b8_nat]
          refine sext ?_
          simp only [pu', p0', c1', c0', i1', z0', b8_nat]
          refine sassign ?_
          simp only [pu', p0', c1', c0', i1', z0', b8_nat]
          refine sassign ?_
          simp only [pu', p0', c1', c0', i1', z0', b8_nat]
          with_reducible refine s_end ?_
          with_reducible refine s_then ?_
          with_reducible refine s_seq ?_
          with_reducible refine s_seq ?_
          with_reducible refine s_reg ?_
          refine smove ?_
          simp only [pu', p0', c1', c0', i1', z0', b8_nat]
          refine sEq (fun hb => ?_) (fun hb => ?_)
          replace hb := dT' hb
          simp only [pu', p0', c1', c0', i1', z0', b8_nat]
          with_reducible refine s_end ?_
          with_reducible refine s_then ?_
          refine sCT ?_
          with_reducible refine s_seq ?_
          with_reducible refine s_seq ?_
          with_reducible refine s_reg ?_
          refine smove ?_
          simp only [pu', p0', c1', c0', i1', z0', b8_nat]
          refine sNe (fun hb => ?_) (fun hb => ?_)
          replace hb := dT' hb
          (exfalso; omega)
          replace hb := dF' hb
          simp only [pu', p0', c1', c0', i1', z0', b8_nat]
          with_reducible refine s_end ?_
          with_reducible refine s_then ?_
          refine sCF ?_
          with_reducible refine s_skip ?_
          with_reducible refine s_then ?_
          with_reducible refine s_exit ?_
          with_reducible refine s_thenE ?_
          with_reducible refine s_blkE ?_
          with_reducible refine s_then ?_
          with_reducible refine s_reg ?_
          refine smove ?_
          simp only [pu', p0', c1', c0', i1', z0', b8_nat]
          refine sadd ?_
          simp only [pu', p0', c1', c0', i1', z0', b8_nat]
          refine sassign ?_
          simp only [pu', p0', c1', c0', i1', z0', b8_nat]
          with_reducible refine s_end ?_
          rotate_left 1
          replace hb := dF' hb
          exact absurd (by with_reducible assumption) hb
        all_goals
          refine l_next ⟨k + 1, _⟩ ⟨by simp only []; omega, Sep.sub inferInstance (by repeat' first | exact List.Sublist.refl _ | exact List.sublist_append_left _ _ | exact List.nil_sublist _ | refine List.Sublist.cons_cons _ ?_ | refine List.Sublist.cons _ ?_ | refine List.Sublist.trans ?_ (List.sublist_append_left _ _))⟩ (by simp only []; omega) (by rfl) rfl
      · obtain ⟨j, hj1, hj2, hj3, c18b⟩ := c18b h0
        have hp0z := hb0 h0
        focus
          with_reducible refine s_seq ?_
          with_reducible refine s_seq ?_
          with_reducible refine s_reg ?_
          refine smove ?_
          simp only [pu', p0', c1', c0', i1', z0', b8_nat]
          refine smove ?_
          simp only [pu', p0', c1', c0', i1', z0', b8_nat]
          refine slenE ?_
          simp only [pu', p0', c1', c0', i1', z0', b8_nat]
          refine sLt (fun hb => ?_) (fun hb => ?_)
          replace hb := dT' hb
          (exfalso; omega)
          replace hb := dF' hb
          simp only [pu', p0', c1', c0', i1', z0', b8_nat]
          with_reducible refine s_end ?_
          with_reducible refine s_then ?_
          refine sCF ?_
          with_reducible refine s_exit ?_
          with_reducible refine s_thenE ?_
          with_reducible refine l_exit ?_
          with_reducible refine s_blkE ?_
          with_reducible refine s_then ?_
          with_reducible refine s_seq ?_
          with_reducible refine s_seq ?_
          with_reducible refine s_reg ?_
          refine smove ?_
          simp only [pu', p0', c1', c0', i1', z0', b8_nat]
          refine smove ?_
          simp only [pu', p0', c1', c0', i1', z0', b8_nat]
          refine sNe (fun hb => ?_) (fun hb => ?_)
          replace hb := dT' hb
          (exfalso; omega)
          replace hb := dF' hb
          simp only [pu', p0', c1', c0', i1', z0', b8_nat]
          refine smove ?_
          simp only [pu', p0', c1', c0', i1', z0', b8_nat]
          refine smove ?_
          simp only [pu', p0', c1', c0', i1', z0', b8_nat]
          refine sGt (fun hb => ?_) (fun hb => ?_)
          replace hb := dT' hb
          simp only [pu', p0', c1', c0', i1', z0', b8_nat]
          refine smove ?_
          simp only [pu', p0', c1', c0', i1', z0', b8_nat]
          refine smove ?_
          simp only [pu', p0', c1', c0', i1', z0', b8_nat]
          refine slenE ?_
          simp only [pu', p0', c1', c0', i1', z0', b8_nat]
          refine squo ?_
          simp only [pu', p0', c1', c0', i1', z0', b8_nat]
          refine sGt (fun hb => ?_) (fun hb => ?_)
          replace hb := dT' hb
          simp only [pu', p0', c1', c0', i1', z0', b8_nat]
          refine sneB (fun hb => ?_) (fun hb => ?_)
          simp only [decide_eq_true_eq, Int.toNat_natCast, decide_eq_false_iff_not, Bool.not_eq_true', Bool.not_eq_false', not_true_eq_false, not_false_eq_true, beq_self_eq_true, Bool.and_true, Bool.true_and, Bool.and_false, Bool.false_and, Bool.and_eq_true, Bool.and_eq_false_iff, beq_iff_eq, beq_eq_false_iff_ne, ne_eq, Bool.not_true, Bool.not_false, Bool.true_eq_false, Bool.false_eq_true, Bool.not_eq_true, Bool.not_eq_false, and_true, true_and, and_false, false_and, or_false, false_or, or_true, true_or] at hb
          simp only [decide_eq_true_eq, Int.toNat_natCast, decide_eq_false_iff_not, Bool.not_eq_true', Bool.not_eq_false', not_true_eq_false, not_false_eq_true, beq_self_eq_true, Bool.and_true, Bool.true_and, Bool.and_false, Bool.false_and, Bool.and_eq_true, Bool.and_eq_false_iff, beq_iff_eq, beq_eq_false_iff_ne, ne_eq, Bool.not_true, Bool.not_false, Bool.true_eq_false, Bool.false_eq_true, Bool.not_eq_true, Bool.not_eq_false, and_true, true_and, and_false, false_and, or_false, false_or, or_true, true_or] at hb
          simp only [pu', p0', c1', c0', i1', z0', b8_nat]
          refine spickF ?_
          simp only [pu', p0', c1', c0', i1', z0', b8_nat]
          with_reducible refine s_end ?_
          with_reducible refine s_then ?_
          refine sCF ?_
          with_reducible refine s_skip ?_
          with_reducible refine s_then ?_
          with_reducible refine s_seq ?_
          with_reducible refine s_reg ?_
          refine smove ?_
          simp only [pu', p0', c1', c0', i1', z0', b8_nat]
          refine smove ?_
          simp only [pu', p0', c1', c0', i1', z0', b8_nat]
          refine sC (hx := rfl) ((c18b _ _ inferInstance inferInstance).mono ?_)
          rintro _ m18 _ ⟨rfl, S3⟩
          simp only [pu', p0', c1', c0', i1', n0', n3', n1', n2', a2', a1', a0', n4', Nat.reduceAdd, z0', n5', sa0, sa1, sa2, sa3, sa4, sa5, sa6, sa7, sa8, sa9, sa10, sa11]
          refine smove ?_
          simp only [pu', p0', c1', c0', i1', z0', b8_nat]
          refine sext ?_
          simp only [pu', p0', c1', c0', i1', z0', b8_nat]
          refine sext ?_
          simp only [pu', p0', c1', c0', i1', z0', b8_nat]
          refine sassign ?_
          simp only [pu', p0', c1', c0', i1', z0', b8_nat]
          refine sassign ?_
          simp only [pu', p0', c1', c0', i1', z0', b8_nat]
          with_reducible refine s_end ?_
          with_reducible refine s_then ?_
          with_reducible refine s_seq ?_
          with_reducible refine s_seq ?_
          with_reducible refine s_reg ?_
          refine smove ?_
          simp only [pu', p0', c1', c0', i1', z0', b8_nat]
          refine sEq (fun hb => ?_) (fun hb => ?_)
          replace hb := dT' hb
          (exfalso; omega)
          replace hb := dF' hb
          simp only [pu', p0', c1', c0', i1', z0', b8_nat]
          with_reducible refine s_end ?_
          with_reducible refine s_then ?_
          refine sCF ?_
          with_reducible refine s_skip ?_
          with_reducible refine s_then ?_
          with_reducible refine s_seq ?_
          (refine s_regQ (id := 25) [(0, true), (1, true), (2, true), (3, true), (4, true), (5, true), (6, true), (7, true), (8, true), (9, true), (10, true), (11, true), (12, true), (13, true), (14, true), (15, true), (16, true), (17, true), (18, true), (19, true), (20, true), (21, true), (22, true), (23, true), (24, true), (25, true), (26, true), (27, true), (28, true), (29, true), (30, false), (31, true), (32, true), (33, true)] (by kernel_rfl) (by conv => lhs; simp only [pickO, List.getElem?_cons_succ, List.getElem?_cons_zero]) ?_)
          refine qmove ?_
          simp only [pu', p0', c1', c0', i1', z0', b8_nat]
          refine qNe (fun hb => ?_) (fun hb => ?_)
          replace hb := dT' hb
          (exfalso; omega)
          replace hb := dF' hb
          simp only [pu', p0', c1', c0', i1', z0', b8_nat]
          refine qmove ?_
          simp only [pu', p0', c1', c0', i1', z0', b8_nat]
          refine qmove ?_
          simp only [pu', p0', c1', c0', i1', z0', b8_nat]
          refine qLt (fun hb => ?_) (fun hb => ?_)
          replace hb := dT' hb
          (exfalso; omega)
          replace hb := dF' hb
          simp only [pu', p0', c1', c0', i1', z0', b8_nat]
          refine qpickF ?_
          simp only [pu', p0', c1', c0', i1', z0', b8_nat]
          refine qmove ?_
          simp only [pu', p0', c1', c0', i1', z0', b8_nat]
          refine qmove ?_
          simp only [pu', p0', c1', c0', i1', z0', b8_nat]
          refine qmove ?_
          simp only [pu', p0', c1', c0', i1', z0', b8_nat]
          refine qlenE ?_
          simp only [pu', p0', c1', c0', i1', z0', b8_nat]
          refine qGe (fun hb => ?_) (fun hb => ?_)
          replace hb := dT' hb
          (exfalso; omega)
          replace hb := dF' hb
          simp only [pu', p0', c1', c0', i1', z0', b8_nat]
          refine qpickF ?_
          simp only [pu', p0', c1', c0', i1', z0', b8_nat]
          refine qmove ?_
          simp only [pu', p0', c1', c0', i1', z0', b8_nat]
          refine qmove ?_
          simp only [pu', p0', c1', c0', i1', z0', b8_nat]
          refine qmove ?_
          simp only [pu', p0', c1', c0', i1', z0', b8_nat]
          refine qidxE ?_
          simp only [pu', p0', c1', c0', i1', z0', b8_nat]
          refine qfadE ?_
          simp only [pu', p0', c1', c0', i1', z0', b8_nat]
          refine qloadF ?_
          simp only [pu', p0', c1', c0', i1', z0', b8_nat]
          refine qmove ?_
          simp only [pu', p0', c1', c0', i1', z0', b8_nat]
          refine qNe (fun hb => ?_) (fun hb => ?_)
          replace hb := dT' hb
          (exfalso; omega)
          replace hb := dF' hb
          simp only [pu', p0', c1', c0', i1', z0', b8_nat]
          refine qpickF ?_
          simp only [pu', p0', c1', c0', i1', z0', b8_nat]
          refine qmove ?_
          simp only [pu', p0', c1', c0', i1', z0', b8_nat]
          refine qmove ?_
          simp only [pu', p0', c1', c0', i1', z0', b8_nat]
          refine qmove ?_
          simp only [pu', p0', c1', c0', i1', z0', b8_nat]
          refine qidxE ?_
          simp only [pu', p0', c1', c0', i1', z0', b8_nat]
          refine qfadE ?_
          simp only [pu', p0', c1', c0', i1', z0', b8_nat]
          refine qloadF ?_
          simp only [pu', p0', c1', c0', i1', z0', b8_nat]
          refine qfad ?_
          simp only [pu', p0', c1', c0', i1', z0', b8_nat]
          refine qload1 ?_
          simp only [pu', p0', c1', c0', i1', z0', b8_nat]
          refine qmove ?_
          simp only [pu', p0', c1', c0', i1', z0', b8_nat]
          refine qK (hx := rfl) (c22) ?_
          simp only [pu', p0', c1', c0', i1', z0', b8_nat]
          refine qsub ?_
          simp only [pu', p0', c1', c0', i1', z0', b8_nat]
          refine qNe (fun hb => ?_) (fun hb => ?_)
          replace hb := dT' hb
          (exfalso; omega)
          replace hb := dF' hb
          simp only [pu', p0', c1', c0', i1', z0', b8_nat]
          refine qpickF ?_
          simp only [pu', p0', c1', c0', i1', z0', b8_nat]
          with_reducible refine q_end ?_
          with_reducible refine s_then ?_
          refine sCF ?_
          with_reducible refine s_skip ?_
          with_reducible refine s_blkN ?_
          with_reducible refine s_then ?_
          with_reducible refine s_reg ?_
          refine smove ?_
          simp only [pu', p0', c1', c0', i1', z0', b8_nat]
          refine sadd ?_
          simp only [pu', p0', c1', c0', i1', z0', b8_nat]
          refine sassign ?_
          simp only [pu', p0', c1', c0', i1', z0', b8_nat]
          with_reducible refine s_end ?_
          rotate_left 1
          replace hb := dF' hb
          (exfalso; omega)
          replace hb := dF' hb
          simp only [pu', p0', c1', c0', i1', z0', b8_nat]
          refine smove ?_
          simp only [pu', p0', c1', c0', i1', z0', b8_nat]
          refine smove ?_
          simp only [pu', p0', c1', c0', i1', z0', b8_nat]
          refine slenE ?_
          simp only [pu', p0', c1', c0', i1', z0', b8_nat]
          refine squo ?_
          simp only [pu', p0', c1', c0', i1', z0', b8_nat]
          refine sGt (fun hb => ?_) (fun hb => ?_)
          replace hb := dT' hb
          (exfalso; omega)
          replace hb := dF' hb
          simp only [pu', p0', c1', c0', i1', z0', b8_nat]
          refine sneB (fun hb => ?_) (fun hb => ?_)
          simp only [decide_eq_true_eq, Int.toNat_natCast, decide_eq_false_iff_not, Bool.not_eq_true', Bool.not_eq_false', not_true_eq_false, not_false_eq_true, beq_self_eq_true, Bool.and_true, Bool.true_and, Bool.and_false, Bool.false_and, Bool.and_eq_true, Bool.and_eq_false_iff, beq_iff_eq, beq_eq_false_iff_ne, ne_eq, Bool.not_true, Bool.not_false, Bool.true_eq_false, Bool.false_eq_true, Bool.not_eq_true, Bool.not_eq_false, and_true, true_and, and_false, false_and, or_false, false_or, or_true, true_or] at hb
          simp only [decide_eq_true_eq, Int.toNat_natCast, decide_eq_false_iff_not, Bool.not_eq_true', Bool.not_eq_false', not_true_eq_false, not_false_eq_true, beq_self_eq_true, Bool.and_true, Bool.true_and, Bool.and_false, Bool.false_and, Bool.and_eq_true, Bool.and_eq_false_iff, beq_iff_eq, beq_eq_false_iff_ne, ne_eq, Bool.not_true, Bool.not_false, Bool.true_eq_false, Bool.false_eq_true, Bool.not_eq_true, Bool.not_eq_false, and_true, true_and, and_false, false_and, or_false, false_or, or_true, true_or] at hb
          simp only [pu', p0', c1', c0', i1', z0', b8_nat]
          refine spickF ?_
          simp only [pu', p0', c1', c0', i1', z0', b8_nat]
          with_reducible refine s_end ?_
          with_reducible refine s_then ?_
          refine sCF ?_
          with_reducible refine s_skip ?_
          with_reducible refine s_then ?_
          with_reducible refine s_seq ?_
          with_reducible refine s_reg ?_
          refine smove ?_
          simp only [pu', p0', c1', c0', i1', z0', b8_nat]
          refine smove ?_
          simp only [pu', p0', c1', c0', i1', z0', b8_nat]
          refine sC (hx := rfl) ((c18b _ _ inferInstance inferInstance).mono ?_)
          rintro _ m18 _ ⟨rfl, S3⟩
          simp only [pu', p0', c1', c0', i1', n0', n3', n1', n2', a2', a1', a0', n4', Nat.reduceAdd, z0', n5', sa0, sa1, sa2, sa3, sa4, sa5, sa6, sa7, sa8, sa9, sa10, sa11]
          refine smove ?_
          simp only [pu', p0', c1', c0', i1', z0', b8_nat]
          refine sext ?_
          simp only [pu', p0', c1', c0', i1', z0', b8_nat]
          refine sext ?_
          simp only [pu', p0', c1', c0', i1', z0', b8_nat]
          refine sassign ?_
          simp only [pu', p0', c1', c0', i1', z0', b8_nat]
          refine sassign ?_
          simp only [pu', p0', c1', c0', i1', z0', b8_nat]
          with_reducible refine s_end ?_
          with_reducible refine s_then ?_
          with_reducible refine s_seq ?_
          with_reducible refine s_seq ?_
          with_reducible refine s_reg ?_
          refine smove ?_
          simp only [pu', p0', c1', c0', i1', z0', b8_nat]
          refine sEq (fun hb => ?_) (fun hb => ?_)
          replace hb := dT' hb
          (exfalso; omega)
          replace hb := dF' hb
          simp only [pu', p0', c1', c0', i1', z0', b8_nat]
          with_reducible refine s_end ?_
          with_reducible refine s_then ?_
          refine sCF ?_
          with_reducible refine s_skip ?_
          with_reducible refine s_then ?_
          with_reducible refine s_seq ?_
          (refine s_regQ (id := 25) [(0, true), (1, true), (2, true), (3, true), (4, true), (5, true), (6, true), (7, true), (8, true), (9, true), (10, true), (11, true), (12, true), (13, true), (14, true), (15, true), (16, true), (17, true), (18, true), (19, true), (20, true), (21, true), (22, true), (23, true), (24, true), (25, true), (26, true), (27, true), (28, true), (29, true), (30, false), (31, true), (32, true), (33, true)] (by kernel_rfl) (by conv => lhs; simp only [pickO, List.getElem?_cons_succ, List.getElem?_cons_zero]) ?_)
          refine qmove ?_
          simp only [pu', p0', c1', c0', i1', z0', b8_nat]
          refine qNe (fun hb => ?_) (fun hb => ?_)
          replace hb := dT' hb
          (exfalso; omega)
          replace hb := dF' hb
          simp only [pu', p0', c1', c0', i1', z0', b8_nat]
          refine qmove ?_
          simp only [pu', p0', c1', c0', i1', z0', b8_nat]
          refine qmove ?_
          simp only [pu', p0', c1', c0', i1', z0', b8_nat]
          refine qLt (fun hb => ?_) (fun hb => ?_)
          replace hb := dT' hb
          (exfalso; omega)
          replace hb := dF' hb
          simp only [pu', p0', c1', c0', i1', z0', b8_nat]
          refine qpickF ?_
          simp only [pu', p0', c1', c0', i1', z0', b8_nat]
          refine qmove ?_
          simp only [pu', p0', c1', c0', i1', z0', b8_nat]
          refine qmove ?_
          simp only [pu', p0', c1', c0', i1', z0', b8_nat]
          refine qmove ?_
          simp only [pu', p0', c1', c0', i1', z0', b8_nat]
          refine qlenE ?_
          simp only [pu', p0', c1', c0', i1', z0', b8_nat]
          refine qGe (fun hb => ?_) (fun hb => ?_)
          replace hb := dT' hb
          (exfalso; omega)
          replace hb := dF' hb
          simp only [pu', p0', c1', c0', i1', z0', b8_nat]
          refine qpickF ?_
          simp only [pu', p0', c1', c0', i1', z0', b8_nat]
          refine qmove ?_
          simp only [pu', p0', c1', c0', i1', z0', b8_nat]
          refine qmove ?_
          simp only [pu', p0', c1', c0', i1', z0', b8_nat]
          refine qmove ?_
          simp only [pu', p0', c1', c0', i1', z0', b8_nat]
          refine qidxE ?_
          simp only [pu', p0', c1', c0', i1', z0', b8_nat]
          refine qfadE ?_
          simp only [pu', p0', c1', c0', i1', z0', b8_nat]
          refine qloadF ?_
          simp only [pu', p0', c1', c0', i1', z0', b8_nat]
          refine qmove ?_
          simp only [pu', p0', c1', c0', i1', z0', b8_nat]
          refine qNe (fun hb => ?_) (fun hb => ?_)
          replace hb := dT' hb
          (exfalso; omega)
          replace hb := dF' hb
          simp only [pu', p0', c1', c0', i1', z0', b8_nat]
          refine qpickF ?_
          simp only [pu', p0', c1', c0', i1', z0', b8_nat]
          refine qmove ?_
          simp only [pu', p0', c1', c0', i1', z0', b8_nat]
          refine qmove ?_
          simp only [pu', p0', c1', c0', i1', z0', b8_nat]
          refine qmove ?_
          simp only [pu', p0', c1', c0', i1', z0', b8_nat]
          refine qidxE ?_
          simp only [pu', p0', c1', c0', i1', z0', b8_nat]
          refine qfadE ?_
          simp only [pu', p0', c1', c0', i1', z0', b8_nat]
          refine qloadF ?_
          simp only [pu', p0', c1', c0', i1', z0', b8_nat]
          refine qfad ?_
          simp only [pu', p0', c1', c0', i1', z0', b8_nat]
          refine qload1 ?_
          simp only [pu', p0', c1', c0', i1', z0', b8_nat]
          refine qmove ?_
          simp only [pu', p0', c1', c0', i1', z0', b8_nat]
          refine qK (hx := rfl) (c22) ?_
          simp only [pu', p0', c1', c0', i1', z0', b8_nat]
          refine qsub ?_
          simp only [pu', p0', c1', c0', i1', z0', b8_nat]
          refine qNe (fun hb => ?_) (fun hb => ?_)
          replace hb := dT' hb
          (exfalso; omega)
          replace hb := dF' hb
          simp only [pu', p0', c1', c0', i1', z0', b8_nat]
          refine qpickF ?_
          simp only [pu', p0', c1', c0', i1', z0', b8_nat]
          with_reducible refine q_end ?_
          with_reducible refine s_then ?_
          refine sCF ?_
          with_reducible refine s_skip ?_
          with_reducible refine s_blkN ?_
          with_reducible refine s_then ?_
          with_reducible refine s_reg ?_
          refine smove ?_
          simp only [pu', p0', c1', c0', i1', z0', b8_nat]
          refine sadd ?_
          simp only [pu', p0', c1', c0', i1', z0', b8_nat]
          refine sassign ?_
          simp only [pu', p0', c1', c0', i1', z0', b8_nat]
          with_reducible refine s_end ?_
          rotate_left 1
        all_goals
          refine l_next ⟨k + 1, _⟩ ⟨by simp only []; omega, Sep.sub inferInstance (by repeat' first | exact List.Sublist.refl _ | exact List.sublist_append_left _ _ | exact List.nil_sublist _ | refine List.Sublist.cons_cons _ ?_ | refine List.Sublist.cons _ ?_ | refine List.Sublist.trans ?_ (List.sublist_append_left _ _))⟩ (by simp only []; omega) (by rfl) rfl
  · with_reducible refine s_seq ?_
    with_reducible refine s_seq ?_
    with_reducible refine s_reg ?_
    refine smove ?_
    simp only [pu', p0', c1', c0', i1', z0', b8_nat]
    refine sfad ?_
    simp only [pu', p0', c1', c0', i1', z0', b8_nat]
    refine sload1 ?_
    simp only [pu', p0', c1', c0', i1', z0', b8_nat]
    refine slenE ?_
    simp only [pu', p0', c1', c0', i1', z0', b8_nat]
    refine sLt (fun hb => ?_) (fun hb => ?_)
    replace hb := dT' hb
    (exfalso; omega)
    replace hb := dF' hb
    simp only [pu', p0', c1', c0', i1', z0', b8_nat]
    with_reducible refine s_end ?_
    with_reducible refine s_then ?_
    refine sCF ?_
    with_reducible refine s_exit ?_
    with_reducible refine s_thenE ?_
    with_reducible refine l_exit ?_
    with_reducible refine s_blkE ?_
    with_reducible refine s_then ?_
    with_reducible refine s_seq ?_
    with_reducible refine s_reg ?_
    refine smove ?_
    simp only [pu', p0', c1', c0', i1', z0', b8_nat]
    refine sassign ?_
    simp only [pu', p0', c1', c0', i1', z0', b8_nat]
    with_reducible refine s_end ?_
    with_reducible refine s_then ?_
    with_reducible refine s_ret ?_
    all_goals
      all_goals try with_reducible refine w_n ?_
      all_goals refine w_1 rfl (by first | exact v_t (by rfl) | exact v_c1 (C1.p) (by rfl) (HA.p) (by rfl) | exact v_cF (CA.p) (by rfl) (HA.p) (by rfl)) ?_
      exact rfl
end Go.Proofs.Ytgbddbiimffplaa
