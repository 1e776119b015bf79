/-
  A part of the proof of a statement of a chapter's seat; conditions: stated at each theorem.
-/
import Derived.Test.YtckljanplahbkaaM32
set_option linter.unusedVariables false
set_option linter.unusedSectionVars false
set_option linter.unusedSimpArgs false
set_option linter.unusedVariables false
set_option maxRecDepth 100000
set_option maxHeartbeats 8000000
namespace Go.Proofs.Ytckljanplahbkaa
open Go.Az Go
/-! ### Lengths of a code -/
def hfF (l : List Int) : Nat → List Int
  | 0 => l
  | i + 1 => (hfF l i).set i (((hfF l i).getD i 0 + 1) / 2)
theorem hf_len (l : List Int) : ∀ i, (hfF l i).length = l.length
  | 0 => rfl
  | i + 1 => by rw [hfF, List.length_set, hf_len l i]
theorem hf_hi (l : List Int) : ∀ i j, i ≤ j → (hfF l i).getD j 0 = l.getD j 0
  | 0, j, _ => rfl
  | i + 1, j, h => by rw [hfF, setG, if_neg (by omega), hf_hi l i j (by omega)]
theorem hf_lo (l : List Int) : ∀ i j, j < i → j < l.length → (hfF l i).getD j 0 = (l.getD j 0 + 1) / 2
  | 0, j, h, _ => absurd h (Nat.not_lt_zero _)
  | i + 1, j, h, hj => by
    rw [hfF, setG, hf_len]
    by_cases e : i = j
    · subst e; rw [if_pos ⟨rfl, hj⟩, hf_hi l i i (Nat.le_refl _)]
    · rw [if_neg (fun hh => e hh.1), hf_lo l i j (by omega) hj]
/-- Halved counts occur where the counts do. -/
structure PosE (a b : List Int) : Prop where
  len : b.length = a.length
  pos : ∀ k : Nat, 0 < b.getD k 0 ↔ 0 < a.getD k 0
theorem PosE.sameA {a b : List Int} (h : PosE a b) : posA b 0 = posA a 0 := by
  have : ∀ i, i ≤ a.length → posA (b.take i) 0 = posA (a.take i) 0 := by
    intro i
    induction i with
    | zero => intro _; rfl
    | succ i ih =>
      intro hi
      rw [posA_take (by rw [h.len]; omega), posA_take (by omega), ih (by omega)]
      have := h.pos i
      by_cases hp : 0 < a.getD i 0
      · rw [if_pos hp, if_pos (this.2 hp)]
      · rw [if_neg hp, if_neg (fun hh => hp (this.1 hh))]
  have e := this a.length (Nat.le_refl _)
  rwa [List.take_length, ← h.len, List.take_length] at e
theorem hf_ok {l : List Int} (hs : CsOk l) : CsOk (hfF l l.length) ∧ PosE l (hfF l l.length) ∧ 2 * posS (hfF l l.length) ≤ posS l + l.length := by
  have hg : ∀ j, j < l.length → (hfF l l.length).getD j 0 = (l.getD j 0 + 1) / 2 := fun j hj => hf_lo l l.length j hj hj
  have hn : ∀ (m : List Int) (j : Nat), m.length ≤ j → m.getD j 0 = 0 := fun m j hj => by rw [List.getD_eq_getElem?_getD, List.getElem?_eq_none hj]; rfl
  have hm : ∀ i, i ≤ l.length → mnyF (hfF l l.length) i = mnyF l i := by
    intro i
    induction i with
    | zero => intro _; rfl
    | succ i ih =>
      intro hi
      have hb := hs.bd i (by omega)
      rw [mnyF, mnyF, ih (by omega), hg i (by omega)]
      by_cases e : l.getD i 0 = 0
      · rw [if_pos e, if_pos (by omega)]
      · rw [if_neg e, if_neg (by omega)]
  have hp : ∀ i, i ≤ l.length → 2 * posS ((hfF l l.length).take i) ≤ posS (l.take i) + i := by
    intro i
    induction i with
    | zero => intro _; simp [posS]
    | succ i ih =>
      intro hi
      have hb := hs.bd i (by omega)
      have := ih (by omega)
      rw [posS_take (by rw [hf_len]; omega), posS_take (by omega), hg i (by omega)]
      push_cast
      split <;> split <;> omega
  refine ⟨⟨by rw [hf_len]; exact hs.len, fun i hi => ?_, by rw [hf_len, hm _ (Nat.le_refl _)]; exact hs.two⟩, ⟨hf_len _ _, fun k => ?_⟩, ?_⟩
  · rw [hf_len] at hi
    have := hs.bd i hi
    rw [hg i hi]; omega
  · by_cases hk : k < l.length
    · have := hs.bd k hk
      rw [hg k hk]; omega
    · rw [hn _ _ (by rw [hf_len]; omega), hn _ _ (by omega)]
  · have := hp l.length (Nat.le_refl _)
    rw [List.take_length] at this
    rwa [List.take_of_length_le (by rw [hf_len]; exact Nat.le_refl _)] at this
structure HufOk (cs o : List Int) : Prop where
  ol : o.length = cs.length
  zr : ∀ k : Nat, ¬ 0 < cs.getD k 0 → o.getD k 0 = 0
  kr : krF o (posA cs 0) = 2 ^ 64
  bd : ∀ k : Nat, k < o.length → 0 ≤ o.getD k 0 ∧ o.getD k 0 ≤ 11
theorem huf_of {cs b o : List Int} (hp : PosE cs b) (hd : DepOk b o) (h : ∀ k, k < o.length → o.getD k 0 ≤ 11) : HufOk cs o := by
  obtain ⟨hh, h1, h2⟩ := hd.bd
  exact ⟨by rw [hd.ol, hp.len], fun k hk => hd.zr k fun hh => hk ((hp.pos k).1 hh), by rw [← hp.sameA]; exact hd.kr, fun k hk => ⟨(h2 k).1, h k hk⟩⟩
theorem high_big {b o : List Int} (hd : DepOk b o) (h : ∃ k, k < o.length ∧ 11 < o.getD k 0) : 377 ≤ posS b := by
  obtain ⟨k, _, h0⟩ := h
  obtain ⟨hh, h1, h2⟩ := hd.bd
  have h3 := h2 k
  have h4 : fb 12 ≤ fb hh := fb_mono (by omega)
  have : fb 12 = 377 := by decide
  omega
structure OfD where
  b : List Int
  G : Hp
structure OfE where
  i : Nat
  b : Bool
theorem of42 {h : Hp} (s : AV) {l : List Int} [a : EI h s l] (hs : CsOk l) : ACalls Try.prog 42 [s] h (fun r h' => ∃ z o, r = .tup [z, I 0] ∧ SlC z ∧ Sep h h' [WI z o] ∧ HufOk l o) := by
  have pss := a.p.sl
  have S0 := Sep.nil h
  have hl := hs.len
  have c47 := asked47 (h := h) s hs
  have c48 : ∀ Y L' z b, Sep h Y L' → CsOk b → EI Y z b → ACalls Try.prog 48 [z] Y (fun r h' => ∃ z o, z = r ∧ SlC z ∧ Sep h h' (L' ++ [WI z o]) ∧ DepOk b o) := fun Y L' z b S hb a =>
    (depths48 (h := Y) z hb).mono fun r h' _ ⟨z, o, h1, h2, h3, h4⟩ => ⟨z, o, h1.symm, h2, S.join h3, h4⟩
  refine acalls_of_wk hm Try.func42 rfl ?_
  simp only [Try.ntmps42, List.length_cons, List.length_nil, Nat.reduceAdd, Nat.reduceSub, List.reduceReplicate, List.cons_append, List.nil_append]
  show wk _ _ none _ _ ⟨_, []⟩ _
  with_reducible refine s_seq ?_
  with_reducible refine s_reg ?_
  refine sassign ?_
  simp only [pu', p0', c1', c0', i1', z0', b8_nat]
  refine sassign ?_
  simp only [pu', p0', c1', c0', i1', z0', b8_nat]
  with_reducible refine s_end ?_
  with_reducible refine s_then ?_
  with_reducible refine s_seq ?_
  with_reducible refine s_reg ?_
  refine smove ?_
  simp only [pu', p0', c1', c0', i1', z0', b8_nat]
  refine sM (hx := rfl) (c47) ?_
  simp only [pu', p0', c1', c0', i1', z0', b8_nat]
  refine sassign ?_
  simp only [pu', p0', c1', c0', i1', z0', b8_nat]
  with_reducible refine s_end ?_
  with_reducible refine s_then ?_
  with_reducible refine s_seq ?_
  with_reducible refine s_seq ?_
  with_reducible refine s_reg ?_
  refine smove ?_
  simp only [pu', p0', c1', c0', i1', z0', b8_nat]
  refine sNe (fun hb => ?_) (fun hb => ?_)
  replace hb := dT' hb
  (exfalso; omega)
  replace hb := dF' hb
  simp only [pu', p0', c1', c0', i1', z0', b8_nat]
  with_reducible refine s_end ?_
  with_reducible refine s_then ?_
  refine sCF ?_
  with_reducible refine s_skip ?_
  with_reducible refine s_then ?_
  with_reducible refine s_seq ?_
  with_reducible refine s_reg ?_
  refine sbsl ?_
  simp only [pu', p0', c1', c0', i1', n0', n3', n1', n2', a2', a1', a0', n4', Nat.reduceAdd, z0', n5', sa0, sa1, sa2, sa3, sa4, sa5, sa6, sa7, sa8, sa9, sa10, sa11]
  refine smove ?_
  simp only [pu', p0', c1', c0', i1', z0', b8_nat]
  (refine s_app0 h (fun zl Y1 pzl T1 => ?_); simp only [Fr.put, List.set_cons_succ, List.set_cons_zero, Int.toNat_natCast, Nat.zero_add])
  refine sassign ?_
  simp only [pu', p0', c1', c0', i1', z0', b8_nat]
  with_reducible refine s_end ?_
  with_reducible refine s_then ?_
  with_reducible refine s_block ?_
  simp only [List.append_nil, List.nil_append] at T1
  refine s_loop hm (fun (b : OfD) s' => [s' 0, s' 1, s' 2, s' 3, s' 4, zl, s' 6, s' 7, s' 8, s' 9, s' 10, s' 11, s' 12, s' 13, s' 14, s' 15, s' 16, s' 17, s' 18, s' 19, s' 20, s' 21, s' 22, s' 23, s' 24, s' 25, s' 26, s' 27, s' 28, s' 29, s' 30, s' 31, s' 32, s' 33, s' 34, s' 35, s' 36, s' 37, s' 38, s' 39, s' 40, s' 41, s' 42, s' 43, s' 44, s' 45, s' 46, s' 47, s' 48, s' 49, s' 50, s' 51]) (fun b => b.G) (fun b => CsOk b.b ∧ PosE l b.b ∧ Sep h b.G [WI zl b.b]) (fun b => (posS b.b).toNat) ⟨l, _⟩ (by rfl) rfl ⟨hs, ⟨rfl, fun k => Iff.rfl⟩, Sep.sub T1 (by repeat' first | exact List.Sublist.refl _ | exact List.sublist_append_left _ _ | exact List.nil_sublist _ | refine List.Sublist.cons_cons _ ?_ | refine List.Sublist.cons _ ?_ | refine List.Sublist.trans ?_ (List.sublist_append_left _ _))⟩ ?_
  clear T1
  rintro ⟨b, G⟩ s' ⟨hcb, hp, S1⟩
  simp only [] at hcb hp S1 ⊢
  have hbl := hcb.len
  with_reducible refine s_block ?_
  with_reducible refine s_seq ?_
  with_reducible refine s_reg ?_
  refine smove ?_
  simp only [pu', p0', c1', c0', i1', z0', b8_nat]
  refine sC (hx := rfl) ((c48 _ _ zl b inferInstance hcb inferInstance).mono ?_)
  rintro _ m48 _ ⟨zo, o, rfl, pzo, S2, hD⟩
  simp only [pu', p0', c1', c0', i1', n0', n3', n1', n2', a2', a1', a0', n4', Nat.reduceAdd, z0', n5', sa0, sa1, sa2, sa3, sa4, sa5, sa6, sa7, sa8, sa9, sa10, sa11]
  refine sassign ?_
  simp only [pu', p0', c1', c0', i1', z0', b8_nat]
  with_reducible refine s_end ?_
  with_reducible refine s_then ?_
  with_reducible refine s_seq ?_
  with_reducible refine s_reg ?_
  refine sassign ?_
  simp only [pu', p0', c1', c0', i1', z0', b8_nat]
  with_reducible refine s_end ?_
  with_reducible refine s_then ?_
  with_reducible refine s_seq ?_
  with_reducible refine s_seq ?_
  with_reducible refine s_reg ?_
  refine sassign ?_
  simp only [pu', p0', c1', c0', i1', z0', b8_nat]
  with_reducible refine s_end ?_
  with_reducible refine s_then ?_
  with_reducible refine s_block ?_
  have hol := hD.ol
  obtain ⟨hh, hd1, hd2⟩ := hD.bd
  refine s_loop hm (fun (b : OfE) s' => [s' 0, s' 1, s' 2, s' 3, s' 4, zl, zo, B b.b, I b.i, s' 9, s' 10, s' 11, s' 12, s' 13, s' 14, s' 15, s' 16, s' 17, s' 18, s' 19, s' 20, s' 21, s' 22, s' 23, s' 24, s' 25, s' 26, s' 27, s' 28, s' 29, s' 30, s' 31, s' 32, s' 33, s' 34, s' 35, s' 36, s' 37, s' 38, s' 39, s' 40, s' 41, s' 42, s' 43, s' 44, s' 45, s' 46, s' 47, s' 48, s' 49, s' 50, s' 51]) (fun _ => m48) (fun b => b.i ≤ o.length ∧ (b.b = true → ∃ k, k < o.length ∧ 11 < o.getD k 0) ∧ (b.b = false → ∀ k, k < b.i → o.getD k 0 ≤ 11)) (fun b => o.length - b.i) ⟨0, false⟩ (by rfl) rfl ⟨Nat.zero_le _, fun hh => (by cases hh), fun _ k hk => absurd hk (Nat.not_lt_zero _)⟩ ?_
  rintro ⟨i, q⟩ s' ⟨hi, hq1, hq2⟩
  simp only [] at hi hq1 hq2 ⊢
  by_cases hil : i < o.length
  · cases q
    · by_cases hg : 11 < o.getD i 0
      · with_reducible refine s_seq ?_
        with_reducible refine s_seq ?_
        with_reducible refine s_reg ?_
        refine smove ?_
        simp only [pu', p0', c1', c0', i1', z0', b8_nat]
        refine smove ?_
        simp only [pu', p0', c1', c0', i1', z0', b8_nat]
        refine slenE ?_
        simp only [pu', p0', c1', c0', i1', z0', b8_nat]
        refine sLt (fun hb => ?_) (fun hb => ?_)
        replace hb := dT' hb
        simp only [pu', p0', c1', c0', i1', z0', b8_nat]
        with_reducible refine s_end ?_
        with_reducible refine s_then ?_
        refine sCT ?_
        with_reducible refine s_skip ?_
        with_reducible refine s_then ?_
        with_reducible refine s_seq ?_
        with_reducible refine s_block ?_
        with_reducible refine s_reg ?_
        refine smove ?_
        simp only [pu', p0', c1', c0', i1', z0', b8_nat]
        refine smove ?_
        simp only [pu', p0', c1', c0', i1', z0', b8_nat]
        refine smove ?_
        simp only [pu', p0', c1', c0', i1', z0', b8_nat]
        refine smove ?_
        simp only [pu', p0', c1', c0', i1', z0', b8_nat]
        refine sidxE ?_
        simp only [pu', p0', c1', c0', i1', z0', b8_nat]
        refine sloadE1 ?_
        simp only [pu', p0', c1', c0', i1', z0', b8_nat]
        refine sGt (fun hb => ?_) (fun hb => ?_)
        replace hb := dT' hb
        simp only [pu', p0', c1', c0', i1', z0', b8_nat]
        refine spickF ?_
        simp only [pu', p0', c1', c0', i1', z0', b8_nat]
        refine sassign ?_
        simp only [pu', p0', c1', c0', i1', z0', b8_nat]
        with_reducible refine s_end ?_
        with_reducible refine s_blkN ?_
        with_reducible refine s_then ?_
        with_reducible refine s_reg ?_
        refine smove ?_
        simp only [pu', p0', c1', c0', i1', z0', b8_nat]
        refine sadd ?_
        simp only [pu', p0', c1', c0', i1', z0', b8_nat]
        refine sassign ?_
        simp only [pu', p0', c1', c0', i1', z0', b8_nat]
        with_reducible refine s_end ?_
        rotate_left 1
        replace hb := dF' hb
        exact absurd (by with_reducible assumption) hb
        replace hb := dF' hb
        (exfalso; omega)
        all_goals
          refine l_next ⟨i + 1, true⟩ ⟨by simp only []; omega, fun _ => ⟨i, hil, hg⟩, fun hh => (by cases hh)⟩ (by simp only []; omega) (by rfl) rfl
      · with_reducible refine s_seq ?_
        with_reducible refine s_seq ?_
        with_reducible refine s_reg ?_
        refine smove ?_
        simp only [pu', p0', c1', c0', i1', z0', b8_nat]
        refine smove ?_
        simp only [pu', p0', c1', c0', i1', z0', b8_nat]
        refine slenE ?_
        simp only [pu', p0', c1', c0', i1', z0', b8_nat]
        refine sLt (fun hb => ?_) (fun hb => ?_)
        replace hb := dT' hb
        simp only [pu', p0', c1', c0', i1', z0', b8_nat]
        with_reducible refine s_end ?_
        with_reducible refine s_then ?_
        refine sCT ?_
        with_reducible refine s_skip ?_
        with_reducible refine s_then ?_
        with_reducible refine s_seq ?_
        with_reducible refine s_block ?_
        with_reducible refine s_reg ?_
        refine smove ?_
        simp only [pu', p0', c1', c0', i1', z0', b8_nat]
        refine smove ?_
        simp only [pu', p0', c1', c0', i1', z0', b8_nat]
        refine smove ?_
        simp only [pu', p0', c1', c0', i1', z0', b8_nat]
        refine smove ?_
        simp only [pu', p0', c1', c0', i1', z0', b8_nat]
        refine sidxE ?_
        simp only [pu', p0', c1', c0', i1', z0', b8_nat]
        refine sloadE1 ?_
        simp only [pu', p0', c1', c0', i1', z0', b8_nat]
        refine sGt (fun hb => ?_) (fun hb => ?_)
        replace hb := dT' hb
        (exfalso; omega)
        replace hb := dF' hb
        simp only [pu', p0', c1', c0', i1', z0', b8_nat]
        refine spickF ?_
        simp only [pu', p0', c1', c0', i1', z0', b8_nat]
        refine sassign ?_
        simp only [pu', p0', c1', c0', i1', z0', b8_nat]
        with_reducible refine s_end ?_
        with_reducible refine s_blkN ?_
        with_reducible refine s_then ?_
        with_reducible refine s_reg ?_
        refine smove ?_
        simp only [pu', p0', c1', c0', i1', z0', b8_nat]
        refine sadd ?_
        simp only [pu', p0', c1', c0', i1', z0', b8_nat]
        refine sassign ?_
        simp only [pu', p0', c1', c0', i1', z0', b8_nat]
        with_reducible refine s_end ?_
        rotate_left 1
        replace hb := dF' hb
        (exfalso; omega)
        all_goals
          refine l_next ⟨i + 1, false⟩ ⟨by simp only []; omega, fun hh => (by cases hh), fun _ k hk => ?_⟩ (by simp only []; omega) (by rfl) rfl
          simp only [] at hk
          by_cases e : k = i
          · subst e; omega
          · exact hq2 rfl k (by omega)
    · with_reducible refine s_seq ?_
      with_reducible refine s_seq ?_
      with_reducible refine s_reg ?_
      refine smove ?_
      simp only [pu', p0', c1', c0', i1', z0', b8_nat]
      refine smove ?_
      simp only [pu', p0', c1', c0', i1', z0', b8_nat]
      refine slenE ?_
      simp only [pu', p0', c1', c0', i1', z0', b8_nat]
      refine sLt (fun hb => ?_) (fun hb => ?_)
      replace hb := dT' hb
      simp only [pu', p0', c1', c0', i1', z0', b8_nat]
      with_reducible refine s_end ?_
      with_reducible refine s_then ?_
      refine sCT ?_
      with_reducible refine s_skip ?_
      with_reducible refine s_then ?_
      with_reducible refine s_seq ?_
      with_reducible refine s_block ?_
      with_reducible refine s_reg ?_
      refine smove ?_
      simp only [pu', p0', c1', c0', i1', z0', b8_nat]
      refine smove ?_
      simp only [pu', p0', c1', c0', i1', z0', b8_nat]
      (with_reducible refine s_gN ?_ ?_; exact wG rfl rfl rfl rfl rfl)
      simp only [pu', p0', c1', c0', i1', z0', b8_nat]
      (with_reducible refine s_gN ?_ ?_; exact wG rfl rfl rfl rfl rfl)
      simp only [pu', p0', c1', c0', i1', z0', b8_nat]
      (with_reducible refine s_gN ?_ ?_; exact wG rfl rfl rfl rfl rfl)
      simp only [pu', p0', c1', c0', i1', z0', b8_nat]
      (with_reducible refine s_gN ?_ ?_; exact wG rfl rfl rfl rfl rfl)
      simp only [pu', p0', c1', c0', i1', z0', b8_nat]
      (with_reducible refine s_gN ?_ ?_; exact wG rfl rfl rfl rfl rfl)
      simp only [pu', p0', c1', c0', i1', z0', b8_nat]
      refine spickT ?_
      simp only [pu', p0', c1', c0', i1', z0', b8_nat]
      refine sassign ?_
      simp only [pu', p0', c1', c0', i1', z0', b8_nat]
      with_reducible refine s_end ?_
      with_reducible refine s_blkN ?_
      with_reducible refine s_then ?_
      with_reducible refine s_reg ?_
      refine smove ?_
      simp only [pu', p0', c1', c0', i1', z0', b8_nat]
      refine sadd ?_
      simp only [pu', p0', c1', c0', i1', z0', b8_nat]
      refine sassign ?_
      simp only [pu', p0', c1', c0', i1', z0', b8_nat]
      with_reducible refine s_end ?_
      rotate_left 1
      replace hb := dF' hb
      (exfalso; omega)
      all_goals
        refine l_next ⟨i + 1, true⟩ ⟨by simp only []; omega, fun _ => hq1 rfl, fun hh => (by cases hh)⟩ (by simp only []; omega) (by rfl) rfl
  · have hie : i = o.length := by omega
    subst hie
    cases q
    · have hH := huf_of hp hD (hq2 rfl)
      with_reducible refine s_seq ?_
      with_reducible refine s_seq ?_
      with_reducible refine s_reg ?_
      refine smove ?_
      simp only [pu', p0', c1', c0', i1', z0', b8_nat]
      refine smove ?_
      simp only [pu', p0', c1', c0', i1', z0', b8_nat]
      refine slenE ?_
      simp only [pu', p0', c1', c0', i1', z0', b8_nat]
      refine sLt (fun hb => ?_) (fun hb => ?_)
      replace hb := dT' hb
      (exfalso; omega)
      replace hb := dF' hb
      simp only [pu', p0', c1', c0', i1', z0', b8_nat]
      with_reducible refine s_end ?_
      with_reducible refine s_then ?_
      refine sCF ?_
      with_reducible refine s_exit ?_
      with_reducible refine s_thenE ?_
      with_reducible refine l_exit ?_
      with_reducible refine s_blkE ?_
      with_reducible refine s_then ?_
      with_reducible refine s_seq ?_
      with_reducible refine s_seq ?_
      with_reducible refine s_reg ?_
      refine smove ?_
      simp only [pu', p0', c1', c0', i1', z0', b8_nat]
      refine snotF ?_
      simp only [pu', p0', c1', c0', i1', z0', b8_nat]
      with_reducible refine s_end ?_
      with_reducible refine s_then ?_
      refine sCT ?_
      with_reducible refine s_seq ?_
      with_reducible refine s_reg ?_
      refine smove ?_
      simp only [pu', p0', c1', c0', i1', z0', b8_nat]
      refine sassign ?_
      simp only [pu', p0', c1', c0', i1', z0', b8_nat]
      refine sassign ?_
      simp only [pu', p0', c1', c0', i1', z0', b8_nat]
      with_reducible refine s_end ?_
      with_reducible refine s_then ?_
      with_reducible refine s_ret ?_
      with_reducible refine s_thenR ?_
      with_reducible refine s_blkR ?_
      with_reducible refine l_ret ?_
      with_reducible refine s_blkR ?_
      all_goals
        all_goals try with_reducible refine w_n ?_
        all_goals refine w_2 rfl (by first | exact v_t (by rfl) | exact v_c1 (C1.p) (by rfl) (HA.p) (by rfl) | exact v_cF (CA.p) (by rfl) (HA.p) (by rfl)) (by first | exact v_t (by rfl) | exact v_c1 (C1.p) (by rfl) (HA.p) (by rfl) | exact v_cF (CA.p) (by rfl) (HA.p) (by rfl)) ?_
        exact ⟨zo, o, rfl, pzo, Sep.sub S2 (by repeat' first | exact List.Sublist.refl _ | exact List.sublist_append_left _ _ | exact List.nil_sublist _ | refine List.Sublist.cons_cons _ ?_ | refine List.Sublist.cons _ ?_ | refine List.Sublist.trans ?_ (List.sublist_append_left _ _)), hH⟩
    · have hbig := high_big hD (hq1 rfl)
      obtain ⟨hf1, hf2, hf3⟩ := hf_ok hcb
      with_reducible refine s_seq ?_
      with_reducible refine s_seq ?_
      with_reducible refine s_reg ?_
      refine smove ?_
      simp only [pu', p0', c1', c0', i1', z0', b8_nat]
      refine smove ?_
      simp only [pu', p0', c1', c0', i1', z0', b8_nat]
      refine slenE ?_
      simp only [pu', p0', c1', c0', i1', z0', b8_nat]
      refine sLt (fun hb => ?_) (fun hb => ?_)
      replace hb := dT' hb
      (exfalso; omega)
      replace hb := dF' hb
      simp only [pu', p0', c1', c0', i1', z0', b8_nat]
      with_reducible refine s_end ?_
      with_reducible refine s_then ?_
      refine sCF ?_
      with_reducible refine s_exit ?_
      with_reducible refine s_thenE ?_
      with_reducible refine l_exit ?_
      with_reducible refine s_blkE ?_
      with_reducible refine s_then ?_
      with_reducible refine s_seq ?_
      with_reducible refine s_seq ?_
      with_reducible refine s_reg ?_
      refine smove ?_
      simp only [pu', p0', c1', c0', i1', z0', b8_nat]
      refine snotT ?_
      simp only [pu', p0', c1', c0', i1', z0', b8_nat]
      with_reducible refine s_end ?_
      with_reducible refine s_then ?_
      refine sCF ?_
      with_reducible refine s_skip ?_
      with_reducible refine s_then ?_
      with_reducible refine s_seq ?_
      with_reducible refine s_reg ?_
      refine sassign ?_
      simp only [pu', p0', c1', c0', i1', z0', b8_nat]
      with_reducible refine s_end ?_
      with_reducible refine s_then ?_
      with_reducible refine s_block ?_
      refine s_loop hm (fun (x : DpD) s' => [s' 0, s' 1, s' 2, s' 3, s' 4, zl, s' 6, s' 7, s' 8, I x.j, s' 10, s' 11, s' 12, s' 13, s' 14, s' 15, s' 16, s' 17, s' 18, s' 19, s' 20, s' 21, s' 22, s' 23, s' 24, s' 25, s' 26, s' 27, s' 28, s' 29, s' 30, s' 31, s' 32, s' 33, s' 34, s' 35, s' 36, s' 37, s' 38, s' 39, s' 40, s' 41, s' 42, s' 43, s' 44, s' 45, s' 46, s' 47, s' 48, s' 49, s' 50, s' 51]) (fun x => x.G) (fun x => x.j ≤ b.length ∧ Sep h x.G [WI zl (hfF b x.j)]) (fun x => b.length - x.j) ⟨0, _⟩ (by rfl) rfl ⟨Nat.zero_le _, Sep.sub S2 (by repeat' first | exact List.Sublist.refl _ | exact List.sublist_append_left _ _ | exact List.nil_sublist _ | refine List.Sublist.cons_cons _ ?_ | refine List.Sublist.cons _ ?_ | refine List.Sublist.trans ?_ (List.sublist_append_left _ _))⟩ ?_
      clear S1 S2
      rintro ⟨j, G3⟩ s' ⟨hj, S3⟩
      simp only [] at hj S3 ⊢
      have hlj := hf_len b j
      by_cases hjl : j < b.length
      · have hv := hf_hi b j j (Nat.le_refl _)
        have hbj := hcb.bd j hjl
        have hst : hfF b (j + 1) = (hfF b j).set j (((hfF b j).getD j 0 + 1) / 2) := rfl
        focus
          with_reducible refine s_seq ?_
          with_reducible refine s_seq ?_
          with_reducible refine s_reg ?_
          refine smove ?_
          simp only [pu', p0', c1', c0', i1', z0', b8_nat]
          refine smove ?_
          simp only [pu', p0', c1', c0', i1', z0', b8_nat]
          refine slenE ?_
          simp only [pu', p0', c1', c0', i1', z0', b8_nat]
          refine sLt (fun hb => ?_) (fun hb => ?_)
          replace hb := dT' hb
          simp only [pu', p0', c1', c0', i1', z0', b8_nat]
          with_reducible refine s_end ?_
          with_reducible refine s_then ?_
          refine sCT ?_
          with_reducible refine s_skip ?_
          with_reducible refine s_then ?_
          with_reducible refine s_seq ?_
          with_reducible refine s_block ?_
          with_reducible refine s_reg ?_
          refine smove ?_
          simp only [pu', p0', c1', c0', i1', z0', b8_nat]
          refine smove ?_
          simp only [pu', p0', c1', c0', i1', z0', b8_nat]
          refine smove ?_
          simp only [pu', p0', c1', c0', i1', z0', b8_nat]
          refine smove ?_
          simp only [pu', p0', c1', c0', i1', z0', b8_nat]
          refine sidxE ?_
          simp only [pu', p0', c1', c0', i1', z0', b8_nat]
          refine sloadE1 ?_
          simp only [pu', p0', c1', c0', i1', z0', b8_nat]
          refine sadd ?_
          simp only [pu', p0', c1', c0', i1', z0', b8_nat]
          refine squo ?_
          simp only [pu', p0', c1', c0', i1', z0', b8_nat]
          refine sidxE ?_
          simp only [pu', p0', c1', c0', i1', z0', b8_nat]
          (refine s_stE (x := (j : Int)) 0 (((hfF b j).getD j 0 + 1) / 2) (0 : Int) (fun Y2 T2 => ?_) inferInstance rfl iok inferInstance (by omega) (by omega) (by rfl) inferInstance; simp only [a1', c1', c0', Int.toNat_natCast] at T2; simp only [Fr.put, List.set_cons_succ, List.set_cons_zero, Int.toNat_natCast, Nat.zero_add])
          with_reducible refine s_end ?_
          with_reducible refine s_blkN ?_
          with_reducible refine s_then ?_
          with_reducible refine s_reg ?_
          refine smove ?_
          simp only [pu', p0', c1', c0', i1', z0', b8_nat]
          refine sadd ?_
          simp only [pu', p0', c1', c0', i1', z0', b8_nat]
          refine sassign ?_
          simp only [pu', p0', c1', c0', i1', z0', b8_nat]
          with_reducible refine s_end ?_
          rotate_left 1
          replace hb := dF' hb
          (exfalso; omega)
        all_goals
          refine l_next ⟨j + 1, _⟩ ⟨by simp only []; omega, by simp only []; rw [hst]; exact Sep.sub T2 (by repeat' first | exact List.Sublist.refl _ | exact List.sublist_append_left _ _ | exact List.nil_sublist _ | refine List.Sublist.cons_cons _ ?_ | refine List.Sublist.cons _ ?_ | refine List.Sublist.trans ?_ (List.sublist_append_left _ _))⟩ (by simp only []; omega) (by rfl) rfl
      · have hje : j = b.length := by omega
        subst hje
        with_reducible refine s_seq ?_
        with_reducible refine s_seq ?_
        with_reducible refine s_reg ?_
        refine smove ?_
        simp only [pu', p0', c1', c0', i1', z0', b8_nat]
        refine smove ?_
        simp only [pu', p0', c1', c0', i1', z0', b8_nat]
        refine slenE ?_
        simp only [pu', p0', c1', c0', i1', z0', b8_nat]
        refine sLt (fun hb => ?_) (fun hb => ?_)
        replace hb := dT' hb
        (exfalso; omega)
        replace hb := dF' hb
        simp only [pu', p0', c1', c0', i1', z0', b8_nat]
        with_reducible refine s_end ?_
        with_reducible refine s_then ?_
        refine sCF ?_
        with_reducible refine s_exit ?_
        with_reducible refine s_thenE ?_
        with_reducible refine l_exit ?_
        with_reducible refine s_blkE ?_
        with_reducible refine s_blkN ?_
        all_goals
          refine l_next ⟨hfF b b.length, _⟩ ⟨hf1, ⟨by rw [hf2.len, hp.len], fun k => (hf2.pos k).trans (hp.pos k)⟩, S3⟩ (by simp only []; omega) (by rfl) rfl
end Go.Proofs.Ytckljanplahbkaa
