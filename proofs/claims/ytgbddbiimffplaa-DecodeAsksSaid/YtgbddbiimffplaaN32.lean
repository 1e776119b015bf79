/-
  A part of the proof of a statement of a chapter's seat; conditions: stated at each theorem.
-/
import Derived.Test.YtgbddbiimffplaaN31
set_option linter.unusedVariables false
set_option linter.unusedSectionVars false
set_option linter.unusedSimpArgs false
set_option linter.unusedVariables false
set_option maxRecDepth 100000
set_option maxHeartbeats 8000000
namespace Go.Proofs.Ytgbddbiimffplaa
open Go.Az Go
theorem own_of {α : Type} {enc : α → List AV} {q : Nat} {e : TypeId} {h Y : Hp} {L : List Pc} {z : AV} {l : List α} (S : Sep h Y L) (m : MemW α L z enc q e l) : Own enc q e Y z l := S.all _ m.p
structure RkB where
  k : Nat
  G : Hp
theorem rcheck23 {h : Hp} {s : AV} {t : List Ce} [a : EC h s t] (hlen : t.length ≤ 512) : ACalls Try.prog 23 [s] h (fun r h' => r = I (chkQ t) ∧ Sep h h' []) := by
  have pss := a.p.sl
  have S0 := Sep.nil h
  have c22 := rhigh_any (t.length : Int) (by omega)
  have hh1 := hi_bd (t.length : Int)
  have hh2 := hi_lt (n := (t.length : Int)) (k := 10) (by omega) (by omega)
  have hh3 : 0 < t.length → 0 ≤ hiF (t.length : Int) := fun hh => by unfold hiF; rw [if_neg (by omega)]; omega
  by_cases hL : t.length = 0 ∨ (t.length : Int) ≠ 2 ^ (hiF t.length).toNat ∨ 12 < hiF t.length
  · rw [chk_bad hL]
    generalize hiF t.length = L at *
    refine acalls_of_wk hm Try.func23 rfl ?_
    simp only [Try.ntmps23, List.length_cons, List.length_nil, Nat.reduceAdd, Nat.reduceSub, List.reduceReplicate, List.cons_append, List.nil_append]
    show wk _ _ none _ _ ⟨_, []⟩ _
    focus
      with_reducible refine s_seq ?_
      with_reducible refine s_reg ?_
      refine sassign ?_
      simp only [pu', p0', c1', c0', i1', z0', b8_nat]
      with_reducible refine s_end ?_
      with_reducible refine s_then ?_
      with_reducible refine s_seq ?_
      with_reducible refine s_reg ?_
      refine smove ?_
      simp only [pu', p0', c1', c0', i1', z0', b8_nat]
      refine slenE ?_
      simp only [pu', p0', c1', c0', i1', z0', b8_nat]
      refine sK (hx := rfl) (c22) ?_
      simp only [pu', p0', c1', c0', i1', z0', b8_nat]
      refine sassign ?_
      simp only [pu', p0', c1', c0', i1', z0', b8_nat]
      with_reducible refine s_end ?_
      with_reducible refine s_then ?_
      with_reducible refine s_seq ?_
      with_reducible refine s_seq ?_
      with_reducible refine s_reg ?_
      refine smove ?_
      simp only [pu', p0', c1', c0', i1', z0', b8_nat]
      refine slenE ?_
      simp only [pu', p0', c1', c0', i1', z0', b8_nat]
      refine sEq (fun hb => ?_) (fun hb => ?_)
      replace hb := dT' hb
      simp only [pu', p0', c1', c0', i1', z0', b8_nat]
      refine smove ?_
      simp only [pu', p0', c1', c0', i1', z0', b8_nat]
      (with_reducible refine s_gN ?_ ?_; exact wG rfl rfl rfl rfl rfl)
      simp only [pu', p0', c1', c0', i1', z0', b8_nat]
      (with_reducible refine s_gN ?_ ?_; exact wG rfl rfl rfl rfl rfl)
      simp only [pu', p0', c1', c0', i1', z0', b8_nat]
      (with_reducible refine s_gN ?_ ?_; exact wG rfl rfl rfl rfl rfl)
      simp only [pu', p0', c1', c0', i1', z0', b8_nat]
      (with_reducible refine s_gN ?_ ?_; exact wG rfl rfl rfl rfl rfl)
      simp only [pu', p0', c1', c0', i1', z0', b8_nat]
      (with_reducible refine s_gN ?_ ?_; exact wG rfl rfl rfl rfl rfl)
      simp only [pu', p0', c1', c0', i1', z0', b8_nat]
      (with_reducible refine s_gN ?_ ?_; exact wG rfl rfl rfl rfl rfl)
      simp only [pu', p0', c1', c0', i1', z0', b8_nat]
      refine spickT ?_
      simp only [pu', p0', c1', c0', i1', z0', b8_nat]
      refine smove ?_
      simp only [pu', p0', c1', c0', i1', z0', b8_nat]
      (with_reducible refine s_gN ?_ ?_; exact wG rfl rfl rfl rfl rfl)
      simp only [pu', p0', c1', c0', i1', z0', b8_nat]
      (with_reducible refine s_gN ?_ ?_; exact wG rfl rfl rfl rfl rfl)
      simp only [pu', p0', c1', c0', i1', z0', b8_nat]
      refine spickT ?_
      simp only [pu', p0', c1', c0', i1', z0', b8_nat]
      with_reducible refine s_end ?_
      with_reducible refine s_then ?_
      refine sCT ?_
      with_reducible refine s_seq ?_
      with_reducible refine s_reg ?_
      refine sassign ?_
      simp only [pu', p0', c1', c0', i1', z0', b8_nat]
      with_reducible refine s_end ?_
      with_reducible refine s_then ?_
      with_reducible refine s_ret ?_
      with_reducible refine s_thenR ?_
      rotate_left 1
      replace hb := dF' hb
      simp only [pu', p0', c1', c0', i1', z0', b8_nat]
      refine smove ?_
      simp only [pu', p0', c1', c0', i1', z0', b8_nat]
      refine smove ?_
      simp only [pu', p0', c1', c0', i1', z0', b8_nat]
      refine slenE ?_
      simp only [pu', p0', c1', c0', i1', z0', b8_nat]
      refine smove ?_
      simp only [pu', p0', c1', c0', i1', z0', b8_nat]
      refine sconv ?_
      simp only [pu', p0', c1', c0', i1', z0', b8_nat]
      refine sshl1 ?_
      simp only [pu', p0', c1', c0', i1', z0', b8_nat]
      refine sNe (fun hb => ?_) (fun hb => ?_)
      replace hb := dT' hb
      simp only [pu', p0', c1', c0', i1', z0', b8_nat]
      refine spickF ?_
      simp only [pu', p0', c1', c0', i1', z0', b8_nat]
      refine smove ?_
      simp only [pu', p0', c1', c0', i1', z0', b8_nat]
      (with_reducible refine s_gN ?_ ?_; exact wG rfl rfl rfl rfl rfl)
      simp only [pu', p0', c1', c0', i1', z0', b8_nat]
      (with_reducible refine s_gN ?_ ?_; exact wG rfl rfl rfl rfl rfl)
      simp only [pu', p0', c1', c0', i1', z0', b8_nat]
      refine spickT ?_
      simp only [pu', p0', c1', c0', i1', z0', b8_nat]
      with_reducible refine s_end ?_
      with_reducible refine s_then ?_
      refine sCT ?_
      with_reducible refine s_seq ?_
      with_reducible refine s_reg ?_
      refine sassign ?_
      simp only [pu', p0', c1', c0', i1', z0', b8_nat]
      with_reducible refine s_end ?_
      with_reducible refine s_then ?_
      with_reducible refine s_ret ?_
      with_reducible refine s_thenR ?_
      rotate_left 1
      replace hb := dF' hb
      (exfalso; omega)
    all_goals
      all_goals try with_reducible refine w_n ?_
      all_goals refine w_1 rfl (by first | exact v_t (by rfl) | exact v_c1 (C1.p) (by rfl) (HA.p) (by rfl) | exact v_cF (CA.p) (by rfl) (HA.p) (by rfl)) ?_
      exact ⟨rfl, S0⟩
  · obtain ⟨q, hq⟩ : ∃ q, q = chkQ t := ⟨_, rfl⟩
    rw [← hq]
    have hlow := fun n hs hp hl h1 hf => hq.trans (chk_low (t := t) (n := n) hs (by omega) hp hl h1 hf)
    have hbad := fun hs => hq.trans (chk_badS (t := t) hs)
    have hone1 := fun h1 hs => hq.trans (chk_one (t := t) h1 hs)
    clear hq
    have hp0 : (t.length : Int) = 2 ^ (hiF t.length).toNat := by omega
    generalize hiF t.length = L at *
    have hcl := cnT_len t
    have hcb := cnT_bd t
    have hll := lsT_lt t
    have hlg := lsT_ge t
    refine acalls_of_wk hm Try.func23 rfl ?_
    simp only [Try.ntmps23, List.length_cons, List.length_nil, Nat.reduceAdd, Nat.reduceSub, List.reduceReplicate, List.cons_append, List.nil_append]
    show wk _ _ none _ _ ⟨_, []⟩ _
    with_reducible refine s_seq ?_
    with_reducible refine s_reg ?_
    refine sassign ?_
    simp only [pu', p0', c1', c0', i1', z0', b8_nat]
    with_reducible refine s_end ?_
    with_reducible refine s_then ?_
    with_reducible refine s_seq ?_
    with_reducible refine s_reg ?_
    refine smove ?_
    simp only [pu', p0', c1', c0', i1', z0', b8_nat]
    refine slenE ?_
    simp only [pu', p0', c1', c0', i1', z0', b8_nat]
    refine sK (hx := rfl) (c22) ?_
    simp only [pu', p0', c1', c0', i1', z0', b8_nat]
    refine sassign ?_
    simp only [pu', p0', c1', c0', i1', z0', b8_nat]
    with_reducible refine s_end ?_
    with_reducible refine s_then ?_
    with_reducible refine s_seq ?_
    with_reducible refine s_seq ?_
    with_reducible refine s_reg ?_
    refine smove ?_
    simp only [pu', p0', c1', c0', i1', z0', b8_nat]
    refine slenE ?_
    simp only [pu', p0', c1', c0', i1', z0', b8_nat]
    refine sEq (fun hb => ?_) (fun hb => ?_)
    replace hb := dT' hb
    (exfalso; omega)
    replace hb := dF' hb
    simp only [pu', p0', c1', c0', i1', z0', b8_nat]
    refine smove ?_
    simp only [pu', p0', c1', c0', i1', z0', b8_nat]
    refine smove ?_
    simp only [pu', p0', c1', c0', i1', z0', b8_nat]
    refine slenE ?_
    simp only [pu', p0', c1', c0', i1', z0', b8_nat]
    refine smove ?_
    simp only [pu', p0', c1', c0', i1', z0', b8_nat]
    refine sconv ?_
    simp only [pu', p0', c1', c0', i1', z0', b8_nat]
    refine sshl1 ?_
    simp only [pu', p0', c1', c0', i1', z0', b8_nat]
    refine sNe (fun hb => ?_) (fun hb => ?_)
    replace hb := dT' hb
    (exfalso; omega)
    replace hb := dF' hb
    simp only [pu', p0', c1', c0', i1', z0', b8_nat]
    refine spickF ?_
    simp only [pu', p0', c1', c0', i1', z0', b8_nat]
    refine smove ?_
    simp only [pu', p0', c1', c0', i1', z0', b8_nat]
    refine smove ?_
    simp only [pu', p0', c1', c0', i1', z0', b8_nat]
    refine sGt (fun hb => ?_) (fun hb => ?_)
    replace hb := dT' hb
    (exfalso; omega)
    replace hb := dF' hb
    simp only [pu', p0', c1', c0', i1', z0', b8_nat]
    refine spickF ?_
    simp only [pu', p0', c1', c0', i1', z0', b8_nat]
    with_reducible refine s_end ?_
    with_reducible refine s_then ?_
    refine sCF ?_
    with_reducible refine s_skip ?_
    with_reducible refine s_then ?_
    with_reducible refine s_seq ?_
    with_reducible refine s_reg ?_
    (refine s_mks (n := (256 : Int)) (encI .i64) (0 : Int) (fun zp Y1 pzp T1 => ?_) inferInstance iok inferInstance rfl (by omega) (by omega) (by omega); simp only [Fr.put, List.set_cons_succ, List.set_cons_zero, Int.toNat_natCast, Nat.zero_add])
    refine sassign ?_
    simp only [pu', p0', c1', c0', i1', z0', b8_nat]
    with_reducible refine s_end ?_
    with_reducible refine s_then ?_
    with_reducible refine s_seq ?_
    with_reducible refine s_reg ?_
    refine sassign ?_
    simp only [pu', p0', c1', c0', i1', z0', b8_nat]
    with_reducible refine s_end ?_
    with_reducible refine s_then ?_
    with_reducible refine s_seq ?_
    with_reducible refine s_seq ?_
    with_reducible refine s_reg ?_
    refine sassign ?_
    simp only [pu', p0', c1', c0', i1', z0', b8_nat]
    with_reducible refine s_end ?_
    with_reducible refine s_then ?_
    with_reducible refine s_block ?_
    refine s_loop hm (fun (b : ChB) s' => [s, s' 1, s' 2, I L, zp, I b.m, I b.i, s' 7, s' 8, s' 9, s' 10, s' 11, s' 12, s' 13, s' 14, s' 15, s' 16, s' 17, s' 18, s' 19, s' 20, s' 21, s' 22, s' 23, s' 24, s' 25, s' 26, s' 27, s' 28, s' 29, s' 30, s' 31, s' 32, s' 33, s' 34, s' 35, s' 36, s' 37, s' 38, s' 39, s' 40, s' 41, s' 42, s' 43, s' 44, s' 45, s' 46, s' 47, s' 48, s' 49, s' 50, s' 51, s' 52, s' 53, s' 54, s' 55, s' 56, s' 57, s' 58, s' 59, s' 60, s' 61, s' 62, s' 63, s' 64, s' 65, s' 66, s' 67, s' 68, s' 69, s' 70, s' 71, s' 72, s' 73, s' 74, s' 75, s' 76, s' 77, s' 78, s' 79, s' 80, s' 81, s' 82, s' 83, s' 84, s' 85, s' 86, s' 87, s' 88, s' 89, s' 90, s' 91, s' 92, s' 93, s' 94, s' 95, s' 96, s' 97, s' 98, s' 99, s' 100, s' 101, s' 102, s' 103, s' 104, s' 105, s' 106, s' 107, s' 108, s' 109, s' 110, s' 111, s' 112, s' 113, s' 114, s' 115, s' 116, s' 117, s' 118, s' 119, s' 120]) (fun b => b.G) (fun b => b.i ≤ t.length ∧ b.m = lsT t b.i ∧ (∀ j, j < b.i → 0 ≤ syA t j ∧ syA t j < 256) ∧ Sep h b.G [WI zp (cnT t b.i)]) (fun b => t.length - b.i) ⟨0, 0, _⟩ (by rfl) rfl ⟨Nat.zero_le _, rfl, fun j hj => absurd hj (Nat.not_lt_zero _), Sep.sub inferInstance (by repeat' first | exact List.Sublist.refl _ | exact List.sublist_append_left _ _ | exact List.nil_sublist _ | refine List.Sublist.cons_cons _ ?_ | refine List.Sublist.cons _ ?_ | refine List.Sublist.trans ?_ (List.sublist_append_left _ _))⟩ ?_
    clear T1
    rintro ⟨i, m, G⟩ s' ⟨hi, hm', hsy, S1⟩
    simp only [] at hi hm' hsy S1 ⊢
    by_cases hil : i < t.length
    · by_cases hbd : syA t i < 0 ∨ 256 ≤ syA t i
      · have hq := hbad ⟨i, hil, hbd⟩
        subst hq
        simp only [syA] at hbd
        focus
          with_reducible refine s_seq ?_
          with_reducible refine s_seq ?_
          with_reducible refine s_reg ?_
          refine smove ?_
          simp only [pu', p0', c1', c0', i1', z0', b8_nat]
          refine smove ?_
          simp only [pu', p0', c1', c0', i1', z0', b8_nat]
          refine slenE ?_
          simp only [pu', p0', c1', c0', i1', z0', b8_nat]
          refine sLt (fun hb => ?_) (fun hb => ?_)
          replace hb := dT' hb
          simp only [pu', p0', c1', c0', i1', z0', b8_nat]
          with_reducible refine s_end ?_
          with_reducible refine s_then ?_
          refine sCT ?_
          with_reducible refine s_skip ?_
          with_reducible refine s_then ?_
          with_reducible refine s_seq ?_
          with_reducible refine s_block ?_
          with_reducible refine s_seq ?_
          with_reducible refine s_reg ?_
          refine smove ?_
          simp only [pu', p0', c1', c0', i1', z0', b8_nat]
          refine smove ?_
          simp only [pu', p0', c1', c0', i1', z0', b8_nat]
          refine sidxE ?_
          simp only [pu', p0', c1', c0', i1', z0', b8_nat]
          refine sfadE ?_
          simp only [pu', p0', c1', c0', i1', z0', b8_nat]
          refine sloadF ?_
          simp only [pu', p0', c1', c0', i1', z0', b8_nat]
          refine sassign ?_
          simp only [pu', p0', c1', c0', i1', z0', b8_nat]
          with_reducible refine s_end ?_
          with_reducible refine s_then ?_
          with_reducible refine s_seq ?_
          with_reducible refine s_seq ?_
          with_reducible refine s_reg ?_
          refine smove ?_
          simp only [pu', p0', c1', c0', i1', z0', b8_nat]
          refine sLt (fun hb => ?_) (fun hb => ?_)
          replace hb := dT' hb
          simp only [pu', p0', c1', c0', i1', z0', b8_nat]
          refine smove ?_
          simp only [pu', p0', c1', c0', i1', z0', b8_nat]
          (with_reducible refine s_gN ?_ ?_; exact wG rfl rfl rfl rfl rfl)
          simp only [pu', p0', c1', c0', i1', z0', b8_nat]
          (with_reducible refine s_gN ?_ ?_; exact wG rfl rfl rfl rfl rfl)
          simp only [pu', p0', c1', c0', i1', z0', b8_nat]
          refine spickT ?_
          simp only [pu', p0', c1', c0', i1', z0', b8_nat]
          with_reducible refine s_end ?_
          with_reducible refine s_then ?_
          refine sCT ?_
          with_reducible refine s_seq ?_
          with_reducible refine s_reg ?_
          refine sassign ?_
          simp only [pu', p0', c1', c0', i1', z0', b8_nat]
          with_reducible refine s_end ?_
          with_reducible refine s_then ?_
          with_reducible refine s_ret ?_
          with_reducible refine s_thenR ?_
          with_reducible refine s_blkR ?_
          with_reducible refine s_thenR ?_
          with_reducible refine l_ret ?_
          with_reducible refine s_blkR ?_
          with_reducible refine s_thenR ?_
          rotate_left 1
          replace hb := dF' hb
          simp only [pu', p0', c1', c0', i1', z0', b8_nat]
          refine smove ?_
          simp only [pu', p0', c1', c0', i1', z0', b8_nat]
          refine smove ?_
          simp only [pu', p0', c1', c0', i1', z0', b8_nat]
          refine sGt (fun hb => ?_) (fun hb => ?_)
          replace hb := dT' hb
          simp only [pu', p0', c1', c0', i1', z0', b8_nat]
          refine spickF ?_
          simp only [pu', p0', c1', c0', i1', z0', b8_nat]
          with_reducible refine s_end ?_
          with_reducible refine s_then ?_
          refine sCT ?_
          with_reducible refine s_seq ?_
          with_reducible refine s_reg ?_
          refine sassign ?_
          simp only [pu', p0', c1', c0', i1', z0', b8_nat]
          with_reducible refine s_end ?_
          with_reducible refine s_then ?_
          with_reducible refine s_ret ?_
          with_reducible refine s_thenR ?_
          with_reducible refine s_blkR ?_
          with_reducible refine s_thenR ?_
          with_reducible refine l_ret ?_
          with_reducible refine s_blkR ?_
          with_reducible refine s_thenR ?_
          rotate_left 1
          replace hb := dF' hb
          (exfalso; omega)
          replace hb := dF' hb
          (exfalso; omega)
        all_goals
          all_goals try with_reducible refine w_n ?_
          all_goals refine w_1 rfl (by first | exact v_t (by rfl) | exact v_c1 (C1.p) (by rfl) (HA.p) (by rfl) | exact v_cF (CA.p) (by rfl) (HA.p) (by rfl)) ?_
          exact ⟨rfl, Sep.sub inferInstance (by repeat' first | exact List.Sublist.refl _ | exact List.sublist_append_left _ _ | exact List.nil_sublist _ | refine List.Sublist.cons_cons _ ?_ | refine List.Sublist.cons _ ?_ | refine List.Sublist.trans ?_ (List.sublist_append_left _ _))⟩
      · have e1 : cnT t (i + 1) = (cnT t i).set (syA t i).toNat ((cnT t i).getD (syA t i).toNat 0 + 1) := rfl
        have e2 : ((lsT t (i + 1) : Nat) : Int) = if m < syA t i then syA t i else m := by
          rw [hm', lsT]; split <;> split <;> omega
        have hcl1 := hcl i
        have hcb1 := hcb i (syA t i).toNat
        have hsy' : ∀ j, j < i + 1 → 0 ≤ syA t j ∧ syA t j < 256 := fun j hj => by
          by_cases hji : j = i
          · subst hji; omega
          · exact hsy j (by omega)
        simp only [syA] at hbd e1 e2 hcb1
        focus
          with_reducible refine s_seq ?_
          with_reducible refine s_seq ?_
          with_reducible refine s_reg ?_
          refine smove ?_
          simp only [pu', p0', c1', c0', i1', z0', b8_nat]
          refine smove ?_
          simp only [pu', p0', c1', c0', i1', z0', b8_nat]
          refine slenE ?_
          simp only [pu', p0', c1', c0', i1', z0', b8_nat]
          refine sLt (fun hb => ?_) (fun hb => ?_)
          replace hb := dT' hb
          simp only [pu', p0', c1', c0', i1', z0', b8_nat]
          with_reducible refine s_end ?_
          with_reducible refine s_then ?_
          refine sCT ?_
          with_reducible refine s_skip ?_
          with_reducible refine s_then ?_
          with_reducible refine s_seq ?_
          with_reducible refine s_block ?_
          with_reducible refine s_seq ?_
          with_reducible refine s_reg ?_
          refine smove ?_
          simp only [pu', p0', c1', c0', i1', z0', b8_nat]
          refine smove ?_
          simp only [pu', p0', c1', c0', i1', z0', b8_nat]
          refine sidxE ?_
          simp only [pu', p0', c1', c0', i1', z0', b8_nat]
          refine sfadE ?_
          simp only [pu', p0', c1', c0', i1', z0', b8_nat]
          refine sloadF ?_
          simp only [pu', p0', c1', c0', i1', z0', b8_nat]
          refine sassign ?_
          simp only [pu', p0', c1', c0', i1', z0', b8_nat]
          with_reducible refine s_end ?_
          with_reducible refine s_then ?_
          with_reducible refine s_seq ?_
          with_reducible refine s_seq ?_
          with_reducible refine s_reg ?_
          refine smove ?_
          simp only [pu', p0', c1', c0', i1', z0', b8_nat]
          refine sLt (fun hb => ?_) (fun hb => ?_)
          replace hb := dT' hb
          (exfalso; omega)
          replace hb := dF' hb
          simp only [pu', p0', c1', c0', i1', z0', b8_nat]
          refine smove ?_
          simp only [pu', p0', c1', c0', i1', z0', b8_nat]
          refine smove ?_
          simp only [pu', p0', c1', c0', i1', z0', b8_nat]
          refine sGt (fun hb => ?_) (fun hb => ?_)
          replace hb := dT' hb
          (exfalso; omega)
          replace hb := dF' hb
          simp only [pu', p0', c1', c0', i1', z0', b8_nat]
          refine spickF ?_
          simp only [pu', p0', c1', c0', i1', z0', b8_nat]
          with_reducible refine s_end ?_
          with_reducible refine s_then ?_
          refine sCF ?_
          with_reducible refine s_skip ?_
          with_reducible refine s_then ?_
          with_reducible refine s_seq ?_
          with_reducible refine s_reg ?_
          refine smove ?_
          simp only [pu', p0', c1', c0', i1', z0', b8_nat]
          refine smove ?_
          simp only [pu', p0', c1', c0', i1', z0', b8_nat]
          refine sidxE ?_
          simp only [pu', p0', c1', c0', i1', z0', b8_nat]
          refine sloadE1 ?_
          simp only [pu', p0', c1', c0', i1', z0', b8_nat]
          refine sadd ?_
          simp only [pu', p0', c1', c0', i1', z0', b8_nat]
          refine sidxE ?_
          simp only [pu', p0', c1', c0', i1', z0', b8_nat]
          (refine s_stE (x := (t.getD i ce0).s) 0 ((cnT t i).getD (t.getD i ce0).s.toNat 0 + 1) (0 : Int) (fun Y2 T2 => ?_) inferInstance rfl iok inferInstance (by omega) (by omega) (by rfl) inferInstance; simp only [a1', c1', c0'] at T2; simp only [Fr.put, List.set_cons_succ, List.set_cons_zero, Int.toNat_natCast, Nat.zero_add])
          with_reducible refine s_end ?_
          with_reducible refine s_then ?_
          with_reducible refine s_reg ?_
          refine smove ?_
          simp only [pu', p0', c1', c0', i1', z0', b8_nat]
          refine smove ?_
          simp only [pu', p0', c1', c0', i1', z0', b8_nat]
          refine smax ?_
          simp only [pu', p0', c1', c0', i1', z0', b8_nat]
          refine sassign ?_
          simp only [pu', p0', c1', c0', i1', z0', b8_nat]
          with_reducible refine s_end ?_
          with_reducible refine s_blkN ?_
          with_reducible refine s_then ?_
          with_reducible refine s_reg ?_
          refine smove ?_
          simp only [pu', p0', c1', c0', i1', z0', b8_nat]
          refine sadd ?_
          simp only [pu', p0', c1', c0', i1', z0', b8_nat]
          refine sassign ?_
          simp only [pu', p0', c1', c0', i1', z0', b8_nat]
          with_reducible refine s_end ?_
          rotate_left 1
          replace hb := dF' hb
          (exfalso; omega)
        all_goals
          rw [← e1] at T2
          refine l_next ⟨i + 1, _, _⟩ ⟨by simp only []; omega, e2.symm, hsy', Sep.sub T2 (by repeat' first | exact List.Sublist.refl _ | exact List.sublist_append_left _ _ | exact List.nil_sublist _ | refine List.Sublist.cons_cons _ ?_ | refine List.Sublist.cons _ ?_ | refine List.Sublist.trans ?_ (List.sublist_append_left _ _))⟩ (by simp only []; omega) (by rfl) rfl
    · have hnb : ¬ badS t := fun ⟨j, hj, hb⟩ => by have := hsy j (by omega); omega
      have hit : i = t.length := by omega
      subst hit
      have hlm := hll t.length fun j hj => (hsy j hj).2
      have hcl1 := hcl t.length
      have hlg1 := hlg t.length
      by_cases hone : t.length = 1 ∧ (t.getD 0 ce0).b = 0 ∧ (t.getD 0 ce0).x = 0
      · have hq := hone1 hone.1 hnb
        rw [if_pos hone.2] at hq
        subst hq
        have hone' : t.length = 1 ∧ (t.getD (Int.toNat 0) ce0).b = 0 ∧ (t.getD (Int.toNat 0) ce0).x = 0 := hone
        focus
          with_reducible refine s_seq ?_
          with_reducible refine s_seq ?_
          with_reducible refine s_reg ?_
          refine smove ?_
          simp only [pu', p0', c1', c0', i1', z0', b8_nat]
          refine smove ?_
          simp only [pu', p0', c1', c0', i1', z0', b8_nat]
          refine slenE ?_
          simp only [pu', p0', c1', c0', i1', z0', b8_nat]
          refine sLt (fun hb => ?_) (fun hb => ?_)
          replace hb := dT' hb
          (exfalso; omega)
          replace hb := dF' hb
          simp only [pu', p0', c1', c0', i1', z0', b8_nat]
          with_reducible refine s_end ?_
          with_reducible refine s_then ?_
          refine sCF ?_
          with_reducible refine s_exit ?_
          with_reducible refine s_thenE ?_
          with_reducible refine l_exit ?_
          with_reducible refine s_blkE ?_
          with_reducible refine s_then ?_
          with_reducible refine s_seq ?_
          with_reducible refine s_seq ?_
          with_reducible refine s_reg ?_
          refine smove ?_
          simp only [pu', p0', c1', c0', i1', z0', b8_nat]
          refine slenE ?_
          simp only [pu', p0', c1', c0', i1', z0', b8_nat]
          refine sEq (fun hb => ?_) (fun hb => ?_)
          replace hb := dT' hb
          simp only [pu', p0', c1', c0', i1', z0', b8_nat]
          refine smove ?_
          simp only [pu', p0', c1', c0', i1', z0', b8_nat]
          refine smove ?_
          simp only [pu', p0', c1', c0', i1', z0', b8_nat]
          refine sidxE ?_
          simp only [pu', p0', c1', c0', i1', z0', b8_nat]
          refine sfadE ?_
          simp only [pu', p0', c1', c0', i1', z0', b8_nat]
          refine sloadF ?_
          simp only [pu', p0', c1', c0', i1', z0', b8_nat]
          refine sEq (fun hb => ?_) (fun hb => ?_)
          replace hb := dT' hb
          simp only [pu', p0', c1', c0', i1', z0', b8_nat]
          refine spickT ?_
          simp only [pu', p0', c1', c0', i1', z0', b8_nat]
          refine smove ?_
          simp only [pu', p0', c1', c0', i1', z0', b8_nat]
          refine smove ?_
          simp only [pu', p0', c1', c0', i1', z0', b8_nat]
          refine sidxE ?_
          simp only [pu', p0', c1', c0', i1', z0', b8_nat]
          refine sfadE ?_
          simp only [pu', p0', c1', c0', i1', z0', b8_nat]
          refine sloadF ?_
          simp only [pu', p0', c1', c0', i1', z0', b8_nat]
          refine sEq (fun hb => ?_) (fun hb => ?_)
          replace hb := dT' hb
          simp only [pu', p0', c1', c0', i1', z0', b8_nat]
          refine spickT ?_
          simp only [pu', p0', c1', c0', i1', z0', b8_nat]
          with_reducible refine s_end ?_
          with_reducible refine s_then ?_
          refine sCT ?_
          with_reducible refine s_seq ?_
          with_reducible refine s_reg ?_
          refine sassign ?_
          simp only [pu', p0', c1', c0', i1', z0', b8_nat]
          with_reducible refine s_end ?_
          with_reducible refine s_then ?_
          with_reducible refine s_ret ?_
          with_reducible refine s_thenR ?_
          rotate_left 1
          replace hb := dF' hb
          (exfalso; omega)
          replace hb := dF' hb
          (exfalso; omega)
          replace hb := dF' hb
          (exfalso; omega)
        all_goals
          all_goals try with_reducible refine w_n ?_
          all_goals refine w_1 rfl (by first | exact v_t (by rfl) | exact v_c1 (C1.p) (by rfl) (HA.p) (by rfl) | exact v_cF (CA.p) (by rfl) (HA.p) (by rfl)) ?_
          exact ⟨rfl, Sep.sub inferInstance (by repeat' first | exact List.Sublist.refl _ | exact List.sublist_append_left _ _ | exact List.nil_sublist _ | refine List.Sublist.cons_cons _ ?_ | refine List.Sublist.cons _ ?_ | refine List.Sublist.trans ?_ (List.sublist_append_left _ _))⟩
      · have hone' : ¬ (t.length = 1 ∧ (t.getD (Int.toNat 0) ce0).b = 0 ∧ (t.getD (Int.toNat 0) ce0).x = 0) := hone
        have hlow1 := fun n hf => hlow n hnb hp0 (by omega) hone hf
        clear hlow hbad hone1 hone hll hcb hlg hcl
        generalize cnT t t.length = ps at *
        generalize lsT t t.length = m0 at *
        subst hm'
        have c41 : ∀ Y L' zc, Sep h Y L' → EI Y zc ps → ACalls Try.prog 41 [s, zc] Y (fun r h' => ∃ n : Nat, r = I n ∧ LowF t ps n ∧ Sep h h' L') := fun Y L' zc S b =>
          (low41 (h := Y) (t := t) (ps := ps) s zc hcl1 hsy (by omega)).mono fun r h' _ ⟨n, h1, h2, h3⟩ => ⟨n, h1, h2, h3 ▸ S⟩
        with_reducible refine s_seq ?_
        with_reducible refine s_seq ?_
        with_reducible refine s_reg ?_
        refine smove ?_
        simp only [pu', p0', c1', c0', i1', z0', b8_nat]
        refine smove ?_
        simp only [pu', p0', c1', c0', i1', z0', b8_nat]
        refine slenE ?_
        simp only [pu', p0', c1', c0', i1', z0', b8_nat]
        refine sLt (fun hb => ?_) (fun hb => ?_)
        replace hb := dT' hb
        (exfalso; omega)
        replace hb := dF' hb
        simp only [pu', p0', c1', c0', i1', z0', b8_nat]
        with_reducible refine s_end ?_
        with_reducible refine s_then ?_
        refine sCF ?_
        with_reducible refine s_exit ?_
        with_reducible refine s_thenE ?_
        with_reducible refine l_exit ?_
        with_reducible refine s_blkE ?_
        with_reducible refine s_then ?_
        with_reducible refine s_seq ?_
        with_reducible refine s_seq ?_
        refine s_cut (fun (_ : Unit) s' => [s, s' 1, s' 2, I L, zp, I m0, s' 6, s' 7, s' 8, s' 9, s' 10, s' 11, s' 12, s' 13, s' 14, s' 15, s' 16, s' 17, s' 18, s' 19, s' 20, s' 21, s' 22, s' 23, s' 24, s' 25, s' 26, s' 27, s' 28, s' 29, s' 30, s' 31, s' 32, s' 33, s' 34, s' 35, s' 36, s' 37, s' 38, s' 39, s' 40, s' 41, s' 42, s' 43, s' 44, s' 45, s' 46, s' 47, s' 48, s' 49, s' 50, s' 51, s' 52, s' 53, s' 54, s' 55, s' 56, s' 57, s' 58, s' 59, s' 60, s' 61, s' 62, s' 63, s' 64, s' 65, s' 66, s' 67, s' 68, s' 69, s' 70, s' 71, s' 72, s' 73, s' 74, B false, s' 76, s' 77, s' 78, s' 79, s' 80, s' 81, s' 82, s' 83, s' 84, s' 85, s' 86, s' 87, s' 88, s' 89, s' 90, s' 91, s' 92, s' 93, s' 94, s' 95, s' 96, s' 97, s' 98, s' 99, s' 100, s' 101, s' 102, s' 103, s' 104, s' 105, s' 106, s' 107, s' 108, s' 109, s' 110, s' 111, s' 112, s' 113, s' 114, s' 115, s' 116, s' 117, s' 118, s' 119, s' 120]) (fun _ => G) (fun _ => True) ?_ ?_
        · with_reducible refine s_reg ?_
          refine smove ?_
          simp only [pu', p0', c1', c0', i1', z0', b8_nat]
          refine slenE ?_
          simp only [pu', p0', c1', c0', i1', z0', b8_nat]
          refine sEq (fun hb => ?_) (fun hb => ?_)
          replace hb := dT' hb
          simp only [pu', p0', c1', c0', i1', z0', b8_nat]
          refine smove ?_
          simp only [pu', p0', c1', c0', i1', z0', b8_nat]
          refine smove ?_
          simp only [pu', p0', c1', c0', i1', z0', b8_nat]
          refine sidxE ?_
          simp only [pu', p0', c1', c0', i1', z0', b8_nat]
          refine sfadE ?_
          simp only [pu', p0', c1', c0', i1', z0', b8_nat]
          refine sloadF ?_
          simp only [pu', p0', c1', c0', i1', z0', b8_nat]
          refine sEq (fun hb => ?_) (fun hb => ?_)
          replace hb := dT' hb
          simp only [pu', p0', c1', c0', i1', z0', b8_nat]
          refine spickT ?_
          simp only [pu', p0', c1', c0', i1', z0', b8_nat]
          refine smove ?_
          simp only [pu', p0', c1', c0', i1', z0', b8_nat]
          refine smove ?_
          simp only [pu', p0', c1', c0', i1', z0', b8_nat]
          refine sidxE ?_
          simp only [pu', p0', c1', c0', i1', z0', b8_nat]
          refine sfadE ?_
          simp only [pu', p0', c1', c0', i1', z0', b8_nat]
          refine sloadF ?_
          simp only [pu', p0', c1', c0', i1', z0', b8_nat]
          refine sEq (fun hb => ?_) (fun hb => ?_)
          replace hb := dT' hb
          (exfalso; omega)
          replace hb := dF' hb
          simp only [pu', p0', c1', c0', i1', z0', b8_nat]
          refine spickT ?_
          simp only [pu', p0', c1', c0', i1', z0', b8_nat]
          with_reducible refine s_end ?_
          with_reducible refine s_then ?_
          rotate_left 1
          replace hb := dF' hb
          simp only [pu', p0', c1', c0', i1', z0', b8_nat]
          refine spickT ?_
          simp only [pu', p0', c1', c0', i1', z0', b8_nat]
          refine smove ?_
          simp only [pu', p0', c1', c0', i1', z0', b8_nat]
          (with_reducible refine s_gN ?_ ?_; exact wG rfl rfl rfl rfl rfl)
          simp only [pu', p0', c1', c0', i1', z0', b8_nat]
          (with_reducible refine s_gN ?_ ?_; exact wG rfl rfl rfl rfl rfl)
          simp only [pu', p0', c1', c0', i1', z0', b8_nat]
          (with_reducible refine s_gN ?_ ?_; exact wG rfl rfl rfl rfl rfl)
          simp only [pu', p0', c1', c0', i1', z0', b8_nat]
          (with_reducible refine s_gN ?_ ?_; exact wG rfl rfl rfl rfl rfl)
          simp only [pu', p0', c1', c0', i1', z0', b8_nat]
          (with_reducible refine s_gN ?_ ?_; exact wG rfl rfl rfl rfl rfl)
          simp only [pu', p0', c1', c0', i1', z0', b8_nat]
          refine spickF ?_
          simp only [pu', p0', c1', c0', i1', z0', b8_nat]
          with_reducible refine s_end ?_
          with_reducible refine s_then ?_
          rotate_left 1
          replace hb := dF' hb
          simp only [pu', p0', c1', c0', i1', z0', b8_nat]
          refine smove ?_
          simp only [pu', p0', c1', c0', i1', z0', b8_nat]
          (with_reducible refine s_gN ?_ ?_; exact wG rfl rfl rfl rfl rfl)
          simp only [pu', p0', c1', c0', i1', z0', b8_nat]
          (with_reducible refine s_gN ?_ ?_; exact wG rfl rfl rfl rfl rfl)
          simp only [pu', p0', c1', c0', i1', z0', b8_nat]
          (with_reducible refine s_gN ?_ ?_; exact wG rfl rfl rfl rfl rfl)
          simp only [pu', p0', c1', c0', i1', z0', b8_nat]
          (with_reducible refine s_gN ?_ ?_; exact wG rfl rfl rfl rfl rfl)
          simp only [pu', p0', c1', c0', i1', z0', b8_nat]
          (with_reducible refine s_gN ?_ ?_; exact wG rfl rfl rfl rfl rfl)
          simp only [pu', p0', c1', c0', i1', z0', b8_nat]
          refine spickF ?_
          simp only [pu', p0', c1', c0', i1', z0', b8_nat]
          refine smove ?_
          simp only [pu', p0', c1', c0', i1', z0', b8_nat]
          (with_reducible refine s_gN ?_ ?_; exact wG rfl rfl rfl rfl rfl)
          simp only [pu', p0', c1', c0', i1', z0', b8_nat]
          (with_reducible refine s_gN ?_ ?_; exact wG rfl rfl rfl rfl rfl)
          simp only [pu', p0', c1', c0', i1', z0', b8_nat]
          (with_reducible refine s_gN ?_ ?_; exact wG rfl rfl rfl rfl rfl)
          simp only [pu', p0', c1', c0', i1', z0', b8_nat]
          (with_reducible refine s_gN ?_ ?_; exact wG rfl rfl rfl rfl rfl)
          simp only [pu', p0', c1', c0', i1', z0', b8_nat]
          (with_reducible refine s_gN ?_ ?_; exact wG rfl rfl rfl rfl rfl)
          simp only [pu', p0', c1', c0', i1', z0', b8_nat]
          refine spickF ?_
          simp only [pu', p0', c1', c0', i1', z0', b8_nat]
          with_reducible refine s_end ?_
          with_reducible refine s_then ?_
          rotate_left 1
          all_goals
            refine at_in () trivial (by rfl) rfl
        rintro _ s' _
        refine sCF ?_
        with_reducible refine s_skip ?_
        with_reducible refine s_then ?_
        with_reducible refine s_seq ?_
        with_reducible refine s_reg ?_
        refine smove ?_
        simp only [pu', p0', c1', c0', i1', z0', b8_nat]
        refine smove ?_
        simp only [pu', p0', c1', c0', i1', z0', b8_nat]
        refine sC (hx := rfl) ((c41 _ _ zp inferInstance inferInstance).mono ?_)
        rintro _ m41 _ ⟨n, rfl, hf, S2⟩
        simp only [pu', p0', c1', c0', i1', n0', n3', n1', n2', a2', a1', a0', n4', Nat.reduceAdd, z0', n5', sa0, sa1, sa2, sa3, sa4, sa5, sa6, sa7, sa8, sa9, sa10, sa11]
        refine sassign ?_
        simp only [pu', p0', c1', c0', i1', z0', b8_nat]
        with_reducible refine s_end ?_
        with_reducible refine s_then ?_
        with_reducible refine s_seq ?_
        with_reducible refine s_seq ?_
        with_reducible refine s_reg ?_
        refine sassign ?_
        simp only [pu', p0', c1', c0', i1', z0', b8_nat]
        with_reducible refine s_end ?_
        with_reducible refine s_then ?_
        with_reducible refine s_block ?_
        have hq := hlow1 n hf
        have hfl := hf.le
        clear hlow1 c41
        refine s_loop hm (fun (b : RkB) s' => [s, s' 1, s' 2, I L, zp, I m0, s' 6, s' 7, I n, I b.k, s' 10, s' 11, s' 12, s' 13, s' 14, s' 15, s' 16, s' 17, s' 18, s' 19, s' 20, s' 21, s' 22, s' 23, s' 24, s' 25, s' 26, s' 27, s' 28, s' 29, s' 30, s' 31, s' 32, s' 33, s' 34, s' 35, s' 36, s' 37, s' 38, s' 39, s' 40, s' 41, s' 42, s' 43, s' 44, s' 45, s' 46, s' 47, s' 48, s' 49, s' 50, s' 51, s' 52, s' 53, s' 54, s' 55, s' 56, s' 57, s' 58, s' 59, s' 60, s' 61, s' 62, s' 63, s' 64, s' 65, s' 66, s' 67, s' 68, s' 69, s' 70, s' 71, s' 72, s' 73, s' 74, s' 75, s' 76, s' 77, s' 78, s' 79, s' 80, s' 81, s' 82, s' 83, s' 84, s' 85, s' 86, s' 87, s' 88, s' 89, s' 90, s' 91, s' 92, s' 93, s' 94, s' 95, s' 96, s' 97, s' 98, s' 99, s' 100, s' 101, s' 102, s' 103, s' 104, s' 105, s' 106, s' 107, s' 108, s' 109, s' 110, s' 111, s' 112, s' 113, s' 114, s' 115, s' 116, s' 117, s' 118, s' 119, s' 120]) (fun b => b.G) (fun b => b.k ≤ n + 1 ∧ (∀ j, j < b.k → fitQ L ((lwK t ps j).take (m0 + 1)) t = false) ∧ Sep h b.G [WI zp ps]) (fun b => n + 1 - b.k) ⟨0, _⟩ (by rfl) rfl ⟨Nat.zero_le _, fun j hj => absurd hj (Nat.not_lt_zero _), Sep.sub S2 (by repeat' first | exact List.Sublist.refl _ | exact List.sublist_append_left _ _ | exact List.nil_sublist _ | refine List.Sublist.cons_cons _ ?_ | refine List.Sublist.cons _ ?_ | refine List.Sublist.trans ?_ (List.sublist_append_left _ _))⟩ ?_
        clear S1 S2
        rintro ⟨k, G2⟩ s' ⟨hk, hno, S3⟩
        simp only [] at hk hno S3 ⊢
        by_cases hkn : k ≤ n
        · with_reducible refine s_seq ?_
          with_reducible refine s_seq ?_
          with_reducible refine s_reg ?_
          refine smove ?_
          simp only [pu', p0', c1', c0', i1', z0', b8_nat]
          refine smove ?_
          simp only [pu', p0', c1', c0', i1', z0', b8_nat]
          refine sLe (fun hb => ?_) (fun hb => ?_)
          replace hb := dT' hb
          simp only [pu', p0', c1', c0', i1', z0', b8_nat]
          with_reducible refine s_end ?_
          with_reducible refine s_then ?_
          refine sCT ?_
          with_reducible refine s_skip ?_
          with_reducible refine s_then ?_
          with_reducible refine s_seq ?_
          with_reducible refine s_block ?_
          with_reducible refine s_seq ?_
          with_reducible refine s_reg ?_
          refine smove ?_
          simp only [pu', p0', c1', c0', i1', z0', b8_nat]
          refine sbsl ?_
          simp only [pu', p0', c1', c0', i1', n0', n3', n1', n2', a2', a1', a0', n4', Nat.reduceAdd, z0', n5', sa0, sa1, sa2, sa3, sa4, sa5, sa6, sa7, sa8, sa9, sa10, sa11]
          refine smove ?_
          simp only [pu', p0', c1', c0', i1', z0', b8_nat]
          refine smove ?_
          simp only [pu', p0', c1', c0', i1', z0', b8_nat]
          refine sadd ?_
          simp only [pu', p0', c1', c0', i1', z0', b8_nat]
          (refine s_sHi (m := m0 + 1) 0 (fun z1 pz1 e1 => ?_) iok inferInstance (own_of (z := zp) (l := ps) (inferInstance : Sep h _ _) inferInstance) (by omega); simp only [Fr.put, List.set_cons_succ, List.set_cons_zero, Int.toNat_natCast, Nat.zero_add])
          (refine s_app0 h (fun zd Y1 pzd T1 => ?_) (hlen := by rw [List.length_take]; omega); simp only [Fr.put, List.set_cons_succ, List.set_cons_zero, Int.toNat_natCast, Nat.zero_add])
          refine sbuild ?_
          simp only [pu', p0', c1', c0', i1', z0', b8_nat]
          refine salloc ?_
          simp only [pu', p0', c1', c0', i1', n0', n3', n1', n2', a2', a1', a0', n4', Nat.reduceAdd, z0', n5', sa0, sa1, sa2, sa3, sa4, sa5, sa6, sa7, sa8, sa9, sa10, sa11]
          refine sstoreF ?_
          simp only [pu', p0', c1', c0', i1', n0', n3', n1', n2', a2', a1', a0', n4', Nat.reduceAdd, z0', n5', sa0, sa1, sa2, sa3, sa4, sa5, sa6, sa7, sa8, sa9, sa10, sa11]
          with_reducible refine s_end ?_
          with_reducible refine s_then ?_
          with_reducible refine s_seq ?_
          with_reducible refine s_seq ?_
          with_reducible refine s_reg ?_
          refine sassign ?_
          simp only [pu', p0', c1', c0', i1', z0', b8_nat]
          with_reducible refine s_end ?_
          with_reducible refine s_then ?_
          with_reducible refine s_block ?_
          rotate_left 1
          replace hb := dF' hb
          (exfalso; omega)
          refine wk_gen inferInstance (fun Y5 S5 => ?_)
          refine s_loop hm (fun (b : RkB) s' => [s, s' 1, s' 2, I L, zp, I m0, s' 6, s' 7, I n, I k, .ptr Y1.length 0, I b.k, s' 12, s' 13, s' 14, s' 15, s' 16, s' 17, s' 18, s' 19, s' 20, s' 21, s' 22, s' 23, s' 24, s' 25, s' 26, s' 27, s' 28, s' 29, s' 30, s' 31, s' 32, s' 33, s' 34, s' 35, s' 36, s' 37, s' 38, s' 39, s' 40, s' 41, s' 42, s' 43, s' 44, s' 45, s' 46, s' 47, s' 48, s' 49, s' 50, s' 51, s' 52, s' 53, s' 54, s' 55, s' 56, s' 57, s' 58, s' 59, s' 60, s' 61, s' 62, s' 63, s' 64, s' 65, s' 66, s' 67, s' 68, s' 69, s' 70, s' 71, s' 72, s' 73, s' 74, s' 75, s' 76, s' 77, s' 78, s' 79, s' 80, s' 81, s' 82, s' 83, s' 84, s' 85, s' 86, s' 87, s' 88, s' 89, s' 90, s' 91, s' 92, s' 93, s' 94, s' 95, s' 96, s' 97, s' 98, s' 99, s' 100, s' 101, s' 102, s' 103, s' 104, s' 105, s' 106, s' 107, s' 108, s' 109, s' 110, s' 111, s' 112, s' 113, s' 114, s' 115, s' 116, s' 117, s' 118, s' 119, s' 120]) (fun b => b.G) (fun b => b.k ≤ k ∧ Sep h b.G [WI zd ((lwK t ps b.k).take (m0 + 1)), WI zp ps, pcC Y1.length (.cells [I L, zd] 24 true)]) (fun b => k - b.k) ⟨0, _⟩ (by rfl) rfl ⟨Nat.zero_le _, Sep.sub S5 (by repeat' first | exact List.Sublist.refl _ | exact List.sublist_append_left _ _ | exact List.nil_sublist _ | refine List.Sublist.cons_cons _ ?_ | refine List.Sublist.cons _ ?_ | refine List.Sublist.trans ?_ (List.sublist_append_left _ _))⟩ ?_
          clear S5 T1 S3
          rintro ⟨i, G3⟩ s' ⟨hi, S6⟩
          simp only [] at hi S6 ⊢
          have hlw : ((lwK t ps i).take (m0 + 1)).length = m0 + 1 := by rw [List.length_take, lwK_len]; omega
          by_cases hik : i < k
          · have e1 : ((t.length : Int) - 1 - i).toNat = t.length - 1 - i := by omega
            have hs1 := hsy (t.length - 1 - i) (by omega)
            have hs2 := hlg1 (t.length - 1 - i) (by omega)
            have hst : ((lwK t ps i).take (m0 + 1)).set (syA t (t.length - 1 - i)).toNat (-1) = (lwK t ps (i + 1)).take (m0 + 1) := by
              rw [lwK, List.take_set]
            simp only [syA, ← e1] at hs1 hs2 hst
            focus
              with_reducible refine s_seq ?_
              with_reducible refine s_seq ?_
              with_reducible refine s_reg ?_
              refine smove ?_
              simp only [pu', p0', c1', c0', i1', z0', b8_nat]
              refine smove ?_
              simp only [pu', p0', c1', c0', i1', z0', b8_nat]
              refine sLt (fun hb => ?_) (fun hb => ?_)
              replace hb := dT' hb
              simp only [pu', p0', c1', c0', i1', z0', b8_nat]
              with_reducible refine s_end ?_
              with_reducible refine s_then ?_
              refine sCT ?_
              with_reducible refine s_skip ?_
              with_reducible refine s_then ?_
              with_reducible refine s_seq ?_
              with_reducible refine s_block ?_
              (refine s_regT (id := 24) (.light 0 (.light 1 (.light 2 (.light 3 (.light 4 (.light 5 (.light 6 (.light 7 (.light 8 (.light 9 (.alt 10 [9] (.light 11 (.alt 12 [0, 1, 2, 3, 4, 5, 6, 7, 8, 9, 11] (.done) (.no))) (.no)))))))))))) [10, 12] (by kernel_rfl) (by conv => lhs; simp only [pickT, List.getElem?_cons_succ, List.getElem?_cons_zero]) ?_)
              refine tfad ?_
              simp only [pu', p0', c1', c0', i1', z0', b8_nat]
              refine tload1 ?_
              simp only [pu', p0', c1', c0', i1', z0', b8_nat]
              refine tmove ?_
              simp only [pu', p0', c1', c0', i1', z0', b8_nat]
              refine tmove ?_
              simp only [pu', p0', c1', c0', i1', z0', b8_nat]
              refine tlenE ?_
              simp only [pu', p0', c1', c0', i1', z0', b8_nat]
              refine tsub ?_
              simp only [pu', p0', c1', c0', i1', z0', b8_nat]
              refine tmove ?_
              simp only [pu', p0', c1', c0', i1', z0', b8_nat]
              refine tsub ?_
              simp only [pu', p0', c1', c0', i1', z0', b8_nat]
              refine tidxE ?_
              simp only [pu', p0', c1', c0', i1', z0', b8_nat]
              refine tfadE ?_
              simp only [pu', p0', c1', c0', i1', z0', b8_nat]
              refine uloadF ?_
              simp only [pu', p0', c1', c0', i1', z0', b8_nat]
              refine tidxE ?_
              simp only [pu', p0', c1', c0', i1', z0', b8_nat]
              (refine u_stE (x := (t.getD ((t.length : Int) - 1 - i).toNat ce0).s) 0 (-1) (0 : Int) (fun Y2 T2 => ?_) inferInstance rfl iok inferInstance (by omega) (by omega) (by rfl) inferInstance; simp only [a1', c1', c0'] at T2; refine ⟨(by repeat' first | exact trivial | refine ⟨.inl rfl, ?_⟩ | refine ⟨.inr (ha_eq inferInstance inferInstance), ?_⟩), ?_⟩; simp only [Fr.put, List.set_cons_succ, List.set_cons_zero, Int.toNat_natCast, Nat.zero_add])
              with_reducible refine t_end ?_
              with_reducible refine s_blkN ?_
              with_reducible refine s_then ?_
              with_reducible refine s_reg ?_
              refine smove ?_
              simp only [pu', p0', c1', c0', i1', z0', b8_nat]
              refine sadd ?_
              simp only [pu', p0', c1', c0', i1', z0', b8_nat]
              refine sassign ?_
              simp only [pu', p0', c1', c0', i1', z0', b8_nat]
              with_reducible refine s_end ?_
              rotate_left 1
              replace hb := dF' hb
              (exfalso; omega)
            all_goals
              rw [hst] at T2
              refine l_next ⟨i + 1, _⟩ ⟨by simp only []; omega, Sep.sub T2 (by repeat' first | exact List.Sublist.refl _ | exact List.sublist_append_left _ _ | exact List.nil_sublist _ | refine List.Sublist.cons_cons _ ?_ | refine List.Sublist.cons _ ?_ | refine List.Sublist.trans ?_ (List.sublist_append_left _ _))⟩ (by simp only []; omega) (by rfl) rfl
          · have hik' : i = k := by omega
            subst hik'
            obtain ⟨qs, hqs⟩ : ∃ qs, qs = (lwK t ps i).take (m0 + 1) := ⟨_, rfl⟩
            have hf2 : fitQ L ((lwK t ps i).take (m0 + 1)) t = (decide (dE L qs = 0) && sameC (dcQ L qs) t) := by rw [hqs, fitQ]
            rw [← hqs] at S6 hlw
            have c11 : ∀ Y L' z, Sep h Y L' → EI Y z qs → ACalls Try.prog 11 [DA z L] Y (fun r h' => ∃ z, r = .tup [z, I (dE L qs)] ∧ SlC z ∧ Sep h h' (L' ++ [WC z (dcQ L qs)])) := fun Y L' z S a =>
              (rof11 Y z L qs (by omega)).mono fun r h' _ ⟨z, h1, h2, h3⟩ => ⟨z, h1, h2, S.join h3⟩
            have hdl := dcQ_len (L := L) (ps := qs)
            generalize dcQ L qs = dl at *
            have c42 := fun Y z (b : EC Y z dl) (c : EC Y s t) => rsame42 (h := Y) (s1 := z) (s2 := s) (l1 := dl) (l2 := t) (by omega) (by omega)
            by_cases he : dE L qs = 0
            · rw [he] at c11
              rw [decide_eq_true he, Bool.true_and] at hf2
              clear he
              cases hq2 : sameC dl t
              · rw [hq2] at c42 hf2
                focus
                  with_reducible refine s_seq ?_
                  with_reducible refine s_seq ?_
                  with_reducible refine s_reg ?_
                  refine smove ?_
                  simp only [pu', p0', c1', c0', i1', z0', b8_nat]
                  refine smove ?_
                  simp only [pu', p0', c1', c0', i1', z0', b8_nat]
                  refine sLt (fun hb => ?_) (fun hb => ?_)
                  replace hb := dT' hb
                  (exfalso; omega)
                  replace hb := dF' hb
                  simp only [pu', p0', c1', c0', i1', z0', b8_nat]
                  with_reducible refine s_end ?_
                  with_reducible refine s_then ?_
                  refine sCF ?_
                  with_reducible refine s_exit ?_
                  with_reducible refine s_thenE ?_
                  with_reducible refine l_exit ?_
                  with_reducible refine s_blkE ?_
                  with_reducible refine s_then ?_
                  with_reducible refine s_seq ?_
                  with_reducible refine s_reg ?_
                  refine sloadW ?_
                  simp only [pu', p0', c1', c0', i1', z0', b8_nat]
                  refine sC (hx := rfl) ((c11 _ _ zd inferInstance inferInstance).mono ?_)
                  rintro _ m11 _ ⟨z2, rfl, pz2, S7⟩
                  simp only [pu', p0', c1', c0', i1', n0', n3', n1', n2', a2', a1', a0', n4', Nat.reduceAdd, z0', n5', sa0, sa1, sa2, sa3, sa4, sa5, sa6, sa7, sa8, sa9, sa10, sa11]
                  refine smove ?_
                  simp only [pu', p0', c1', c0', i1', z0', b8_nat]
                  refine sext ?_
                  simp only [pu', p0', c1', c0', i1', z0', b8_nat]
                  refine sext ?_
                  simp only [pu', p0', c1', c0', i1', z0', b8_nat]
                  refine sassign ?_
                  simp only [pu', p0', c1', c0', i1', z0', b8_nat]
                  refine sassign ?_
                  simp only [pu', p0', c1', c0', i1', z0', b8_nat]
                  with_reducible refine s_end ?_
                  with_reducible refine s_then ?_
                  with_reducible refine s_seq ?_
                  with_reducible refine s_reg ?_
                  refine smove ?_
                  simp only [pu', p0', c1', c0', i1', z0', b8_nat]
                  refine sEq (fun hb => ?_) (fun hb => ?_)
                  replace hb := dT' hb
                  simp only [pu', p0', c1', c0', i1', z0', b8_nat]
                  refine smove ?_
                  simp only [pu', p0', c1', c0', i1', z0', b8_nat]
                  refine smove ?_
                  simp only [pu', p0', c1', c0', i1', z0', b8_nat]
                  refine smove ?_
                  simp only [pu', p0', c1', c0', i1', z0', b8_nat]
                  refine sM (hx := rfl) (c42 _ z2 inferInstance inferInstance) ?_
                  simp only [pu', p0', c1', c0', i1', z0', b8_nat]
                  refine spickT ?_
                  simp only [pu', p0', c1', c0', i1', z0', b8_nat]
                  with_reducible refine s_end ?_
                  with_reducible refine s_then ?_
                  refine sCF ?_
                  with_reducible refine s_skip ?_
                  with_reducible refine s_blkN ?_
                  with_reducible refine s_then ?_
                  with_reducible refine s_reg ?_
                  refine smove ?_
                  simp only [pu', p0', c1', c0', i1', z0', b8_nat]
                  refine sadd ?_
                  simp only [pu', p0', c1', c0', i1', z0', b8_nat]
                  refine sassign ?_
                  simp only [pu', p0', c1', c0', i1', z0', b8_nat]
                  with_reducible refine s_end ?_
                  rotate_left 1
                  replace hb := dF' hb
                  exact absurd rfl hb
                all_goals
                  refine l_next ⟨i + 1, _⟩ ⟨by simp only []; omega, fun j hj => ?_, Sep.sub S7 (by repeat' first | exact List.Sublist.refl _ | exact List.sublist_append_left _ _ | exact List.nil_sublist _ | refine List.Sublist.cons_cons _ ?_ | refine List.Sublist.cons _ ?_ | refine List.Sublist.trans ?_ (List.sublist_append_left _ _))⟩ (by simp only []; omega) (by rfl) rfl
                  by_cases hji : j = i
                  · rw [hji]; exact hf2
                  · exact hno j (by simp only [] at hj; omega)
              · rw [hq2] at c42 hf2
                rw [if_pos ⟨i, hkn, hf2⟩] at hq
                subst hq
                focus
                  with_reducible refine s_seq ?_
                  with_reducible refine s_seq ?_
                  with_reducible refine s_reg ?_
                  refine smove ?_
                  simp only [pu', p0', c1', c0', i1', z0', b8_nat]
                  refine smove ?_
                  simp only [pu', p0', c1', c0', i1', z0', b8_nat]
                  refine sLt (fun hb => ?_) (fun hb => ?_)
                  replace hb := dT' hb
                  (exfalso; omega)
                  replace hb := dF' hb
                  simp only [pu', p0', c1', c0', i1', z0', b8_nat]
                  with_reducible refine s_end ?_
                  with_reducible refine s_then ?_
                  refine sCF ?_
                  with_reducible refine s_exit ?_
                  with_reducible refine s_thenE ?_
                  with_reducible refine l_exit ?_
                  with_reducible refine s_blkE ?_
                  with_reducible refine s_then ?_
                  with_reducible refine s_seq ?_
                  with_reducible refine s_reg ?_
                  refine sloadW ?_
                  simp only [pu', p0', c1', c0', i1', z0', b8_nat]
                  refine sC (hx := rfl) ((c11 _ _ zd inferInstance inferInstance).mono ?_)
                  rintro _ m11 _ ⟨z2, rfl, pz2, S7⟩
                  simp only [pu', p0', c1', c0', i1', n0', n3', n1', n2', a2', a1', a0', n4', Nat.reduceAdd, z0', n5', sa0, sa1, sa2, sa3, sa4, sa5, sa6, sa7, sa8, sa9, sa10, sa11]
                  refine smove ?_
                  simp only [pu', p0', c1', c0', i1', z0', b8_nat]
                  refine sext ?_
                  simp only [pu', p0', c1', c0', i1', z0', b8_nat]
                  refine sext ?_
                  simp only [pu', p0', c1', c0', i1', z0', b8_nat]
                  refine sassign ?_
                  simp only [pu', p0', c1', c0', i1', z0', b8_nat]
                  refine sassign ?_
                  simp only [pu', p0', c1', c0', i1', z0', b8_nat]
                  with_reducible refine s_end ?_
                  with_reducible refine s_then ?_
                  with_reducible refine s_seq ?_
                  with_reducible refine s_reg ?_
                  refine smove ?_
                  simp only [pu', p0', c1', c0', i1', z0', b8_nat]
                  refine sEq (fun hb => ?_) (fun hb => ?_)
                  replace hb := dT' hb
                  simp only [pu', p0', c1', c0', i1', z0', b8_nat]
                  refine smove ?_
                  simp only [pu', p0', c1', c0', i1', z0', b8_nat]
                  refine smove ?_
                  simp only [pu', p0', c1', c0', i1', z0', b8_nat]
                  refine smove ?_
                  simp only [pu', p0', c1', c0', i1', z0', b8_nat]
                  refine sM (hx := rfl) (c42 _ z2 inferInstance inferInstance) ?_
                  simp only [pu', p0', c1', c0', i1', z0', b8_nat]
                  refine spickT ?_
                  simp only [pu', p0', c1', c0', i1', z0', b8_nat]
                  with_reducible refine s_end ?_
                  with_reducible refine s_then ?_
                  refine sCT ?_
                  with_reducible refine s_seq ?_
                  with_reducible refine s_reg ?_
                  refine sassign ?_
                  simp only [pu', p0', c1', c0', i1', z0', b8_nat]
                  with_reducible refine s_end ?_
                  with_reducible refine s_then ?_
                  with_reducible refine s_ret ?_
                  with_reducible refine s_blkR ?_
                  with_reducible refine s_thenR ?_
                  with_reducible refine l_ret ?_
                  with_reducible refine s_blkR ?_
                  with_reducible refine s_thenR ?_
                  rotate_left 1
                  replace hb := dF' hb
                  exact absurd rfl hb
                all_goals
                  all_goals try with_reducible refine w_n ?_
                  all_goals refine w_1 rfl (by first | exact v_t (by rfl) | exact v_c1 (C1.p) (by rfl) (HA.p) (by rfl) | exact v_cF (CA.p) (by rfl) (HA.p) (by rfl)) ?_
                  exact ⟨rfl, Sep.sub inferInstance (by repeat' first | exact List.Sublist.refl _ | exact List.sublist_append_left _ _ | exact List.nil_sublist _ | refine List.Sublist.cons_cons _ ?_ | refine List.Sublist.cons _ ?_ | refine List.Sublist.trans ?_ (List.sublist_append_left _ _))⟩
            · rw [decide_eq_false he, Bool.false_and] at hf2
              generalize dE L qs = e at *
              with_reducible refine s_seq ?_
              with_reducible refine s_seq ?_
              with_reducible refine s_reg ?_
              refine smove ?_
              simp only [pu', p0', c1', c0', i1', z0', b8_nat]
              refine smove ?_
              simp only [pu', p0', c1', c0', i1', z0', b8_nat]
              refine sLt (fun hb => ?_) (fun hb => ?_)
              replace hb := dT' hb
              (exfalso; omega)
              replace hb := dF' hb
              simp only [pu', p0', c1', c0', i1', z0', b8_nat]
              with_reducible refine s_end ?_
              with_reducible refine s_then ?_
              refine sCF ?_
              with_reducible refine s_exit ?_
              with_reducible refine s_thenE ?_
              with_reducible refine l_exit ?_
              with_reducible refine s_blkE ?_
              with_reducible refine s_then ?_
              with_reducible refine s_seq ?_
              with_reducible refine s_reg ?_
              refine sloadW ?_
              simp only [pu', p0', c1', c0', i1', z0', b8_nat]
              refine sC (hx := rfl) ((c11 _ _ zd inferInstance inferInstance).mono ?_)
              rintro _ m11 _ ⟨z2, rfl, pz2, S7⟩
              simp only [pu', p0', c1', c0', i1', n0', n3', n1', n2', a2', a1', a0', n4', Nat.reduceAdd, z0', n5', sa0, sa1, sa2, sa3, sa4, sa5, sa6, sa7, sa8, sa9, sa10, sa11]
              refine smove ?_
              simp only [pu', p0', c1', c0', i1', z0', b8_nat]
              refine sext ?_
              simp only [pu', p0', c1', c0', i1', z0', b8_nat]
              refine sext ?_
              simp only [pu', p0', c1', c0', i1', z0', b8_nat]
              refine sassign ?_
              simp only [pu', p0', c1', c0', i1', z0', b8_nat]
              refine sassign ?_
              simp only [pu', p0', c1', c0', i1', z0', b8_nat]
              with_reducible refine s_end ?_
              with_reducible refine s_then ?_
              with_reducible refine s_seq ?_
              with_reducible refine s_reg ?_
              refine smove ?_
              simp only [pu', p0', c1', c0', i1', z0', b8_nat]
              refine sEq (fun hb => ?_) (fun hb => ?_)
              replace hb := dT' hb
              (exfalso; omega)
              replace hb := dF' hb
              simp only [pu', p0', c1', c0', i1', z0', b8_nat]
              refine smove ?_
              simp only [pu', p0', c1', c0', i1', z0', b8_nat]
              (with_reducible refine s_gN ?_ ?_; exact wG rfl rfl rfl rfl rfl)
              simp only [pu', p0', c1', c0', i1', z0', b8_nat]
              (with_reducible refine s_gN ?_ ?_; exact wG rfl rfl rfl rfl rfl)
              simp only [pu', p0', c1', c0', i1', z0', b8_nat]
              (with_reducible refine s_gN ?_ ?_; exact wG rfl rfl rfl rfl rfl)
              simp only [pu', p0', c1', c0', i1', z0', b8_nat]
              refine spickF ?_
              simp only [pu', p0', c1', c0', i1', z0', b8_nat]
              with_reducible refine s_end ?_
              with_reducible refine s_then ?_
              refine sCF ?_
              with_reducible refine s_skip ?_
              with_reducible refine s_blkN ?_
              with_reducible refine s_then ?_
              with_reducible refine s_reg ?_
              refine smove ?_
              simp only [pu', p0', c1', c0', i1', z0', b8_nat]
              refine sadd ?_
              simp only [pu', p0', c1', c0', i1', z0', b8_nat]
              refine sassign ?_
              simp only [pu', p0', c1', c0', i1', z0', b8_nat]
              with_reducible refine s_end ?_
              all_goals
                refine l_next ⟨i + 1, _⟩ ⟨by simp only []; omega, fun j hj => ?_, Sep.sub S7 (by repeat' first | exact List.Sublist.refl _ | exact List.sublist_append_left _ _ | exact List.nil_sublist _ | refine List.Sublist.cons_cons _ ?_ | refine List.Sublist.cons _ ?_ | refine List.Sublist.trans ?_ (List.sublist_append_left _ _))⟩ (by simp only []; omega) (by rfl) rfl
                by_cases hji : j = i
                · rw [hji]; exact hf2
                · exact hno j (by simp only [] at hj; omega)
        · rw [if_neg (fun ⟨j, hj, hjf⟩ => by rw [hno j (by omega)] at hjf; cases hjf)] at hq
          subst hq
          with_reducible refine s_seq ?_
          with_reducible refine s_seq ?_
          with_reducible refine s_reg ?_
          refine smove ?_
          simp only [pu', p0', c1', c0', i1', z0', b8_nat]
          refine smove ?_
          simp only [pu', p0', c1', c0', i1', z0', b8_nat]
          refine sLe (fun hb => ?_) (fun hb => ?_)
          replace hb := dT' hb
          (exfalso; omega)
          replace hb := dF' hb
          simp only [pu', p0', c1', c0', i1', z0', b8_nat]
          with_reducible refine s_end ?_
          with_reducible refine s_then ?_
          refine sCF ?_
          with_reducible refine s_exit ?_
          with_reducible refine s_thenE ?_
          with_reducible refine l_exit ?_
          with_reducible refine s_blkE ?_
          with_reducible refine s_then ?_
          with_reducible refine s_seq ?_
          with_reducible refine s_reg ?_
          refine sassign ?_
          simp only [pu', p0', c1', c0', i1', z0', b8_nat]
          with_reducible refine s_end ?_
          with_reducible refine s_then ?_
          with_reducible refine s_ret ?_
          all_goals
            all_goals try with_reducible refine w_n ?_
            all_goals refine w_1 rfl (by first | exact v_t (by rfl) | exact v_c1 (C1.p) (by rfl) (HA.p) (by rfl) | exact v_cF (CA.p) (by rfl) (HA.p) (by rfl)) ?_
            exact ⟨rfl, Sep.sub inferInstance (by repeat' first | exact List.Sublist.refl _ | exact List.sublist_append_left _ _ | exact List.nil_sublist _ | refine List.Sublist.cons_cons _ ?_ | refine List.Sublist.cons _ ?_ | refine List.Sublist.trans ?_ (List.sublist_append_left _ _))⟩
end Go.Proofs.Ytgbddbiimffplaa
