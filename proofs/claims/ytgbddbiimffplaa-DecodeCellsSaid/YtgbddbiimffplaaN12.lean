/-
  A part of the proof of a statement of a chapter's seat; conditions: stated at each theorem.
-/
import Derived.Test.YtgbddbiimffplaaN11
set_option linter.unusedVariables false
set_option linter.unusedSectionVars false
set_option linter.unusedSimpArgs false
set_option linter.unusedVariables false
set_option maxRecDepth 100000
set_option maxHeartbeats 8000000
namespace Go.Proofs.Ytgbddbiimffplaa
open Go.Az Go
/-! ### Which tables are right -/
def syA (t : List Ce) (i : Nat) : Int := (t.getD i ce0).s
def cnT (t : List Ce) : Nat → List Int
  | 0 => List.replicate 256 0
  | i + 1 => (cnT t i).set (syA t i).toNat ((cnT t i).getD (syA t i).toNat 0 + 1)
def lsT (t : List Ce) : Nat → Nat
  | 0 => 0
  | i + 1 => if lsT t i < (syA t i).toNat then (syA t i).toNat else lsT t i
theorem cnT_len (t : List Ce) : ∀ i, (cnT t i).length = 256
  | 0 => List.length_replicate ..
  | i + 1 => by rw [cnT, List.length_set, cnT_len t i]
theorem lsT_lt (t : List Ce) : ∀ i, (∀ j, j < i → syA t j < 256) → lsT t i < 256
  | 0, _ => by simp [lsT]
  | i + 1, h => by
    have h1 := lsT_lt t i fun j hj => h j (by omega)
    have h2 := h i (by omega)
    rw [lsT]; split <;> omega
theorem cnT_bd (t : List Ce) : ∀ i k, 0 ≤ (cnT t i).getD k 0 ∧ (cnT t i).getD k 0 ≤ i
  | 0, k => by
    rw [cnT, List.getD_eq_getElem?_getD, List.getElem?_replicate]
    split <;> simp
  | i + 1, k => by
    have h1 := cnT_bd t i k
    have h2 := cnT_bd t i (syA t i).toNat
    rw [cnT, List.getD_eq_getElem?_getD, List.getElem?_set]
    by_cases hk : (syA t i).toNat = k
    · rw [if_pos hk]
      split
      · simp only [Option.getD_some]; omega
      · simp only [Option.getD_none]; omega
    · rw [if_neg hk, ← List.getD_eq_getElem?_getD]; omega
def dwn (L : Int) (m : Nat) (t : List Ce) : Nat → List Int → Int → Int
  | 0, _, _ => 3
  | i + 1, ps, b => if ps.getD (syA t i).toNat 0 ≠ 1 ∨ syA t i ≤ b then 3 else if fitQ L ((ps.set (syA t i).toNat (-1)).take (m + 1)) t = true then 0 else dwn L m t i (ps.set (syA t i).toNat (-1)) (syA t i)
def chkM (t : List Ce) : Int :=
  if fitQ (hiF t.length) ((cnT t t.length).take (lsT t t.length + 1)) t = true then 0 else dwn (hiF t.length) (lsT t t.length) t t.length (cnT t t.length) (-1)
def badS (t : List Ce) : Prop := ∃ i, i < t.length ∧ (syA t i < 0 ∨ 256 ≤ syA t i)
open Classical in
noncomputable def chkQ (t : List Ce) : Int :=
  if t.length = 1 then (if oneE (syA t 0) = 0 ∧ sameC t (oneL (syA t 0)) = true then 0 else 3)
  else if hiF t.length < 5 ∨ 12 < hiF t.length ∨ (t.length : Int) ≠ 2 ^ (hiF t.length).toNat then 3
  else if badS t then 3
  else chkM t
structure ChB where
  i : Nat
  m : Int
  G : Hp
structure DwB where
  x : Int
  ps : List Int
  b : Int
  G : Hp
theorem check20 {h : Hp} {s : AV} {t : List Ce} [a : EC h s t] (hlen : t.length ≤ 512) : ACalls Try.prog 20 [s] h (fun r h' => r = I (chkQ t) ∧ Sep h h' []) := by
  have pss := a.p.sl
  have S0 := Sep.nil h
  by_cases h1 : t.length = 1
  · have c12 := fun Y => one12 Y (t.getD 0 ce0).s
    rw [chkQ, if_pos h1, syA]
    have hol : (oneL (t.getD 0 ce0).s).length ≤ 1 := by unfold oneL; split <;> simp
    generalize oneL (t.getD 0 ce0).s = ol at *
    generalize oneE (t.getD 0 ce0).s = oe at *
    have c37 := fun Y z (b : EC Y s t) (c : EC Y z ol) => same37 (h := Y) (s1 := s) (s2 := z) (l1 := t) (l2 := ol) (by omega) (by omega)
    by_cases he : oe = 0
    · subst he
      cases hq : sameC t ol
      · rw [hq] at c37
        rw [if_neg (by simp)]
        refine acalls_of_wk hm Try.func20 rfl ?_
        simp only [Try.ntmps20, List.length_cons, List.length_nil, Nat.reduceAdd, Nat.reduceSub, List.reduceReplicate, List.cons_append, List.nil_append]
        show wk _ _ none _ _ ⟨_, []⟩ _
        focus
          with_reducible refine s_seq ?_
          with_reducible refine s_reg ?_
          refine sassign ?_
          simp only [pu', p0', c1', c0', i1', z0', b8_nat]
          with_reducible refine s_end ?_
          with_reducible refine s_then ?_
          with_reducible refine s_seq ?_
          with_reducible refine s_seq ?_
          with_reducible refine s_reg ?_
          refine smove ?_
          simp only [pu', p0', c1', c0', i1', z0', b8_nat]
          refine slenE ?_
          simp only [pu', p0', c1', c0', i1', z0', b8_nat]
          refine sEq (fun hb => ?_) (fun hb => ?_)
          replace hb := dT' hb
          simp only [pu', p0', c1', c0', i1', z0', b8_nat]
          with_reducible refine s_end ?_
          with_reducible refine s_then ?_
          refine sCT ?_
          with_reducible refine s_seq ?_
          with_reducible refine s_reg ?_
          refine smove ?_
          simp only [pu', p0', c1', c0', i1', z0', b8_nat]
          refine sidxE ?_
          simp only [pu', p0', c1', c0', i1', z0', b8_nat]
          refine sfadE ?_
          simp only [pu', p0', c1', c0', i1', z0', b8_nat]
          refine sloadF ?_
          simp only [pu', p0', c1', c0', i1', z0', b8_nat]
          refine sC (hx := rfl) ((c12 _).mono ?_)
          rintro _ m12 _ ⟨z, rfl, pz, S1⟩
          simp only [pu', p0', c1', c0', i1', n0', n3', n1', n2', a2', a1', a0', n4', Nat.reduceAdd, z0', n5', sa0, sa1, sa2, sa3, sa4, sa5, sa6, sa7, sa8, sa9, sa10, sa11]
          refine smove ?_
          simp only [pu', p0', c1', c0', i1', z0', b8_nat]
          refine sext ?_
          simp only [pu', p0', c1', c0', i1', z0', b8_nat]
          refine sext ?_
          simp only [pu', p0', c1', c0', i1', z0', b8_nat]
          refine sassign ?_
          simp only [pu', p0', c1', c0', i1', z0', b8_nat]
          refine sassign ?_
          simp only [pu', p0', c1', c0', i1', z0', b8_nat]
          with_reducible refine s_end ?_
          with_reducible refine s_then ?_
          with_reducible refine s_seq ?_
          with_reducible refine s_seq ?_
          with_reducible refine s_reg ?_
          refine smove ?_
          simp only [pu', p0', c1', c0', i1', z0', b8_nat]
          refine sNe (fun hb => ?_) (fun hb => ?_)
          replace hb := dT' hb
          (exfalso; omega)
          replace hb := dF' hb
          simp only [pu', p0', c1', c0', i1', z0', b8_nat]
          refine smove ?_
          simp only [pu', p0', c1', c0', i1', z0', b8_nat]
          refine smove ?_
          simp only [pu', p0', c1', c0', i1', z0', b8_nat]
          refine smove ?_
          simp only [pu', p0', c1', c0', i1', z0', b8_nat]
          refine sM (hx := rfl) (c37 _ z inferInstance inferInstance) ?_
          simp only [pu', p0', c1', c0', i1', z0', b8_nat]
          refine snotF ?_
          simp only [pu', p0', c1', c0', i1', z0', b8_nat]
          refine spickF ?_
          simp only [pu', p0', c1', c0', i1', z0', b8_nat]
          with_reducible refine s_end ?_
          with_reducible refine s_then ?_
          refine sCT ?_
          with_reducible refine s_seq ?_
          with_reducible refine s_reg ?_
          refine sassign ?_
          simp only [pu', p0', c1', c0', i1', z0', b8_nat]
          with_reducible refine s_end ?_
          with_reducible refine s_then ?_
          with_reducible refine s_ret ?_
          with_reducible refine s_thenR ?_
          with_reducible refine s_thenR ?_
          rotate_left 1
          replace hb := dF' hb
          (exfalso; omega)
        all_goals
          all_goals try with_reducible refine w_n ?_
          all_goals refine w_1 rfl (by first | exact v_t (by rfl) | exact v_c1 (C1.p) (by rfl) (HA.p) (by rfl) | exact v_cF (CA.p) (by rfl) (HA.p) (by rfl)) ?_
          exact ⟨rfl, Sep.sub inferInstance (by repeat' first | exact List.Sublist.refl _ | exact List.sublist_append_left _ _ | exact List.nil_sublist _ | refine List.Sublist.cons_cons _ ?_ | refine List.Sublist.cons _ ?_ | refine List.Sublist.trans ?_ (List.sublist_append_left _ _))⟩
      · rw [hq] at c37
        rw [if_pos (by simp)]
        refine acalls_of_wk hm Try.func20 rfl ?_
        simp only [Try.ntmps20, List.length_cons, List.length_nil, Nat.reduceAdd, Nat.reduceSub, List.reduceReplicate, List.cons_append, List.nil_append]
        show wk _ _ none _ _ ⟨_, []⟩ _
        focus
          with_reducible refine s_seq ?_
          with_reducible refine s_reg ?_
          refine sassign ?_
          simp only [pu', p0', c1', c0', i1', z0', b8_nat]
          with_reducible refine s_end ?_
          with_reducible refine s_then ?_
          with_reducible refine s_seq ?_
          with_reducible refine s_seq ?_
          with_reducible refine s_reg ?_
          refine smove ?_
          simp only [pu', p0', c1', c0', i1', z0', b8_nat]
          refine slenE ?_
          simp only [pu', p0', c1', c0', i1', z0', b8_nat]
          refine sEq (fun hb => ?_) (fun hb => ?_)
          replace hb := dT' hb
          simp only [pu', p0', c1', c0', i1', z0', b8_nat]
          with_reducible refine s_end ?_
          with_reducible refine s_then ?_
          refine sCT ?_
          with_reducible refine s_seq ?_
          with_reducible refine s_reg ?_
          refine smove ?_
          simp only [pu', p0', c1', c0', i1', z0', b8_nat]
          refine sidxE ?_
          simp only [pu', p0', c1', c0', i1', z0', b8_nat]
          refine sfadE ?_
          simp only [pu', p0', c1', c0', i1', z0', b8_nat]
          refine sloadF ?_
          simp only [pu', p0', c1', c0', i1', z0', b8_nat]
          refine sC (hx := rfl) ((c12 _).mono ?_)
          rintro _ m12 _ ⟨z, rfl, pz, S1⟩
          simp only [pu', p0', c1', c0', i1', n0', n3', n1', n2', a2', a1', a0', n4', Nat.reduceAdd, z0', n5', sa0, sa1, sa2, sa3, sa4, sa5, sa6, sa7, sa8, sa9, sa10, sa11]
          refine smove ?_
          simp only [pu', p0', c1', c0', i1', z0', b8_nat]
          refine sext ?_
          simp only [pu', p0', c1', c0', i1', z0', b8_nat]
          refine sext ?_
          simp only [pu', p0', c1', c0', i1', z0', b8_nat]
          refine sassign ?_
          simp only [pu', p0', c1', c0', i1', z0', b8_nat]
          refine sassign ?_
          simp only [pu', p0', c1', c0', i1', z0', b8_nat]
          with_reducible refine s_end ?_
          with_reducible refine s_then ?_
          with_reducible refine s_seq ?_
          with_reducible refine s_seq ?_
          with_reducible refine s_reg ?_
          refine smove ?_
          simp only [pu', p0', c1', c0', i1', z0', b8_nat]
          refine sNe (fun hb => ?_) (fun hb => ?_)
          replace hb := dT' hb
          (exfalso; omega)
          replace hb := dF' hb
          simp only [pu', p0', c1', c0', i1', z0', b8_nat]
          refine smove ?_
          simp only [pu', p0', c1', c0', i1', z0', b8_nat]
          refine smove ?_
          simp only [pu', p0', c1', c0', i1', z0', b8_nat]
          refine smove ?_
          simp only [pu', p0', c1', c0', i1', z0', b8_nat]
          refine sM (hx := rfl) (c37 _ z inferInstance inferInstance) ?_
          simp only [pu', p0', c1', c0', i1', z0', b8_nat]
          refine snotT ?_
          simp only [pu', p0', c1', c0', i1', z0', b8_nat]
          refine spickF ?_
          simp only [pu', p0', c1', c0', i1', z0', b8_nat]
          with_reducible refine s_end ?_
          with_reducible refine s_then ?_
          refine sCF ?_
          with_reducible refine s_skip ?_
          with_reducible refine s_then ?_
          with_reducible refine s_seq ?_
          with_reducible refine s_reg ?_
          refine sassign ?_
          simp only [pu', p0', c1', c0', i1', z0', b8_nat]
          with_reducible refine s_end ?_
          with_reducible refine s_then ?_
          with_reducible refine s_ret ?_
          with_reducible refine s_thenR ?_
          rotate_left 1
          replace hb := dF' hb
          (exfalso; omega)
        all_goals
          all_goals try with_reducible refine w_n ?_
          all_goals refine w_1 rfl (by first | exact v_t (by rfl) | exact v_c1 (C1.p) (by rfl) (HA.p) (by rfl) | exact v_cF (CA.p) (by rfl) (HA.p) (by rfl)) ?_
          exact ⟨rfl, Sep.sub inferInstance (by repeat' first | exact List.Sublist.refl _ | exact List.sublist_append_left _ _ | exact List.nil_sublist _ | refine List.Sublist.cons_cons _ ?_ | refine List.Sublist.cons _ ?_ | refine List.Sublist.trans ?_ (List.sublist_append_left _ _))⟩
    · rw [if_neg (fun hh => he hh.1)]
      refine acalls_of_wk hm Try.func20 rfl ?_
      simp only [Try.ntmps20, List.length_cons, List.length_nil, Nat.reduceAdd, Nat.reduceSub, List.reduceReplicate, List.cons_append, List.nil_append]
      show wk _ _ none _ _ ⟨_, []⟩ _
      focus
        with_reducible refine s_seq ?_
        with_reducible refine s_reg ?_
        refine sassign ?_
        simp only [pu', p0', c1', c0', i1', z0', b8_nat]
        with_reducible refine s_end ?_
        with_reducible refine s_then ?_
        with_reducible refine s_seq ?_
        with_reducible refine s_seq ?_
        with_reducible refine s_reg ?_
        refine smove ?_
        simp only [pu', p0', c1', c0', i1', z0', b8_nat]
        refine slenE ?_
        simp only [pu', p0', c1', c0', i1', z0', b8_nat]
        refine sEq (fun hb => ?_) (fun hb => ?_)
        replace hb := dT' hb
        simp only [pu', p0', c1', c0', i1', z0', b8_nat]
        with_reducible refine s_end ?_
        with_reducible refine s_then ?_
        refine sCT ?_
        with_reducible refine s_seq ?_
        with_reducible refine s_reg ?_
        refine smove ?_
        simp only [pu', p0', c1', c0', i1', z0', b8_nat]
        refine sidxE ?_
        simp only [pu', p0', c1', c0', i1', z0', b8_nat]
        refine sfadE ?_
        simp only [pu', p0', c1', c0', i1', z0', b8_nat]
        refine sloadF ?_
        simp only [pu', p0', c1', c0', i1', z0', b8_nat]
        refine sC (hx := rfl) ((c12 _).mono ?_)
        rintro _ m12 _ ⟨z, rfl, pz, S1⟩
        simp only [pu', p0', c1', c0', i1', n0', n3', n1', n2', a2', a1', a0', n4', Nat.reduceAdd, z0', n5', sa0, sa1, sa2, sa3, sa4, sa5, sa6, sa7, sa8, sa9, sa10, sa11]
        refine smove ?_
        simp only [pu', p0', c1', c0', i1', z0', b8_nat]
        refine sext ?_
        simp only [pu', p0', c1', c0', i1', z0', b8_nat]
        refine sext ?_
        simp only [pu', p0', c1', c0', i1', z0', b8_nat]
        refine sassign ?_
        simp only [pu', p0', c1', c0', i1', z0', b8_nat]
        refine sassign ?_
        simp only [pu', p0', c1', c0', i1', z0', b8_nat]
        with_reducible refine s_end ?_
        with_reducible refine s_then ?_
        with_reducible refine s_seq ?_
        with_reducible refine s_seq ?_
        with_reducible refine s_reg ?_
        refine smove ?_
        simp only [pu', p0', c1', c0', i1', z0', b8_nat]
        refine sNe (fun hb => ?_) (fun hb => ?_)
        replace hb := dT' hb
        simp only [pu', p0', c1', c0', i1', z0', b8_nat]
        refine smove ?_
        simp only [pu', p0', c1', c0', i1', z0', b8_nat]
        refine sN ?_
        simp only [pu', p0', c1', c0', i1', z0', b8_nat]
        refine sN ?_
        simp only [pu', p0', c1', c0', i1', z0', b8_nat]
        refine sN ?_
        simp only [pu', p0', c1', c0', i1', z0', b8_nat]
        refine sN ?_
        simp only [pu', p0', c1', c0', i1', z0', b8_nat]
        refine spickT ?_
        simp only [pu', p0', c1', c0', i1', z0', b8_nat]
        with_reducible refine s_end ?_
        with_reducible refine s_then ?_
        refine sCT ?_
        with_reducible refine s_seq ?_
        with_reducible refine s_reg ?_
        refine sassign ?_
        simp only [pu', p0', c1', c0', i1', z0', b8_nat]
        with_reducible refine s_end ?_
        with_reducible refine s_then ?_
        with_reducible refine s_ret ?_
        with_reducible refine s_thenR ?_
        with_reducible refine s_thenR ?_
        rotate_left 1
        replace hb := dF' hb
        exact absurd (by with_reducible assumption) hb
        replace hb := dF' hb
        (exfalso; omega)
      all_goals
        all_goals try with_reducible refine w_n ?_
        all_goals refine w_1 rfl (by first | exact v_t (by rfl) | exact v_c1 (C1.p) (by rfl) (HA.p) (by rfl) | exact v_cF (CA.p) (by rfl) (HA.p) (by rfl)) ?_
        exact ⟨rfl, Sep.sub inferInstance (by repeat' first | exact List.Sublist.refl _ | exact List.sublist_append_left _ _ | exact List.nil_sublist _ | refine List.Sublist.cons_cons _ ?_ | refine List.Sublist.cons _ ?_ | refine List.Sublist.trans ?_ (List.sublist_append_left _ _))⟩
  · rw [chkQ, if_neg h1]
    have c36 := high_any (t.length : Int) (by omega) (by omega)
    by_cases hL : hiF t.length < 5 ∨ 12 < hiF t.length ∨ (t.length : Int) ≠ 2 ^ (hiF t.length).toNat
    · rw [if_pos hL]
      have hh1 := hi_bd (t.length : Int)
      have hh2 := hi_lt (n := (t.length : Int)) (k := 10) (by omega) (by omega)
      generalize hiF t.length = L at *
      refine acalls_of_wk hm Try.func20 rfl ?_
      simp only [Try.ntmps20, List.length_cons, List.length_nil, Nat.reduceAdd, Nat.reduceSub, List.reduceReplicate, List.cons_append, List.nil_append]
      show wk _ _ none _ _ ⟨_, []⟩ _
      focus
        with_reducible refine s_seq ?_
        with_reducible refine s_reg ?_
        refine sassign ?_
        simp only [pu', p0', c1', c0', i1', z0', b8_nat]
        with_reducible refine s_end ?_
        with_reducible refine s_then ?_
        with_reducible refine s_seq ?_
        with_reducible refine s_seq ?_
        with_reducible refine s_reg ?_
        refine smove ?_
        simp only [pu', p0', c1', c0', i1', z0', b8_nat]
        refine slenE ?_
        simp only [pu', p0', c1', c0', i1', z0', b8_nat]
        refine sEq (fun hb => ?_) (fun hb => ?_)
        replace hb := dT' hb
        (exfalso; omega)
        replace hb := dF' hb
        simp only [pu', p0', c1', c0', i1', z0', b8_nat]
        with_reducible refine s_end ?_
        with_reducible refine s_then ?_
        refine sCF ?_
        with_reducible refine s_skip ?_
        with_reducible refine s_then ?_
        with_reducible refine s_seq ?_
        with_reducible refine s_reg ?_
        refine smove ?_
        simp only [pu', p0', c1', c0', i1', z0', b8_nat]
        refine slenE ?_
        simp only [pu', p0', c1', c0', i1', z0', b8_nat]
        refine sK (hx := rfl) (c36) ?_
        simp only [pu', p0', c1', c0', i1', z0', b8_nat]
        refine sassign ?_
        simp only [pu', p0', c1', c0', i1', z0', b8_nat]
        with_reducible refine s_end ?_
        with_reducible refine s_then ?_
        with_reducible refine s_seq ?_
        with_reducible refine s_seq ?_
        with_reducible refine s_reg ?_
        refine smove ?_
        simp only [pu', p0', c1', c0', i1', z0', b8_nat]
        refine sLt (fun hb => ?_) (fun hb => ?_)
        replace hb := dT' hb
        simp only [pu', p0', c1', c0', i1', z0', b8_nat]
        refine smove ?_
        simp only [pu', p0', c1', c0', i1', z0', b8_nat]
        refine sN ?_
        simp only [pu', p0', c1', c0', i1', z0', b8_nat]
        refine sN ?_
        simp only [pu', p0', c1', c0', i1', z0', b8_nat]
        refine spickT ?_
        simp only [pu', p0', c1', c0', i1', z0', b8_nat]
        refine smove ?_
        simp only [pu', p0', c1', c0', i1', z0', b8_nat]
        refine sN ?_
        simp only [pu', p0', c1', c0', i1', z0', b8_nat]
        refine sN ?_
        simp only [pu', p0', c1', c0', i1', z0', b8_nat]
        refine sN ?_
        simp only [pu', p0', c1', c0', i1', z0', b8_nat]
        refine sN ?_
        simp only [pu', p0', c1', c0', i1', z0', b8_nat]
        refine sN ?_
        simp only [pu', p0', c1', c0', i1', z0', b8_nat]
        refine sN ?_
        simp only [pu', p0', c1', c0', i1', z0', b8_nat]
        refine spickT ?_
        simp only [pu', p0', c1', c0', i1', z0', b8_nat]
        with_reducible refine s_end ?_
        with_reducible refine s_then ?_
        refine sCT ?_
        with_reducible refine s_seq ?_
        with_reducible refine s_reg ?_
        refine sassign ?_
        simp only [pu', p0', c1', c0', i1', z0', b8_nat]
        with_reducible refine s_end ?_
        with_reducible refine s_then ?_
        with_reducible refine s_ret ?_
        with_reducible refine s_thenR ?_
        rotate_left 1
        replace hb := dF' hb
        simp only [pu', p0', c1', c0', i1', z0', b8_nat]
        refine smove ?_
        simp only [pu', p0', c1', c0', i1', z0', b8_nat]
        refine smove ?_
        simp only [pu', p0', c1', c0', i1', z0', b8_nat]
        refine sGt (fun hb => ?_) (fun hb => ?_)
        replace hb := dT' hb
        (exfalso; omega)
        replace hb := dF' hb
        simp only [pu', p0', c1', c0', i1', z0', b8_nat]
        refine spickF ?_
        simp only [pu', p0', c1', c0', i1', z0', b8_nat]
        refine smove ?_
        simp only [pu', p0', c1', c0', i1', z0', b8_nat]
        refine smove ?_
        simp only [pu', p0', c1', c0', i1', z0', b8_nat]
        refine slenE ?_
        simp only [pu', p0', c1', c0', i1', z0', b8_nat]
        refine smove ?_
        simp only [pu', p0', c1', c0', i1', z0', b8_nat]
        refine sconv ?_
        simp only [pu', p0', c1', c0', i1', z0', b8_nat]
        refine sshl1 ?_
        simp only [pu', p0', c1', c0', i1', z0', b8_nat]
        refine sNe (fun hb => ?_) (fun hb => ?_)
        replace hb := dT' hb
        simp only [pu', p0', c1', c0', i1', z0', b8_nat]
        refine spickF ?_
        simp only [pu', p0', c1', c0', i1', z0', b8_nat]
        with_reducible refine s_end ?_
        with_reducible refine s_then ?_
        refine sCT ?_
        with_reducible refine s_seq ?_
        with_reducible refine s_reg ?_
        refine sassign ?_
        simp only [pu', p0', c1', c0', i1', z0', b8_nat]
        with_reducible refine s_end ?_
        with_reducible refine s_then ?_
        with_reducible refine s_ret ?_
        with_reducible refine s_thenR ?_
        rotate_left 1
        replace hb := dF' hb
        (exfalso; omega)
      all_goals
        all_goals try with_reducible refine w_n ?_
        all_goals refine w_1 rfl (by first | exact v_t (by rfl) | exact v_c1 (C1.p) (by rfl) (HA.p) (by rfl) | exact v_cF (CA.p) (by rfl) (HA.p) (by rfl)) ?_
        exact ⟨rfl, S0⟩
    · rw [if_neg hL]
      have hh2 := hi_lt (n := (t.length : Int)) (k := 10) (by omega) (by omega)
      have c38 := fun Y L' (S : Sep h Y L') z qs (b : EI Y z qs) (hq : qs.length ≤ 256) => fits38 S (hiF t.length) z s qs t b inferInstance (by omega) (by omega) (by omega)
      obtain ⟨q, hq⟩ : ∃ q, q = (open Classical in if badS t then 3 else chkM t) := ⟨_, rfl⟩
      rw [← hq]
      rw [chkM] at hq
      generalize hiF t.length = L at *
      have hcl := cnT_len t
      have hcb := cnT_bd t
      have hll := lsT_lt t
      refine acalls_of_wk hm Try.func20 rfl ?_
      simp only [Try.ntmps20, List.length_cons, List.length_nil, Nat.reduceAdd, Nat.reduceSub, List.reduceReplicate, List.cons_append, List.nil_append]
      show wk _ _ none _ _ ⟨_, []⟩ _
      with_reducible refine s_seq ?_
      with_reducible refine s_reg ?_
      refine sassign ?_
      simp only [pu', p0', c1', c0', i1', z0', b8_nat]
      with_reducible refine s_end ?_
      with_reducible refine s_then ?_
      with_reducible refine s_seq ?_
      with_reducible refine s_seq ?_
      with_reducible refine s_reg ?_
      refine smove ?_
      simp only [pu', p0', c1', c0', i1', z0', b8_nat]
      refine slenE ?_
      simp only [pu', p0', c1', c0', i1', z0', b8_nat]
      refine sEq (fun hb => ?_) (fun hb => ?_)
      replace hb := dT' hb
      (exfalso; omega)
      replace hb := dF' hb
      simp only [pu', p0', c1', c0', i1', z0', b8_nat]
      with_reducible refine s_end ?_
      with_reducible refine s_then ?_
      refine sCF ?_
      with_reducible refine s_skip ?_
      with_reducible refine s_then ?_
      with_reducible refine s_seq ?_
      with_reducible refine s_reg ?_
      refine smove ?_
      simp only [pu', p0', c1', c0', i1', z0', b8_nat]
      refine slenE ?_
      simp only [pu', p0', c1', c0', i1', z0', b8_nat]
      refine sK (hx := rfl) (c36) ?_
      simp only [pu', p0', c1', c0', i1', z0', b8_nat]
      refine sassign ?_
      simp only [pu', p0', c1', c0', i1', z0', b8_nat]
      with_reducible refine s_end ?_
      with_reducible refine s_then ?_
      with_reducible refine s_seq ?_
      with_reducible refine s_seq ?_
      with_reducible refine s_reg ?_
      refine smove ?_
      simp only [pu', p0', c1', c0', i1', z0', b8_nat]
      refine sLt (fun hb => ?_) (fun hb => ?_)
      replace hb := dT' hb
      (exfalso; omega)
      replace hb := dF' hb
      simp only [pu', p0', c1', c0', i1', z0', b8_nat]
      refine smove ?_
      simp only [pu', p0', c1', c0', i1', z0', b8_nat]
      refine smove ?_
      simp only [pu', p0', c1', c0', i1', z0', b8_nat]
      refine sGt (fun hb => ?_) (fun hb => ?_)
      replace hb := dT' hb
      (exfalso; omega)
      replace hb := dF' hb
      simp only [pu', p0', c1', c0', i1', z0', b8_nat]
      refine spickF ?_
      simp only [pu', p0', c1', c0', i1', z0', b8_nat]
      refine smove ?_
      simp only [pu', p0', c1', c0', i1', z0', b8_nat]
      refine smove ?_
      simp only [pu', p0', c1', c0', i1', z0', b8_nat]
      refine slenE ?_
      simp only [pu', p0', c1', c0', i1', z0', b8_nat]
      refine smove ?_
      simp only [pu', p0', c1', c0', i1', z0', b8_nat]
      refine sconv ?_
      simp only [pu', p0', c1', c0', i1', z0', b8_nat]
      refine sshl1 ?_
      simp only [pu', p0', c1', c0', i1', z0', b8_nat]
      refine sNe (fun hb => ?_) (fun hb => ?_)
      replace hb := dT' hb
      (exfalso; omega)
      replace hb := dF' hb
      simp only [pu', p0', c1', c0', i1', z0', b8_nat]
      refine spickF ?_
      simp only [pu', p0', c1', c0', i1', z0', b8_nat]
      with_reducible refine s_end ?_
      with_reducible refine s_then ?_
      refine sCF ?_
      with_reducible refine s_skip ?_
      with_reducible refine s_then ?_
      with_reducible refine s_seq ?_
      with_reducible refine s_reg ?_
      (refine s_mks (n := (256 : Int)) (encI .i64) (0 : Int) (fun zp Y1 pzp T1 => ?_) inferInstance iok inferInstance rfl (by omega) (by omega) (by omega); simp only [Fr.put, List.set_cons_succ, List.set_cons_zero, Int.toNat_natCast, Nat.zero_add])
      refine sassign ?_
      simp only [pu', p0', c1', c0', i1', z0', b8_nat]
      with_reducible refine s_end ?_
      with_reducible refine s_then ?_
      with_reducible refine s_seq ?_
      with_reducible refine s_reg ?_
      refine sassign ?_
      simp only [pu', p0', c1', c0', i1', z0', b8_nat]
      with_reducible refine s_end ?_
      with_reducible refine s_then ?_
      with_reducible refine s_seq ?_
      with_reducible refine s_seq ?_
      with_reducible refine s_reg ?_
      refine smove ?_
      simp only [pu', p0', c1', c0', i1', z0', b8_nat]
      refine slenE ?_
      simp only [pu', p0', c1', c0', i1', z0', b8_nat]
      refine smove ?_
      simp only [pu', p0', c1', c0', i1', z0', b8_nat]
      with_reducible refine s_end ?_
      with_reducible refine s_then ?_
      with_reducible refine s_block ?_
      refine s_loop hm (fun (b : ChB) s' => [s, s' 1, s' 2, s' 3, s' 4, I L, zp, I b.m, s' 8, s' 9, s' 10, s' 11, s' 12, s' 13, s' 14, s' 15, s' 16, s' 17, s' 18, s' 19, s' 20, s' 21, s' 22, s' 23, s' 24, s' 25, s' 26, s' 27, s' 28, s' 29, s' 30, s' 31, s' 32, s' 33, s' 34, s' 35, s' 36, s' 37, s' 38, s' 39, s' 40, s' 41, s' 42, s' 43, s' 44, s' 45, s' 46, s' 47, s' 48, s' 49, s, I t.length, I b.i, s' 53, s' 54, s' 55, s' 56, s' 57, s' 58, s' 59, s' 60, s' 61, s' 62, s' 63, s' 64, s' 65, s' 66, s' 67, s' 68, s' 69, s' 70, s' 71, s' 72, s' 73, s' 74, s' 75, s' 76, s' 77, s' 78, s' 79, s' 80, s' 81, s' 82, s' 83, s' 84, s' 85, s' 86, s' 87, s' 88, s' 89, s' 90, s' 91, s' 92, s' 93, s' 94, s' 95, s' 96, s' 97, s' 98, s' 99, s' 100, s' 101, s' 102, s' 103, s' 104, s' 105, s' 106, s' 107, s' 108, s' 109, s' 110, s' 111, s' 112, s' 113, s' 114, s' 115]) (fun b => b.G) (fun b => b.i ≤ t.length ∧ b.m = lsT t b.i ∧ (∀ j, j < b.i → 0 ≤ syA t j ∧ syA t j < 256) ∧ Sep h b.G [WI zp (cnT t b.i)]) (fun b => t.length - b.i) ⟨0, 0, _⟩ (by rfl) rfl ⟨Nat.zero_le _, rfl, fun j hj => absurd hj (Nat.not_lt_zero _), Sep.sub inferInstance (by repeat' first | exact List.Sublist.refl _ | exact List.sublist_append_left _ _ | exact List.nil_sublist _ | refine List.Sublist.cons_cons _ ?_ | refine List.Sublist.cons _ ?_ | refine List.Sublist.trans ?_ (List.sublist_append_left _ _))⟩ ?_
      clear T1
      rintro ⟨i, m, G⟩ s' ⟨hi, hm', hsy, S1⟩
      simp only [] at hi hm' hsy S1 ⊢
      by_cases hil : i < t.length
      · by_cases hbd : syA t i < 0 ∨ 256 ≤ syA t i
        · rw [if_pos ⟨i, hil, hbd⟩] at hq
          subst hq
          simp only [syA] at hbd
          focus
            with_reducible refine s_seq ?_
            with_reducible refine s_reg ?_
            refine sLt (fun hb => ?_) (fun hb => ?_)
            replace hb := dT' hb
            simp only [pu', p0', c1', c0', i1', z0', b8_nat]
            with_reducible refine s_end ?_
            with_reducible refine s_then ?_
            with_reducible refine s_seq ?_
            refine sCT ?_
            with_reducible refine s_skip ?_
            with_reducible refine s_then ?_
            with_reducible refine s_seq ?_
            with_reducible refine s_block ?_
            with_reducible refine s_seq ?_
            with_reducible refine s_reg ?_
            refine sidxE ?_
            simp only [pu', p0', c1', c0', i1', z0', b8_nat]
            refine sloadE ?_
            simp only [pu', p0', c1', c0', i1', z0', b8_nat]
            refine salloc ?_
            simp only [pu', p0', c1', c0', i1', n0', n3', n1', n2', a2', a1', a0', n4', Nat.reduceAdd, z0', n5', sa0, sa1, sa2, sa3, sa4, sa5, sa6, sa7, sa8, sa9, sa10, sa11]
            refine sstoreF ?_
            simp only [pu', p0', c1', c0', i1', n0', n3', n1', n2', a2', a1', a0', n4', Nat.reduceAdd, z0', n5', sa0, sa1, sa2, sa3, sa4, sa5, sa6, sa7, sa8, sa9, sa10, sa11]
            with_reducible refine s_end ?_
            with_reducible refine s_then ?_
            with_reducible refine s_seq ?_
            with_reducible refine s_seq ?_
            with_reducible refine s_reg ?_
            refine sfad ?_
            simp only [pu', p0', c1', c0', i1', z0', b8_nat]
            refine sload1 ?_
            simp only [pu', p0', c1', c0', i1', z0', b8_nat]
            refine sLt (fun hb => ?_) (fun hb => ?_)
            replace hb := dT' hb
            simp only [pu', p0', c1', c0', i1', z0', b8_nat]
            refine smove ?_
            simp only [pu', p0', c1', c0', i1', z0', b8_nat]
            refine sN ?_
            simp only [pu', p0', c1', c0', i1', z0', b8_nat]
            refine sN ?_
            simp only [pu', p0', c1', c0', i1', z0', b8_nat]
            refine sN ?_
            simp only [pu', p0', c1', c0', i1', z0', b8_nat]
            refine spickT ?_
            simp only [pu', p0', c1', c0', i1', z0', b8_nat]
            with_reducible refine s_end ?_
            with_reducible refine s_then ?_
            refine sCT ?_
            with_reducible refine s_seq ?_
            with_reducible refine s_reg ?_
            refine sassign ?_
            simp only [pu', p0', c1', c0', i1', z0', b8_nat]
            with_reducible refine s_end ?_
            with_reducible refine s_then ?_
            with_reducible refine s_ret ?_
            with_reducible refine s_thenR ?_
            with_reducible refine s_blkR ?_
            with_reducible refine s_thenR ?_
            with_reducible refine l_ret ?_
            with_reducible refine s_blkR ?_
            with_reducible refine s_thenR ?_
            rotate_left 1
            replace hb := dF' hb
            simp only [pu', p0', c1', c0', i1', z0', b8_nat]
            refine smove ?_
            simp only [pu', p0', c1', c0', i1', z0', b8_nat]
            refine sfad ?_
            simp only [pu', p0', c1', c0', i1', z0', b8_nat]
            refine sload1 ?_
            simp only [pu', p0', c1', c0', i1', z0', b8_nat]
            refine sGe (fun hb => ?_) (fun hb => ?_)
            replace hb := dT' hb
            simp only [pu', p0', c1', c0', i1', z0', b8_nat]
            refine spickF ?_
            simp only [pu', p0', c1', c0', i1', z0', b8_nat]
            with_reducible refine s_end ?_
            with_reducible refine s_then ?_
            refine sCT ?_
            with_reducible refine s_seq ?_
            with_reducible refine s_reg ?_
            refine sassign ?_
            simp only [pu', p0', c1', c0', i1', z0', b8_nat]
            with_reducible refine s_end ?_
            with_reducible refine s_then ?_
            with_reducible refine s_ret ?_
            with_reducible refine s_thenR ?_
            with_reducible refine s_blkR ?_
            with_reducible refine s_thenR ?_
            with_reducible refine l_ret ?_
            with_reducible refine s_blkR ?_
            with_reducible refine s_thenR ?_
            rotate_left 1
            replace hb := dF' hb
            (exfalso; omega)
            replace hb := dF' hb
            (exfalso; omega)
          all_goals
            all_goals try with_reducible refine w_n ?_
            all_goals refine w_1 rfl (by first | exact v_t (by rfl) | exact v_c1 (C1.p) (by rfl) (HA.p) (by rfl) | exact v_cF (CA.p) (by rfl) (HA.p) (by rfl)) ?_
            exact ⟨rfl, Sep.sub inferInstance (by repeat' first | exact List.Sublist.refl _ | exact List.sublist_append_left _ _ | exact List.nil_sublist _ | refine List.Sublist.cons_cons _ ?_ | refine List.Sublist.cons _ ?_ | refine List.Sublist.trans ?_ (List.sublist_append_left _ _))⟩
        · have e1 : cnT t (i + 1) = (cnT t i).set (syA t i).toNat ((cnT t i).getD (syA t i).toNat 0 + 1) := rfl
          have e2 : ((lsT t (i + 1) : Nat) : Int) = if m < syA t i then syA t i else m := by
            rw [hm', lsT]; split <;> split <;> omega
          have hcl1 := hcl i
          have hcb1 := hcb i (syA t i).toNat
          have hsy' : ∀ j, j < i + 1 → 0 ≤ syA t j ∧ syA t j < 256 := fun j hj => by
            by_cases hji : j = i
            · subst hji; omega
            · exact hsy j (by omega)
          simp only [syA] at hbd e1 e2 hcb1
          focus
            with_reducible refine s_seq ?_
            with_reducible refine s_reg ?_
            refine sLt (fun hb => ?_) (fun hb => ?_)
            replace hb := dT' hb
            simp only [pu', p0', c1', c0', i1', z0', b8_nat]
            with_reducible refine s_end ?_
            with_reducible refine s_then ?_
            with_reducible refine s_seq ?_
            refine sCT ?_
            with_reducible refine s_skip ?_
            with_reducible refine s_then ?_
            with_reducible refine s_seq ?_
            with_reducible refine s_block ?_
            with_reducible refine s_seq ?_
            with_reducible refine s_reg ?_
            refine sidxE ?_
            simp only [pu', p0', c1', c0', i1', z0', b8_nat]
            refine sloadE ?_
            simp only [pu', p0', c1', c0', i1', z0', b8_nat]
            refine salloc ?_
            simp only [pu', p0', c1', c0', i1', n0', n3', n1', n2', a2', a1', a0', n4', Nat.reduceAdd, z0', n5', sa0, sa1, sa2, sa3, sa4, sa5, sa6, sa7, sa8, sa9, sa10, sa11]
            refine sstoreF ?_
            simp only [pu', p0', c1', c0', i1', n0', n3', n1', n2', a2', a1', a0', n4', Nat.reduceAdd, z0', n5', sa0, sa1, sa2, sa3, sa4, sa5, sa6, sa7, sa8, sa9, sa10, sa11]
            with_reducible refine s_end ?_
            with_reducible refine s_then ?_
            with_reducible refine s_seq ?_
            with_reducible refine s_seq ?_
            with_reducible refine s_reg ?_
            refine sfad ?_
            simp only [pu', p0', c1', c0', i1', z0', b8_nat]
            refine sload1 ?_
            simp only [pu', p0', c1', c0', i1', z0', b8_nat]
            refine sLt (fun hb => ?_) (fun hb => ?_)
            replace hb := dT' hb
            (exfalso; omega)
            replace hb := dF' hb
            simp only [pu', p0', c1', c0', i1', z0', b8_nat]
            refine smove ?_
            simp only [pu', p0', c1', c0', i1', z0', b8_nat]
            refine sfad ?_
            simp only [pu', p0', c1', c0', i1', z0', b8_nat]
            refine sload1 ?_
            simp only [pu', p0', c1', c0', i1', z0', b8_nat]
            refine sGe (fun hb => ?_) (fun hb => ?_)
            replace hb := dT' hb
            (exfalso; omega)
            replace hb := dF' hb
            simp only [pu', p0', c1', c0', i1', z0', b8_nat]
            refine spickF ?_
            simp only [pu', p0', c1', c0', i1', z0', b8_nat]
            with_reducible refine s_end ?_
            with_reducible refine s_then ?_
            refine sCF ?_
            with_reducible refine s_skip ?_
            with_reducible refine s_then ?_
            with_reducible refine s_seq ?_
            with_reducible refine s_reg ?_
            refine smove ?_
            simp only [pu', p0', c1', c0', i1', z0', b8_nat]
            refine sfad ?_
            simp only [pu', p0', c1', c0', i1', z0', b8_nat]
            refine sload1 ?_
            simp only [pu', p0', c1', c0', i1', z0', b8_nat]
            refine sidxE ?_
            simp only [pu', p0', c1', c0', i1', z0', b8_nat]
            refine sloadE1 ?_
            simp only [pu', p0', c1', c0', i1', z0', b8_nat]
            refine sadd ?_
            simp only [pu', p0', c1', c0', i1', z0', b8_nat]
            refine sidxE ?_
            simp only [pu', p0', c1', c0', i1', z0', b8_nat]
            (refine s_stE (x := (t.getD i ce0).s) 0 ((cnT t i).getD (t.getD i ce0).s.toNat 0 + 1) (0 : Int) (fun Y2 T2 => ?_) inferInstance rfl iok inferInstance (by omega) (by omega) (by rfl) inferInstance; simp only [a1', c1', c0'] at T2; simp only [Fr.put, List.set_cons_succ, List.set_cons_zero, Int.toNat_natCast, Nat.zero_add])
            with_reducible refine s_end ?_
            with_reducible refine s_then ?_
            with_reducible refine s_reg ?_
            refine smove ?_
            simp only [pu', p0', c1', c0', i1', z0', b8_nat]
            refine sfad ?_
            simp only [pu', p0', c1', c0', i1', z0', b8_nat]
            refine sload1 ?_
            simp only [pu', p0', c1', c0', i1', z0', b8_nat]
            refine smax ?_
            simp only [pu', p0', c1', c0', i1', z0', b8_nat]
            refine sassign ?_
            simp only [pu', p0', c1', c0', i1', z0', b8_nat]
            with_reducible refine s_end ?_
            with_reducible refine s_blkN ?_
            with_reducible refine s_then ?_
            with_reducible refine s_reg ?_
            refine sadd ?_
            simp only [pu', p0', c1', c0', i1', z0', b8_nat]
            refine smove ?_
            simp only [pu', p0', c1', c0', i1', z0', b8_nat]
            with_reducible refine s_end ?_
            rotate_left 1
            replace hb := dF' hb
            (exfalso; omega)
          all_goals
            rw [← e1] at T2
            refine l_next ⟨i + 1, _, _⟩ ⟨by simp only []; omega, e2.symm, hsy', Sep.sub T2 (by repeat' first | exact List.Sublist.refl _ | exact List.sublist_append_left _ _ | exact List.nil_sublist _ | refine List.Sublist.cons_cons _ ?_ | refine List.Sublist.cons _ ?_ | refine List.Sublist.trans ?_ (List.sublist_append_left _ _))⟩ (by simp only []; omega) (by rfl) rfl
      · have hnb : ¬ badS t := fun ⟨j, hj, hb⟩ => by have := hsy j (by omega); omega
        rw [if_neg hnb] at hq
        have hit : i = t.length := by omega
        subst hit
        have hlm := hll t.length fun j hj => (hsy j hj).2
        have hcl1 := hcl t.length
        generalize cnT t t.length = ps at *
        generalize lsT t t.length = m0 at *
        subst hm'
        cases hf : fitQ L (ps.take (m0 + 1)) t
        · rw [hf, if_neg (by simp)] at hq
          have c38a := fun Y L' (S : Sep h Y L') z (b : EI Y z (ps.take (m0 + 1))) => c38 Y L' S z _ b (by rw [List.length_take]; omega)
          rw [hf] at c38a
          have hO := S1.own 0 rfl
          with_reducible refine s_seq ?_
          with_reducible refine s_reg ?_
          refine sLt (fun hb => ?_) (fun hb => ?_)
          replace hb := dT' hb
          (exfalso; omega)
          replace hb := dF' hb
          simp only [pu', p0', c1', c0', i1', z0', b8_nat]
          with_reducible refine s_end ?_
          with_reducible refine s_then ?_
          with_reducible refine s_seq ?_
          refine sCF ?_
          with_reducible refine s_exit ?_
          with_reducible refine s_thenE ?_
          with_reducible refine l_exit ?_
          with_reducible refine s_blkE ?_
          with_reducible refine s_then ?_
          with_reducible refine s_seq ?_
          with_reducible refine s_seq ?_
          with_reducible refine s_reg ?_
          refine smove ?_
          simp only [pu', p0', c1', c0', i1', z0', b8_nat]
          refine smove ?_
          simp only [pu', p0', c1', c0', i1', z0', b8_nat]
          refine smove ?_
          simp only [pu', p0', c1', c0', i1', z0', b8_nat]
          refine sadd ?_
          simp only [pu', p0', c1', c0', i1', z0', b8_nat]
          (refine s_sHi (m := m0 + 1) 0 (fun z1 pz1 e1 => ?_) iok inferInstance hO (by omega); simp only [Fr.put, List.set_cons_succ, List.set_cons_zero, Int.toNat_natCast, Nat.zero_add])
          refine smove ?_
          simp only [pu', p0', c1', c0', i1', z0', b8_nat]
          refine sC (hx := rfl) ((c38a _ _ inferInstance z1 inferInstance).mono ?_)
          rintro _ m38 _ ⟨rfl, S2⟩
          simp only [pu', p0', c1', c0', i1', n0', n3', n1', n2', a2', a1', a0', n4', Nat.reduceAdd, z0', n5', sa0, sa1, sa2, sa3, sa4, sa5, sa6, sa7, sa8, sa9, sa10, sa11]
          with_reducible refine s_end ?_
          with_reducible refine s_then ?_
          refine sCF ?_
          with_reducible refine s_skip ?_
          with_reducible refine s_then ?_
          with_reducible refine s_seq ?_
          with_reducible refine s_reg ?_
          refine sassign ?_
          simp only [pu', p0', c1', c0', i1', z0', b8_nat]
          with_reducible refine s_end ?_
          with_reducible refine s_then ?_
          with_reducible refine s_seq ?_
          with_reducible refine s_seq ?_
          with_reducible refine s_reg ?_
          refine smove ?_
          simp only [pu', p0', c1', c0', i1', z0', b8_nat]
          refine slenE ?_
          simp only [pu', p0', c1', c0', i1', z0', b8_nat]
          refine ssub ?_
          simp only [pu', p0', c1', c0', i1', z0', b8_nat]
          refine sassign ?_
          simp only [pu', p0', c1', c0', i1', z0', b8_nat]
          with_reducible refine s_end ?_
          with_reducible refine s_then ?_
          with_reducible refine s_block ?_
          refine s_loop hm (fun (b : DwB) s' => [s, s' 1, s' 2, s' 3, s' 4, I L, zp, I m0, s' 8, s' 9, I b.b, I b.x, s' 12, s' 13, s' 14, s' 15, s' 16, s' 17, s' 18, s' 19, s' 20, s' 21, s' 22, s' 23, s' 24, s' 25, s' 26, s' 27, s' 28, s' 29, s' 30, s' 31, s' 32, s' 33, s' 34, s' 35, s' 36, s' 37, s' 38, s' 39, s' 40, s' 41, s' 42, s' 43, s' 44, s' 45, s' 46, s' 47, s' 48, s' 49, s' 50, s' 51, s' 52, s' 53, s' 54, s' 55, s' 56, s' 57, s' 58, s' 59, s' 60, s' 61, s' 62, s' 63, s' 64, s' 65, s' 66, s' 67, s' 68, s' 69, s' 70, s' 71, s' 72, s' 73, s' 74, s' 75, s' 76, s' 77, s' 78, s' 79, s' 80, s' 81, s' 82, s' 83, s' 84, s' 85, s' 86, s' 87, s' 88, s' 89, s' 90, s' 91, s' 92, s' 93, s' 94, s' 95, s' 96, s' 97, s' 98, s' 99, s' 100, s' 101, s' 102, s' 103, s' 104, s' 105, s' 106, s' 107, s' 108, s' 109, s' 110, s' 111, s' 112, s' 113, s' 114, s' 115]) (fun b => b.G) (fun b => -1 ≤ b.x ∧ b.x < t.length ∧ b.ps.length = 256 ∧ dwn L m0 t (b.x + 1).toNat b.ps b.b = q ∧ Sep h b.G [WI zp b.ps]) (fun b => (b.x + 1).toNat) ⟨(t.length : Int) - 1, ps, -1, _⟩ (by rfl) rfl ⟨by simp only []; omega, by simp only []; omega, hcl1, by simp only []; rw [show ((t.length : Int) - 1 + 1).toNat = t.length by omega]; exact hq.symm, Sep.sub inferInstance (by repeat' first | exact List.Sublist.refl _ | exact List.sublist_append_left _ _ | exact List.nil_sublist _ | refine List.Sublist.cons_cons _ ?_ | refine List.Sublist.cons _ ?_ | refine List.Sublist.trans ?_ (List.sublist_append_left _ _))⟩ ?_
          clear S1 S2
          clear hf hq c38a
          rintro ⟨x, ps2, b2, G2⟩ s' ⟨hx1, hx2, hpl, hdw, S3⟩
          simp only [] at hx1 hx2 hpl hdw S3 ⊢
          by_cases hx : x < 0
          · rw [show (x + 1).toNat = 0 by omega, dwn] at hdw
            subst hdw
            with_reducible refine s_seq ?_
            with_reducible refine s_seq ?_
            with_reducible refine s_reg ?_
            refine smove ?_
            simp only [pu', p0', c1', c0', i1', z0', b8_nat]
            refine sGe (fun hb => ?_) (fun hb => ?_)
            replace hb := dT' hb
            (exfalso; omega)
            replace hb := dF' hb
            simp only [pu', p0', c1', c0', i1', z0', b8_nat]
            with_reducible refine s_end ?_
            with_reducible refine s_then ?_
            refine sCF ?_
            with_reducible refine s_exit ?_
            with_reducible refine s_thenE ?_
            with_reducible refine l_exit ?_
            with_reducible refine s_blkE ?_
            with_reducible refine s_then ?_
            with_reducible refine s_seq ?_
            with_reducible refine s_reg ?_
            refine sassign ?_
            simp only [pu', p0', c1', c0', i1', z0', b8_nat]
            with_reducible refine s_end ?_
            with_reducible refine s_then ?_
            with_reducible refine s_ret ?_
            all_goals
              all_goals try with_reducible refine w_n ?_
              all_goals refine w_1 rfl (by first | exact v_t (by rfl) | exact v_c1 (C1.p) (by rfl) (HA.p) (by rfl) | exact v_cF (CA.p) (by rfl) (HA.p) (by rfl)) ?_
              exact ⟨rfl, Sep.sub inferInstance (by repeat' first | exact List.Sublist.refl _ | exact List.sublist_append_left _ _ | exact List.nil_sublist _ | refine List.Sublist.cons_cons _ ?_ | refine List.Sublist.cons _ ?_ | refine List.Sublist.trans ?_ (List.sublist_append_left _ _))⟩
          · have hxn : (x + 1).toNat = x.toNat + 1 := by omega
            rw [hxn, dwn] at hdw
            have hsx := hsy x.toNat (by omega)
            by_cases hc : ps2.getD (syA t x.toNat).toNat 0 ≠ 1 ∨ syA t x.toNat ≤ b2
            · rw [if_pos hc] at hdw
              subst hdw
              simp only [syA] at hc hsx
              focus
                with_reducible refine s_seq ?_
                with_reducible refine s_seq ?_
                with_reducible refine s_reg ?_
                refine smove ?_
                simp only [pu', p0', c1', c0', i1', z0', b8_nat]
                refine sGe (fun hb => ?_) (fun hb => ?_)
                replace hb := dT' hb
                simp only [pu', p0', c1', c0', i1', z0', b8_nat]
                with_reducible refine s_end ?_
                with_reducible refine s_then ?_
                refine sCT ?_
                with_reducible refine s_skip ?_
                with_reducible refine s_then ?_
                with_reducible refine s_seq ?_
                with_reducible refine s_block ?_
                with_reducible refine s_seq ?_
                with_reducible refine s_reg ?_
                refine smove ?_
                simp only [pu', p0', c1', c0', i1', z0', b8_nat]
                refine smove ?_
                simp only [pu', p0', c1', c0', i1', z0', b8_nat]
                refine sidxE ?_
                simp only [pu', p0', c1', c0', i1', z0', b8_nat]
                refine sfadE ?_
                simp only [pu', p0', c1', c0', i1', z0', b8_nat]
                refine sloadF ?_
                simp only [pu', p0', c1', c0', i1', z0', b8_nat]
                refine sassign ?_
                simp only [pu', p0', c1', c0', i1', z0', b8_nat]
                with_reducible refine s_end ?_
                with_reducible refine s_then ?_
                with_reducible refine s_seq ?_
                with_reducible refine s_seq ?_
                with_reducible refine s_reg ?_
                refine smove ?_
                simp only [pu', p0', c1', c0', i1', z0', b8_nat]
                refine smove ?_
                simp only [pu', p0', c1', c0', i1', z0', b8_nat]
                refine sidxE ?_
                simp only [pu', p0', c1', c0', i1', z0', b8_nat]
                refine sloadE1 ?_
                simp only [pu', p0', c1', c0', i1', z0', b8_nat]
                refine sNe (fun hb => ?_) (fun hb => ?_)
                replace hb := dT' hb
                simp only [pu', p0', c1', c0', i1', z0', b8_nat]
                refine smove ?_
                simp only [pu', p0', c1', c0', i1', z0', b8_nat]
                refine sN ?_
                simp only [pu', p0', c1', c0', i1', z0', b8_nat]
                refine sN ?_
                simp only [pu', p0', c1', c0', i1', z0', b8_nat]
                refine sN ?_
                simp only [pu', p0', c1', c0', i1', z0', b8_nat]
                refine spickT ?_
                simp only [pu', p0', c1', c0', i1', z0', b8_nat]
                with_reducible refine s_end ?_
                with_reducible refine s_then ?_
                refine sCT ?_
                with_reducible refine s_exit ?_
                with_reducible refine s_thenE ?_
                with_reducible refine s_blkX (by decide) ?_
                with_reducible refine s_thenE ?_
                with_reducible refine l_exit ?_
                with_reducible refine s_blkE ?_
                with_reducible refine s_then ?_
                with_reducible refine s_seq ?_
                with_reducible refine s_reg ?_
                refine sassign ?_
                simp only [pu', p0', c1', c0', i1', z0', b8_nat]
                with_reducible refine s_end ?_
                with_reducible refine s_then ?_
                with_reducible refine s_ret ?_
                rotate_left 1
                replace hb := dF' hb
                simp only [pu', p0', c1', c0', i1', z0', b8_nat]
                refine smove ?_
                simp only [pu', p0', c1', c0', i1', z0', b8_nat]
                refine smove ?_
                simp only [pu', p0', c1', c0', i1', z0', b8_nat]
                refine smove ?_
                simp only [pu', p0', c1', c0', i1', z0', b8_nat]
                refine sLe (fun hb => ?_) (fun hb => ?_)
                replace hb := dT' hb
                simp only [pu', p0', c1', c0', i1', z0', b8_nat]
                refine spickF ?_
                simp only [pu', p0', c1', c0', i1', z0', b8_nat]
                with_reducible refine s_end ?_
                with_reducible refine s_then ?_
                refine sCT ?_
                with_reducible refine s_exit ?_
                with_reducible refine s_thenE ?_
                with_reducible refine s_blkX (by decide) ?_
                with_reducible refine s_thenE ?_
                with_reducible refine l_exit ?_
                with_reducible refine s_blkE ?_
                with_reducible refine s_then ?_
                with_reducible refine s_seq ?_
                with_reducible refine s_reg ?_
                refine sassign ?_
                simp only [pu', p0', c1', c0', i1', z0', b8_nat]
                with_reducible refine s_end ?_
                with_reducible refine s_then ?_
                with_reducible refine s_ret ?_
                rotate_left 1
                replace hb := dF' hb
                (exfalso; omega)
                replace hb := dF' hb
                (exfalso; omega)
              all_goals
                all_goals try with_reducible refine w_n ?_
                all_goals refine w_1 rfl (by first | exact v_t (by rfl) | exact v_c1 (C1.p) (by rfl) (HA.p) (by rfl) | exact v_cF (CA.p) (by rfl) (HA.p) (by rfl)) ?_
                exact ⟨rfl, Sep.sub inferInstance (by repeat' first | exact List.Sublist.refl _ | exact List.sublist_append_left _ _ | exact List.nil_sublist _ | refine List.Sublist.cons_cons _ ?_ | refine List.Sublist.cons _ ?_ | refine List.Sublist.trans ?_ (List.sublist_append_left _ _))⟩
            · rw [if_neg hc] at hdw
              simp only [syA] at hc hsx
              have c38b := fun Y L' (S : Sep h Y L') z (b : EI Y z ((ps2.set (t.getD x.toNat ce0).s.toNat (-1)).take (m0 + 1))) => c38 Y L' S z _ b (by rw [List.length_take, List.length_set]; omega)
              have hcl3 : (ps2.set (t.getD x.toNat ce0).s.toNat (-1)).length = 256 := by rw [List.length_set]; exact hpl
              cases hf2 : fitQ L ((ps2.set (t.getD x.toNat ce0).s.toNat (-1)).take (m0 + 1)) t
              · rw [hf2] at c38b
                rw [if_neg (by simp only [syA]; rw [hf2]; simp)] at hdw
                focus
                  with_reducible refine s_seq ?_
                  with_reducible refine s_seq ?_
                  with_reducible refine s_reg ?_
                  refine smove ?_
                  simp only [pu', p0', c1', c0', i1', z0', b8_nat]
                  refine sGe (fun hb => ?_) (fun hb => ?_)
                  replace hb := dT' hb
                  simp only [pu', p0', c1', c0', i1', z0', b8_nat]
                  with_reducible refine s_end ?_
                  with_reducible refine s_then ?_
                  refine sCT ?_
                  with_reducible refine s_skip ?_
                  with_reducible refine s_then ?_
                  with_reducible refine s_seq ?_
                  with_reducible refine s_block ?_
                  with_reducible refine s_seq ?_
                  with_reducible refine s_reg ?_
                  refine smove ?_
                  simp only [pu', p0', c1', c0', i1', z0', b8_nat]
                  refine smove ?_
                  simp only [pu', p0', c1', c0', i1', z0', b8_nat]
                  refine sidxE ?_
                  simp only [pu', p0', c1', c0', i1', z0', b8_nat]
                  refine sfadE ?_
                  simp only [pu', p0', c1', c0', i1', z0', b8_nat]
                  refine sloadF ?_
                  simp only [pu', p0', c1', c0', i1', z0', b8_nat]
                  refine sassign ?_
                  simp only [pu', p0', c1', c0', i1', z0', b8_nat]
                  with_reducible refine s_end ?_
                  with_reducible refine s_then ?_
                  with_reducible refine s_seq ?_
                  with_reducible refine s_seq ?_
                  with_reducible refine s_reg ?_
                  refine smove ?_
                  simp only [pu', p0', c1', c0', i1', z0', b8_nat]
                  refine smove ?_
                  simp only [pu', p0', c1', c0', i1', z0', b8_nat]
                  refine sidxE ?_
                  simp only [pu', p0', c1', c0', i1', z0', b8_nat]
                  refine sloadE1 ?_
                  simp only [pu', p0', c1', c0', i1', z0', b8_nat]
                  refine sNe (fun hb => ?_) (fun hb => ?_)
                  replace hb := dT' hb
                  (exfalso; omega)
                  replace hb := dF' hb
                  simp only [pu', p0', c1', c0', i1', z0', b8_nat]
                  refine smove ?_
                  simp only [pu', p0', c1', c0', i1', z0', b8_nat]
                  refine smove ?_
                  simp only [pu', p0', c1', c0', i1', z0', b8_nat]
                  refine smove ?_
                  simp only [pu', p0', c1', c0', i1', z0', b8_nat]
                  refine sLe (fun hb => ?_) (fun hb => ?_)
                  replace hb := dT' hb
                  (exfalso; omega)
                  replace hb := dF' hb
                  simp only [pu', p0', c1', c0', i1', z0', b8_nat]
                  refine spickF ?_
                  simp only [pu', p0', c1', c0', i1', z0', b8_nat]
                  with_reducible refine s_end ?_
                  with_reducible refine s_then ?_
                  refine sCF ?_
                  with_reducible refine s_skip ?_
                  with_reducible refine s_then ?_
                  with_reducible refine s_seq ?_
                  with_reducible refine s_reg ?_
                  refine smove ?_
                  simp only [pu', p0', c1', c0', i1', z0', b8_nat]
                  refine smove ?_
                  simp only [pu', p0', c1', c0', i1', z0', b8_nat]
                  refine smove ?_
                  simp only [pu', p0', c1', c0', i1', z0', b8_nat]
                  refine sidxE ?_
                  simp only [pu', p0', c1', c0', i1', z0', b8_nat]
                  (refine s_stE (x := (t.getD x.toNat ce0).s) 0 (-1) (0 : Int) (fun Y2 T2 => ?_) inferInstance rfl iok inferInstance (by omega) (by omega) (by rfl) inferInstance; simp only [a1', c1', c0'] at T2; simp only [Fr.put, List.set_cons_succ, List.set_cons_zero, Int.toNat_natCast, Nat.zero_add])
                  refine sassign ?_
                  simp only [pu', p0', c1', c0', i1', z0', b8_nat]
                  with_reducible refine s_end ?_
                  with_reducible refine s_then ?_
                  with_reducible refine s_seq ?_
                  with_reducible refine s_reg ?_
                  refine smove ?_
                  simp only [pu', p0', c1', c0', i1', z0', b8_nat]
                  refine smove ?_
                  simp only [pu', p0', c1', c0', i1', z0', b8_nat]
                  refine smove ?_
                  simp only [pu', p0', c1', c0', i1', z0', b8_nat]
                  refine sadd ?_
                  simp only [pu', p0', c1', c0', i1', z0', b8_nat]
                  (refine s_sHi (m := m0 + 1) 0 (fun z1 pz1 e1 => ?_) iok inferInstance (T2.own 0 rfl) (by omega); simp only [Fr.put, List.set_cons_succ, List.set_cons_zero, Int.toNat_natCast, Nat.zero_add])
                  refine smove ?_
                  simp only [pu', p0', c1', c0', i1', z0', b8_nat]
                  refine sC (hx := rfl) ((c38b _ _ inferInstance z1 inferInstance).mono ?_)
                  rintro _ m38 _ ⟨rfl, S2⟩
                  simp only [pu', p0', c1', c0', i1', n0', n3', n1', n2', a2', a1', a0', n4', Nat.reduceAdd, z0', n5', sa0, sa1, sa2, sa3, sa4, sa5, sa6, sa7, sa8, sa9, sa10, sa11]
                  with_reducible refine s_end ?_
                  with_reducible refine s_then ?_
                  refine sCF ?_
                  with_reducible refine s_skip ?_
                  with_reducible refine s_blkN ?_
                  with_reducible refine s_then ?_
                  with_reducible refine s_reg ?_
                  refine smove ?_
                  simp only [pu', p0', c1', c0', i1', z0', b8_nat]
                  refine ssub ?_
                  simp only [pu', p0', c1', c0', i1', z0', b8_nat]
                  refine sassign ?_
                  simp only [pu', p0', c1', c0', i1', z0', b8_nat]
                  with_reducible refine s_end ?_
                  rotate_left 1
                  replace hb := dF' hb
                  (exfalso; omega)
                all_goals
                  refine l_next ⟨x - 1, ps2.set (t.getD x.toNat ce0).s.toNat (-1), (t.getD x.toNat ce0).s, _⟩ ⟨by simp only []; omega, by simp only []; omega, hcl3, by simp only []; rw [show (x - 1 + 1).toNat = x.toNat by omega]; exact hdw, Sep.sub inferInstance (by repeat' first | exact List.Sublist.refl _ | exact List.sublist_append_left _ _ | exact List.nil_sublist _ | refine List.Sublist.cons_cons _ ?_ | refine List.Sublist.cons _ ?_ | refine List.Sublist.trans ?_ (List.sublist_append_left _ _))⟩ (by simp only []; omega) (by rfl) rfl
              · rw [hf2] at c38b
                rw [if_pos (by simp only [syA]; exact hf2)] at hdw
                subst hdw
                focus
                  with_reducible refine s_seq ?_
                  with_reducible refine s_seq ?_
                  with_reducible refine s_reg ?_
                  refine smove ?_
                  simp only [pu', p0', c1', c0', i1', z0', b8_nat]
                  refine sGe (fun hb => ?_) (fun hb => ?_)
                  replace hb := dT' hb
                  simp only [pu', p0', c1', c0', i1', z0', b8_nat]
                  with_reducible refine s_end ?_
                  with_reducible refine s_then ?_
                  refine sCT ?_
                  with_reducible refine s_skip ?_
                  with_reducible refine s_then ?_
                  with_reducible refine s_seq ?_
                  with_reducible refine s_block ?_
                  with_reducible refine s_seq ?_
                  with_reducible refine s_reg ?_
                  refine smove ?_
                  simp only [pu', p0', c1', c0', i1', z0', b8_nat]
                  refine smove ?_
                  simp only [pu', p0', c1', c0', i1', z0', b8_nat]
                  refine sidxE ?_
                  simp only [pu', p0', c1', c0', i1', z0', b8_nat]
                  refine sfadE ?_
                  simp only [pu', p0', c1', c0', i1', z0', b8_nat]
                  refine sloadF ?_
                  simp only [pu', p0', c1', c0', i1', z0', b8_nat]
                  refine sassign ?_
                  simp only [pu', p0', c1', c0', i1', z0', b8_nat]
                  with_reducible refine s_end ?_
                  with_reducible refine s_then ?_
                  with_reducible refine s_seq ?_
                  with_reducible refine s_seq ?_
                  with_reducible refine s_reg ?_
                  refine smove ?_
                  simp only [pu', p0', c1', c0', i1', z0', b8_nat]
                  refine smove ?_
                  simp only [pu', p0', c1', c0', i1', z0', b8_nat]
                  refine sidxE ?_
                  simp only [pu', p0', c1', c0', i1', z0', b8_nat]
                  refine sloadE1 ?_
                  simp only [pu', p0', c1', c0', i1', z0', b8_nat]
                  refine sNe (fun hb => ?_) (fun hb => ?_)
                  replace hb := dT' hb
                  (exfalso; omega)
                  replace hb := dF' hb
                  simp only [pu', p0', c1', c0', i1', z0', b8_nat]
                  refine smove ?_
                  simp only [pu', p0', c1', c0', i1', z0', b8_nat]
                  refine smove ?_
                  simp only [pu', p0', c1', c0', i1', z0', b8_nat]
                  refine smove ?_
                  simp only [pu', p0', c1', c0', i1', z0', b8_nat]
                  refine sLe (fun hb => ?_) (fun hb => ?_)
                  replace hb := dT' hb
                  (exfalso; omega)
                  replace hb := dF' hb
                  simp only [pu', p0', c1', c0', i1', z0', b8_nat]
                  refine spickF ?_
                  simp only [pu', p0', c1', c0', i1', z0', b8_nat]
                  with_reducible refine s_end ?_
                  with_reducible refine s_then ?_
                  refine sCF ?_
                  with_reducible refine s_skip ?_
                  with_reducible refine s_then ?_
                  with_reducible refine s_seq ?_
                  with_reducible refine s_reg ?_
                  refine smove ?_
                  simp only [pu', p0', c1', c0', i1', z0', b8_nat]
                  refine smove ?_
                  simp only [pu', p0', c1', c0', i1', z0', b8_nat]
                  refine smove ?_
                  simp only [pu', p0', c1', c0', i1', z0', b8_nat]
                  refine sidxE ?_
                  simp only [pu', p0', c1', c0', i1', z0', b8_nat]
                  (refine s_stE (x := (t.getD x.toNat ce0).s) 0 (-1) (0 : Int) (fun Y2 T2 => ?_) inferInstance rfl iok inferInstance (by omega) (by omega) (by rfl) inferInstance; simp only [a1', c1', c0'] at T2; simp only [Fr.put, List.set_cons_succ, List.set_cons_zero, Int.toNat_natCast, Nat.zero_add])
                  refine sassign ?_
                  simp only [pu', p0', c1', c0', i1', z0', b8_nat]
                  with_reducible refine s_end ?_
                  with_reducible refine s_then ?_
                  with_reducible refine s_seq ?_
                  with_reducible refine s_reg ?_
                  refine smove ?_
                  simp only [pu', p0', c1', c0', i1', z0', b8_nat]
                  refine smove ?_
                  simp only [pu', p0', c1', c0', i1', z0', b8_nat]
                  refine smove ?_
                  simp only [pu', p0', c1', c0', i1', z0', b8_nat]
                  refine sadd ?_
                  simp only [pu', p0', c1', c0', i1', z0', b8_nat]
                  (refine s_sHi (m := m0 + 1) 0 (fun z1 pz1 e1 => ?_) iok inferInstance (T2.own 0 rfl) (by omega); simp only [Fr.put, List.set_cons_succ, List.set_cons_zero, Int.toNat_natCast, Nat.zero_add])
                  refine smove ?_
                  simp only [pu', p0', c1', c0', i1', z0', b8_nat]
                  refine sC (hx := rfl) ((c38b _ _ inferInstance z1 inferInstance).mono ?_)
                  rintro _ m38 _ ⟨rfl, S2⟩
                  simp only [pu', p0', c1', c0', i1', n0', n3', n1', n2', a2', a1', a0', n4', Nat.reduceAdd, z0', n5', sa0, sa1, sa2, sa3, sa4, sa5, sa6, sa7, sa8, sa9, sa10, sa11]
                  with_reducible refine s_end ?_
                  with_reducible refine s_then ?_
                  refine sCT ?_
                  with_reducible refine s_seq ?_
                  with_reducible refine s_reg ?_
                  refine sassign ?_
                  simp only [pu', p0', c1', c0', i1', z0', b8_nat]
                  with_reducible refine s_end ?_
                  with_reducible refine s_then ?_
                  with_reducible refine s_ret ?_
                  with_reducible refine s_blkR ?_
                  with_reducible refine s_thenR ?_
                  with_reducible refine l_ret ?_
                  with_reducible refine s_blkR ?_
                  with_reducible refine s_thenR ?_
                  rotate_left 1
                  replace hb := dF' hb
                  (exfalso; omega)
                all_goals
                  all_goals try with_reducible refine w_n ?_
                  all_goals refine w_1 rfl (by first | exact v_t (by rfl) | exact v_c1 (C1.p) (by rfl) (HA.p) (by rfl) | exact v_cF (CA.p) (by rfl) (HA.p) (by rfl)) ?_
                  exact ⟨rfl, Sep.sub inferInstance (by repeat' first | exact List.Sublist.refl _ | exact List.sublist_append_left _ _ | exact List.nil_sublist _ | refine List.Sublist.cons_cons _ ?_ | refine List.Sublist.cons _ ?_ | refine List.Sublist.trans ?_ (List.sublist_append_left _ _))⟩
        · rw [hf, if_pos rfl] at hq
          subst hq
          have c38a := fun Y L' (S : Sep h Y L') z (b : EI Y z (ps.take (m0 + 1))) => c38 Y L' S z _ b (by rw [List.length_take]; omega)
          rw [hf] at c38a
          have hO := S1.own 0 rfl
          with_reducible refine s_seq ?_
          with_reducible refine s_reg ?_
          refine sLt (fun hb => ?_) (fun hb => ?_)
          replace hb := dT' hb
          (exfalso; omega)
          replace hb := dF' hb
          simp only [pu', p0', c1', c0', i1', z0', b8_nat]
          with_reducible refine s_end ?_
          with_reducible refine s_then ?_
          with_reducible refine s_seq ?_
          refine sCF ?_
          with_reducible refine s_exit ?_
          with_reducible refine s_thenE ?_
          with_reducible refine l_exit ?_
          with_reducible refine s_blkE ?_
          with_reducible refine s_then ?_
          with_reducible refine s_seq ?_
          with_reducible refine s_seq ?_
          with_reducible refine s_reg ?_
          refine smove ?_
          simp only [pu', p0', c1', c0', i1', z0', b8_nat]
          refine smove ?_
          simp only [pu', p0', c1', c0', i1', z0', b8_nat]
          refine smove ?_
          simp only [pu', p0', c1', c0', i1', z0', b8_nat]
          refine sadd ?_
          simp only [pu', p0', c1', c0', i1', z0', b8_nat]
          (refine s_sHi (m := m0 + 1) 0 (fun z1 pz1 e1 => ?_) iok inferInstance hO (by omega); simp only [Fr.put, List.set_cons_succ, List.set_cons_zero, Int.toNat_natCast, Nat.zero_add])
          refine smove ?_
          simp only [pu', p0', c1', c0', i1', z0', b8_nat]
          refine sC (hx := rfl) ((c38a _ _ inferInstance z1 inferInstance).mono ?_)
          rintro _ m38 _ ⟨rfl, S2⟩
          simp only [pu', p0', c1', c0', i1', n0', n3', n1', n2', a2', a1', a0', n4', Nat.reduceAdd, z0', n5', sa0, sa1, sa2, sa3, sa4, sa5, sa6, sa7, sa8, sa9, sa10, sa11]
          with_reducible refine s_end ?_
          with_reducible refine s_then ?_
          refine sCT ?_
          with_reducible refine s_seq ?_
          with_reducible refine s_reg ?_
          refine sassign ?_
          simp only [pu', p0', c1', c0', i1', z0', b8_nat]
          with_reducible refine s_end ?_
          with_reducible refine s_then ?_
          with_reducible refine s_ret ?_
          with_reducible refine s_thenR ?_
          all_goals
            all_goals try with_reducible refine w_n ?_
            all_goals refine w_1 rfl (by first | exact v_t (by rfl) | exact v_c1 (C1.p) (by rfl) (HA.p) (by rfl) | exact v_cF (CA.p) (by rfl) (HA.p) (by rfl)) ?_
            exact ⟨rfl, Sep.sub inferInstance (by repeat' first | exact List.Sublist.refl _ | exact List.sublist_append_left _ _ | exact List.nil_sublist _ | refine List.Sublist.cons_cons _ ?_ | refine List.Sublist.cons _ ?_ | refine List.Sublist.trans ?_ (List.sublist_append_left _ _))⟩
end Go.Proofs.Ytgbddbiimffplaa
