/-
  A part of the proof of a statement of a chapter's seat; conditions: stated at each theorem.
-/
import Derived.Test.YtgbddbiimffplaaN16
set_option linter.unusedVariables false
set_option linter.unusedSectionVars false
set_option linter.unusedSimpArgs false
set_option linter.unusedVariables false
set_option maxRecDepth 100000
set_option maxHeartbeats 8000000
namespace Go.Proofs.Ytgbddbiimffplaa
open Go.Az Go
/-! ### The document's Check: as many symbols with -1 as may be -/
def ybl (v : AV) : Option Bool := match v with | .v (.bool b) => some b | _ => none
theorem wG {ops : Array Oper} {f : Fr} {o oj : Oper} {j d : Nat} {w : Bool} {v : AV} (h0 : o.guard = some (j, w)) (h1 : ops[j]? = some oj) (h2 : oj.dst = some d) (h3 : f.t[d]? = some v) (h4 : (ybl v == some w) = false) : wantA ops f o = false := by
  have e : yldA ops f j = ybl v := by
    simp only [yldA, h1, h2, h3, Option.bind_some]
    cases v with
    | v x => cases x <;> rfl
    | _ => rfl
  rw [wantA, h0]
  show (yldA ops f j == some w) = false
  rw [e]; exact h4
def nec (x y : Ce) : Bool := !(eqc x y)
instance (priority := 2000) bnn41 (x y : Ce) : BN Try.prog .neq 41 (.agg (encC x)) (.agg (encC y)) (nec x y) := ⟨ne_41 x y⟩
theorem rsame42 {h : Hp} {s1 s2 : AV} {l1 l2 : List Ce} [a : EC h s1 l1] [b : EC h s2 l2] (hlen : l1.length ≤ 1099511627776) (hlen2 : l2.length ≤ 1099511627776) : ACalls Try.prog 42 [s1, s2] h (fun r h' => r = B (sameC l1 l2) ∧ h' = h) := by
  by_cases hl : l1.length = l2.length
  · refine acalls_of_wk hm Try.func42 rfl ?_
    simp only [Try.ntmps42, List.length_cons, List.length_nil, Nat.reduceAdd, Nat.reduceSub, List.reduceReplicate, List.cons_append, List.nil_append]
    show wk _ _ none _ _ ⟨_, []⟩ _
    with_reducible refine s_seq ?_
    with_reducible refine s_reg ?_
    refine sassign ?_
    simp only [pu', p0', c1', c0', i1', z0', b8_nat]
    with_reducible refine s_end ?_
    with_reducible refine s_then ?_
    with_reducible refine s_seq ?_
    with_reducible refine s_seq ?_
    with_reducible refine s_reg ?_
    refine smove ?_
    simp only [pu', p0', c1', c0', i1', z0', b8_nat]
    refine slenE ?_
    simp only [pu', p0', c1', c0', i1', z0', b8_nat]
    refine smove ?_
    simp only [pu', p0', c1', c0', i1', z0', b8_nat]
    refine slenE ?_
    simp only [pu', p0', c1', c0', i1', z0', b8_nat]
    refine sNe (fun hb => ?_) (fun hb => ?_)
    replace hb := dT' hb
    (exfalso; omega)
    replace hb := dF' hb
    simp only [pu', p0', c1', c0', i1', z0', b8_nat]
    with_reducible refine s_end ?_
    with_reducible refine s_then ?_
    refine sCF ?_
    with_reducible refine s_skip ?_
    with_reducible refine s_then ?_
    with_reducible refine s_seq ?_
    with_reducible refine s_seq ?_
    with_reducible refine s_reg ?_
    refine sassign ?_
    simp only [pu', p0', c1', c0', i1', z0', b8_nat]
    with_reducible refine s_end ?_
    with_reducible refine s_then ?_
    with_reducible refine s_block ?_
    refine s_loop hm (fun (b : Nat) s' => [s1, s2, s' 2, s' 3, s' 4, I b, s' 6, s' 7, s' 8, s' 9, s' 10, s' 11, s' 12, s' 13, s' 14, s' 15, s' 16, s' 17, s' 18, s' 19, s' 20, s' 21, s' 22, s' 23, s' 24, s' 25]) (fun _ => h) (fun b => b ≤ l1.length ∧ ∀ j, j < b → eqc (l1.getD j ce0) (l2.getD j ce0) = true) (fun b => l1.length - b) 0 (by rfl) rfl ⟨Nat.zero_le _, fun j hj => absurd hj (Nat.not_lt_zero _)⟩ ?_
    rintro i s' ⟨hi, hj⟩
    by_cases hil : i < l1.length
    · cases hq : eqc (l1.getD i ce0) (l2.getD i ce0)
      · rw [sameC_f hq]
        have hq' : nec (l1.getD i ce0) (l2.getD i ce0) = true := by rw [nec, hq]; rfl
        focus
          with_reducible refine s_seq ?_
          with_reducible refine s_seq ?_
          with_reducible refine s_reg ?_
          refine smove ?_
          simp only [pu', p0', c1', c0', i1', z0', b8_nat]
          refine smove ?_
          simp only [pu', p0', c1', c0', i1', z0', b8_nat]
          refine slenE ?_
          simp only [pu', p0', c1', c0', i1', z0', b8_nat]
          refine sLt (fun hb => ?_) (fun hb => ?_)
          replace hb := dT' hb
          simp only [pu', p0', c1', c0', i1', z0', b8_nat]
          with_reducible refine s_end ?_
          with_reducible refine s_then ?_
          refine sCT ?_
          with_reducible refine s_skip ?_
          with_reducible refine s_then ?_
          with_reducible refine s_seq ?_
          with_reducible refine s_block ?_
          with_reducible refine s_seq ?_
          (refine s_regQ (id := 6) [(0, true), (1, true), (2, true), (3, true), (4, true), (5, true), (6, true), (7, true), (8, true)] (by kernel_rfl) (by conv => lhs; simp only [pickO, List.getElem?_cons_succ, List.getElem?_cons_zero]) ?_)
          refine qmove ?_
          simp only [pu', p0', c1', c0', i1', z0', b8_nat]
          refine qmove ?_
          simp only [pu', p0', c1', c0', i1', z0', b8_nat]
          refine qidxE ?_
          simp only [pu', p0', c1', c0', i1', z0', b8_nat]
          refine qloadE ?_
          simp only [pu', p0', c1', c0', i1', z0', b8_nat]
          refine qmove ?_
          simp only [pu', p0', c1', c0', i1', z0', b8_nat]
          refine qmove ?_
          simp only [pu', p0', c1', c0', i1', z0', b8_nat]
          refine qidxE ?_
          simp only [pu', p0', c1', c0', i1', z0', b8_nat]
          refine qloadE ?_
          simp only [pu', p0', c1', c0', i1', z0', b8_nat]
          refine qbn (fun hb => ?_) (fun hb => ?_)
          simp only [pu', p0', c1', c0', i1', z0', b8_nat]
          with_reducible refine q_end ?_
          with_reducible refine s_then ?_
          refine sCT ?_
          with_reducible refine s_seq ?_
          with_reducible refine s_reg ?_
          refine sassign ?_
          simp only [pu', p0', c1', c0', i1', z0', b8_nat]
          with_reducible refine s_end ?_
          with_reducible refine s_then ?_
          with_reducible refine s_ret ?_
          with_reducible refine s_blkR ?_
          with_reducible refine s_thenR ?_
          with_reducible refine l_ret ?_
          with_reducible refine s_blkR ?_
          with_reducible refine s_thenR ?_
          rotate_left 1
          exact bX' (by with_reducible assumption) hb
          replace hb := dF' hb
          (exfalso; omega)
        all_goals try with_reducible refine w_n ?_
        all_goals refine w_1 rfl (by first | exact v_t (by rfl) | exact v_c1 (C1.p) (by rfl) (HA.p) (by rfl) | exact v_cF (CA.p) (by rfl) (HA.p) (by rfl)) ?_
        exact ⟨rfl, rfl⟩
      · have hq' : nec (l1.getD i ce0) (l2.getD i ce0) = false := by rw [nec, hq]; rfl
        focus
          with_reducible refine s_seq ?_
          with_reducible refine s_seq ?_
          with_reducible refine s_reg ?_
          refine smove ?_
          simp only [pu', p0', c1', c0', i1', z0', b8_nat]
          refine smove ?_
          simp only [pu', p0', c1', c0', i1', z0', b8_nat]
          refine slenE ?_
          simp only [pu', p0', c1', c0', i1', z0', b8_nat]
          refine sLt (fun hb => ?_) (fun hb => ?_)
          replace hb := dT' hb
          simp only [pu', p0', c1', c0', i1', z0', b8_nat]
          with_reducible refine s_end ?_
          with_reducible refine s_then ?_
          refine sCT ?_
          with_reducible refine s_skip ?_
          with_reducible refine s_then ?_
          with_reducible refine s_seq ?_
          with_reducible refine s_block ?_
          with_reducible refine s_seq ?_
          (refine s_regQ (id := 6) [(0, true), (1, true), (2, true), (3, true), (4, true), (5, true), (6, true), (7, true), (8, true)] (by kernel_rfl) (by conv => lhs; simp only [pickO, List.getElem?_cons_succ, List.getElem?_cons_zero]) ?_)
          refine qmove ?_
          simp only [pu', p0', c1', c0', i1', z0', b8_nat]
          refine qmove ?_
          simp only [pu', p0', c1', c0', i1', z0', b8_nat]
          refine qidxE ?_
          simp only [pu', p0', c1', c0', i1', z0', b8_nat]
          refine qloadE ?_
          simp only [pu', p0', c1', c0', i1', z0', b8_nat]
          refine qmove ?_
          simp only [pu', p0', c1', c0', i1', z0', b8_nat]
          refine qmove ?_
          simp only [pu', p0', c1', c0', i1', z0', b8_nat]
          refine qidxE ?_
          simp only [pu', p0', c1', c0', i1', z0', b8_nat]
          refine qloadE ?_
          simp only [pu', p0', c1', c0', i1', z0', b8_nat]
          refine qbn (fun hb => ?_) (fun hb => ?_)
          exact bX' hb (by with_reducible assumption)
          simp only [pu', p0', c1', c0', i1', z0', b8_nat]
          with_reducible refine q_end ?_
          with_reducible refine s_then ?_
          refine sCF ?_
          with_reducible refine s_skip ?_
          with_reducible refine s_blkN ?_
          with_reducible refine s_then ?_
          with_reducible refine s_reg ?_
          refine smove ?_
          simp only [pu', p0', c1', c0', i1', z0', b8_nat]
          refine sadd ?_
          simp only [pu', p0', c1', c0', i1', z0', b8_nat]
          refine sassign ?_
          simp only [pu', p0', c1', c0', i1', z0', b8_nat]
          with_reducible refine s_end ?_
          rotate_left 1
          replace hb := dF' hb
          (exfalso; omega)
        refine l_next (i + 1) ⟨by omega, fun j hj' => ?_⟩ (by omega) (by rfl) rfl
        by_cases hji : j = i
        · rw [hji]; exact hq
        · exact hj j (by omega)
    · rw [sameC_t hl fun j hj' => hj j (by omega)]
      with_reducible refine s_seq ?_
      with_reducible refine s_seq ?_
      with_reducible refine s_reg ?_
      refine smove ?_
      simp only [pu', p0', c1', c0', i1', z0', b8_nat]
      refine smove ?_
      simp only [pu', p0', c1', c0', i1', z0', b8_nat]
      refine slenE ?_
      simp only [pu', p0', c1', c0', i1', z0', b8_nat]
      refine sLt (fun hb => ?_) (fun hb => ?_)
      replace hb := dT' hb
      (exfalso; omega)
      replace hb := dF' hb
      simp only [pu', p0', c1', c0', i1', z0', b8_nat]
      with_reducible refine s_end ?_
      with_reducible refine s_then ?_
      refine sCF ?_
      with_reducible refine s_exit ?_
      with_reducible refine s_thenE ?_
      with_reducible refine l_exit ?_
      with_reducible refine s_blkE ?_
      with_reducible refine s_then ?_
      with_reducible refine s_seq ?_
      with_reducible refine s_reg ?_
      refine sassign ?_
      simp only [pu', p0', c1', c0', i1', z0', b8_nat]
      with_reducible refine s_end ?_
      with_reducible refine s_then ?_
      with_reducible refine s_ret ?_
      all_goals try with_reducible refine w_n ?_
      all_goals refine w_1 rfl (by first | exact v_t (by rfl) | exact v_c1 (C1.p) (by rfl) (HA.p) (by rfl) | exact v_cF (CA.p) (by rfl) (HA.p) (by rfl)) ?_
      exact ⟨rfl, rfl⟩
  · rw [sameC_ne hl]
    refine acalls_of_wk hm Try.func42 rfl ?_
    simp only [Try.ntmps42, List.length_cons, List.length_nil, Nat.reduceAdd, Nat.reduceSub, List.reduceReplicate, List.cons_append, List.nil_append]
    show wk _ _ none _ _ ⟨_, []⟩ _
    focus
      with_reducible refine s_seq ?_
      with_reducible refine s_reg ?_
      refine sassign ?_
      simp only [pu', p0', c1', c0', i1', z0', b8_nat]
      with_reducible refine s_end ?_
      with_reducible refine s_then ?_
      with_reducible refine s_seq ?_
      with_reducible refine s_seq ?_
      with_reducible refine s_reg ?_
      refine smove ?_
      simp only [pu', p0', c1', c0', i1', z0', b8_nat]
      refine slenE ?_
      simp only [pu', p0', c1', c0', i1', z0', b8_nat]
      refine smove ?_
      simp only [pu', p0', c1', c0', i1', z0', b8_nat]
      refine slenE ?_
      simp only [pu', p0', c1', c0', i1', z0', b8_nat]
      refine sNe (fun hb => ?_) (fun hb => ?_)
      replace hb := dT' hb
      simp only [pu', p0', c1', c0', i1', z0', b8_nat]
      with_reducible refine s_end ?_
      with_reducible refine s_then ?_
      refine sCT ?_
      with_reducible refine s_seq ?_
      with_reducible refine s_reg ?_
      refine sassign ?_
      simp only [pu', p0', c1', c0', i1', z0', b8_nat]
      with_reducible refine s_end ?_
      with_reducible refine s_then ?_
      with_reducible refine s_ret ?_
      with_reducible refine s_thenR ?_
      rotate_left 1
      replace hb := dF' hb
      (exfalso; omega)
    all_goals try with_reducible refine w_n ?_
    all_goals refine w_1 rfl (by first | exact v_t (by rfl) | exact v_c1 (C1.p) (by rfl) (HA.p) (by rfl) | exact v_cF (CA.p) (by rfl) (HA.p) (by rfl)) ?_
    exact ⟨rfl, rfl⟩
def okL (t : List Ce) (ps : List Int) (i : Nat) : Prop := ps.getD (syA t (t.length - 1 - i)).toNat 0 = 1 ∧ (i = 0 ∨ syA t (t.length - i) < syA t (t.length - 1 - i))
structure LowF (t : List Ce) (ps : List Int) (n : Nat) : Prop where
  le : n ≤ t.length
  ok : ∀ i, i < n → okL t ps i
  no : n < t.length → ¬ okL t ps n
theorem low41 {h : Hp} {t : List Ce} {ps : List Int} (s zc : AV) [a : EC h s t] [b : EI h zc ps] (hps : ps.length = 256) (hsy : ∀ i, i < t.length → 0 ≤ syA t i ∧ syA t i < 256) (hlen : t.length ≤ 1099511627776) : ACalls Try.prog 41 [s, zc] h (fun r h' => ∃ n : Nat, r = I n ∧ LowF t ps n ∧ h' = h) := by
  have pss := a.p.sl
  have psc := b.p.sl
  refine acalls_of_wk hm Try.func41 rfl ?_
  simp only [Try.ntmps41, List.length_cons, List.length_nil, Nat.reduceAdd, Nat.reduceSub, List.reduceReplicate, List.cons_append, List.nil_append]
  show wk _ _ none _ _ ⟨_, []⟩ _
  with_reducible refine s_seq ?_
  with_reducible refine s_reg ?_
  refine sassign ?_
  simp only [pu', p0', c1', c0', i1', z0', b8_nat]
  with_reducible refine s_end ?_
  with_reducible refine s_then ?_
  with_reducible refine s_seq ?_
  with_reducible refine s_reg ?_
  refine sassign ?_
  simp only [pu', p0', c1', c0', i1', z0', b8_nat]
  with_reducible refine s_end ?_
  with_reducible refine s_then ?_
  with_reducible refine s_seq ?_
  with_reducible refine s_block ?_
  refine s_loop hm (fun (b : Nat) s' => [s, zc, s' 2, s' 3, s' 4, I b, s' 6, s' 7, s' 8, s' 9, s' 10, s' 11, s' 12, s' 13, s' 14, s' 15, s' 16, s' 17, s' 18, s' 19, s' 20, s' 21, s' 22, s' 23, s' 24, s' 25, s' 26, s' 27, s' 28, s' 29, s' 30, s' 31, s' 32, s' 33, s' 34, s' 35, s' 36, s' 37, s' 38, s' 39, s' 40, s' 41, s' 42, s' 43, s' 44]) (fun _ => h) (fun b => b ≤ t.length ∧ ∀ i, i < b → okL t ps i) (fun b => t.length - b) 0 (by rfl) rfl ⟨Nat.zero_le _, fun j hj => absurd hj (Nat.not_lt_zero _)⟩ ?_
  rintro i s' ⟨hi, hj⟩
  by_cases hil : i < t.length
  · have e1 : ((t.length : Int) - 1 - i).toNat = t.length - 1 - i := by omega
    have hs1 := hsy (t.length - 1 - i) (by omega)
    have hok : okL t ps i ∨ ¬ okL t ps i := Classical.em _
    have hok' := hok
    simp only [okL, syA, ← e1] at hok
    simp only [syA, ← e1] at hs1
    by_cases h0 : i = 0
    · rcases hok with hok | hok
      · have hk : okL t ps i := by simp only [okL, syA, ← e1]; exact hok
        focus
          with_reducible refine s_seq ?_
          with_reducible refine s_seq ?_
          with_reducible refine s_reg ?_
          refine smove ?_
          simp only [pu', p0', c1', c0', i1', z0', b8_nat]
          refine smove ?_
          simp only [pu', p0', c1', c0', i1', z0', b8_nat]
          refine slenE ?_
          simp only [pu', p0', c1', c0', i1', z0', b8_nat]
          refine sLt (fun hb => ?_) (fun hb => ?_)
          replace hb := dT' hb
          simp only [pu', p0', c1', c0', i1', z0', b8_nat]
          with_reducible refine s_end ?_
          with_reducible refine s_then ?_
          refine sCT ?_
          with_reducible refine s_skip ?_
          with_reducible refine s_then ?_
          with_reducible refine s_block ?_
          with_reducible refine s_seq ?_
          with_reducible refine s_reg ?_
          refine smove ?_
          simp only [pu', p0', c1', c0', i1', z0', b8_nat]
          refine smove ?_
          simp only [pu', p0', c1', c0', i1', z0', b8_nat]
          refine slenE ?_
          simp only [pu', p0', c1', c0', i1', z0', b8_nat]
          refine ssub ?_
          simp only [pu', p0', c1', c0', i1', z0', b8_nat]
          refine smove ?_
          simp only [pu', p0', c1', c0', i1', z0', b8_nat]
          refine ssub ?_
          simp only [pu', p0', c1', c0', i1', z0', b8_nat]
          refine sidxE ?_
          simp only [pu', p0', c1', c0', i1', z0', b8_nat]
          refine sfadE ?_
          simp only [pu', p0', c1', c0', i1', z0', b8_nat]
          refine sloadF ?_
          simp only [pu', p0', c1', c0', i1', z0', b8_nat]
          refine sassign ?_
          simp only [pu', p0', c1', c0', i1', z0', b8_nat]
          with_reducible refine s_end ?_
          with_reducible refine s_then ?_
          with_reducible refine s_seq ?_
          with_reducible refine s_seq ?_
          with_reducible refine s_reg ?_
          refine smove ?_
          simp only [pu', p0', c1', c0', i1', z0', b8_nat]
          refine smove ?_
          simp only [pu', p0', c1', c0', i1', z0', b8_nat]
          refine sidxE ?_
          simp only [pu', p0', c1', c0', i1', z0', b8_nat]
          refine sloadE1 ?_
          simp only [pu', p0', c1', c0', i1', z0', b8_nat]
          refine sNe (fun hb => ?_) (fun hb => ?_)
          replace hb := dT' hb
          (exfalso; omega)
          replace hb := dF' hb
          simp only [pu', p0', c1', c0', i1', z0', b8_nat]
          refine smove ?_
          simp only [pu', p0', c1', c0', i1', z0', b8_nat]
          refine smove ?_
          simp only [pu', p0', c1', c0', i1', z0', b8_nat]
          refine sGt (fun hb => ?_) (fun hb => ?_)
          replace hb := dT' hb
          (exfalso; omega)
          replace hb := dF' hb
          simp only [pu', p0', c1', c0', i1', z0', b8_nat]
          refine smove ?_
          simp only [pu', p0', c1', c0', i1', z0', b8_nat]
          (with_reducible refine s_gN ?_ ?_; exact wG rfl rfl rfl rfl rfl)
          simp only [pu', p0', c1', c0', i1', z0', b8_nat]
          (with_reducible refine s_gN ?_ ?_; exact wG rfl rfl rfl rfl rfl)
          simp only [pu', p0', c1', c0', i1', z0', b8_nat]
          (with_reducible refine s_gN ?_ ?_; exact wG rfl rfl rfl rfl rfl)
          simp only [pu', p0', c1', c0', i1', z0', b8_nat]
          (with_reducible refine s_gN ?_ ?_; exact wG rfl rfl rfl rfl rfl)
          simp only [pu', p0', c1', c0', i1', z0', b8_nat]
          (with_reducible refine s_gN ?_ ?_; exact wG rfl rfl rfl rfl rfl)
          simp only [pu', p0', c1', c0', i1', z0', b8_nat]
          (with_reducible refine s_gN ?_ ?_; exact wG rfl rfl rfl rfl rfl)
          simp only [pu', p0', c1', c0', i1', z0', b8_nat]
          (with_reducible refine s_gN ?_ ?_; exact wG rfl rfl rfl rfl rfl)
          simp only [pu', p0', c1', c0', i1', z0', b8_nat]
          (with_reducible refine s_gN ?_ ?_; exact wG rfl rfl rfl rfl rfl)
          simp only [pu', p0', c1', c0', i1', z0', b8_nat]
          (with_reducible refine s_gN ?_ ?_; exact wG rfl rfl rfl rfl rfl)
          simp only [pu', p0', c1', c0', i1', z0', b8_nat]
          (with_reducible refine s_gN ?_ ?_; exact wG rfl rfl rfl rfl rfl)
          simp only [pu', p0', c1', c0', i1', z0', b8_nat]
          refine spickF ?_
          simp only [pu', p0', c1', c0', i1', z0', b8_nat]
          refine spickF ?_
          simp only [pu', p0', c1', c0', i1', z0', b8_nat]
          with_reducible refine s_end ?_
          with_reducible refine s_then ?_
          refine sCF ?_
          with_reducible refine s_skip ?_
          with_reducible refine s_then ?_
          with_reducible refine s_reg ?_
          refine smove ?_
          simp only [pu', p0', c1', c0', i1', z0', b8_nat]
          refine sadd ?_
          simp only [pu', p0', c1', c0', i1', z0', b8_nat]
          refine sassign ?_
          simp only [pu', p0', c1', c0', i1', z0', b8_nat]
          with_reducible refine s_end ?_
          with_reducible refine s_blkN ?_
          rotate_left 1
          replace hb := dF' hb
          (exfalso; omega)
        all_goals
          refine l_next (i + 1) ⟨by omega, fun j hj' => ?_⟩ (by omega) (by rfl) rfl
          by_cases hji : j = i
          · rw [hji]; exact hk
          · exact hj j (by omega)
      · have hk : ¬ okL t ps i := by simp only [okL, syA, ← e1]; exact hok
        focus
          with_reducible refine s_seq ?_
          with_reducible refine s_seq ?_
          with_reducible refine s_reg ?_
          refine smove ?_
          simp only [pu', p0', c1', c0', i1', z0', b8_nat]
          refine smove ?_
          simp only [pu', p0', c1', c0', i1', z0', b8_nat]
          refine slenE ?_
          simp only [pu', p0', c1', c0', i1', z0', b8_nat]
          refine sLt (fun hb => ?_) (fun hb => ?_)
          replace hb := dT' hb
          simp only [pu', p0', c1', c0', i1', z0', b8_nat]
          with_reducible refine s_end ?_
          with_reducible refine s_then ?_
          refine sCT ?_
          with_reducible refine s_skip ?_
          with_reducible refine s_then ?_
          with_reducible refine s_block ?_
          with_reducible refine s_seq ?_
          with_reducible refine s_reg ?_
          refine smove ?_
          simp only [pu', p0', c1', c0', i1', z0', b8_nat]
          refine smove ?_
          simp only [pu', p0', c1', c0', i1', z0', b8_nat]
          refine slenE ?_
          simp only [pu', p0', c1', c0', i1', z0', b8_nat]
          refine ssub ?_
          simp only [pu', p0', c1', c0', i1', z0', b8_nat]
          refine smove ?_
          simp only [pu', p0', c1', c0', i1', z0', b8_nat]
          refine ssub ?_
          simp only [pu', p0', c1', c0', i1', z0', b8_nat]
          refine sidxE ?_
          simp only [pu', p0', c1', c0', i1', z0', b8_nat]
          refine sfadE ?_
          simp only [pu', p0', c1', c0', i1', z0', b8_nat]
          refine sloadF ?_
          simp only [pu', p0', c1', c0', i1', z0', b8_nat]
          refine sassign ?_
          simp only [pu', p0', c1', c0', i1', z0', b8_nat]
          with_reducible refine s_end ?_
          with_reducible refine s_then ?_
          with_reducible refine s_seq ?_
          with_reducible refine s_seq ?_
          with_reducible refine s_reg ?_
          refine smove ?_
          simp only [pu', p0', c1', c0', i1', z0', b8_nat]
          refine smove ?_
          simp only [pu', p0', c1', c0', i1', z0', b8_nat]
          refine sidxE ?_
          simp only [pu', p0', c1', c0', i1', z0', b8_nat]
          refine sloadE1 ?_
          simp only [pu', p0', c1', c0', i1', z0', b8_nat]
          refine sNe (fun hb => ?_) (fun hb => ?_)
          replace hb := dT' hb
          simp only [pu', p0', c1', c0', i1', z0', b8_nat]
          refine smove ?_
          simp only [pu', p0', c1', c0', i1', z0', b8_nat]
          (with_reducible refine s_gN ?_ ?_; exact wG rfl rfl rfl rfl rfl)
          simp only [pu', p0', c1', c0', i1', z0', b8_nat]
          (with_reducible refine s_gN ?_ ?_; exact wG rfl rfl rfl rfl rfl)
          simp only [pu', p0', c1', c0', i1', z0', b8_nat]
          (with_reducible refine s_gN ?_ ?_; exact wG rfl rfl rfl rfl rfl)
          simp only [pu', p0', c1', c0', i1', z0', b8_nat]
          (with_reducible refine s_gN ?_ ?_; exact wG rfl rfl rfl rfl rfl)
          simp only [pu', p0', c1', c0', i1', z0', b8_nat]
          (with_reducible refine s_gN ?_ ?_; exact wG rfl rfl rfl rfl rfl)
          simp only [pu', p0', c1', c0', i1', z0', b8_nat]
          (with_reducible refine s_gN ?_ ?_; exact wG rfl rfl rfl rfl rfl)
          simp only [pu', p0', c1', c0', i1', z0', b8_nat]
          (with_reducible refine s_gN ?_ ?_; exact wG rfl rfl rfl rfl rfl)
          simp only [pu', p0', c1', c0', i1', z0', b8_nat]
          (with_reducible refine s_gN ?_ ?_; exact wG rfl rfl rfl rfl rfl)
          simp only [pu', p0', c1', c0', i1', z0', b8_nat]
          (with_reducible refine s_gN ?_ ?_; exact wG rfl rfl rfl rfl rfl)
          simp only [pu', p0', c1', c0', i1', z0', b8_nat]
          (with_reducible refine s_gN ?_ ?_; exact wG rfl rfl rfl rfl rfl)
          simp only [pu', p0', c1', c0', i1', z0', b8_nat]
          (with_reducible refine s_gN ?_ ?_; exact wG rfl rfl rfl rfl rfl)
          simp only [pu', p0', c1', c0', i1', z0', b8_nat]
          (with_reducible refine s_gN ?_ ?_; exact wG rfl rfl rfl rfl rfl)
          simp only [pu', p0', c1', c0', i1', z0', b8_nat]
          (with_reducible refine s_gN ?_ ?_; exact wG rfl rfl rfl rfl rfl)
          simp only [pu', p0', c1', c0', i1', z0', b8_nat]
          (with_reducible refine s_gN ?_ ?_; exact wG rfl rfl rfl rfl rfl)
          simp only [pu', p0', c1', c0', i1', z0', b8_nat]
          refine spickT ?_
          simp only [pu', p0', c1', c0', i1', z0', b8_nat]
          with_reducible refine s_end ?_
          with_reducible refine s_then ?_
          refine sCT ?_
          with_reducible refine s_seq ?_
          with_reducible refine s_reg ?_
          refine smove ?_
          simp only [pu', p0', c1', c0', i1', z0', b8_nat]
          refine sassign ?_
          simp only [pu', p0', c1', c0', i1', z0', b8_nat]
          with_reducible refine s_end ?_
          with_reducible refine s_then ?_
          with_reducible refine s_ret ?_
          with_reducible refine s_thenR ?_
          with_reducible refine s_blkR ?_
          with_reducible refine l_ret ?_
          with_reducible refine s_blkR ?_
          with_reducible refine s_thenR ?_
          rotate_left 1
          replace hb := dF' hb
          (exfalso; omega)
          replace hb := dF' hb
          (exfalso; omega)
        all_goals
          all_goals try with_reducible refine w_n ?_
          all_goals refine w_1 rfl (by first | exact v_t (by rfl) | exact v_c1 (C1.p) (by rfl) (HA.p) (by rfl) | exact v_cF (CA.p) (by rfl) (HA.p) (by rfl)) ?_
          exact ⟨i, rfl, ⟨hi, hj, fun _ => hk⟩, rfl⟩
    · have e2 : ((t.length : Int) - i).toNat = t.length - i := by omega
      rcases hok with hok | hok
      · have hk : okL t ps i := by simp only [okL, syA, ← e1]; exact hok
        rw [← e2] at hok
        focus
          with_reducible refine s_seq ?_
          with_reducible refine s_seq ?_
          with_reducible refine s_reg ?_
          refine smove ?_
          simp only [pu', p0', c1', c0', i1', z0', b8_nat]
          refine smove ?_
          simp only [pu', p0', c1', c0', i1', z0', b8_nat]
          refine slenE ?_
          simp only [pu', p0', c1', c0', i1', z0', b8_nat]
          refine sLt (fun hb => ?_) (fun hb => ?_)
          replace hb := dT' hb
          simp only [pu', p0', c1', c0', i1', z0', b8_nat]
          with_reducible refine s_end ?_
          with_reducible refine s_then ?_
          refine sCT ?_
          with_reducible refine s_skip ?_
          with_reducible refine s_then ?_
          with_reducible refine s_block ?_
          with_reducible refine s_seq ?_
          with_reducible refine s_reg ?_
          refine smove ?_
          simp only [pu', p0', c1', c0', i1', z0', b8_nat]
          refine smove ?_
          simp only [pu', p0', c1', c0', i1', z0', b8_nat]
          refine slenE ?_
          simp only [pu', p0', c1', c0', i1', z0', b8_nat]
          refine ssub ?_
          simp only [pu', p0', c1', c0', i1', z0', b8_nat]
          refine smove ?_
          simp only [pu', p0', c1', c0', i1', z0', b8_nat]
          refine ssub ?_
          simp only [pu', p0', c1', c0', i1', z0', b8_nat]
          refine sidxE ?_
          simp only [pu', p0', c1', c0', i1', z0', b8_nat]
          refine sfadE ?_
          simp only [pu', p0', c1', c0', i1', z0', b8_nat]
          refine sloadF ?_
          simp only [pu', p0', c1', c0', i1', z0', b8_nat]
          refine sassign ?_
          simp only [pu', p0', c1', c0', i1', z0', b8_nat]
          with_reducible refine s_end ?_
          with_reducible refine s_then ?_
          with_reducible refine s_seq ?_
          with_reducible refine s_seq ?_
          with_reducible refine s_reg ?_
          refine smove ?_
          simp only [pu', p0', c1', c0', i1', z0', b8_nat]
          refine smove ?_
          simp only [pu', p0', c1', c0', i1', z0', b8_nat]
          refine sidxE ?_
          simp only [pu', p0', c1', c0', i1', z0', b8_nat]
          refine sloadE1 ?_
          simp only [pu', p0', c1', c0', i1', z0', b8_nat]
          refine sNe (fun hb => ?_) (fun hb => ?_)
          replace hb := dT' hb
          (exfalso; omega)
          replace hb := dF' hb
          simp only [pu', p0', c1', c0', i1', z0', b8_nat]
          refine smove ?_
          simp only [pu', p0', c1', c0', i1', z0', b8_nat]
          refine smove ?_
          simp only [pu', p0', c1', c0', i1', z0', b8_nat]
          refine sGt (fun hb => ?_) (fun hb => ?_)
          replace hb := dT' hb
          simp only [pu', p0', c1', c0', i1', z0', b8_nat]
          refine smove ?_
          simp only [pu', p0', c1', c0', i1', z0', b8_nat]
          refine smove ?_
          simp only [pu', p0', c1', c0', i1', z0', b8_nat]
          refine smove ?_
          simp only [pu', p0', c1', c0', i1', z0', b8_nat]
          refine smove ?_
          simp only [pu', p0', c1', c0', i1', z0', b8_nat]
          refine slenE ?_
          simp only [pu', p0', c1', c0', i1', z0', b8_nat]
          refine smove ?_
          simp only [pu', p0', c1', c0', i1', z0', b8_nat]
          refine ssub ?_
          simp only [pu', p0', c1', c0', i1', z0', b8_nat]
          refine sidxE ?_
          simp only [pu', p0', c1', c0', i1', z0', b8_nat]
          refine sfadE ?_
          simp only [pu', p0', c1', c0', i1', z0', b8_nat]
          refine sloadF ?_
          simp only [pu', p0', c1', c0', i1', z0', b8_nat]
          refine sLe (fun hb => ?_) (fun hb => ?_)
          replace hb := dT' hb
          (exfalso; omega)
          replace hb := dF' hb
          simp only [pu', p0', c1', c0', i1', z0', b8_nat]
          refine spickT ?_
          simp only [pu', p0', c1', c0', i1', z0', b8_nat]
          refine spickF ?_
          simp only [pu', p0', c1', c0', i1', z0', b8_nat]
          with_reducible refine s_end ?_
          with_reducible refine s_then ?_
          refine sCF ?_
          with_reducible refine s_skip ?_
          with_reducible refine s_then ?_
          with_reducible refine s_reg ?_
          refine smove ?_
          simp only [pu', p0', c1', c0', i1', z0', b8_nat]
          refine sadd ?_
          simp only [pu', p0', c1', c0', i1', z0', b8_nat]
          refine sassign ?_
          simp only [pu', p0', c1', c0', i1', z0', b8_nat]
          with_reducible refine s_end ?_
          with_reducible refine s_blkN ?_
          rotate_left 1
          replace hb := dF' hb
          (exfalso; omega)
          replace hb := dF' hb
          (exfalso; omega)
        all_goals
          refine l_next (i + 1) ⟨by omega, fun j hj' => ?_⟩ (by omega) (by rfl) rfl
          by_cases hji : j = i
          · rw [hji]; exact hk
          · exact hj j (by omega)
      · have hk : ¬ okL t ps i := by simp only [okL, syA, ← e1]; exact hok
        rw [← e2] at hok
        focus
          with_reducible refine s_seq ?_
          with_reducible refine s_seq ?_
          with_reducible refine s_reg ?_
          refine smove ?_
          simp only [pu', p0', c1', c0', i1', z0', b8_nat]
          refine smove ?_
          simp only [pu', p0', c1', c0', i1', z0', b8_nat]
          refine slenE ?_
          simp only [pu', p0', c1', c0', i1', z0', b8_nat]
          refine sLt (fun hb => ?_) (fun hb => ?_)
          replace hb := dT' hb
          simp only [pu', p0', c1', c0', i1', z0', b8_nat]
          with_reducible refine s_end ?_
          with_reducible refine s_then ?_
          refine sCT ?_
          with_reducible refine s_skip ?_
          with_reducible refine s_then ?_
          with_reducible refine s_block ?_
          with_reducible refine s_seq ?_
          with_reducible refine s_reg ?_
          refine smove ?_
          simp only [pu', p0', c1', c0', i1', z0', b8_nat]
          refine smove ?_
          simp only [pu', p0', c1', c0', i1', z0', b8_nat]
          refine slenE ?_
          simp only [pu', p0', c1', c0', i1', z0', b8_nat]
          refine ssub ?_
          simp only [pu', p0', c1', c0', i1', z0', b8_nat]
          refine smove ?_
          simp only [pu', p0', c1', c0', i1', z0', b8_nat]
          refine ssub ?_
          simp only [pu', p0', c1', c0', i1', z0', b8_nat]
          refine sidxE ?_
          simp only [pu', p0', c1', c0', i1', z0', b8_nat]
          refine sfadE ?_
          simp only [pu', p0', c1', c0', i1', z0', b8_nat]
          refine sloadF ?_
          simp only [pu', p0', c1', c0', i1', z0', b8_nat]
          refine sassign ?_
          simp only [pu', p0', c1', c0', i1', z0', b8_nat]
          with_reducible refine s_end ?_
          with_reducible refine s_then ?_
          with_reducible refine s_seq ?_
          with_reducible refine s_seq ?_
          with_reducible refine s_reg ?_
          refine smove ?_
          simp only [pu', p0', c1', c0', i1', z0', b8_nat]
          refine smove ?_
          simp only [pu', p0', c1', c0', i1', z0', b8_nat]
          refine sidxE ?_
          simp only [pu', p0', c1', c0', i1', z0', b8_nat]
          refine sloadE1 ?_
          simp only [pu', p0', c1', c0', i1', z0', b8_nat]
          refine sNe (fun hb => ?_) (fun hb => ?_)
          replace hb := dT' hb
          simp only [pu', p0', c1', c0', i1', z0', b8_nat]
          refine smove ?_
          simp only [pu', p0', c1', c0', i1', z0', b8_nat]
          (with_reducible refine s_gN ?_ ?_; exact wG rfl rfl rfl rfl rfl)
          simp only [pu', p0', c1', c0', i1', z0', b8_nat]
          (with_reducible refine s_gN ?_ ?_; exact wG rfl rfl rfl rfl rfl)
          simp only [pu', p0', c1', c0', i1', z0', b8_nat]
          (with_reducible refine s_gN ?_ ?_; exact wG rfl rfl rfl rfl rfl)
          simp only [pu', p0', c1', c0', i1', z0', b8_nat]
          (with_reducible refine s_gN ?_ ?_; exact wG rfl rfl rfl rfl rfl)
          simp only [pu', p0', c1', c0', i1', z0', b8_nat]
          (with_reducible refine s_gN ?_ ?_; exact wG rfl rfl rfl rfl rfl)
          simp only [pu', p0', c1', c0', i1', z0', b8_nat]
          (with_reducible refine s_gN ?_ ?_; exact wG rfl rfl rfl rfl rfl)
          simp only [pu', p0', c1', c0', i1', z0', b8_nat]
          (with_reducible refine s_gN ?_ ?_; exact wG rfl rfl rfl rfl rfl)
          simp only [pu', p0', c1', c0', i1', z0', b8_nat]
          (with_reducible refine s_gN ?_ ?_; exact wG rfl rfl rfl rfl rfl)
          simp only [pu', p0', c1', c0', i1', z0', b8_nat]
          (with_reducible refine s_gN ?_ ?_; exact wG rfl rfl rfl rfl rfl)
          simp only [pu', p0', c1', c0', i1', z0', b8_nat]
          (with_reducible refine s_gN ?_ ?_; exact wG rfl rfl rfl rfl rfl)
          simp only [pu', p0', c1', c0', i1', z0', b8_nat]
          (with_reducible refine s_gN ?_ ?_; exact wG rfl rfl rfl rfl rfl)
          simp only [pu', p0', c1', c0', i1', z0', b8_nat]
          (with_reducible refine s_gN ?_ ?_; exact wG rfl rfl rfl rfl rfl)
          simp only [pu', p0', c1', c0', i1', z0', b8_nat]
          (with_reducible refine s_gN ?_ ?_; exact wG rfl rfl rfl rfl rfl)
          simp only [pu', p0', c1', c0', i1', z0', b8_nat]
          (with_reducible refine s_gN ?_ ?_; exact wG rfl rfl rfl rfl rfl)
          simp only [pu', p0', c1', c0', i1', z0', b8_nat]
          refine spickT ?_
          simp only [pu', p0', c1', c0', i1', z0', b8_nat]
          with_reducible refine s_end ?_
          with_reducible refine s_then ?_
          refine sCT ?_
          with_reducible refine s_seq ?_
          with_reducible refine s_reg ?_
          refine smove ?_
          simp only [pu', p0', c1', c0', i1', z0', b8_nat]
          refine sassign ?_
          simp only [pu', p0', c1', c0', i1', z0', b8_nat]
          with_reducible refine s_end ?_
          with_reducible refine s_then ?_
          with_reducible refine s_ret ?_
          with_reducible refine s_thenR ?_
          with_reducible refine s_blkR ?_
          with_reducible refine l_ret ?_
          with_reducible refine s_blkR ?_
          with_reducible refine s_thenR ?_
          rotate_left 1
          replace hb := dF' hb
          simp only [pu', p0', c1', c0', i1', z0', b8_nat]
          refine smove ?_
          simp only [pu', p0', c1', c0', i1', z0', b8_nat]
          refine smove ?_
          simp only [pu', p0', c1', c0', i1', z0', b8_nat]
          refine sGt (fun hb => ?_) (fun hb => ?_)
          replace hb := dT' hb
          simp only [pu', p0', c1', c0', i1', z0', b8_nat]
          refine smove ?_
          simp only [pu', p0', c1', c0', i1', z0', b8_nat]
          refine smove ?_
          simp only [pu', p0', c1', c0', i1', z0', b8_nat]
          refine smove ?_
          simp only [pu', p0', c1', c0', i1', z0', b8_nat]
          refine smove ?_
          simp only [pu', p0', c1', c0', i1', z0', b8_nat]
          refine slenE ?_
          simp only [pu', p0', c1', c0', i1', z0', b8_nat]
          refine smove ?_
          simp only [pu', p0', c1', c0', i1', z0', b8_nat]
          refine ssub ?_
          simp only [pu', p0', c1', c0', i1', z0', b8_nat]
          refine sidxE ?_
          simp only [pu', p0', c1', c0', i1', z0', b8_nat]
          refine sfadE ?_
          simp only [pu', p0', c1', c0', i1', z0', b8_nat]
          refine sloadF ?_
          simp only [pu', p0', c1', c0', i1', z0', b8_nat]
          refine sLe (fun hb => ?_) (fun hb => ?_)
          replace hb := dT' hb
          simp only [pu', p0', c1', c0', i1', z0', b8_nat]
          refine spickT ?_
          simp only [pu', p0', c1', c0', i1', z0', b8_nat]
          refine spickF ?_
          simp only [pu', p0', c1', c0', i1', z0', b8_nat]
          with_reducible refine s_end ?_
          with_reducible refine s_then ?_
          refine sCT ?_
          with_reducible refine s_seq ?_
          with_reducible refine s_reg ?_
          refine smove ?_
          simp only [pu', p0', c1', c0', i1', z0', b8_nat]
          refine sassign ?_
          simp only [pu', p0', c1', c0', i1', z0', b8_nat]
          with_reducible refine s_end ?_
          with_reducible refine s_then ?_
          with_reducible refine s_ret ?_
          with_reducible refine s_thenR ?_
          with_reducible refine s_blkR ?_
          with_reducible refine l_ret ?_
          with_reducible refine s_blkR ?_
          with_reducible refine s_thenR ?_
          rotate_left 1
          replace hb := dF' hb
          (exfalso; omega)
          replace hb := dF' hb
          (exfalso; omega)
          replace hb := dF' hb
          (exfalso; omega)
        all_goals
          all_goals try with_reducible refine w_n ?_
          all_goals refine w_1 rfl (by first | exact v_t (by rfl) | exact v_c1 (C1.p) (by rfl) (HA.p) (by rfl) | exact v_cF (CA.p) (by rfl) (HA.p) (by rfl)) ?_
          exact ⟨i, rfl, ⟨hi, hj, fun _ => hk⟩, rfl⟩
  · have hii : i = t.length := by omega
    with_reducible refine s_seq ?_
    with_reducible refine s_seq ?_
    with_reducible refine s_reg ?_
    refine smove ?_
    simp only [pu', p0', c1', c0', i1', z0', b8_nat]
    refine smove ?_
    simp only [pu', p0', c1', c0', i1', z0', b8_nat]
    refine slenE ?_
    simp only [pu', p0', c1', c0', i1', z0', b8_nat]
    refine sLt (fun hb => ?_) (fun hb => ?_)
    replace hb := dT' hb
    (exfalso; omega)
    replace hb := dF' hb
    simp only [pu', p0', c1', c0', i1', z0', b8_nat]
    with_reducible refine s_end ?_
    with_reducible refine s_then ?_
    refine sCF ?_
    with_reducible refine s_exit ?_
    with_reducible refine s_thenE ?_
    with_reducible refine l_exit ?_
    with_reducible refine s_blkE ?_
    with_reducible refine s_then ?_
    with_reducible refine s_seq ?_
    with_reducible refine s_reg ?_
    refine smove ?_
    simp only [pu', p0', c1', c0', i1', z0', b8_nat]
    refine sassign ?_
    simp only [pu', p0', c1', c0', i1', z0', b8_nat]
    with_reducible refine s_end ?_
    with_reducible refine s_then ?_
    with_reducible refine s_ret ?_
    all_goals
      all_goals try with_reducible refine w_n ?_
      all_goals refine w_1 rfl (by first | exact v_t (by rfl) | exact v_c1 (C1.p) (by rfl) (HA.p) (by rfl) | exact v_cF (CA.p) (by rfl) (HA.p) (by rfl)) ?_
      exact ⟨i, rfl, ⟨hi, hj, fun hh => absurd hh (by omega)⟩, rfl⟩
end Go.Proofs.Ytgbddbiimffplaa
