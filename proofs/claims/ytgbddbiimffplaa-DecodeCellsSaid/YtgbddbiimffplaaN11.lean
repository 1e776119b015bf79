/-
  A part of the proof of a statement of a chapter's seat; conditions: stated at each theorem.
-/
import Derived.Test.YtgbddbiimffplaaN10
set_option linter.unusedVariables false
set_option linter.unusedSectionVars false
set_option linter.unusedSimpArgs false
set_option linter.unusedVariables false
set_option maxRecDepth 100000
set_option maxHeartbeats 8000000
namespace Go.Proofs.Ytgbddbiimffplaa
open Go.Az Go
/-! ### Tables compared; a table that is that of a distribution -/
def eqc (x y : Ce) : Bool := x.s == y.s && (x.b == y.b && (x.x == y.x && true))
theorem eqc_iff {x y : Ce} : eqc x y = true ↔ x = y := by
  cases x; cases y; simp [eqc]
def sameC (a b : List Ce) : Bool := decide (a.length = b.length) && (List.range a.length).all fun i => eqc (a.getD i ce0) (b.getD i ce0)
theorem sameC_iff {a b : List Ce} : sameC a b = true ↔ a = b := by
  constructor
  · intro h
    simp only [sameC, Bool.and_eq_true, decide_eq_true_eq, List.all_eq_true, List.mem_range] at h
    refine List.ext_getElem h.1 fun i h1 h2 => ?_
    have := eqc_iff.1 (h.2 i h1)
    rw [List.getD_eq_getElem?_getD, List.getElem?_eq_getElem h1, List.getD_eq_getElem?_getD, List.getElem?_eq_getElem h2] at this
    exact this
  · rintro rfl
    simp [sameC, eqc_iff.2 rfl]
theorem sameC_ne {a b : List Ce} (h : a.length ≠ b.length) : sameC a b = false := by
  cases hs : sameC a b
  · rfl
  · exact absurd (congrArg List.length (sameC_iff.1 hs)) h
theorem sameC_f {a b : List Ce} {i : Nat} (h : eqc (a.getD i ce0) (b.getD i ce0) = false) : sameC a b = false := by
  cases hs : sameC a b
  · rfl
  · rw [sameC_iff.1 hs, eqc_iff.2 rfl] at h; cases h
theorem sameC_t {a b : List Ce} (hl : a.length = b.length) (h : ∀ j, j < a.length → eqc (a.getD j ce0) (b.getD j ce0) = true) : sameC a b = true := by
  simp only [sameC, Bool.and_eq_true, decide_eq_true_eq, List.all_eq_true, List.mem_range]
  exact ⟨hl, h⟩
instance (priority := 2000) bn41 (x y : Ce) : BN Try.prog .eql 41 (.agg (encC x)) (.agg (encC y)) (eqc x y) := ⟨eq_41 x y⟩
theorem same37 {h : Hp} {s1 s2 : AV} {l1 l2 : List Ce} [a : EC h s1 l1] [b : EC h s2 l2] (hlen : l1.length ≤ 1099511627776) (hlen2 : l2.length ≤ 1099511627776) : ACalls Try.prog 37 [s1, s2] h (fun r h' => r = B (sameC l1 l2) ∧ h' = h) := by
  by_cases hl : l1.length = l2.length
  · refine acalls_of_wk hm Try.func37 rfl ?_
    simp only [Try.ntmps37, List.length_cons, List.length_nil, Nat.reduceAdd, Nat.reduceSub, List.reduceReplicate, List.cons_append, List.nil_append]
    show wk _ _ none _ _ ⟨_, []⟩ _
    with_reducible refine s_seq ?_
    with_reducible refine s_reg ?_
    refine sassign ?_
    simp only [pu', p0', c1', c0', i1', z0', b8_nat]
    with_reducible refine s_end ?_
    with_reducible refine s_then ?_
    with_reducible refine s_scope hm ?_
    with_reducible refine s_seq ?_
    with_reducible refine s_seq ?_
    with_reducible refine s_reg ?_
    refine smove ?_
    simp only [pu', p0', c1', c0', i1', z0', b8_nat]
    refine slenE ?_
    simp only [pu', p0', c1', c0', i1', z0', b8_nat]
    refine smove ?_
    simp only [pu', p0', c1', c0', i1', z0', b8_nat]
    refine slenE ?_
    simp only [pu', p0', c1', c0', i1', z0', b8_nat]
    refine sNe (fun hb => ?_) (fun hb => ?_)
    replace hb := dT' hb
    (exfalso; omega)
    replace hb := dF' hb
    simp only [pu', p0', c1', c0', i1', z0', b8_nat]
    with_reducible refine s_end ?_
    with_reducible refine s_then ?_
    refine sCF ?_
    with_reducible refine s_skip ?_
    with_reducible refine s_then ?_
    with_reducible refine s_seq ?_
    with_reducible refine s_label ?_
    with_reducible refine s_then ?_
    with_reducible refine s_seq ?_
    with_reducible refine s_seq ?_
    with_reducible refine s_reg ?_
    refine smove ?_
    simp only [pu', p0', c1', c0', i1', z0', b8_nat]
    refine slenE ?_
    simp only [pu', p0', c1', c0', i1', z0', b8_nat]
    refine smove ?_
    simp only [pu', p0', c1', c0', i1', z0', b8_nat]
    with_reducible refine s_end ?_
    with_reducible refine s_then ?_
    with_reducible refine s_block ?_
    refine s_loop hm (fun (b : Nat) s' => [s1, s2, s' 2, s' 3, s' 4, s' 5, s' 6, s' 7, s' 8, s' 9, s' 10, s' 11, I l1.length, I b, s' 14, s' 15, s' 16, s' 17, s' 18, s' 19, s' 20, s' 21, s' 22, s' 23, s' 24, s' 25]) (fun _ => h) (fun b => b ≤ l1.length ∧ ∀ j, j < b → eqc (l1.getD j ce0) (l2.getD j ce0) = true) (fun b => l1.length - b) 0 (by rfl) rfl ⟨Nat.zero_le _, fun j hj => absurd hj (Nat.not_lt_zero _)⟩ ?_
    rintro i s' ⟨hi, hj⟩
    by_cases hil : i < l1.length
    · cases hq : eqc (l1.getD i ce0) (l2.getD i ce0)
      · rw [sameC_f hq]
        focus
          with_reducible refine s_seq ?_
          with_reducible refine s_reg ?_
          refine sLt (fun hb => ?_) (fun hb => ?_)
          replace hb := dT' hb
          simp only [pu', p0', c1', c0', i1', z0', b8_nat]
          with_reducible refine s_end ?_
          with_reducible refine s_then ?_
          with_reducible refine s_seq ?_
          refine sCT ?_
          with_reducible refine s_skip ?_
          with_reducible refine s_then ?_
          with_reducible refine s_seq ?_
          with_reducible refine s_block ?_
          with_reducible refine s_seq ?_
          with_reducible refine s_reg ?_
          refine smove ?_
          simp only [pu', p0', c1', c0', i1', z0', b8_nat]
          refine sassign ?_
          simp only [pu', p0', c1', c0', i1', z0', b8_nat]
          with_reducible refine s_end ?_
          with_reducible refine s_then ?_
          with_reducible refine s_seq ?_
          with_reducible refine s_seq ?_
          (refine s_regQ (id := 6) [(0, true), (1, true), (2, true), (3, true), (4, true), (5, true), (6, true), (7, true), (8, true)] (by kernel_rfl) (by conv => lhs; simp only [pickO, List.getElem?_cons_succ, List.getElem?_cons_zero]) ?_)
          refine qmove ?_
          simp only [pu', p0', c1', c0', i1', z0', b8_nat]
          refine qmove ?_
          simp only [pu', p0', c1', c0', i1', z0', b8_nat]
          refine qidxE ?_
          simp only [pu', p0', c1', c0', i1', z0', b8_nat]
          refine qloadE ?_
          simp only [pu', p0', c1', c0', i1', z0', b8_nat]
          refine qmove ?_
          simp only [pu', p0', c1', c0', i1', z0', b8_nat]
          refine qmove ?_
          simp only [pu', p0', c1', c0', i1', z0', b8_nat]
          refine qidxE ?_
          simp only [pu', p0', c1', c0', i1', z0', b8_nat]
          refine qloadE ?_
          simp only [pu', p0', c1', c0', i1', z0', b8_nat]
          refine qbn (fun hb => ?_) (fun hb => ?_)
          exact bX' hb (by with_reducible assumption)
          simp only [pu', p0', c1', c0', i1', z0', b8_nat]
          with_reducible refine q_end ?_
          with_reducible refine s_then ?_
          refine sCF ?_
          with_reducible refine s_skip ?_
          with_reducible refine s_then ?_
          with_reducible refine s_seq ?_
          with_reducible refine s_reg ?_
          refine sassign ?_
          simp only [pu', p0', c1', c0', i1', z0', b8_nat]
          with_reducible refine s_end ?_
          with_reducible refine s_then ?_
          with_reducible refine s_ret ?_
          with_reducible refine s_blkR ?_
          with_reducible refine s_thenR ?_
          with_reducible refine l_ret ?_
          with_reducible refine s_blkR ?_
          with_reducible refine s_thenR ?_
          with_reducible refine s_ngR ?_
          rotate_left 1
          replace hb := dF' hb
          (exfalso; omega)
        all_goals try with_reducible refine w_n ?_
        all_goals refine w_1 rfl (by first | exact v_t (by rfl) | exact v_c1 (C1.p) (by rfl) (HA.p) (by rfl) | exact v_cF (CA.p) (by rfl) (HA.p) (by rfl)) ?_
        exact ⟨rfl, rfl⟩
      · with_reducible refine s_seq ?_
        with_reducible refine s_reg ?_
        refine sLt (fun hb => ?_) (fun hb => ?_)
        replace hb := dT' hb
        simp only [pu', p0', c1', c0', i1', z0', b8_nat]
        with_reducible refine s_end ?_
        with_reducible refine s_then ?_
        with_reducible refine s_seq ?_
        refine sCT ?_
        with_reducible refine s_skip ?_
        with_reducible refine s_then ?_
        with_reducible refine s_seq ?_
        with_reducible refine s_block ?_
        with_reducible refine s_seq ?_
        with_reducible refine s_reg ?_
        refine smove ?_
        simp only [pu', p0', c1', c0', i1', z0', b8_nat]
        refine sassign ?_
        simp only [pu', p0', c1', c0', i1', z0', b8_nat]
        with_reducible refine s_end ?_
        with_reducible refine s_then ?_
        with_reducible refine s_seq ?_
        with_reducible refine s_seq ?_
        (refine s_regQ (id := 6) [(0, true), (1, true), (2, true), (3, true), (4, true), (5, true), (6, true), (7, true), (8, true)] (by kernel_rfl) (by conv => lhs; simp only [pickO, List.getElem?_cons_succ, List.getElem?_cons_zero]) ?_)
        refine qmove ?_
        simp only [pu', p0', c1', c0', i1', z0', b8_nat]
        refine qmove ?_
        simp only [pu', p0', c1', c0', i1', z0', b8_nat]
        refine qidxE ?_
        simp only [pu', p0', c1', c0', i1', z0', b8_nat]
        refine qloadE ?_
        simp only [pu', p0', c1', c0', i1', z0', b8_nat]
        refine qmove ?_
        simp only [pu', p0', c1', c0', i1', z0', b8_nat]
        refine qmove ?_
        simp only [pu', p0', c1', c0', i1', z0', b8_nat]
        refine qidxE ?_
        simp only [pu', p0', c1', c0', i1', z0', b8_nat]
        refine qloadE ?_
        simp only [pu', p0', c1', c0', i1', z0', b8_nat]
        refine qbn (fun hb => ?_) (fun hb => ?_)
        simp only [pu', p0', c1', c0', i1', z0', b8_nat]
        with_reducible refine q_end ?_
        with_reducible refine s_then ?_
        refine sCT ?_
        with_reducible refine s_exit ?_
        with_reducible refine s_thenE ?_
        with_reducible refine s_blkE ?_
        with_reducible refine s_then ?_
        with_reducible refine s_reg ?_
        refine sadd ?_
        simp only [pu', p0', c1', c0', i1', z0', b8_nat]
        refine smove ?_
        simp only [pu', p0', c1', c0', i1', z0', b8_nat]
        with_reducible refine s_end ?_
        rotate_left 1
        exact bX' (by with_reducible assumption) hb
        replace hb := dF' hb
        (exfalso; omega)
        refine l_next (i + 1) ⟨by omega, fun j hj' => ?_⟩ (by omega) (by rfl) rfl
        by_cases hji : j = i
        · rw [hji]; exact hq
        · exact hj j (by omega)
    · rw [sameC_t hl fun j hj' => hj j (by omega)]
      with_reducible refine s_seq ?_
      with_reducible refine s_reg ?_
      refine sLt (fun hb => ?_) (fun hb => ?_)
      replace hb := dT' hb
      (exfalso; omega)
      replace hb := dF' hb
      simp only [pu', p0', c1', c0', i1', z0', b8_nat]
      with_reducible refine s_end ?_
      with_reducible refine s_then ?_
      with_reducible refine s_seq ?_
      refine sCF ?_
      with_reducible refine s_exit ?_
      with_reducible refine s_thenE ?_
      with_reducible refine l_exit ?_
      with_reducible refine s_blkE ?_
      with_reducible refine s_then ?_
      with_reducible refine s_seq ?_
      with_reducible refine s_reg ?_
      refine sassign ?_
      simp only [pu', p0', c1', c0', i1', z0', b8_nat]
      with_reducible refine s_end ?_
      with_reducible refine s_then ?_
      with_reducible refine s_ret ?_
      with_reducible refine s_ngR ?_
      all_goals try with_reducible refine w_n ?_
      all_goals refine w_1 rfl (by first | exact v_t (by rfl) | exact v_c1 (C1.p) (by rfl) (HA.p) (by rfl) | exact v_cF (CA.p) (by rfl) (HA.p) (by rfl)) ?_
      exact ⟨rfl, rfl⟩
  · rw [sameC_ne hl]
    refine acalls_of_wk hm Try.func37 rfl ?_
    simp only [Try.ntmps37, List.length_cons, List.length_nil, Nat.reduceAdd, Nat.reduceSub, List.reduceReplicate, List.cons_append, List.nil_append]
    show wk _ _ none _ _ ⟨_, []⟩ _
    focus
      with_reducible refine s_seq ?_
      with_reducible refine s_reg ?_
      refine sassign ?_
      simp only [pu', p0', c1', c0', i1', z0', b8_nat]
      with_reducible refine s_end ?_
      with_reducible refine s_then ?_
      with_reducible refine s_scope hm ?_
      with_reducible refine s_seq ?_
      with_reducible refine s_seq ?_
      with_reducible refine s_reg ?_
      refine smove ?_
      simp only [pu', p0', c1', c0', i1', z0', b8_nat]
      refine slenE ?_
      simp only [pu', p0', c1', c0', i1', z0', b8_nat]
      refine smove ?_
      simp only [pu', p0', c1', c0', i1', z0', b8_nat]
      refine slenE ?_
      simp only [pu', p0', c1', c0', i1', z0', b8_nat]
      refine sNe (fun hb => ?_) (fun hb => ?_)
      replace hb := dT' hb
      simp only [pu', p0', c1', c0', i1', z0', b8_nat]
      with_reducible refine s_end ?_
      with_reducible refine s_then ?_
      refine sCT ?_
      with_reducible refine s_seq ?_
      with_reducible refine s_reg ?_
      refine sassign ?_
      simp only [pu', p0', c1', c0', i1', z0', b8_nat]
      with_reducible refine s_end ?_
      with_reducible refine s_then ?_
      with_reducible refine s_ret ?_
      with_reducible refine s_thenR ?_
      with_reducible refine s_ngR ?_
      rotate_left 1
      replace hb := dF' hb
      (exfalso; omega)
    all_goals try with_reducible refine w_n ?_
    all_goals refine w_1 rfl (by first | exact v_t (by rfl) | exact v_c1 (C1.p) (by rfl) (HA.p) (by rfl) | exact v_cF (CA.p) (by rfl) (HA.p) (by rfl)) ?_
    exact ⟨rfl, rfl⟩
theorem bd_24 {n : Int} {s : AV} (ps : SlC s) : bld Try.prog 24 [(0, I n), (1, s)] = some (DA s n) := by
  rcases ps.p with rfl | ⟨i, o, m, c, u, rfl⟩ <;> kernel_rfl
instance {n : Int} {s : AV} [ps : SlC s] : BD Try.prog 24 [(0, I n), (1, s)] (DA s n) := ⟨bd_24 ps⟩
def fitQ (L : Int) (ps : List Int) (t : List Ce) : Bool := decide (dE L ps = 0) && sameC (dcQ L ps) t
theorem fits38 {h Y : Hp} {L' : List Pc} (S : Sep h Y L') (L : Int) (s zt : AV) (ps : List Int) (t : List Ce) (a : EI Y s ps) (b : EC Y zt t) (hL : L ≤ 9) (hlen : ps.length ≤ 1099511627776) (hlen2 : t.length ≤ 1099511627776) : ACalls Try.prog 38 [I L, s, zt] Y (fun r h' => r = B (fitQ L ps t) ∧ Sep h h' L') := by
  have pss := a.p.sl
  have S0 := Sep.nil Y
  have c10 := fun (_ : Unit) => of10 Y s L ps (a := a) hlen hL
  have hdl := dcQ_len (L := L) (ps := ps)
  refine ACalls.mono (N := fun r h' => r = B (fitQ L ps t) ∧ Sep Y h' []) ?_ fun r h' _ hh => ⟨hh.1, by have := S.join hh.2; rwa [List.append_nil] at this⟩
  by_cases he : dE L ps = 0
  · rw [fitQ, decide_eq_true he, Bool.true_and]
    rw [he] at c10
    generalize dcQ L ps = q at *
    clear he
    refine acalls_of_wk hm Try.func38 rfl ?_
    simp only [Try.ntmps38, List.length_cons, List.length_nil, Nat.reduceAdd, Nat.reduceSub, List.reduceReplicate, List.cons_append, List.nil_append]
    show wk _ _ none _ _ ⟨_, []⟩ _
    focus
      with_reducible refine s_seq ?_
      with_reducible refine s_reg ?_
      refine sassign ?_
      simp only [pu', p0', c1', c0', i1', z0', b8_nat]
      with_reducible refine s_end ?_
      with_reducible refine s_then ?_
      with_reducible refine s_seq ?_
      with_reducible refine s_reg ?_
      refine smove ?_
      simp only [pu', p0', c1', c0', i1', z0', b8_nat]
      refine smove ?_
      simp only [pu', p0', c1', c0', i1', z0', b8_nat]
      refine sbuild ?_
      simp only [pu', p0', c1', c0', i1', z0', b8_nat]
      refine sC (hx := rfl) ((c10 ()).mono ?_)
      rintro _ m10 _ ⟨z, M, rfl, pz, S1, R1⟩
      simp only [pu', p0', c1', c0', i1', n0', n3', n1', n2', a2', a1', a0', n4', Nat.reduceAdd, z0', n5', sa0, sa1, sa2, sa3, sa4, sa5, sa6, sa7, sa8, sa9, sa10, sa11]
      refine smove ?_
      simp only [pu', p0', c1', c0', i1', z0', b8_nat]
      refine sext ?_
      simp only [pu', p0', c1', c0', i1', z0', b8_nat]
      refine sext ?_
      simp only [pu', p0', c1', c0', i1', z0', b8_nat]
      refine sassign ?_
      simp only [pu', p0', c1', c0', i1', z0', b8_nat]
      refine sassign ?_
      simp only [pu', p0', c1', c0', i1', z0', b8_nat]
      with_reducible refine s_end ?_
      with_reducible refine s_then ?_
      with_reducible refine s_seq ?_
      with_reducible refine s_reg ?_
      refine smove ?_
      simp only [pu', p0', c1', c0', i1', z0', b8_nat]
      refine sEq (fun hb => ?_) (fun hb => ?_)
      replace hb := dT' hb
      simp only [pu', p0', c1', c0', i1', z0', b8_nat]
      refine smove ?_
      simp only [pu', p0', c1', c0', i1', z0', b8_nat]
      refine smove ?_
      simp only [pu', p0', c1', c0', i1', z0', b8_nat]
      refine smove ?_
      simp only [pu', p0', c1', c0', i1', z0', b8_nat]
      refine sM (hx := rfl) (same37 (s1 := z) (s2 := zt) (l1 := q) (l2 := t) (by omega) hlen2) ?_
      simp only [pu', p0', c1', c0', i1', z0', b8_nat]
      refine spickT ?_
      simp only [pu', p0', c1', c0', i1', z0', b8_nat]
      refine sassign ?_
      simp only [pu', p0', c1', c0', i1', z0', b8_nat]
      with_reducible refine s_end ?_
      with_reducible refine s_then ?_
      with_reducible refine s_ret ?_
      rotate_left 1
      replace hb := dF' hb
      exact absurd rfl hb
    all_goals try with_reducible refine w_n ?_
    all_goals refine w_1 rfl (by first | exact v_t (by rfl) | exact v_c1 (C1.p) (by rfl) (HA.p) (by rfl) | exact v_cF (CA.p) (by rfl) (HA.p) (by rfl)) ?_
    exact ⟨rfl, Sep.sub inferInstance (by repeat' first | exact List.Sublist.refl _ | exact List.sublist_append_left _ _ | exact List.nil_sublist _ | refine List.Sublist.cons_cons _ ?_ | refine List.Sublist.cons _ ?_ | refine List.Sublist.trans ?_ (List.sublist_append_left _ _))⟩
  · rw [fitQ, decide_eq_false he, Bool.false_and]
    generalize dE L ps = e at *
    refine acalls_of_wk hm Try.func38 rfl ?_
    simp only [Try.ntmps38, List.length_cons, List.length_nil, Nat.reduceAdd, Nat.reduceSub, List.reduceReplicate, List.cons_append, List.nil_append]
    show wk _ _ none _ _ ⟨_, []⟩ _
    with_reducible refine s_seq ?_
    with_reducible refine s_reg ?_
    refine sassign ?_
    simp only [pu', p0', c1', c0', i1', z0', b8_nat]
    with_reducible refine s_end ?_
    with_reducible refine s_then ?_
    with_reducible refine s_seq ?_
    with_reducible refine s_reg ?_
    refine smove ?_
    simp only [pu', p0', c1', c0', i1', z0', b8_nat]
    refine smove ?_
    simp only [pu', p0', c1', c0', i1', z0', b8_nat]
    refine sbuild ?_
    simp only [pu', p0', c1', c0', i1', z0', b8_nat]
    refine sC (hx := rfl) ((c10 ()).mono ?_)
    rintro _ m10 _ ⟨z, M, rfl, pz, S1, R1⟩
    simp only [pu', p0', c1', c0', i1', n0', n3', n1', n2', a2', a1', a0', n4', Nat.reduceAdd, z0', n5', sa0, sa1, sa2, sa3, sa4, sa5, sa6, sa7, sa8, sa9, sa10, sa11]
    refine smove ?_
    simp only [pu', p0', c1', c0', i1', z0', b8_nat]
    refine sext ?_
    simp only [pu', p0', c1', c0', i1', z0', b8_nat]
    refine sext ?_
    simp only [pu', p0', c1', c0', i1', z0', b8_nat]
    refine sassign ?_
    simp only [pu', p0', c1', c0', i1', z0', b8_nat]
    refine sassign ?_
    simp only [pu', p0', c1', c0', i1', z0', b8_nat]
    with_reducible refine s_end ?_
    with_reducible refine s_then ?_
    with_reducible refine s_seq ?_
    with_reducible refine s_reg ?_
    refine smove ?_
    simp only [pu', p0', c1', c0', i1', z0', b8_nat]
    refine sEq (fun hb => ?_) (fun hb => ?_)
    replace hb := dT' hb
    (exfalso; omega)
    replace hb := dF' hb
    simp only [pu', p0', c1', c0', i1', z0', b8_nat]
    refine smove ?_
    simp only [pu', p0', c1', c0', i1', z0', b8_nat]
    refine sN ?_
    simp only [pu', p0', c1', c0', i1', z0', b8_nat]
    refine sN ?_
    simp only [pu', p0', c1', c0', i1', z0', b8_nat]
    refine sN ?_
    simp only [pu', p0', c1', c0', i1', z0', b8_nat]
    refine spickF ?_
    simp only [pu', p0', c1', c0', i1', z0', b8_nat]
    refine sassign ?_
    simp only [pu', p0', c1', c0', i1', z0', b8_nat]
    with_reducible refine s_end ?_
    with_reducible refine s_then ?_
    with_reducible refine s_ret ?_
    all_goals try with_reducible refine w_n ?_
    all_goals refine w_1 rfl (by first | exact v_t (by rfl) | exact v_c1 (C1.p) (by rfl) (HA.p) (by rfl) | exact v_cF (CA.p) (by rfl) (HA.p) (by rfl)) ?_
    exact ⟨rfl, Sep.sub inferInstance (by repeat' first | exact List.Sublist.refl _ | exact List.sublist_append_left _ _ | exact List.nil_sublist _ | refine List.Sublist.cons_cons _ ?_ | refine List.Sublist.cons _ ?_ | refine List.Sublist.trans ?_ (List.sublist_append_left _ _))⟩
end Go.Proofs.Ytgbddbiimffplaa
