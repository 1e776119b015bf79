/-
  A part of the proof of a statement of a chapter's seat; conditions: stated at each theorem.
-/
import Derived.Test.YtgbddbiimffplaaN32
set_option linter.unusedVariables false
set_option linter.unusedSectionVars false
set_option linter.unusedSimpArgs false
set_option linter.unusedVariables false
set_option maxRecDepth 100000
set_option maxHeartbeats 8000000
namespace Go.Proofs.Ytgbddbiimffplaa
open Go.Az Go
theorem rnext25 {h : Hp} {s : AV} {t : List Ce} [a : EC h s t] (i v : Int) (hlen : t.length ≤ 512) : ACalls Try.prog 25 [s, I i, I v] h (fun r h' => r = .tup [I (nxtQ t i v).1, I (nxtQ t i v).2] ∧ Sep h h' []) := by
  have pss := a.p.sl
  have S0 := Sep.nil h
  have c23 := fun (_ : Unit) => rcheck23 (h := h) (s := s) (t := t) hlen
  rw [nxtQ]
  by_cases he : chkQ t = 0
  · rw [if_pos he]
    have hat := fun k => chk_at he (i := k)
    rw [he] at c23
    clear he
    by_cases h1 : i < 0
    · rw [if_pos (.inl h1)]
      refine acalls_of_wk hm Try.func25 rfl ?_
      simp only [Try.ntmps25, List.length_cons, List.length_nil, Nat.reduceAdd, Nat.reduceSub, List.reduceReplicate, List.cons_append, List.nil_append]
      show wk _ _ none _ _ ⟨_, []⟩ _
      focus
        with_reducible refine s_seq ?_
        with_reducible refine s_reg ?_
        refine sassign ?_
        simp only [pu', p0', c1', c0', i1', z0', b8_nat]
        refine sassign ?_
        simp only [pu', p0', c1', c0', i1', z0', b8_nat]
        with_reducible refine s_end ?_
        with_reducible refine s_then ?_
        with_reducible refine s_seq ?_
        with_reducible refine s_reg ?_
        refine smove ?_
        simp only [pu', p0', c1', c0', i1', z0', b8_nat]
        refine sC (hx := rfl) ((c23 ()).mono ?_)
        rintro _ m23 _ ⟨rfl, S1⟩
        simp only [pu', p0', c1', c0', i1', n0', n3', n1', n2', a2', a1', a0', n4', Nat.reduceAdd, z0', n5', sa0, sa1, sa2, sa3, sa4, sa5, sa6, sa7, sa8, sa9, sa10, sa11]
        refine sassign ?_
        simp only [pu', p0', c1', c0', i1', z0', b8_nat]
        with_reducible refine s_end ?_
        with_reducible refine s_then ?_
        with_reducible refine s_seq ?_
        with_reducible refine s_seq ?_
        with_reducible refine s_reg ?_
        refine smove ?_
        simp only [pu', p0', c1', c0', i1', z0', b8_nat]
        refine sEq (fun hb => ?_) (fun hb => ?_)
        replace hb := dT' hb
        simp only [pu', p0', c1', c0', i1', z0', b8_nat]
        refine smove ?_
        simp only [pu', p0', c1', c0', i1', z0', b8_nat]
        refine smove ?_
        simp only [pu', p0', c1', c0', i1', z0', b8_nat]
        refine sLt (fun hb => ?_) (fun hb => ?_)
        replace hb := dT' hb
        simp only [pu', p0', c1', c0', i1', z0', b8_nat]
        refine smove ?_
        simp only [pu', p0', c1', c0', i1', z0', b8_nat]
        (with_reducible refine s_gN ?_ ?_; exact wG rfl rfl rfl rfl rfl)
        simp only [pu', p0', c1', c0', i1', z0', b8_nat]
        (with_reducible refine s_gN ?_ ?_; exact wG rfl rfl rfl rfl rfl)
        simp only [pu', p0', c1', c0', i1', z0', b8_nat]
        (with_reducible refine s_gN ?_ ?_; exact wG rfl rfl rfl rfl rfl)
        simp only [pu', p0', c1', c0', i1', z0', b8_nat]
        (with_reducible refine s_gN ?_ ?_; exact wG rfl rfl rfl rfl rfl)
        simp only [pu', p0', c1', c0', i1', z0', b8_nat]
        refine spickT ?_
        simp only [pu', p0', c1', c0', i1', z0', b8_nat]
        refine smove ?_
        simp only [pu', p0', c1', c0', i1', z0', b8_nat]
        (with_reducible refine s_gN ?_ ?_; exact wG rfl rfl rfl rfl rfl)
        simp only [pu', p0', c1', c0', i1', z0', b8_nat]
        (with_reducible refine s_gN ?_ ?_; exact wG rfl rfl rfl rfl rfl)
        simp only [pu', p0', c1', c0', i1', z0', b8_nat]
        refine spickT ?_
        simp only [pu', p0', c1', c0', i1', z0', b8_nat]
        refine smove ?_
        simp only [pu', p0', c1', c0', i1', z0', b8_nat]
        (with_reducible refine s_gN ?_ ?_; exact wG rfl rfl rfl rfl rfl)
        simp only [pu', p0', c1', c0', i1', z0', b8_nat]
        (with_reducible refine s_gN ?_ ?_; exact wG rfl rfl rfl rfl rfl)
        simp only [pu', p0', c1', c0', i1', z0', b8_nat]
        (with_reducible refine s_gN ?_ ?_; exact wG rfl rfl rfl rfl rfl)
        simp only [pu', p0', c1', c0', i1', z0', b8_nat]
        (with_reducible refine s_gN ?_ ?_; exact wG rfl rfl rfl rfl rfl)
        simp only [pu', p0', c1', c0', i1', z0', b8_nat]
        (with_reducible refine s_gN ?_ ?_; exact wG rfl rfl rfl rfl rfl)
        simp only [pu', p0', c1', c0', i1', z0', b8_nat]
        (with_reducible refine s_gN ?_ ?_; exact wG rfl rfl rfl rfl rfl)
        simp only [pu', p0', c1', c0', i1', z0', b8_nat]
        (with_reducible refine s_gN ?_ ?_; exact wG rfl rfl rfl rfl rfl)
        simp only [pu', p0', c1', c0', i1', z0', b8_nat]
        (with_reducible refine s_gN ?_ ?_; exact wG rfl rfl rfl rfl rfl)
        simp only [pu', p0', c1', c0', i1', z0', b8_nat]
        (with_reducible refine s_gN ?_ ?_; exact wG rfl rfl rfl rfl rfl)
        simp only [pu', p0', c1', c0', i1', z0', b8_nat]
        refine spickT ?_
        simp only [pu', p0', c1', c0', i1', z0', b8_nat]
        refine spickT ?_
        simp only [pu', p0', c1', c0', i1', z0', b8_nat]
        with_reducible refine s_end ?_
        with_reducible refine s_then ?_
        refine sCT ?_
        with_reducible refine s_reg ?_
        refine sassign ?_
        simp only [pu', p0', c1', c0', i1', z0', b8_nat]
        with_reducible refine s_end ?_
        with_reducible refine s_then ?_
        with_reducible refine s_seq ?_
        with_reducible refine s_seq ?_
        with_reducible refine s_reg ?_
        refine smove ?_
        simp only [pu', p0', c1', c0', i1', z0', b8_nat]
        refine sNe (fun hb => ?_) (fun hb => ?_)
        replace hb := dT' hb
        simp only [pu', p0', c1', c0', i1', z0', b8_nat]
        with_reducible refine s_end ?_
        with_reducible refine s_then ?_
        refine sCT ?_
        with_reducible refine s_seq ?_
        with_reducible refine s_reg ?_
        refine smove ?_
        simp only [pu', p0', c1', c0', i1', z0', b8_nat]
        refine sassign ?_
        simp only [pu', p0', c1', c0', i1', z0', b8_nat]
        refine sassign ?_
        simp only [pu', p0', c1', c0', i1', z0', b8_nat]
        with_reducible refine s_end ?_
        with_reducible refine s_then ?_
        with_reducible refine s_ret ?_
        with_reducible refine s_thenR ?_
        rotate_left 1
        replace hb := dF' hb
        (exfalso; omega)
        replace hb := dF' hb
        exact absurd (by with_reducible assumption) hb
        replace hb := dF' hb
        exact absurd rfl hb
      all_goals
        all_goals try with_reducible refine w_n ?_
        all_goals refine w_2 rfl (by first | exact v_t (by rfl) | exact v_c1 (C1.p) (by rfl) (HA.p) (by rfl) | exact v_cF (CA.p) (by rfl) (HA.p) (by rfl)) (by first | exact v_t (by rfl) | exact v_c1 (C1.p) (by rfl) (HA.p) (by rfl) | exact v_cF (CA.p) (by rfl) (HA.p) (by rfl)) ?_
        exact ⟨rfl, S1⟩
    · by_cases h2 : (t.length : Int) ≤ i
      · rw [if_pos (.inr (.inl h2))]
        refine acalls_of_wk hm Try.func25 rfl ?_
        simp only [Try.ntmps25, List.length_cons, List.length_nil, Nat.reduceAdd, Nat.reduceSub, List.reduceReplicate, List.cons_append, List.nil_append]
        show wk _ _ none _ _ ⟨_, []⟩ _
        focus
          with_reducible refine s_seq ?_
          with_reducible refine s_reg ?_
          refine sassign ?_
          simp only [pu', p0', c1', c0', i1', z0', b8_nat]
          refine sassign ?_
          simp only [pu', p0', c1', c0', i1', z0', b8_nat]
          with_reducible refine s_end ?_
          with_reducible refine s_then ?_
          with_reducible refine s_seq ?_
          with_reducible refine s_reg ?_
          refine smove ?_
          simp only [pu', p0', c1', c0', i1', z0', b8_nat]
          refine sC (hx := rfl) ((c23 ()).mono ?_)
          rintro _ m23 _ ⟨rfl, S1⟩
          simp only [pu', p0', c1', c0', i1', n0', n3', n1', n2', a2', a1', a0', n4', Nat.reduceAdd, z0', n5', sa0, sa1, sa2, sa3, sa4, sa5, sa6, sa7, sa8, sa9, sa10, sa11]
          refine sassign ?_
          simp only [pu', p0', c1', c0', i1', z0', b8_nat]
          with_reducible refine s_end ?_
          with_reducible refine s_then ?_
          with_reducible refine s_seq ?_
          with_reducible refine s_seq ?_
          with_reducible refine s_reg ?_
          refine smove ?_
          simp only [pu', p0', c1', c0', i1', z0', b8_nat]
          refine sEq (fun hb => ?_) (fun hb => ?_)
          replace hb := dT' hb
          simp only [pu', p0', c1', c0', i1', z0', b8_nat]
          refine smove ?_
          simp only [pu', p0', c1', c0', i1', z0', b8_nat]
          refine smove ?_
          simp only [pu', p0', c1', c0', i1', z0', b8_nat]
          refine sLt (fun hb => ?_) (fun hb => ?_)
          replace hb := dT' hb
          (exfalso; omega)
          replace hb := dF' hb
          simp only [pu', p0', c1', c0', i1', z0', b8_nat]
          refine smove ?_
          simp only [pu', p0', c1', c0', i1', z0', b8_nat]
          refine smove ?_
          simp only [pu', p0', c1', c0', i1', z0', b8_nat]
          refine smove ?_
          simp only [pu', p0', c1', c0', i1', z0', b8_nat]
          refine slenE ?_
          simp only [pu', p0', c1', c0', i1', z0', b8_nat]
          refine sGe (fun hb => ?_) (fun hb => ?_)
          replace hb := dT' hb
          simp only [pu', p0', c1', c0', i1', z0', b8_nat]
          refine spickF ?_
          simp only [pu', p0', c1', c0', i1', z0', b8_nat]
          refine smove ?_
          simp only [pu', p0', c1', c0', i1', z0', b8_nat]
          (with_reducible refine s_gN ?_ ?_; exact wG rfl rfl rfl rfl rfl)
          simp only [pu', p0', c1', c0', i1', z0', b8_nat]
          (with_reducible refine s_gN ?_ ?_; exact wG rfl rfl rfl rfl rfl)
          simp only [pu', p0', c1', c0', i1', z0', b8_nat]
          refine spickT ?_
          simp only [pu', p0', c1', c0', i1', z0', b8_nat]
          refine smove ?_
          simp only [pu', p0', c1', c0', i1', z0', b8_nat]
          (with_reducible refine s_gN ?_ ?_; exact wG rfl rfl rfl rfl rfl)
          simp only [pu', p0', c1', c0', i1', z0', b8_nat]
          (with_reducible refine s_gN ?_ ?_; exact wG rfl rfl rfl rfl rfl)
          simp only [pu', p0', c1', c0', i1', z0', b8_nat]
          (with_reducible refine s_gN ?_ ?_; exact wG rfl rfl rfl rfl rfl)
          simp only [pu', p0', c1', c0', i1', z0', b8_nat]
          (with_reducible refine s_gN ?_ ?_; exact wG rfl rfl rfl rfl rfl)
          simp only [pu', p0', c1', c0', i1', z0', b8_nat]
          (with_reducible refine s_gN ?_ ?_; exact wG rfl rfl rfl rfl rfl)
          simp only [pu', p0', c1', c0', i1', z0', b8_nat]
          (with_reducible refine s_gN ?_ ?_; exact wG rfl rfl rfl rfl rfl)
          simp only [pu', p0', c1', c0', i1', z0', b8_nat]
          (with_reducible refine s_gN ?_ ?_; exact wG rfl rfl rfl rfl rfl)
          simp only [pu', p0', c1', c0', i1', z0', b8_nat]
          (with_reducible refine s_gN ?_ ?_; exact wG rfl rfl rfl rfl rfl)
          simp only [pu', p0', c1', c0', i1', z0', b8_nat]
          (with_reducible refine s_gN ?_ ?_; exact wG rfl rfl rfl rfl rfl)
          simp only [pu', p0', c1', c0', i1', z0', b8_nat]
          refine spickT ?_
          simp only [pu', p0', c1', c0', i1', z0', b8_nat]
          refine spickT ?_
          simp only [pu', p0', c1', c0', i1', z0', b8_nat]
          with_reducible refine s_end ?_
          with_reducible refine s_then ?_
          refine sCT ?_
          with_reducible refine s_reg ?_
          refine sassign ?_
          simp only [pu', p0', c1', c0', i1', z0', b8_nat]
          with_reducible refine s_end ?_
          with_reducible refine s_then ?_
          with_reducible refine s_seq ?_
          with_reducible refine s_seq ?_
          with_reducible refine s_reg ?_
          refine smove ?_
          simp only [pu', p0', c1', c0', i1', z0', b8_nat]
          refine sNe (fun hb => ?_) (fun hb => ?_)
          replace hb := dT' hb
          simp only [pu', p0', c1', c0', i1', z0', b8_nat]
          with_reducible refine s_end ?_
          with_reducible refine s_then ?_
          refine sCT ?_
          with_reducible refine s_seq ?_
          with_reducible refine s_reg ?_
          refine smove ?_
          simp only [pu', p0', c1', c0', i1', z0', b8_nat]
          refine sassign ?_
          simp only [pu', p0', c1', c0', i1', z0', b8_nat]
          refine sassign ?_
          simp only [pu', p0', c1', c0', i1', z0', b8_nat]
          with_reducible refine s_end ?_
          with_reducible refine s_then ?_
          with_reducible refine s_ret ?_
          with_reducible refine s_thenR ?_
          rotate_left 1
          replace hb := dF' hb
          (exfalso; omega)
          replace hb := dF' hb
          exact absurd (by with_reducible assumption) hb
          replace hb := dF' hb
          exact absurd rfl hb
        all_goals
          all_goals try with_reducible refine w_n ?_
          all_goals refine w_2 rfl (by first | exact v_t (by rfl) | exact v_c1 (C1.p) (by rfl) (HA.p) (by rfl) | exact v_cF (CA.p) (by rfl) (HA.p) (by rfl)) (by first | exact v_t (by rfl) | exact v_c1 (C1.p) (by rfl) (HA.p) (by rfl) | exact v_cF (CA.p) (by rfl) (HA.p) (by rfl)) ?_
          exact ⟨rfl, S1⟩
      · by_cases h3 : v < 0
        · rw [if_pos (.inr (.inr (.inl h3)))]
          refine acalls_of_wk hm Try.func25 rfl ?_
          simp only [Try.ntmps25, List.length_cons, List.length_nil, Nat.reduceAdd, Nat.reduceSub, List.reduceReplicate, List.cons_append, List.nil_append]
          show wk _ _ none _ _ ⟨_, []⟩ _
          focus
            with_reducible refine s_seq ?_
            with_reducible refine s_reg ?_
            refine sassign ?_
            simp only [pu', p0', c1', c0', i1', z0', b8_nat]
            refine sassign ?_
            simp only [pu', p0', c1', c0', i1', z0', b8_nat]
            with_reducible refine s_end ?_
            with_reducible refine s_then ?_
            with_reducible refine s_seq ?_
            with_reducible refine s_reg ?_
            refine smove ?_
            simp only [pu', p0', c1', c0', i1', z0', b8_nat]
            refine sC (hx := rfl) ((c23 ()).mono ?_)
            rintro _ m23 _ ⟨rfl, S1⟩
            simp only [pu', p0', c1', c0', i1', n0', n3', n1', n2', a2', a1', a0', n4', Nat.reduceAdd, z0', n5', sa0, sa1, sa2, sa3, sa4, sa5, sa6, sa7, sa8, sa9, sa10, sa11]
            refine sassign ?_
            simp only [pu', p0', c1', c0', i1', z0', b8_nat]
            with_reducible refine s_end ?_
            with_reducible refine s_then ?_
            with_reducible refine s_seq ?_
            with_reducible refine s_seq ?_
            with_reducible refine s_reg ?_
            refine smove ?_
            simp only [pu', p0', c1', c0', i1', z0', b8_nat]
            refine sEq (fun hb => ?_) (fun hb => ?_)
            replace hb := dT' hb
            simp only [pu', p0', c1', c0', i1', z0', b8_nat]
            refine smove ?_
            simp only [pu', p0', c1', c0', i1', z0', b8_nat]
            refine smove ?_
            simp only [pu', p0', c1', c0', i1', z0', b8_nat]
            refine sLt (fun hb => ?_) (fun hb => ?_)
            replace hb := dT' hb
            (exfalso; omega)
            replace hb := dF' hb
            simp only [pu', p0', c1', c0', i1', z0', b8_nat]
            refine smove ?_
            simp only [pu', p0', c1', c0', i1', z0', b8_nat]
            refine smove ?_
            simp only [pu', p0', c1', c0', i1', z0', b8_nat]
            refine smove ?_
            simp only [pu', p0', c1', c0', i1', z0', b8_nat]
            refine slenE ?_
            simp only [pu', p0', c1', c0', i1', z0', b8_nat]
            refine sGe (fun hb => ?_) (fun hb => ?_)
            replace hb := dT' hb
            (exfalso; omega)
            replace hb := dF' hb
            simp only [pu', p0', c1', c0', i1', z0', b8_nat]
            refine spickF ?_
            simp only [pu', p0', c1', c0', i1', z0', b8_nat]
            refine smove ?_
            simp only [pu', p0', c1', c0', i1', z0', b8_nat]
            refine smove ?_
            simp only [pu', p0', c1', c0', i1', z0', b8_nat]
            refine sLt (fun hb => ?_) (fun hb => ?_)
            replace hb := dT' hb
            simp only [pu', p0', c1', c0', i1', z0', b8_nat]
            refine spickF ?_
            simp only [pu', p0', c1', c0', i1', z0', b8_nat]
            refine smove ?_
            simp only [pu', p0', c1', c0', i1', z0', b8_nat]
            (with_reducible refine s_gN ?_ ?_; exact wG rfl rfl rfl rfl rfl)
            simp only [pu', p0', c1', c0', i1', z0', b8_nat]
            (with_reducible refine s_gN ?_ ?_; exact wG rfl rfl rfl rfl rfl)
            simp only [pu', p0', c1', c0', i1', z0', b8_nat]
            (with_reducible refine s_gN ?_ ?_; exact wG rfl rfl rfl rfl rfl)
            simp only [pu', p0', c1', c0', i1', z0', b8_nat]
            (with_reducible refine s_gN ?_ ?_; exact wG rfl rfl rfl rfl rfl)
            simp only [pu', p0', c1', c0', i1', z0', b8_nat]
            (with_reducible refine s_gN ?_ ?_; exact wG rfl rfl rfl rfl rfl)
            simp only [pu', p0', c1', c0', i1', z0', b8_nat]
            (with_reducible refine s_gN ?_ ?_; exact wG rfl rfl rfl rfl rfl)
            simp only [pu', p0', c1', c0', i1', z0', b8_nat]
            (with_reducible refine s_gN ?_ ?_; exact wG rfl rfl rfl rfl rfl)
            simp only [pu', p0', c1', c0', i1', z0', b8_nat]
            (with_reducible refine s_gN ?_ ?_; exact wG rfl rfl rfl rfl rfl)
            simp only [pu', p0', c1', c0', i1', z0', b8_nat]
            (with_reducible refine s_gN ?_ ?_; exact wG rfl rfl rfl rfl rfl)
            simp only [pu', p0', c1', c0', i1', z0', b8_nat]
            refine spickT ?_
            simp only [pu', p0', c1', c0', i1', z0', b8_nat]
            refine spickT ?_
            simp only [pu', p0', c1', c0', i1', z0', b8_nat]
            with_reducible refine s_end ?_
            with_reducible refine s_then ?_
            refine sCT ?_
            with_reducible refine s_reg ?_
            refine sassign ?_
            simp only [pu', p0', c1', c0', i1', z0', b8_nat]
            with_reducible refine s_end ?_
            with_reducible refine s_then ?_
            with_reducible refine s_seq ?_
            with_reducible refine s_seq ?_
            with_reducible refine s_reg ?_
            refine smove ?_
            simp only [pu', p0', c1', c0', i1', z0', b8_nat]
            refine sNe (fun hb => ?_) (fun hb => ?_)
            replace hb := dT' hb
            simp only [pu', p0', c1', c0', i1', z0', b8_nat]
            with_reducible refine s_end ?_
            with_reducible refine s_then ?_
            refine sCT ?_
            with_reducible refine s_seq ?_
            with_reducible refine s_reg ?_
            refine smove ?_
            simp only [pu', p0', c1', c0', i1', z0', b8_nat]
            refine sassign ?_
            simp only [pu', p0', c1', c0', i1', z0', b8_nat]
            refine sassign ?_
            simp only [pu', p0', c1', c0', i1', z0', b8_nat]
            with_reducible refine s_end ?_
            with_reducible refine s_then ?_
            with_reducible refine s_ret ?_
            with_reducible refine s_thenR ?_
            rotate_left 1
            replace hb := dF' hb
            (exfalso; omega)
            replace hb := dF' hb
            exact absurd (by with_reducible assumption) hb
            replace hb := dF' hb
            exact absurd rfl hb
          all_goals
            all_goals try with_reducible refine w_n ?_
            all_goals refine w_2 rfl (by first | exact v_t (by rfl) | exact v_c1 (C1.p) (by rfl) (HA.p) (by rfl) | exact v_cF (CA.p) (by rfl) (HA.p) (by rfl)) (by first | exact v_t (by rfl) | exact v_c1 (C1.p) (by rfl) (HA.p) (by rfl) | exact v_cF (CA.p) (by rfl) (HA.p) (by rfl)) ?_
            exact ⟨rfl, S1⟩
        · obtain ⟨b1, b2, b3, b4⟩ := hat i.toNat (by omega)
          have hp : (2 : Int) ^ (t.getD i.toNat ce0).b.toNat ≤ 4096 := by
            have h5 : 2 ^ (t.getD i.toNat ce0).b.toNat ≤ 2 ^ 12 := Nat.pow_le_pow_right (by omega) (by omega)
            have h6 := pow_z (t.getD i.toNat ce0).b.toNat
            omega
          have hp1 : (0 : Int) < (2 : Int) ^ (t.getD i.toNat ce0).b.toNat := Int.pow_pos (by omega)
          by_cases h4 : 2 ^ (t.getD i.toNat ce0).b.toNat ≤ v
          · rw [if_pos (.inr (.inr (.inr h4)))]
            refine acalls_of_wk hm Try.func25 rfl ?_
            simp only [Try.ntmps25, List.length_cons, List.length_nil, Nat.reduceAdd, Nat.reduceSub, List.reduceReplicate, List.cons_append, List.nil_append]
            show wk _ _ none _ _ ⟨_, []⟩ _
            focus
              with_reducible refine s_seq ?_
              with_reducible refine s_reg ?_
              refine sassign ?_
              simp only [pu', p0', c1', c0', i1', z0', b8_nat]
              refine sassign ?_
              simp only [pu', p0', c1', c0', i1', z0', b8_nat]
              with_reducible refine s_end ?_
              with_reducible refine s_then ?_
              with_reducible refine s_seq ?_
              with_reducible refine s_reg ?_
              refine smove ?_
              simp only [pu', p0', c1', c0', i1', z0', b8_nat]
              refine sC (hx := rfl) ((c23 ()).mono ?_)
              rintro _ m23 _ ⟨rfl, S1⟩
              simp only [pu', p0', c1', c0', i1', n0', n3', n1', n2', a2', a1', a0', n4', Nat.reduceAdd, z0', n5', sa0, sa1, sa2, sa3, sa4, sa5, sa6, sa7, sa8, sa9, sa10, sa11]
              refine sassign ?_
              simp only [pu', p0', c1', c0', i1', z0', b8_nat]
              with_reducible refine s_end ?_
              with_reducible refine s_then ?_
              with_reducible refine s_seq ?_
              with_reducible refine s_seq ?_
              with_reducible refine s_reg ?_
              refine smove ?_
              simp only [pu', p0', c1', c0', i1', z0', b8_nat]
              refine sEq (fun hb => ?_) (fun hb => ?_)
              replace hb := dT' hb
              simp only [pu', p0', c1', c0', i1', z0', b8_nat]
              refine smove ?_
              simp only [pu', p0', c1', c0', i1', z0', b8_nat]
              refine smove ?_
              simp only [pu', p0', c1', c0', i1', z0', b8_nat]
              refine sLt (fun hb => ?_) (fun hb => ?_)
              replace hb := dT' hb
              (exfalso; omega)
              replace hb := dF' hb
              simp only [pu', p0', c1', c0', i1', z0', b8_nat]
              refine smove ?_
              simp only [pu', p0', c1', c0', i1', z0', b8_nat]
              refine smove ?_
              simp only [pu', p0', c1', c0', i1', z0', b8_nat]
              refine smove ?_
              simp only [pu', p0', c1', c0', i1', z0', b8_nat]
              refine slenE ?_
              simp only [pu', p0', c1', c0', i1', z0', b8_nat]
              refine sGe (fun hb => ?_) (fun hb => ?_)
              replace hb := dT' hb
              (exfalso; omega)
              replace hb := dF' hb
              simp only [pu', p0', c1', c0', i1', z0', b8_nat]
              refine spickF ?_
              simp only [pu', p0', c1', c0', i1', z0', b8_nat]
              refine smove ?_
              simp only [pu', p0', c1', c0', i1', z0', b8_nat]
              refine smove ?_
              simp only [pu', p0', c1', c0', i1', z0', b8_nat]
              refine sLt (fun hb => ?_) (fun hb => ?_)
              replace hb := dT' hb
              (exfalso; omega)
              replace hb := dF' hb
              simp only [pu', p0', c1', c0', i1', z0', b8_nat]
              refine spickF ?_
              simp only [pu', p0', c1', c0', i1', z0', b8_nat]
              refine smove ?_
              simp only [pu', p0', c1', c0', i1', z0', b8_nat]
              refine smove ?_
              simp only [pu', p0', c1', c0', i1', z0', b8_nat]
              refine smove ?_
              simp only [pu', p0', c1', c0', i1', z0', b8_nat]
              refine smove ?_
              simp only [pu', p0', c1', c0', i1', z0', b8_nat]
              refine sidxE ?_
              simp only [pu', p0', c1', c0', i1', z0', b8_nat]
              refine sfadE ?_
              simp only [pu', p0', c1', c0', i1', z0', b8_nat]
              refine sloadF ?_
              simp only [pu', p0', c1', c0', i1', z0', b8_nat]
              refine sconv ?_
              simp only [pu', p0', c1', c0', i1', z0', b8_nat]
              refine sshl1 ?_
              simp only [pu', p0', c1', c0', i1', z0', b8_nat]
              refine sGe (fun hb => ?_) (fun hb => ?_)
              replace hb := dT' hb
              simp only [pu', p0', c1', c0', i1', z0', b8_nat]
              refine spickF ?_
              simp only [pu', p0', c1', c0', i1', z0', b8_nat]
              refine spickT ?_
              simp only [pu', p0', c1', c0', i1', z0', b8_nat]
              with_reducible refine s_end ?_
              with_reducible refine s_then ?_
              refine sCT ?_
              with_reducible refine s_reg ?_
              refine sassign ?_
              simp only [pu', p0', c1', c0', i1', z0', b8_nat]
              with_reducible refine s_end ?_
              with_reducible refine s_then ?_
              with_reducible refine s_seq ?_
              with_reducible refine s_seq ?_
              with_reducible refine s_reg ?_
              refine smove ?_
              simp only [pu', p0', c1', c0', i1', z0', b8_nat]
              refine sNe (fun hb => ?_) (fun hb => ?_)
              replace hb := dT' hb
              simp only [pu', p0', c1', c0', i1', z0', b8_nat]
              with_reducible refine s_end ?_
              with_reducible refine s_then ?_
              refine sCT ?_
              with_reducible refine s_seq ?_
              with_reducible refine s_reg ?_
              refine smove ?_
              simp only [pu', p0', c1', c0', i1', z0', b8_nat]
              refine sassign ?_
              simp only [pu', p0', c1', c0', i1', z0', b8_nat]
              refine sassign ?_
              simp only [pu', p0', c1', c0', i1', z0', b8_nat]
              with_reducible refine s_end ?_
              with_reducible refine s_then ?_
              with_reducible refine s_ret ?_
              with_reducible refine s_thenR ?_
              rotate_left 1
              replace hb := dF' hb
              (exfalso; omega)
              replace hb := dF' hb
              exact absurd (by with_reducible assumption) hb
              replace hb := dF' hb
              exact absurd rfl hb
            all_goals
              all_goals try with_reducible refine w_n ?_
              all_goals refine w_2 rfl (by first | exact v_t (by rfl) | exact v_c1 (C1.p) (by rfl) (HA.p) (by rfl) | exact v_cF (CA.p) (by rfl) (HA.p) (by rfl)) (by first | exact v_t (by rfl) | exact v_c1 (C1.p) (by rfl) (HA.p) (by rfl) | exact v_cF (CA.p) (by rfl) (HA.p) (by rfl)) ?_
              exact ⟨rfl, S1⟩
          · rw [if_neg (by omega)]
            refine acalls_of_wk hm Try.func25 rfl ?_
            simp only [Try.ntmps25, List.length_cons, List.length_nil, Nat.reduceAdd, Nat.reduceSub, List.reduceReplicate, List.cons_append, List.nil_append]
            show wk _ _ none _ _ ⟨_, []⟩ _
            focus
              with_reducible refine s_seq ?_
              with_reducible refine s_reg ?_
              refine sassign ?_
              simp only [pu', p0', c1', c0', i1', z0', b8_nat]
              refine sassign ?_
              simp only [pu', p0', c1', c0', i1', z0', b8_nat]
              with_reducible refine s_end ?_
              with_reducible refine s_then ?_
              with_reducible refine s_seq ?_
              with_reducible refine s_reg ?_
              refine smove ?_
              simp only [pu', p0', c1', c0', i1', z0', b8_nat]
              refine sC (hx := rfl) ((c23 ()).mono ?_)
              rintro _ m23 _ ⟨rfl, S1⟩
              simp only [pu', p0', c1', c0', i1', n0', n3', n1', n2', a2', a1', a0', n4', Nat.reduceAdd, z0', n5', sa0, sa1, sa2, sa3, sa4, sa5, sa6, sa7, sa8, sa9, sa10, sa11]
              refine sassign ?_
              simp only [pu', p0', c1', c0', i1', z0', b8_nat]
              with_reducible refine s_end ?_
              with_reducible refine s_then ?_
              with_reducible refine s_seq ?_
              with_reducible refine s_seq ?_
              with_reducible refine s_reg ?_
              refine smove ?_
              simp only [pu', p0', c1', c0', i1', z0', b8_nat]
              refine sEq (fun hb => ?_) (fun hb => ?_)
              replace hb := dT' hb
              simp only [pu', p0', c1', c0', i1', z0', b8_nat]
              refine smove ?_
              simp only [pu', p0', c1', c0', i1', z0', b8_nat]
              refine smove ?_
              simp only [pu', p0', c1', c0', i1', z0', b8_nat]
              refine sLt (fun hb => ?_) (fun hb => ?_)
              replace hb := dT' hb
              (exfalso; omega)
              replace hb := dF' hb
              simp only [pu', p0', c1', c0', i1', z0', b8_nat]
              refine smove ?_
              simp only [pu', p0', c1', c0', i1', z0', b8_nat]
              refine smove ?_
              simp only [pu', p0', c1', c0', i1', z0', b8_nat]
              refine smove ?_
              simp only [pu', p0', c1', c0', i1', z0', b8_nat]
              refine slenE ?_
              simp only [pu', p0', c1', c0', i1', z0', b8_nat]
              refine sGe (fun hb => ?_) (fun hb => ?_)
              replace hb := dT' hb
              (exfalso; omega)
              replace hb := dF' hb
              simp only [pu', p0', c1', c0', i1', z0', b8_nat]
              refine spickF ?_
              simp only [pu', p0', c1', c0', i1', z0', b8_nat]
              refine smove ?_
              simp only [pu', p0', c1', c0', i1', z0', b8_nat]
              refine smove ?_
              simp only [pu', p0', c1', c0', i1', z0', b8_nat]
              refine sLt (fun hb => ?_) (fun hb => ?_)
              replace hb := dT' hb
              (exfalso; omega)
              replace hb := dF' hb
              simp only [pu', p0', c1', c0', i1', z0', b8_nat]
              refine spickF ?_
              simp only [pu', p0', c1', c0', i1', z0', b8_nat]
              refine smove ?_
              simp only [pu', p0', c1', c0', i1', z0', b8_nat]
              refine smove ?_
              simp only [pu', p0', c1', c0', i1', z0', b8_nat]
              refine smove ?_
              simp only [pu', p0', c1', c0', i1', z0', b8_nat]
              refine smove ?_
              simp only [pu', p0', c1', c0', i1', z0', b8_nat]
              refine sidxE ?_
              simp only [pu', p0', c1', c0', i1', z0', b8_nat]
              refine sfadE ?_
              simp only [pu', p0', c1', c0', i1', z0', b8_nat]
              refine sloadF ?_
              simp only [pu', p0', c1', c0', i1', z0', b8_nat]
              refine sconv ?_
              simp only [pu', p0', c1', c0', i1', z0', b8_nat]
              refine sshl1 ?_
              simp only [pu', p0', c1', c0', i1', z0', b8_nat]
              refine sGe (fun hb => ?_) (fun hb => ?_)
              replace hb := dT' hb
              (exfalso; omega)
              replace hb := dF' hb
              simp only [pu', p0', c1', c0', i1', z0', b8_nat]
              refine spickF ?_
              simp only [pu', p0', c1', c0', i1', z0', b8_nat]
              refine spickT ?_
              simp only [pu', p0', c1', c0', i1', z0', b8_nat]
              with_reducible refine s_end ?_
              with_reducible refine s_then ?_
              refine sCF ?_
              with_reducible refine s_skip ?_
              with_reducible refine s_then ?_
              with_reducible refine s_seq ?_
              with_reducible refine s_seq ?_
              with_reducible refine s_reg ?_
              refine smove ?_
              simp only [pu', p0', c1', c0', i1', z0', b8_nat]
              refine sNe (fun hb => ?_) (fun hb => ?_)
              replace hb := dT' hb
              (exfalso; omega)
              replace hb := dF' hb
              simp only [pu', p0', c1', c0', i1', z0', b8_nat]
              with_reducible refine s_end ?_
              with_reducible refine s_then ?_
              refine sCF ?_
              with_reducible refine s_skip ?_
              with_reducible refine s_then ?_
              with_reducible refine s_seq ?_
              with_reducible refine s_reg ?_
              refine smove ?_
              simp only [pu', p0', c1', c0', i1', z0', b8_nat]
              refine smove ?_
              simp only [pu', p0', c1', c0', i1', z0', b8_nat]
              refine sidxE ?_
              simp only [pu', p0', c1', c0', i1', z0', b8_nat]
              refine sfadE ?_
              simp only [pu', p0', c1', c0', i1', z0', b8_nat]
              refine sloadF ?_
              simp only [pu', p0', c1', c0', i1', z0', b8_nat]
              refine smove ?_
              simp only [pu', p0', c1', c0', i1', z0', b8_nat]
              refine sadd ?_
              simp only [pu', p0', c1', c0', i1', z0', b8_nat]
              refine sassign ?_
              simp only [pu', p0', c1', c0', i1', z0', b8_nat]
              refine sassign ?_
              simp only [pu', p0', c1', c0', i1', z0', b8_nat]
              with_reducible refine s_end ?_
              with_reducible refine s_then ?_
              with_reducible refine s_ret ?_
              rotate_left 1
              replace hb := dF' hb
              exact absurd rfl hb
            all_goals
              all_goals try with_reducible refine w_n ?_
              all_goals refine w_2 rfl (by first | exact v_t (by rfl) | exact v_c1 (C1.p) (by rfl) (HA.p) (by rfl) | exact v_cF (CA.p) (by rfl) (HA.p) (by rfl)) (by first | exact v_t (by rfl) | exact v_c1 (C1.p) (by rfl) (HA.p) (by rfl) | exact v_cF (CA.p) (by rfl) (HA.p) (by rfl)) ?_
              exact ⟨rfl, S1⟩
  · rw [if_neg he]
    generalize chkQ t = e at *
    refine acalls_of_wk hm Try.func25 rfl ?_
    simp only [Try.ntmps25, List.length_cons, List.length_nil, Nat.reduceAdd, Nat.reduceSub, List.reduceReplicate, List.cons_append, List.nil_append]
    show wk _ _ none _ _ ⟨_, []⟩ _
    focus
      with_reducible refine s_seq ?_
      with_reducible refine s_reg ?_
      refine sassign ?_
      simp only [pu', p0', c1', c0', i1', z0', b8_nat]
      refine sassign ?_
      simp only [pu', p0', c1', c0', i1', z0', b8_nat]
      with_reducible refine s_end ?_
      with_reducible refine s_then ?_
      with_reducible refine s_seq ?_
      with_reducible refine s_reg ?_
      refine smove ?_
      simp only [pu', p0', c1', c0', i1', z0', b8_nat]
      refine sC (hx := rfl) ((c23 ()).mono ?_)
      rintro _ m23 _ ⟨rfl, S1⟩
      simp only [pu', p0', c1', c0', i1', n0', n3', n1', n2', a2', a1', a0', n4', Nat.reduceAdd, z0', n5', sa0, sa1, sa2, sa3, sa4, sa5, sa6, sa7, sa8, sa9, sa10, sa11]
      refine sassign ?_
      simp only [pu', p0', c1', c0', i1', z0', b8_nat]
      with_reducible refine s_end ?_
      with_reducible refine s_then ?_
      with_reducible refine s_seq ?_
      with_reducible refine s_seq ?_
      with_reducible refine s_reg ?_
      refine smove ?_
      simp only [pu', p0', c1', c0', i1', z0', b8_nat]
      refine sEq (fun hb => ?_) (fun hb => ?_)
      replace hb := dT' hb
      (exfalso; omega)
      replace hb := dF' hb
      simp only [pu', p0', c1', c0', i1', z0', b8_nat]
      refine smove ?_
      simp only [pu', p0', c1', c0', i1', z0', b8_nat]
      (with_reducible refine s_gN ?_ ?_; exact wG rfl rfl rfl rfl rfl)
      simp only [pu', p0', c1', c0', i1', z0', b8_nat]
      (with_reducible refine s_gN ?_ ?_; exact wG rfl rfl rfl rfl rfl)
      simp only [pu', p0', c1', c0', i1', z0', b8_nat]
      (with_reducible refine s_gN ?_ ?_; exact wG rfl rfl rfl rfl rfl)
      simp only [pu', p0', c1', c0', i1', z0', b8_nat]
      (with_reducible refine s_gN ?_ ?_; exact wG rfl rfl rfl rfl rfl)
      simp only [pu', p0', c1', c0', i1', z0', b8_nat]
      (with_reducible refine s_gN ?_ ?_; exact wG rfl rfl rfl rfl rfl)
      simp only [pu', p0', c1', c0', i1', z0', b8_nat]
      (with_reducible refine s_gN ?_ ?_; exact wG rfl rfl rfl rfl rfl)
      simp only [pu', p0', c1', c0', i1', z0', b8_nat]
      (with_reducible refine s_gN ?_ ?_; exact wG rfl rfl rfl rfl rfl)
      simp only [pu', p0', c1', c0', i1', z0', b8_nat]
      (with_reducible refine s_gN ?_ ?_; exact wG rfl rfl rfl rfl rfl)
      simp only [pu', p0', c1', c0', i1', z0', b8_nat]
      (with_reducible refine s_gN ?_ ?_; exact wG rfl rfl rfl rfl rfl)
      simp only [pu', p0', c1', c0', i1', z0', b8_nat]
      (with_reducible refine s_gN ?_ ?_; exact wG rfl rfl rfl rfl rfl)
      simp only [pu', p0', c1', c0', i1', z0', b8_nat]
      (with_reducible refine s_gN ?_ ?_; exact wG rfl rfl rfl rfl rfl)
      simp only [pu', p0', c1', c0', i1', z0', b8_nat]
      (with_reducible refine s_gN ?_ ?_; exact wG rfl rfl rfl rfl rfl)
      simp only [pu', p0', c1', c0', i1', z0', b8_nat]
      (with_reducible refine s_gN ?_ ?_; exact wG rfl rfl rfl rfl rfl)
      simp only [pu', p0', c1', c0', i1', z0', b8_nat]
      (with_reducible refine s_gN ?_ ?_; exact wG rfl rfl rfl rfl rfl)
      simp only [pu', p0', c1', c0', i1', z0', b8_nat]
      (with_reducible refine s_gN ?_ ?_; exact wG rfl rfl rfl rfl rfl)
      simp only [pu', p0', c1', c0', i1', z0', b8_nat]
      (with_reducible refine s_gN ?_ ?_; exact wG rfl rfl rfl rfl rfl)
      simp only [pu', p0', c1', c0', i1', z0', b8_nat]
      (with_reducible refine s_gN ?_ ?_; exact wG rfl rfl rfl rfl rfl)
      simp only [pu', p0', c1', c0', i1', z0', b8_nat]
      (with_reducible refine s_gN ?_ ?_; exact wG rfl rfl rfl rfl rfl)
      simp only [pu', p0', c1', c0', i1', z0', b8_nat]
      (with_reducible refine s_gN ?_ ?_; exact wG rfl rfl rfl rfl rfl)
      simp only [pu', p0', c1', c0', i1', z0', b8_nat]
      (with_reducible refine s_gN ?_ ?_; exact wG rfl rfl rfl rfl rfl)
      simp only [pu', p0', c1', c0', i1', z0', b8_nat]
      (with_reducible refine s_gN ?_ ?_; exact wG rfl rfl rfl rfl rfl)
      simp only [pu', p0', c1', c0', i1', z0', b8_nat]
      (with_reducible refine s_gN ?_ ?_; exact wG rfl rfl rfl rfl rfl)
      simp only [pu', p0', c1', c0', i1', z0', b8_nat]
      (with_reducible refine s_gN ?_ ?_; exact wG rfl rfl rfl rfl rfl)
      simp only [pu', p0', c1', c0', i1', z0', b8_nat]
      refine spickF ?_
      simp only [pu', p0', c1', c0', i1', z0', b8_nat]
      with_reducible refine s_end ?_
      with_reducible refine s_then ?_
      refine sCF ?_
      with_reducible refine s_skip ?_
      with_reducible refine s_then ?_
      with_reducible refine s_seq ?_
      with_reducible refine s_seq ?_
      with_reducible refine s_reg ?_
      refine smove ?_
      simp only [pu', p0', c1', c0', i1', z0', b8_nat]
      refine sNe (fun hb => ?_) (fun hb => ?_)
      replace hb := dT' hb
      simp only [pu', p0', c1', c0', i1', z0', b8_nat]
      with_reducible refine s_end ?_
      with_reducible refine s_then ?_
      refine sCT ?_
      with_reducible refine s_seq ?_
      with_reducible refine s_reg ?_
      refine smove ?_
      simp only [pu', p0', c1', c0', i1', z0', b8_nat]
      refine sassign ?_
      simp only [pu', p0', c1', c0', i1', z0', b8_nat]
      refine sassign ?_
      simp only [pu', p0', c1', c0', i1', z0', b8_nat]
      with_reducible refine s_end ?_
      with_reducible refine s_then ?_
      with_reducible refine s_ret ?_
      with_reducible refine s_thenR ?_
      rotate_left 1
      replace hb := dF' hb
      exact absurd (by with_reducible assumption) hb
    all_goals
      all_goals try with_reducible refine w_n ?_
      all_goals refine w_2 rfl (by first | exact v_t (by rfl) | exact v_c1 (C1.p) (by rfl) (HA.p) (by rfl) | exact v_cF (CA.p) (by rfl) (HA.p) (by rfl)) (by first | exact v_t (by rfl) | exact v_c1 (C1.p) (by rfl) (HA.p) (by rfl) | exact v_cF (CA.p) (by rfl) (HA.p) (by rfl)) ?_
      exact ⟨rfl, S1⟩
end Go.Proofs.Ytgbddbiimffplaa
