/-
  A part of the proof of a statement of a chapter's seat; conditions: stated at each theorem.
-/
import Derived.Test.YtckljanplahbkaaM15
set_option linter.unusedVariables false
set_option linter.unusedSectionVars false
set_option linter.unusedSimpArgs false
set_option linter.unusedVariables false
set_option maxRecDepth 100000
set_option maxHeartbeats 8000000
namespace Go.Proofs.Ytckljanplahbkaa
open Go.Az Go
theorem bs_22_2 (a b : Int) : bslC Try.prog 22 2 [(0, I a), (1, I b)] = some (3, [I a, I b]) := by kernel_rfl
theorem bs_22_3 (a b c : Int) : bslC Try.prog 22 3 [(0, I a), (1, I b), (2, I c)] = some (3, [I a, I b, I c]) := by kernel_rfl
theorem bs_22_4 (a b c d : Int) : bslC Try.prog 22 4 [(0, I a), (1, I b), (2, I c), (3, I d)] = some (3, [I a, I b, I c, I d]) := by kernel_rfl
instance (a b : Int) : BS Try.prog 22 2 [(0, I a), (1, I b)] 3 [I a, I b] := ⟨bs_22_2 a b⟩
instance (a b c : Int) : BS Try.prog 22 3 [(0, I a), (1, I b), (2, I c)] 3 [I a, I b, I c] := ⟨bs_22_3 a b c⟩
instance (a b c d : Int) : BS Try.prog 22 4 [(0, I a), (1, I b), (2, I c), (3, I d)] 3 [I a, I b, I c, I d] := ⟨bs_22_4 a b c d⟩
theorem cut_lit {X : Hp} {i : Nat} {l : List Int} (h : TI X (.sl i 0 l.length l.length false) l) : Cut3 X (.sl i 0 l.length l.length false) l := by
  refine ⟨i, 0, fun f a b c h1 h2 h3 => ?_, h⟩
  obtain ⟨hu, inf, hinf, hsz⟩ := sliOf_spec sl_22
  simp [exL, h1, h2, h3, slc, hu, hinf, bnds, bnd, intOf?, cutAt]
theorem imp_any (h : Hp) (s : AV) (l : List Int) (w m : Int) (hS : TI h s l) (he : impE l = 0) (hw : impW l = w) (hm' : impM l = m) : ACalls Try.prog 29 [I w, I m, s] h (fun r h' => r = B true ∧ h' = h) := by
  have c := Implied_any h s l hS
  rw [he, hw, hm'] at c
  refine acalls_of_wk hm Try.func29 rfl ?_
  simp only [Try.ntmps29, List.length_cons, List.length_nil, Nat.reduceAdd, Nat.reduceSub, List.reduceReplicate, List.cons_append, List.nil_append]
  show wk _ _ none _ _ ⟨_, []⟩ _
  focus
    with_reducible refine s_seq ?_
    with_reducible refine s_reg ?_
    refine sassign ?_
    simp only [pu', p0', c1', c0', i1', z0', b8_nat]
    with_reducible refine s_end ?_
    with_reducible refine s_then ?_
    with_reducible refine s_seq ?_
    with_reducible refine s_reg ?_
    refine smove ?_
    simp only [pu', p0', c1', c0', i1', z0', b8_nat]
    refine sM (hx := rfl) (c) ?_
    simp only [pu', p0', c1', c0', i1', z0', b8_nat]
    refine smove ?_
    simp only [pu', p0', c1', c0', i1', z0', b8_nat]
    refine sext ?_
    simp only [pu', p0', c1', c0', i1', z0', b8_nat]
    refine sext ?_
    simp only [pu', p0', c1', c0', i1', z0', b8_nat]
    refine sext ?_
    simp only [pu', p0', c1', c0', i1', z0', b8_nat]
    refine sassign ?_
    simp only [pu', p0', c1', c0', i1', z0', b8_nat]
    refine sassign ?_
    simp only [pu', p0', c1', c0', i1', z0', b8_nat]
    refine sassign ?_
    simp only [pu', p0', c1', c0', i1', z0', b8_nat]
    with_reducible refine s_end ?_
    with_reducible refine s_then ?_
    with_reducible refine s_seq ?_
    with_reducible refine s_reg ?_
    refine smove ?_
    simp only [pu', p0', c1', c0', i1', z0', b8_nat]
    refine sEq (fun hb => ?_) (fun hb => ?_)
    replace hb := dT' hb
    simp only [pu', p0', c1', c0', i1', z0', b8_nat]
    refine smove ?_
    simp only [pu', p0', c1', c0', i1', z0', b8_nat]
    refine smove ?_
    simp only [pu', p0', c1', c0', i1', z0', b8_nat]
    refine smove ?_
    simp only [pu', p0', c1', c0', i1', z0', b8_nat]
    refine sEq (fun hb => ?_) (fun hb => ?_)
    replace hb := dT' hb
    simp only [pu', p0', c1', c0', i1', z0', b8_nat]
    refine spickT ?_
    simp only [pu', p0', c1', c0', i1', z0', b8_nat]
    refine smove ?_
    simp only [pu', p0', c1', c0', i1', z0', b8_nat]
    refine smove ?_
    simp only [pu', p0', c1', c0', i1', z0', b8_nat]
    refine smove ?_
    simp only [pu', p0', c1', c0', i1', z0', b8_nat]
    refine sEq (fun hb => ?_) (fun hb => ?_)
    replace hb := dT' hb
    simp only [pu', p0', c1', c0', i1', z0', b8_nat]
    refine spickT ?_
    simp only [pu', p0', c1', c0', i1', z0', b8_nat]
    refine sassign ?_
    simp only [pu', p0', c1', c0', i1', z0', b8_nat]
    with_reducible refine s_end ?_
    with_reducible refine s_then ?_
    with_reducible refine s_ret ?_
    rotate_left 1
    replace hb := dF' hb
    exact absurd rfl hb
    replace hb := dF' hb
    exact absurd rfl hb
    replace hb := dF' hb
    exact absurd rfl hb
  all_goals try with_reducible refine w_n ?_
  all_goals refine w_1 rfl (by first | exact v_t (by rfl) | exact v_c1 (C1.p) (by rfl) (HA.p) (by rfl) | exact v_cF (CA.p) (by rfl) (HA.p) (by rfl)) ?_
  all_goals exact ⟨rfl, rfl⟩
theorem k1 : chkW [1, 2, 3, 3] = 0 := by decide
theorem k2 : impE [3, 2, 1] = 0 := by decide
theorem k3 : impW [3, 2, 1] = 1 := by decide
theorem k4 : impM [3, 2, 1] = 3 := by decide
theorem k5 : impE [1] = 0 := by decide
theorem k6 : impW [1] = 1 := by decide
theorem k7 : impM [1] = 1 := by decide
theorem k8 : impE [2, 0, 0] = 0 := by decide
theorem k9 : impW [2, 0, 0] = 2 := by decide
theorem k10 : impM [2, 0, 0] = 2 := by decide
theorem k11 : impE [2, 1] = 0 := by decide
theorem k12 : impE [0] = 21 := by decide
theorem k13 : impE [12] = 2 := by decide
theorem k14 : chkW [1] = 4 := by decide
theorem k15 : chkW [1, 0] = 21 := by decide
theorem k16 : chkW [12, 1] = 2 := by decide
theorem k20 : dirR [1] = .tup [St [128, 16], I 0] := by
  rw [dirR, if_pos (by decide), show dirS [1] = [128, 16] by decide]
theorem k21 : rdD [130, 50, 16, 9] 0 = ⟨[3, 2, 1], 3, 0, 0⟩ := by
  rw [rd_6 (by decide) (by decide) (by decide) (by decide)]
  rw [show nibs [130, 50, 16, 9] (Int.toNat 0) (byt [130, 50, 16, 9] (Int.toNat 0) - 127).toNat = [3, 2, 1] by decide, show (0 : Int) + 1 + (byt [130, 50, 16, 9] (Int.toNat 0) - 127 + 1) / 2 = 3 by decide]
theorem k22 : rdD [130, 50] 0 = ⟨[], 0, 5, 2⟩ := by rw [rd_4 (by decide) (by decide) (by decide)]; rfl
theorem k23 : rdD [5] 0 = ⟨[], 0, 21, 0⟩ := by rw [rd_3 (by decide) (by decide)]
end Go.Proofs.Ytckljanplahbkaa
