/-
  A part of the proof of a statement of a chapter's seat; conditions: stated at each theorem.
-/
import Derived.Test.YtgjbmhclgmpjdaaGreatQ17
set_option linter.unusedVariables false
set_option linter.unusedSectionVars false
set_option linter.unusedSimpArgs false
set_option linter.unusedVariables false
set_option maxRecDepth 100000
set_option maxHeartbeats 8000000
namespace Go.Proofs.YtgjbmhclgmpjdaaGreat
open Go.Az Go
/-! ### Which frames begin -/
abbrev eA : AV := .agg []
instance : BD Tryz.prog 63 [] eA := ⟨by kernel_rfl⟩
instance : BD Tryz.prog 64 [] eA := ⟨by kernel_rfl⟩
instance : MI Tryz.prog 63 eA (.ifc 63 eA) := ⟨by kernel_rfl⟩
instance : MI Tryz.prog 64 eA (.ifc 64 eA) := ⟨by kernel_rfl⟩
instance : CA Tryz.prog 63 0 := ⟨by kernel_rfl⟩
instance : CA Tryz.prog 64 0 := ⟨by kernel_rfl⟩
theorem row_63 : ∀ v w, (method (Tryz.prog.types.size + Made.depth) 63 v "cheesepress/decoder.read").run Tryz.prog w = .ok (43, v) w := by
  intro v w
  kernel_rfl
theorem row_64 : ∀ v w, (method (Tryz.prog.types.size + Made.depth) 64 v "cheesepress/decoder.read").run Tryz.prog w = .ok (46, v) w := by
  intro v w
  kernel_rfl
section
variable (l : List UInt8) (x : Int) (h0 : 0 ≤ x) (h1 : x ≤ l.length) (hl : (l.length : Int) ≤ 1048576)
include h0 h1 hl
theorem which1_any (hb : beg (l.drop x.toNat) = 1) : ACalls Tryz.prog 19 [St l, I x] [] (fun r _ => r = .ifc 63 eA ∧ r.sc 0 = true) := by
  have c := begins2_any l x (by omega)
  rw [if_neg (by omega), hb] at c
  refine acalls_of_wk hm Tryz.func19 rfl ?_
  simp only [Tryz.ntmps19, List.length_cons, List.length_nil, Nat.reduceAdd, Nat.reduceSub, List.reduceReplicate, List.cons_append, List.nil_append]
  show wk _ _ none _ _ ⟨_, []⟩ _
  focus
    with_reducible refine s_seq ?_
    with_reducible refine s_reg ?_
    refine sassign ?_
    simp only [pu', p0', c1', c0', i1', z0', b8_nat]
    with_reducible refine s_end ?_
    with_reducible refine s_then ?_
    with_reducible refine s_seq ?_
    with_reducible refine s_seq ?_
    with_reducible refine s_reg ?_
    refine smove ?_
    simp only [pu', p0', c1', c0', i1', z0', b8_nat]
    refine smove ?_
    simp only [pu', p0', c1', c0', i1', z0', b8_nat]
    refine sK (hx := rfl) (c) ?_
    simp only [pu', p0', c1', c0', i1', z0', b8_nat]
    refine smove ?_
    simp only [pu', p0', c1', c0', i1', z0', b8_nat]
    refine sext ?_
    simp only [pu', p0', c1', c0', i1', z0', b8_nat]
    refine sext ?_
    simp only [pu', p0', c1', c0', i1', z0', b8_nat]
    refine sassign ?_
    simp only [pu', p0', c1', c0', i1', z0', b8_nat]
    refine sassign ?_
    simp only [pu', p0', c1', c0', i1', z0', b8_nat]
    with_reducible refine s_end ?_
    with_reducible refine s_then ?_
    with_reducible refine s_seq ?_
    with_reducible refine s_reg ?_
    refine smove ?_
    simp only [pu', p0', c1', c0', i1', z0', b8_nat]
    refine sEq (fun hb => ?_) (fun hb => ?_)
    replace hb := dT' hb
    simp only [pu', p0', c1', c0', i1', z0', b8_nat]
    refine smove ?_
    simp only [pu', p0', c1', c0', i1', z0', b8_nat]
    refine smove ?_
    simp only [pu', p0', c1', c0', i1', z0', b8_nat]
    refine sEq (fun hb => ?_) (fun hb => ?_)
    replace hb := dT' hb
    simp only [pu', p0', c1', c0', i1', z0', b8_nat]
    refine spickT ?_
    simp only [pu', p0', c1', c0', i1', z0', b8_nat]
    with_reducible refine s_end ?_
    with_reducible refine s_then ?_
    refine sCT ?_
    with_reducible refine s_seq ?_
    with_reducible refine s_reg ?_
    refine sbuild ?_
    simp only [pu', p0', c1', c0', i1', z0', b8_nat]
    refine smif ?_
    simp only [pu', p0', c1', c0', i1', z0', b8_nat]
    refine sassign ?_
    simp only [pu', p0', c1', c0', i1', z0', b8_nat]
    with_reducible refine s_end ?_
    with_reducible refine s_then ?_
    with_reducible refine s_ret ?_
    with_reducible refine s_thenR ?_
    rotate_left 1
    replace hb := dF' hb
    exact absurd rfl hb
    replace hb := dF' hb
    exact absurd rfl hb
  all_goals try with_reducible refine w_n ?_
  all_goals refine w_1 rfl (by first | exact v_t (by rfl) | exact v_c1 (C1.p) (by rfl) (HA.p) (by rfl) | exact v_cF (CA.p) (by rfl) (HA.p) (by rfl)) ?_
  all_goals exact ⟨rfl, rfl⟩
theorem which2_any (hb : beg (l.drop x.toNat) ≠ 1) : ACalls Tryz.prog 19 [St l, I x] [] (fun r _ => r = .ifc 64 eA ∧ r.sc 0 = true) := by
  have c := begins2_any l x (by omega)
  rw [if_neg (by omega)] at c
  generalize beg (l.drop x.toNat) = q at *
  refine acalls_of_wk hm Tryz.func19 rfl ?_
  simp only [Tryz.ntmps19, List.length_cons, List.length_nil, Nat.reduceAdd, Nat.reduceSub, List.reduceReplicate, List.cons_append, List.nil_append]
  show wk _ _ none _ _ ⟨_, []⟩ _
  focus
    with_reducible refine s_seq ?_
    with_reducible refine s_reg ?_
    refine sassign ?_
    simp only [pu', p0', c1', c0', i1', z0', b8_nat]
    with_reducible refine s_end ?_
    with_reducible refine s_then ?_
    with_reducible refine s_seq ?_
    with_reducible refine s_seq ?_
    with_reducible refine s_reg ?_
    refine smove ?_
    simp only [pu', p0', c1', c0', i1', z0', b8_nat]
    refine smove ?_
    simp only [pu', p0', c1', c0', i1', z0', b8_nat]
    refine sK (hx := rfl) (c) ?_
    simp only [pu', p0', c1', c0', i1', z0', b8_nat]
    refine smove ?_
    simp only [pu', p0', c1', c0', i1', z0', b8_nat]
    refine sext ?_
    simp only [pu', p0', c1', c0', i1', z0', b8_nat]
    refine sext ?_
    simp only [pu', p0', c1', c0', i1', z0', b8_nat]
    refine sassign ?_
    simp only [pu', p0', c1', c0', i1', z0', b8_nat]
    refine sassign ?_
    simp only [pu', p0', c1', c0', i1', z0', b8_nat]
    with_reducible refine s_end ?_
    with_reducible refine s_then ?_
    with_reducible refine s_seq ?_
    with_reducible refine s_reg ?_
    refine smove ?_
    simp only [pu', p0', c1', c0', i1', z0', b8_nat]
    refine sEq (fun hb => ?_) (fun hb => ?_)
    replace hb := dT' hb
    simp only [pu', p0', c1', c0', i1', z0', b8_nat]
    refine smove ?_
    simp only [pu', p0', c1', c0', i1', z0', b8_nat]
    refine smove ?_
    simp only [pu', p0', c1', c0', i1', z0', b8_nat]
    refine sEq (fun hb => ?_) (fun hb => ?_)
    replace hb := dT' hb
    (exfalso; omega)
    replace hb := dF' hb
    simp only [pu', p0', c1', c0', i1', z0', b8_nat]
    refine spickT ?_
    simp only [pu', p0', c1', c0', i1', z0', b8_nat]
    with_reducible refine s_end ?_
    with_reducible refine s_then ?_
    refine sCF ?_
    with_reducible refine s_skip ?_
    with_reducible refine s_then ?_
    with_reducible refine s_seq ?_
    with_reducible refine s_reg ?_
    refine sbuild ?_
    simp only [pu', p0', c1', c0', i1', z0', b8_nat]
    refine smif ?_
    simp only [pu', p0', c1', c0', i1', z0', b8_nat]
    refine sassign ?_
    simp only [pu', p0', c1', c0', i1', z0', b8_nat]
    with_reducible refine s_end ?_
    with_reducible refine s_then ?_
    with_reducible refine s_ret ?_
    rotate_left 1
    replace hb := dF' hb
    exact absurd rfl hb
  all_goals try with_reducible refine w_n ?_
  all_goals refine w_1 rfl (by first | exact v_t (by rfl) | exact v_c1 (C1.p) (by rfl) (HA.p) (by rfl) | exact v_cF (CA.p) (by rfl) (HA.p) (by rfl)) ?_
  all_goals exact ⟨rfl, rfl⟩
theorem sread_any (m : Int) (hb : (nxt l x).e = 0) : ACalls Tryz.prog 43 [eA, St l, I x, I m] [] (fun r _ => r = .tup [St [], I (nxt l x).x, .agg [I 0, I 0]] ∧ r.sc 0 = true) := by
  have c := read_any l x (by omega)
  rw [if_neg (by omega), if_neg (by omega)] at c
  refine acalls_of_wk hm Tryz.func43 rfl ?_
  simp only [Tryz.ntmps43, List.length_cons, List.length_nil, Nat.reduceAdd, Nat.reduceSub, List.reduceReplicate, List.cons_append, List.nil_append]
  show wk _ _ none _ _ ⟨_, []⟩ _
  with_reducible refine s_seq ?_
  with_reducible refine s_reg ?_
  refine sboxA ?_
  simp only [pu', p0', c1', c0', i1', n0', n3', n1', n2', a2', a1', a0', n4', Nat.reduceAdd, z0', n5', sa0, sa1, sa2, sa3, sa4, sa5, sa6, sa7, sa8, sa9, sa10, sa11]
  refine sassign ?_
  simp only [pu', p0', c1', c0', i1', z0', b8_nat]
  refine sassign ?_
  simp only [pu', p0', c1', c0', i1', z0', b8_nat]
  refine salloc ?_
  simp only [pu', p0', c1', c0', i1', n0', n3', n1', n2', a2', a1', a0', n4', Nat.reduceAdd, z0', n5', sa0, sa1, sa2, sa3, sa4, sa5, sa6, sa7, sa8, sa9, sa10, sa11]
  with_reducible refine s_end ?_
  with_reducible refine s_then ?_
  with_reducible refine s_seq ?_
  with_reducible refine s_reg ?_
  refine smove ?_
  simp only [pu', p0', c1', c0', i1', z0', b8_nat]
  refine smove ?_
  simp only [pu', p0', c1', c0', i1', z0', b8_nat]
  refine sK (hx := rfl) (c) ?_
  simp only [pu', p0', c1', c0', i1', z0', b8_nat]
  refine smove ?_
  simp only [pu', p0', c1', c0', i1', z0', b8_nat]
  refine sext ?_
  simp only [pu', p0', c1', c0', i1', z0', b8_nat]
  refine sext ?_
  simp only [pu', p0', c1', c0', i1', z0', b8_nat]
  refine sext ?_
  simp only [pu', p0', c1', c0', i1', z0', b8_nat]
  refine sext ?_
  simp only [pu', p0', c1', c0', i1', z0', b8_nat]
  refine salloc ?_
  simp only [pu', p0', c1', c0', i1', n0', n3', n1', n2', a2', a1', a0', n4', Nat.reduceAdd, z0', n5', sa0, sa1, sa2, sa3, sa4, sa5, sa6, sa7, sa8, sa9, sa10, sa11]
  refine sassign ?_
  simp only [pu', p0', c1', c0', i1', z0', b8_nat]
  refine sassign ?_
  simp only [pu', p0', c1', c0', i1', z0', b8_nat]
  refine sassign ?_
  simp only [pu', p0', c1', c0', i1', z0', b8_nat]
  refine sstoreF ?_
  simp only [pu', p0', c1', c0', i1', n0', n3', n1', n2', a2', a1', a0', n4', Nat.reduceAdd, z0', n5', sa0, sa1, sa2, sa3, sa4, sa5, sa6, sa7, sa8, sa9, sa10, sa11]
  with_reducible refine s_end ?_
  with_reducible refine s_then ?_
  with_reducible refine s_seq ?_
  (refine s_regT (id := 2) (.light 0 (.light 1 (.light 2 (.light 3 (.alt 4 [0, 1, 2, 3] (.done) (.no)))))) [4] (by kernel_rfl) (by conv => lhs; simp only [pickT, List.getElem?_cons_succ, List.getElem?_cons_zero]) ?_)
  refine tmove ?_
  simp only [pu', p0', c1', c0', i1', z0', b8_nat]
  refine tloadW ?_
  simp only [pu', p0', c1', c0', i1', z0', b8_nat]
  refine tassign ?_
  simp only [pu', p0', c1', c0', i1', z0', b8_nat]
  refine tassign ?_
  simp only [pu', p0', c1', c0', i1', z0', b8_nat]
  refine ustoreF ?_
  simp only [pu', p0', c1', c0', i1', n0', n3', n1', n2', a2', a1', a0', n4', Nat.reduceAdd, z0', n5', sa0, sa1, sa2, sa3, sa4, sa5, sa6, sa7, sa8, sa9, sa10, sa11]
  with_reducible refine t_end ?_
  with_reducible refine s_then ?_
  with_reducible refine s_ret ?_
  all_goals try with_reducible refine w_n ?_
  all_goals refine w_3 rfl (by first | exact v_t (by rfl) | exact v_c1 (C1.p) (by rfl) (HA.p) (by rfl) | exact v_cF (CA.p) (by rfl) (HA.p) (by rfl)) (by first | exact v_t (by rfl) | exact v_c1 (C1.p) (by rfl) (HA.p) (by rfl) | exact v_cF (CA.p) (by rfl) (HA.p) (by rfl)) (by first | exact v_t (by rfl) | exact v_c1 (C1.p) (by rfl) (HA.p) (by rfl) | exact v_cF (CA.p) (by rfl) (HA.p) (by rfl)) ?_
  all_goals exact ⟨rfl, rfl⟩
end
theorem dread_any (l : List UInt8) (x m : Int) (q : List UInt8) (z e a : Int) (c : ACalls Tryz.prog 47 [St l, I x, I m] [] (fun r _ => r = .tup [St q, I z, .agg [I e, I a]] ∧ r.sc 0 = true)) : ACalls Tryz.prog 46 [eA, St l, I x, I m] [] (fun r _ => r = .tup [St q, I z, .agg [I e, I a]] ∧ r.sc 0 = true) := by
  refine acalls_of_wk hm Tryz.func46 rfl ?_
  simp only [Tryz.ntmps46, List.length_cons, List.length_nil, Nat.reduceAdd, Nat.reduceSub, List.reduceReplicate, List.cons_append, List.nil_append]
  show wk _ _ none _ _ ⟨_, []⟩ _
  with_reducible refine s_seq ?_
  with_reducible refine s_reg ?_
  refine sboxA ?_
  simp only [pu', p0', c1', c0', i1', n0', n3', n1', n2', a2', a1', a0', n4', Nat.reduceAdd, z0', n5', sa0, sa1, sa2, sa3, sa4, sa5, sa6, sa7, sa8, sa9, sa10, sa11]
  refine sassign ?_
  simp only [pu', p0', c1', c0', i1', z0', b8_nat]
  refine sassign ?_
  simp only [pu', p0', c1', c0', i1', z0', b8_nat]
  refine salloc ?_
  simp only [pu', p0', c1', c0', i1', n0', n3', n1', n2', a2', a1', a0', n4', Nat.reduceAdd, z0', n5', sa0, sa1, sa2, sa3, sa4, sa5, sa6, sa7, sa8, sa9, sa10, sa11]
  with_reducible refine s_end ?_
  with_reducible refine s_then ?_
  with_reducible refine s_seq ?_
  with_reducible refine s_reg ?_
  refine smove ?_
  simp only [pu', p0', c1', c0', i1', z0', b8_nat]
  refine smove ?_
  simp only [pu', p0', c1', c0', i1', z0', b8_nat]
  refine smove ?_
  simp only [pu', p0', c1', c0', i1', z0', b8_nat]
  refine sK (hx := rfl) (c) ?_
  simp only [pu', p0', c1', c0', i1', z0', b8_nat]
  refine sext ?_
  simp only [pu', p0', c1', c0', i1', z0', b8_nat]
  refine sext ?_
  simp only [pu', p0', c1', c0', i1', z0', b8_nat]
  refine sext ?_
  simp only [pu', p0', c1', c0', i1', z0', b8_nat]
  refine sassign ?_
  simp only [pu', p0', c1', c0', i1', z0', b8_nat]
  refine sassign ?_
  simp only [pu', p0', c1', c0', i1', z0', b8_nat]
  refine sstoreF ?_
  simp only [pu', p0', c1', c0', i1', n0', n3', n1', n2', a2', a1', a0', n4', Nat.reduceAdd, z0', n5', sa0, sa1, sa2, sa3, sa4, sa5, sa6, sa7, sa8, sa9, sa10, sa11]
  with_reducible refine s_end ?_
  with_reducible refine s_then ?_
  with_reducible refine s_ret ?_
  all_goals try with_reducible refine w_n ?_
  all_goals refine w_3 rfl (by first | exact v_t (by rfl) | exact v_c1 (C1.p) (by rfl) (HA.p) (by rfl) | exact v_cF (CA.p) (by rfl) (HA.p) (by rfl)) (by first | exact v_t (by rfl) | exact v_c1 (C1.p) (by rfl) (HA.p) (by rfl) | exact v_cF (CA.p) (by rfl) (HA.p) (by rfl)) (by first | exact v_t (by rfl) | exact v_c1 (C1.p) (by rfl) (HA.p) (by rfl) | exact v_cF (CA.p) (by rfl) (HA.p) (by rfl)) ?_
  all_goals exact ⟨rfl, rfl⟩
end Go.Proofs.YtgjbmhclgmpjdaaGreat
