/-
  A part of the proof of a statement of a chapter's seat; conditions: stated at each theorem.
-/
import Derived.Test.YtfcgmkpihmiadaaP6
set_option linter.unusedVariables false
set_option linter.unusedSectionVars false
set_option linter.unusedSimpArgs false
set_option linter.unusedVariables false
set_option maxRecDepth 100000
set_option maxHeartbeats 8000000
namespace Go.Proofs.Ytfcgmkpihmiadaa
open Go.Az Go
section
variable {H : Hp} {l : List Tk} {j d at' z : Int} {c : Nat} {u : Bool} {x1 : AObj}
/-- The memory of a pick. -/
abbrev pkH (H : Hp) (j d : Int) (x1 : AObj) (sl : AV) (l : List Tk) (at' z : Int) : Hp := H ++ [.cells [I j, I d] 53 true, x1, .cells [sl] 24 true, .cells (fl l) 68 true, .cells [I at'] 3 true, .cells [I z] 76 true]
theorem lose_any (h0 : 0 ≤ at') (h1 : at' < l.length) (ha : 0 ≤ (l.getD at'.toNat tk0).a ∧ (l.getD at'.toNat tk0).a ≤ 1099511627776) : ACalls Try.prog 60 [.ptr (H.length + 2) 0, .ptr (H.length + 4) 0, .ptr H.length 0, .ptr (H.length + 5) 0] (pkH H j d x1 (.sl (H.length + 3) 0 l.length c u) l at' z)
    (fun r h' => r = .tup [] ∧ h' = pkH H (-1) 0 x1 (.sl (H.length + 3) 0 l.length c u) (l.set at'.toNat (failT (l.getD at'.toNat tk0))) at' 4) := by
  have hn : at'.toNat < l.length := by omega
  unfold pkH
  refine acalls_of_wk hm Try.func60 rfl ?_
  simp only [Try.ntmps60, List.length_cons, List.length_nil, Nat.reduceAdd, Nat.reduceSub, List.reduceReplicate, List.cons_append, List.nil_append]
  show wk _ _ none _ _ ⟨_, []⟩ _
  with_reducible refine s_seq ?_
  with_reducible refine s_reg ?_
  refine sload1 ?_
  simp only [pu', p0', c1', c0', i1', z0', b8_nat]
  refine sload1 ?_
  simp only [pu', p0', c1', c0', i1', z0', b8_nat]
  refine sidxS ?_
  simp only [pu', p0', c1', c0', i1', z0', b8_nat]
  refine sassign ?_
  simp only [pu', p0', c1', c0', i1', z0', b8_nat]
  with_reducible refine s_end ?_
  with_reducible refine s_then ?_
  with_reducible refine s_seq ?_
  with_reducible refine s_reg ?_
  refine smove ?_
  simp only [pu', p0', c1', c0', i1', z0', b8_nat]
  refine smove ?_
  simp only [pu', p0', c1', c0', i1', z0', b8_nat]
  refine smove ?_
  simp only [pu', p0', c1', c0', i1', z0', b8_nat]
  refine snilP ?_
  simp only [pu', p0', c1', c0', i1', z0', b8_nat]
  refine sfad ?_
  simp only [pu', p0', c1', c0', i1', z0', b8_nat]
  ((with_reducible refine is_s (.load _ _) ?_); refine s_gL (by rfl) (x_load1 (by first | exact s1_3 | exact s1_4) (by exact e_any (by rfl)) (by first | with_reducible exact ga0 | with_reducible exact ga1 | with_reducible exact ga2 | with_reducible exact ga3 | with_reducible exact ga4 | with_reducible exact ga5 | with_reducible exact ga6 | with_reducible exact ga7 | with_reducible assumption | rfl) (fT hn (by rfl))) ?_; simp only [Fr.put, List.set_cons_succ, List.set_cons_zero, Int.toNat_natCast, Nat.zero_add])
  refine sadd ?_
  simp only [pu', p0', c1', c0', i1', z0', b8_nat]
  refine smin ?_
  simp only [pu', p0', c1', c0', i1', z0', b8_nat]
  refine snilP ?_
  simp only [pu', p0', c1', c0', i1', z0', b8_nat]
  refine sfad ?_
  simp only [pu', p0', c1', c0', i1', z0', b8_nat]
  ((with_reducible refine is_s (.store _ _ _) ?_); refine s_gH (by rfl) (x_store1 (by first | exact s1_3 | exact s1_4) (by exact e_any (by rfl)) (by exact e_any (by rfl)) (by rfl) (by first | with_reducible exact ga0 | with_reducible exact ga1 | with_reducible exact ga2 | with_reducible exact ga3 | with_reducible exact ga4 | with_reducible exact ga5 | with_reducible exact ga6 | with_reducible exact ga7 | with_reducible assumption | rfl) (by (try simp only [List.length_set]); exact gT hn (by omega))) ?_; simp only [Fr.put, List.set_cons_succ, List.set_cons_zero, Int.toNat_natCast, List.length_append, List.length_set, List.length_cons, List.length_nil, List.nil_append, List.cons_append, List.append_assoc, List.length_replicate, Nat.reduceAdd, Nat.zero_add, Nat.add_assoc, sa0, sa1, sa2, sa3, sa4, sa5, sa6, sa7, sa8, sa9, sa10, sa11])
  refine snilP ?_
  simp only [pu', p0', c1', c0', i1', z0', b8_nat]
  refine sfad ?_
  simp only [pu', p0', c1', c0', i1', z0', b8_nat]
  ((with_reducible refine is_s (.store _ _ _) ?_); refine s_gH (by rfl) (x_store1 (by first | exact s1_3 | exact s1_4) (by exact e_any (by rfl)) (by exact e_any (by rfl)) (by rfl) (by first | with_reducible exact ga0 | with_reducible exact ga1 | with_reducible exact ga2 | with_reducible exact ga3 | with_reducible exact ga4 | with_reducible exact ga5 | with_reducible exact ga6 | with_reducible exact ga7 | with_reducible assumption | rfl) (by (try simp only [List.length_set]); exact gT hn (by omega))) ?_; simp only [Fr.put, List.set_cons_succ, List.set_cons_zero, Int.toNat_natCast, List.length_append, List.length_set, List.length_cons, List.length_nil, List.nil_append, List.cons_append, List.append_assoc, List.length_replicate, Nat.reduceAdd, Nat.zero_add, Nat.add_assoc, sa0, sa1, sa2, sa3, sa4, sa5, sa6, sa7, sa8, sa9, sa10, sa11])
  with_reducible refine s_end ?_
  with_reducible refine s_then ?_
  with_reducible refine s_reg ?_
  refine sK (hx := rfl) (idle_any) ?_
  simp only [pu', p0', c1', c0', i1', z0', b8_nat]
  refine sstoreF ?_
  simp only [pu', p0', c1', c0', i1', n0', n3', n1', n2', a2', a1', a0', n4', Nat.reduceAdd, z0', n5', sa0, sa1, sa2, sa3, sa4, sa5, sa6, sa7, sa8, sa9, sa10, sa11]
  refine sstore1 ?_
  simp only [pu', p0', c1', c0', i1', n0', n3', n1', n2', a2', a1', a0', n4', Nat.reduceAdd, z0', n5', sa0, sa1, sa2, sa3, sa4, sa5, sa6, sa7, sa8, sa9, sa10, sa11]
  with_reducible refine s_end ?_
  all_goals try with_reducible refine w_n ?_
  all_goals refine w_0 rfl  ?_
  refine ⟨rfl, ?_⟩
  rw [set_f hn, set_a (by rw [List.length_set]; exact hn), getD_set hn, List.set_set]
  rw [failT, show min 1099511627776 ((l.getD at'.toNat tk0).a + 1) = (if 1099511627776 < (l.getD at'.toNat tk0).a + 1 then 1099511627776 else (l.getD at'.toNat tk0).a + 1) by split <;> omega]
theorem begin_any (h0 : 0 ≤ at') (h1 : at' < l.length) : ACalls Try.prog 61 [.ptr (H.length + 2) 0, .ptr (H.length + 4) 0, .ptr H.length 0, .ptr (H.length + 5) 0] (pkH H j d x1 (.sl (H.length + 3) 0 l.length c u) l at' z)
    (fun r h' => r = .tup [] ∧ h' = pkH H at' 0 x1 (.sl (H.length + 3) 0 l.length c u) (l.set at'.toNat (beginT (l.getD at'.toNat tk0))) at' 1) := by
  have hn : at'.toNat < l.length := by omega
  unfold pkH
  refine acalls_of_wk hm Try.func61 rfl ?_
  simp only [Try.ntmps61, List.length_cons, List.length_nil, Nat.reduceAdd, Nat.reduceSub, List.reduceReplicate, List.cons_append, List.nil_append]
  show wk _ _ none _ _ ⟨_, []⟩ _
  with_reducible refine s_seq ?_
  with_reducible refine s_reg ?_
  refine sload1 ?_
  simp only [pu', p0', c1', c0', i1', z0', b8_nat]
  refine sload1 ?_
  simp only [pu', p0', c1', c0', i1', z0', b8_nat]
  refine sidxS ?_
  simp only [pu', p0', c1', c0', i1', z0', b8_nat]
  refine sfad ?_
  simp only [pu', p0', c1', c0', i1', z0', b8_nat]
  ((with_reducible refine is_s (.store _ _ _) ?_); refine s_gH (by rfl) (x_store1 (by first | exact s1_3 | exact s1_4) (by exact e_any (by rfl)) (by exact e_any (by rfl)) (by rfl) (by first | with_reducible exact ga0 | with_reducible exact ga1 | with_reducible exact ga2 | with_reducible exact ga3 | with_reducible exact ga4 | with_reducible exact ga5 | with_reducible exact ga6 | with_reducible exact ga7 | with_reducible assumption | rfl) (by (try simp only [List.length_set]); exact gT hn (by omega))) ?_; simp only [Fr.put, List.set_cons_succ, List.set_cons_zero, Int.toNat_natCast, List.length_append, List.length_set, List.length_cons, List.length_nil, List.nil_append, List.cons_append, List.append_assoc, List.length_replicate, Nat.reduceAdd, Nat.zero_add, Nat.add_assoc, sa0, sa1, sa2, sa3, sa4, sa5, sa6, sa7, sa8, sa9, sa10, sa11])
  with_reducible refine s_end ?_
  with_reducible refine s_then ?_
  with_reducible refine s_reg ?_
  refine sload1 ?_
  simp only [pu', p0', c1', c0', i1', z0', b8_nat]
  refine sbuild ?_
  simp only [pu', p0', c1', c0', i1', z0', b8_nat]
  refine sstoreF ?_
  simp only [pu', p0', c1', c0', i1', n0', n3', n1', n2', a2', a1', a0', n4', Nat.reduceAdd, z0', n5', sa0, sa1, sa2, sa3, sa4, sa5, sa6, sa7, sa8, sa9, sa10, sa11]
  refine sstore1 ?_
  simp only [pu', p0', c1', c0', i1', n0', n3', n1', n2', a2', a1', a0', n4', Nat.reduceAdd, z0', n5', sa0, sa1, sa2, sa3, sa4, sa5, sa6, sa7, sa8, sa9, sa10, sa11]
  with_reducible refine s_end ?_
  all_goals try with_reducible refine w_n ?_
  all_goals refine w_0 rfl  ?_
  refine ⟨rfl, ?_⟩
  rw [set_f hn]
  rfl
theorem step_any (h0 : 0 ≤ at') (h1 : at' < l.length) (hd : 0 ≤ d) (hd1 : d < (l.getD at'.toNat tk0).u) (hd2 : (l.getD at'.toNat tk0).u ≤ 1099511627776) : ACalls Try.prog 62 [.ptr H.length 0, .ptr (H.length + 5) 0, .ptr (H.length + 2) 0, .ptr (H.length + 4) 0] (pkH H j d x1 (.sl (H.length + 3) 0 l.length c u) l at' z)
    (fun r h' => r = .tup [] ∧ h' = if d + 1 = (l.getD at'.toNat tk0).u then pkH H (-1) 0 x1 (.sl (H.length + 3) 0 l.length c u) (l.set at'.toNat (overT (l.getD at'.toNat tk0))) at' 3 else pkH H j (d + 1) x1 (.sl (H.length + 3) 0 l.length c u) l at' 2) := by
  have hn : at'.toNat < l.length := by omega
  unfold pkH
  refine acalls_of_wk hm Try.func62 rfl ?_
  simp only [Try.ntmps62, List.length_cons, List.length_nil, Nat.reduceAdd, Nat.reduceSub, List.reduceReplicate, List.cons_append, List.nil_append]
  show wk _ _ none _ _ ⟨_, []⟩ _
  focus
    with_reducible refine s_seq ?_
    with_reducible refine s_reg ?_
    refine sfad ?_
    simp only [pu', p0', c1', c0', i1', z0', b8_nat]
    refine sload1 ?_
    simp only [pu', p0', c1', c0', i1', z0', b8_nat]
    refine sadd ?_
    simp only [pu', p0', c1', c0', i1', z0', b8_nat]
    refine sfad ?_
    simp only [pu', p0', c1', c0', i1', z0', b8_nat]
    refine sstore1 ?_
    simp only [pu', p0', c1', c0', i1', n0', n3', n1', n2', a2', a1', a0', n4', Nat.reduceAdd, z0', n5', sa0, sa1, sa2, sa3, sa4, sa5, sa6, sa7, sa8, sa9, sa10, sa11]
    with_reducible refine s_end ?_
    with_reducible refine s_then ?_
    with_reducible refine s_seq ?_
    with_reducible refine s_reg ?_
    refine sstore1 ?_
    simp only [pu', p0', c1', c0', i1', n0', n3', n1', n2', a2', a1', a0', n4', Nat.reduceAdd, z0', n5', sa0, sa1, sa2, sa3, sa4, sa5, sa6, sa7, sa8, sa9, sa10, sa11]
    with_reducible refine s_end ?_
    with_reducible refine s_then ?_
    with_reducible refine s_seq ?_
    (refine s_regQ (id := 2) [(0, true), (1, true), (2, true), (3, true), (4, true), (5, true), (6, true), (7, true)] (by kernel_rfl) (by conv => lhs; simp only [pickO, List.getElem?_cons_succ, List.getElem?_cons_zero]) ?_)
    refine qfad ?_
    simp only [pu', p0', c1', c0', i1', z0', b8_nat]
    refine qload1 ?_
    simp only [pu', p0', c1', c0', i1', z0', b8_nat]
    refine qload1 ?_
    simp only [pu', p0', c1', c0', i1', z0', b8_nat]
    refine qload1 ?_
    simp only [pu', p0', c1', c0', i1', z0', b8_nat]
    refine qidxS ?_
    simp only [pu', p0', c1', c0', i1', z0', b8_nat]
    refine qfad ?_
    simp only [pu', p0', c1', c0', i1', z0', b8_nat]
    ((with_reducible refine is_q (.load _ _) ?_); refine q_gL (by rfl) (x_load1 (by first | exact s1_3 | exact s1_4) (by exact e_any (by rfl)) (by first | with_reducible exact ga0 | with_reducible exact ga1 | with_reducible exact ga2 | with_reducible exact ga3 | with_reducible exact ga4 | with_reducible exact ga5 | with_reducible exact ga6 | with_reducible exact ga7 | with_reducible assumption | rfl) (fT hn (by rfl))) ?_; simp only [Fr.put, List.set_cons_succ, List.set_cons_zero, Int.toNat_natCast, Nat.zero_add])
    refine qEq (fun hb => ?_) (fun hb => ?_)
    replace hb := dT' hb
    simp only [pu', p0', c1', c0', i1', z0', b8_nat]
    with_reducible refine q_end ?_
    with_reducible refine s_then ?_
    refine sCT ?_
    with_reducible refine s_seq ?_
    with_reducible refine s_reg ?_
    refine sload1 ?_
    simp only [pu', p0', c1', c0', i1', z0', b8_nat]
    refine sload1 ?_
    simp only [pu', p0', c1', c0', i1', z0', b8_nat]
    refine sidxS ?_
    simp only [pu', p0', c1', c0', i1', z0', b8_nat]
    refine sfad ?_
    simp only [pu', p0', c1', c0', i1', z0', b8_nat]
    ((with_reducible refine is_s (.store _ _ _) ?_); refine s_gH (by rfl) (x_store1 (by first | exact s1_3 | exact s1_4) (by exact e_any (by rfl)) (by exact e_any (by rfl)) (by rfl) (by first | with_reducible exact ga0 | with_reducible exact ga1 | with_reducible exact ga2 | with_reducible exact ga3 | with_reducible exact ga4 | with_reducible exact ga5 | with_reducible exact ga6 | with_reducible exact ga7 | with_reducible assumption | rfl) (by (try simp only [List.length_set]); exact gT hn (by omega))) ?_; simp only [Fr.put, List.set_cons_succ, List.set_cons_zero, Int.toNat_natCast, List.length_append, List.length_set, List.length_cons, List.length_nil, List.nil_append, List.cons_append, List.append_assoc, List.length_replicate, Nat.reduceAdd, Nat.zero_add, Nat.add_assoc, sa0, sa1, sa2, sa3, sa4, sa5, sa6, sa7, sa8, sa9, sa10, sa11])
    with_reducible refine s_end ?_
    with_reducible refine s_then ?_
    with_reducible refine s_reg ?_
    refine sK (hx := rfl) (idle_any) ?_
    simp only [pu', p0', c1', c0', i1', z0', b8_nat]
    refine sstoreF ?_
    simp only [pu', p0', c1', c0', i1', n0', n3', n1', n2', a2', a1', a0', n4', Nat.reduceAdd, z0', n5', sa0, sa1, sa2, sa3, sa4, sa5, sa6, sa7, sa8, sa9, sa10, sa11]
    refine sstore1 ?_
    simp only [pu', p0', c1', c0', i1', n0', n3', n1', n2', a2', a1', a0', n4', Nat.reduceAdd, z0', n5', sa0, sa1, sa2, sa3, sa4, sa5, sa6, sa7, sa8, sa9, sa10, sa11]
    with_reducible refine s_end ?_
    rotate_left 1
    replace hb := dF' hb
    simp only [pu', p0', c1', c0', i1', z0', b8_nat]
    with_reducible refine q_end ?_
    with_reducible refine s_then ?_
    refine sCF ?_
    with_reducible refine s_skip ?_
    rotate_left 1
  all_goals (try with_reducible refine w_n ?_)
  all_goals refine w_0 rfl ⟨rfl, ?_⟩
  · rw [if_pos hb, set_o hn]
    rfl
  · rw [if_neg hb]
end
end Go.Proofs.Ytfcgmkpihmiadaa
