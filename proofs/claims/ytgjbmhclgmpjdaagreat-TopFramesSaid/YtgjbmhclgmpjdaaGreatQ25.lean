/-
  A part of the proof of a statement of a chapter's seat; conditions: stated at each theorem.
-/
import Derived.Test.YtgjbmhclgmpjdaaGreatQ24
set_option linter.unusedVariables false
set_option linter.unusedSectionVars false
set_option linter.unusedSimpArgs false
set_option linter.unusedVariables false
set_option maxRecDepth 100000
set_option maxHeartbeats 8000000
namespace Go.Proofs.YtgjbmhclgmpjdaaGreat
open Go.Az Go
/-! ### What is read at an offset -/
section
variable {l : List UInt8} {x m z : Int} {bs : List Bk} (hl : (l.length : Int) ≤ 1048576) (m0 : 0 ≤ m) (m1 : m ≤ 1048576)
include hl m0 m1
theorem rd_ok (hf : FrAt l x bs z) (hb : beg (l.drop x.toNat) ≠ 1) (hm1 : (flat bs).length ≤ m) : Rd l x m (flat bs) z 0 0 :=
  ⟨64, 46, inferInstance, which2_any l x hf.1 (by have := hf.2.1; omega) hl hb, row_64, dread_any l x m _ _ _ _ (frame_ok l x m z bs hl m0 m1 hf hm1)⟩
theorem rd_no (hf : FrAt l x bs z) (hb : beg (l.drop x.toNat) ≠ 1) (hm1 : m < (flat bs).length) : Rd l x m [] 0 18 (limAt m (x + 6) 0 bs) :=
  ⟨64, 46, inferInstance, which2_any l x hf.1 (by have := hf.2.1; omega) hl hb, row_64, dread_any l x m _ _ _ _ (frame_no l x m z bs hl m0 m1 hf hm1)⟩
theorem rd_skip (h0 : 0 ≤ x) (h1 : x ≤ l.length) (hb : beg (l.drop x.toNat) = 1) (he : (nxt l x).e = 0) : Rd l x m [] (nxt l x).x 0 0 :=
  ⟨63, 43, inferInstance, which1_any l x h0 h1 hl hb, row_63, sread_any l x h0 h1 hl m he⟩
end
/-! ### Frames that are known -/
abbrev kn : List UInt8 := [40, 181, 47, 253, 0, 0, 16, 0, 0, 97, 98, 27, 0, 0, 99]
abbrev kb : List Bk := [⟨2, 0, [97, 98]⟩, ⟨3, 1, [99, 99, 99]⟩]
theorem kn_fr : FrAt kn 0 kb 15 := by
  refine ⟨by decide, by decide, rfl, rfl, rfl, 11, ⟨by decide, by decide, rfl, rfl, by decide, .inl ⟨rfl, rfl, rfl⟩⟩, ⟨by decide, by decide, rfl, rfl, by decide, .inr ⟨rfl, rfl, rfl⟩⟩⟩
theorem kn_beg : beg (kn.drop (0 : Int).toNat) ≠ 1 := by
  rw [show kn.drop (0 : Int).toNat = kn from rfl, bg_2 (by decide) (by rfl)]
  decide
theorem dec1 : ACalls Tryz.prog 7 [St kn, I 5] [] (fun r _ => r = .tup [St [97, 98, 99, 99, 99], .agg [I 0, I 0]] ∧ r.sc 0 = true) :=
  decode_ok kn _ 5 (by decide) (by decide) (by decide) (.step (q := flat kb) (r := []) (z := 15) (by decide) (rd_ok (by decide) (by decide) (by decide) kn_fr kn_beg (by decide)) (by decide) (by decide) (by decide) (.done (by decide)))
theorem dec2 : ACalls Tryz.prog 7 [St kn, I 4] [] (fun r _ => r = .tup [St [], .agg [I 18, I (limAt 4 (0 + 6) 0 kb)]] ∧ r.sc 0 = true) :=
  decode_no kn [] 4 18 _ (by decide) (by decide) (by decide) (by decide) (.bad (by decide) (rd_no (by decide) (by decide) (by decide) kn_fr kn_beg (by decide)) (by decide))
abbrev abc : List UInt8 := [97, 98, 99, 100]
theorem abc_fr : ACalls Tryz.prog 47 [St abc, I 0, I 9] [] (fun r _ => r = .tup [St [], I 0, .agg [I 14, I 0]] ∧ r.sc 0 = true) :=
  (run_acalls (n := 30000) (Γ := fun _ _ => none) hm (known_none _) (r := .tup [St [], I 0, .agg [I 14, I 0]]) (h' := []) (by kernel_rfl)).mono fun r h' _ hh => ⟨hh.1, by rw [hh.1]; rfl⟩
theorem abc_beg : beg (abc.drop (0 : Int).toNat) ≠ 1 := by
  rw [show abc.drop (0 : Int).toNat = abc from rfl, bg_4 (by decide) (by decide) (by decide)]
  decide
theorem dec3 : ACalls Tryz.prog 7 [St abc, I 9] [] (fun r _ => r = .tup [St [], .agg [I 14, I 0]] ∧ r.sc 0 = true) :=
  decode_no abc [] 9 14 0 (by decide) (by decide) (by decide) (by decide) (.bad (by decide) ⟨64, 46, inferInstance, which2_any abc 0 (by decide) (by decide) (by decide) abc_beg, row_64, dread_any abc 0 9 _ _ _ _ abc_fr⟩ (by decide))
theorem decodes_any : ACalls Tryz.prog 9 [] [] (fun r _ => r = B true ∧ r.sc 0 = true) := by
  refine acalls_of_wk hm Tryz.func9 rfl ?_
  simp only [Tryz.ntmps9, List.length_cons, List.length_nil, Nat.reduceAdd, Nat.reduceSub, List.reduceReplicate, List.cons_append, List.nil_append]
  show wk _ _ none _ _ ⟨_, []⟩ _
  focus
    with_reducible refine s_seq ?_
    with_reducible refine s_reg ?_
    refine sassign ?_
    simp only [pu', p0', c1', c0', i1', z0', b8_nat]
    with_reducible refine s_end ?_
    with_reducible refine s_then ?_
    with_reducible refine s_seq ?_
    with_reducible refine s_reg ?_
    refine sK (hx := rfl) (dec1) ?_
    simp only [pu', p0', c1', c0', i1', z0', b8_nat]
    refine smove ?_
    simp only [pu', p0', c1', c0', i1', z0', b8_nat]
    refine sext ?_
    simp only [pu', p0', c1', c0', i1', z0', b8_nat]
    refine sext ?_
    simp only [pu', p0', c1', c0', i1', z0', b8_nat]
    refine salloc ?_
    simp only [pu', p0', c1', c0', i1', n0', n3', n1', n2', a2', a1', a0', n4', Nat.reduceAdd, z0', n5', sa0, sa1, sa2, sa3, sa4, sa5, sa6, sa7, sa8, sa9, sa10, sa11]
    refine sassign ?_
    simp only [pu', p0', c1', c0', i1', z0', b8_nat]
    refine sstoreF ?_
    simp only [pu', p0', c1', c0', i1', n0', n3', n1', n2', a2', a1', a0', n4', Nat.reduceAdd, z0', n5', sa0, sa1, sa2, sa3, sa4, sa5, sa6, sa7, sa8, sa9, sa10, sa11]
    with_reducible refine s_end ?_
    with_reducible refine s_then ?_
    with_reducible refine s_seq ?_
    with_reducible refine s_reg ?_
    refine sK (hx := rfl) (dec2) ?_
    simp only [pu', p0', c1', c0', i1', z0', b8_nat]
    refine smove ?_
    simp only [pu', p0', c1', c0', i1', z0', b8_nat]
    refine sext ?_
    simp only [pu', p0', c1', c0', i1', z0', b8_nat]
    refine sext ?_
    simp only [pu', p0', c1', c0', i1', z0', b8_nat]
    refine salloc ?_
    simp only [pu', p0', c1', c0', i1', n0', n3', n1', n2', a2', a1', a0', n4', Nat.reduceAdd, z0', n5', sa0, sa1, sa2, sa3, sa4, sa5, sa6, sa7, sa8, sa9, sa10, sa11]
    refine sassign ?_
    simp only [pu', p0', c1', c0', i1', z0', b8_nat]
    refine sstoreF ?_
    simp only [pu', p0', c1', c0', i1', n0', n3', n1', n2', a2', a1', a0', n4', Nat.reduceAdd, z0', n5', sa0, sa1, sa2, sa3, sa4, sa5, sa6, sa7, sa8, sa9, sa10, sa11]
    with_reducible refine s_end ?_
    with_reducible refine s_then ?_
    with_reducible refine s_seq ?_
    with_reducible refine s_reg ?_
    refine sK (hx := rfl) (dec3) ?_
    simp only [pu', p0', c1', c0', i1', z0', b8_nat]
    refine smove ?_
    simp only [pu', p0', c1', c0', i1', z0', b8_nat]
    refine sext ?_
    simp only [pu', p0', c1', c0', i1', z0', b8_nat]
    refine sext ?_
    simp only [pu', p0', c1', c0', i1', z0', b8_nat]
    refine salloc ?_
    simp only [pu', p0', c1', c0', i1', n0', n3', n1', n2', a2', a1', a0', n4', Nat.reduceAdd, z0', n5', sa0, sa1, sa2, sa3, sa4, sa5, sa6, sa7, sa8, sa9, sa10, sa11]
    refine sassign ?_
    simp only [pu', p0', c1', c0', i1', z0', b8_nat]
    refine sstoreF ?_
    simp only [pu', p0', c1', c0', i1', n0', n3', n1', n2', a2', a1', a0', n4', Nat.reduceAdd, z0', n5', sa0, sa1, sa2, sa3, sa4, sa5, sa6, sa7, sa8, sa9, sa10, sa11]
    with_reducible refine s_end ?_
    with_reducible refine s_then ?_
    with_reducible refine s_seq ?_
    with_reducible refine s_reg ?_
    refine smove ?_
    simp only [pu', p0', c1', c0', i1', z0', b8_nat]
    refine seqS (fun hb => ?_) (fun hb => ?_)
    replace hb := dT' hb
    simp only [pu', p0', c1', c0', i1', z0', b8_nat]
    refine smove ?_
    simp only [pu', p0', c1', c0', i1', z0', b8_nat]
    refine sloadW ?_
    simp only [pu', p0', c1', c0', i1', z0', b8_nat]
    refine sbuild ?_
    simp only [pu', p0', c1', c0', i1', z0', b8_nat]
    refine sbn (fun hb => ?_) (fun hb => ?_)
    simp only [decide_eq_true_eq, Int.toNat_natCast, decide_eq_false_iff_not, Bool.not_eq_true', Bool.not_eq_false', not_true_eq_false, not_false_eq_true, beq_self_eq_true, Bool.and_true, Bool.true_and, Bool.and_false, Bool.false_and, Bool.and_eq_true, Bool.and_eq_false_iff, beq_iff_eq, beq_eq_false_iff_ne, ne_eq, Bool.not_true, Bool.not_false, Bool.true_eq_false, Bool.false_eq_true, Bool.not_eq_true, Bool.not_eq_false, and_true, true_and, and_false, false_and, or_false, false_or, or_true, true_or] at hb
    simp only [pu', p0', c1', c0', i1', z0', b8_nat]
    refine spickT ?_
    simp only [pu', p0', c1', c0', i1', z0', b8_nat]
    refine smove ?_
    simp only [pu', p0', c1', c0', i1', z0', b8_nat]
    refine sfad ?_
    simp only [pu', p0', c1', c0', i1', z0', b8_nat]
    refine sload1 ?_
    simp only [pu', p0', c1', c0', i1', z0', b8_nat]
    refine sEq (fun hb => ?_) (fun hb => ?_)
    replace hb := dT' hb
    simp only [pu', p0', c1', c0', i1', z0', b8_nat]
    refine spickT ?_
    simp only [pu', p0', c1', c0', i1', z0', b8_nat]
    refine smove ?_
    simp only [pu', p0', c1', c0', i1', z0', b8_nat]
    refine sloadW ?_
    simp only [pu', p0', c1', c0', i1', z0', b8_nat]
    refine sbuild ?_
    simp only [pu', p0', c1', c0', i1', z0', b8_nat]
    refine sbn (fun hb => ?_) (fun hb => ?_)
    simp only [decide_eq_true_eq, Int.toNat_natCast, decide_eq_false_iff_not, Bool.not_eq_true', Bool.not_eq_false', not_true_eq_false, not_false_eq_true, beq_self_eq_true, Bool.and_true, Bool.true_and, Bool.and_false, Bool.false_and, Bool.and_eq_true, Bool.and_eq_false_iff, beq_iff_eq, beq_eq_false_iff_ne, ne_eq, Bool.not_true, Bool.not_false, Bool.true_eq_false, Bool.false_eq_true, Bool.not_eq_true, Bool.not_eq_false, and_true, true_and, and_false, false_and, or_false, false_or, or_true, true_or] at hb
    simp only [pu', p0', c1', c0', i1', z0', b8_nat]
    refine spickT ?_
    simp only [pu', p0', c1', c0', i1', z0', b8_nat]
    refine sassign ?_
    simp only [pu', p0', c1', c0', i1', z0', b8_nat]
    with_reducible refine s_end ?_
    with_reducible refine s_then ?_
    with_reducible refine s_ret ?_
    rotate_left 1
    simp only [decide_eq_true_eq, Int.toNat_natCast, decide_eq_false_iff_not, Bool.not_eq_true', Bool.not_eq_false', not_true_eq_false, not_false_eq_true, beq_self_eq_true, Bool.and_true, Bool.true_and, Bool.and_false, Bool.false_and, Bool.and_eq_true, Bool.and_eq_false_iff, beq_iff_eq, beq_eq_false_iff_ne, ne_eq, Bool.not_true, Bool.not_false, Bool.true_eq_false, Bool.false_eq_true, Bool.not_eq_true, Bool.not_eq_false, and_true, true_and, and_false, false_and, or_false, false_or, or_true, true_or] at hb
    replace hb := dF' hb
    exact absurd rfl hb
    simp only [decide_eq_true_eq, Int.toNat_natCast, decide_eq_false_iff_not, Bool.not_eq_true', Bool.not_eq_false', not_true_eq_false, not_false_eq_true, beq_self_eq_true, Bool.and_true, Bool.true_and, Bool.and_false, Bool.false_and, Bool.and_eq_true, Bool.and_eq_false_iff, beq_iff_eq, beq_eq_false_iff_ne, ne_eq, Bool.not_true, Bool.not_false, Bool.true_eq_false, Bool.false_eq_true, Bool.not_eq_true, Bool.not_eq_false, and_true, true_and, and_false, false_and, or_false, false_or, or_true, true_or] at hb
    replace hb := dF' hb
    exact absurd rfl hb
  all_goals try with_reducible refine w_n ?_
  all_goals refine w_1 rfl (by first | exact v_t (by rfl) | exact v_c1 (C1.p) (by rfl) (HA.p) (by rfl) | exact v_cF (CA.p) (by rfl) (HA.p) (by rfl)) ?_
  all_goals exact ⟨rfl, rfl⟩
end Go.Proofs.YtgjbmhclgmpjdaaGreat
