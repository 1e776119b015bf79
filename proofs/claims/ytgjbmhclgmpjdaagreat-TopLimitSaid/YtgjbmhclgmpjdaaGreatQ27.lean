/-
  A part of the proof of a statement of a chapter's seat; conditions: stated at each theorem.
-/
import Derived.Test.YtgjbmhclgmpjdaaGreatQ26
set_option linter.unusedVariables false
set_option linter.unusedSectionVars false
set_option linter.unusedSimpArgs false
set_option linter.unusedVariables false
set_option maxRecDepth 100000
set_option maxHeartbeats 8000000
namespace Go.Proofs.YtgjbmhclgmpjdaaGreat
open Go.Az Go
theorem fra_len {bs : List Bk} {w s : List UInt8} (hs : s.length ≤ 200) (hf : flat bs ++ w = s) (hb : bs.length ≤ 12) : (fra bs w).length ≤ 300 := by
  have h1 := encs_len bs
  have h2 : (flat bs).length + w.length ≤ 200 := by rw [← List.length_append, hf]; exact hs
  have h3 : (encb (lastB w) 1).length = 3 + w.length := by
    unfold encb lastB
    simp only []
    rw [List.length_append, enc3_len, if_neg (by decide)]
  rw [fra]
  simp only [List.length_append, List.length_cons, List.length_nil, h3]
  omega
theorem rowX_len {α : Type} {encV : α → List Value} {wf : α → Prop} {W : World} {a : Option Addr} {len cap : Nat} {zs : List α} (h : IsRowX encV wf W a len cap zs) : ((zs.take len).length : Int) ≤ 9223372036854775807 := by
  rcases h with ⟨h1, h2, h3, h4⟩ | ⟨ad, h1, h2, h3, h4, h5, h6, h7⟩
  · rw [h4]; simp
  · rw [List.length_take]
    have : maxLen = 9223372036854775807 := by decide
    omega
theorem one_ok {bs : List Bk} {w a : List UInt8} {m : Int} (ha : a.length ≤ 200) (hb : ∀ b ∈ bs, okB b) (hf : flat bs ++ w = a) (hbl : bs.length ≤ 12) (m0 : 0 ≤ m) (m1 : m ≤ 1048576) (hle : (a.length : Int) ≤ m) :
    ACalls Tryz.prog 7 [St (fra bs w), I m] [] (fun r _ => r = .tup [St a, .agg [I 0, I 0]] ∧ r.sc 0 = true) := by
  have hfl := fra_len ha hf hbl
  have hw : w.length ≤ 200 := by rw [← hf, List.length_append] at ha; omega
  have e : [Ck.f bs w].flatMap Ck.means = a := by rw [← hf]; simp [Ck.means]
  have r := runs_of (l := fra bs w) (by omega) [.f bs w] 0 m (by omega) (by omega) m0 m1 (fun c hc => by rw [List.mem_singleton.1 hc]; exact ⟨hw, hb⟩) (by simp [Ck.bytes]) (by rw [e]; exact hle)
  rw [e] at r
  exact decode_ok (fra bs w) a m (by omega) m0 m1 r
theorem one_no {bs : List Bk} {w a : List UInt8} {m : Int} (ha : a.length ≤ 200) (hb : ∀ b ∈ bs, okB b) (hf : flat bs ++ w = a) (hbl : bs.length ≤ 12) (m0 : 0 ≤ m) (m1 : m ≤ 1048576) (hle : m < (a.length : Int)) :
    ACalls Tryz.prog 7 [St (fra bs w), I m] [] (fun r _ => r = .tup [St [], .agg [I 18, I (limAt m (0 + 6) 0 (bs ++ [lastB w]))]] ∧ r.sc 0 = true) := by
  have hfl := fra_len ha hf hbl
  have hw : w.length ≤ 200 := by rw [← hf, List.length_append] at ha; omega
  have hd : (fra bs w).drop (0 : Int).toNat = fra bs w ++ [] := by rw [List.append_nil]; rfl
  have hfr := fr_of (l := fra bs w) (x := 0) (by omega) (by omega) hw hb hd
  have h6 : 6 ≤ (fra bs w).length := by rw [fra]; simp only [List.length_append, List.length_cons]; omega
  exact decode_no (fra bs w) [] m 18 _ (by decide) (by omega) m0 m1 (.bad (by omega) (rd_no (by omega) m0 m1 hfr (by rw [hd]; exact fra_beg bs w []) (by rw [flat_last, hf]; exact hle)) (by decide))
theorem law3 (lim : Int) (h : Hp) (s1 : AV) (n1 : List Int) (s2 : AV) (n2 : List Int) (hN1 : Elts (encI .i64) 1 h s1 n1) (hN2 : Elts (encI .i64) 1 h s2 n2) (l1 : (n1.length : Int) ≤ 9223372036854775807) : ACalls Tryz.prog 3 [s1, s2, I lim] h (fun r _ => r = B true) := by
  refine acalls_of_wk hm Tryz.func3 rfl ?_
  simp only [Tryz.ntmps3, List.length_cons, List.length_nil, Nat.reduceAdd, Nat.reduceSub, List.reduceReplicate, List.cons_append, List.nil_append]
  show wk _ _ none _ _ ⟨_, []⟩ _
  with_reducible refine s_seq ?_
  with_reducible refine s_reg ?_
  refine sassign ?_
  simp only [pu', p0', c1', c0', i1', z0', b8_nat]
  with_reducible refine s_end ?_
  with_reducible refine s_then ?_
  with_reducible refine s_seq ?_
  with_reducible refine s_reg ?_
  refine smove ?_
  simp only [pu', p0', c1', c0', i1', z0', b8_nat]
  refine sC (hx := rfl) ((input_any _ _ n1 hN1 l1).mono ?_)
  rintro _ m5 _ ⟨a, rfl, ha, rfl⟩
  simp only [pu', p0', c1', c0', i1', n0', n3', n1', n2', a2', a1', a0', n4', Nat.reduceAdd, z0', n5', sa0, sa1, sa2, sa3, sa4, sa5, sa6, sa7, sa8, sa9, sa10, sa11]
  refine sassign ?_
  simp only [pu', p0', c1', c0', i1', z0', b8_nat]
  with_reducible refine s_end ?_
  with_reducible refine s_then ?_
  with_reducible refine s_seq ?_
  with_reducible refine s_reg ?_
  refine smove ?_
  simp only [pu', p0', c1', c0', i1', z0', b8_nat]
  refine smove ?_
  simp only [pu', p0', c1', c0', i1', z0', b8_nat]
  refine slenS ?_
  simp only [pu', p0', c1', c0', i1', z0', b8_nat]
  refine sadd ?_
  simp only [pu', p0', c1', c0', i1', z0', b8_nat]
  refine sK (hx := rfl) (mod_any _ _ (by omega) (by omega)) ?_
  simp only [pu', p0', c1', c0', i1', z0', b8_nat]
  refine sassign ?_
  simp only [pu', p0', c1', c0', i1', z0', b8_nat]
  with_reducible refine s_end ?_
  with_reducible refine s_then ?_
  with_reducible refine s_seq ?_
  with_reducible refine s_reg ?_
  refine smove ?_
  simp only [pu', p0', c1', c0', i1', z0', b8_nat]
  refine smove ?_
  simp only [pu', p0', c1', c0', i1', z0', b8_nat]
  refine sC (hx := rfl) ((framed_any _ _ n2 hN2 _ ha).mono ?_)
  rintro _ m8 _ ⟨⟨bs, w, rfl, hb', hf, hbl⟩, rfl⟩
  simp only [pu', p0', c1', c0', i1', n0', n3', n1', n2', a2', a1', a0', n4', Nat.reduceAdd, z0', n5', sa0, sa1, sa2, sa3, sa4, sa5, sa6, sa7, sa8, sa9, sa10, sa11]
  refine smove ?_
  simp only [pu', p0', c1', c0', i1', z0', b8_nat]
  have m0 := Int.emod_nonneg lim (show ((a.length : Int) + 2) ≠ 0 by omega)
  have m1 := Int.emod_lt_of_pos lim (show (0 : Int) < (a.length : Int) + 2 by omega)
  generalize lim % ((a.length : Int) + 2) = m at *
  by_cases hle : (a.length : Int) ≤ m
  · have c7 := one_ok ha hb' hf hbl m0 (by omega) hle
    focus
      refine sK (hx := rfl) (c7) ?_
      simp only [pu', p0', c1', c0', i1', z0', b8_nat]
      refine smove ?_
      simp only [pu', p0', c1', c0', i1', z0', b8_nat]
      refine sext ?_
      simp only [pu', p0', c1', c0', i1', z0', b8_nat]
      refine sext ?_
      simp only [pu', p0', c1', c0', i1', z0', b8_nat]
      refine salloc ?_
      simp only [pu', p0', c1', c0', i1', n0', n3', n1', n2', a2', a1', a0', n4', Nat.reduceAdd, z0', n5', sa0, sa1, sa2, sa3, sa4, sa5, sa6, sa7, sa8, sa9, sa10, sa11]
      refine sassign ?_
      simp only [pu', p0', c1', c0', i1', z0', b8_nat]
      refine sstoreF ?_
      simp only [pu', p0', c1', c0', i1', n0', n3', n1', n2', a2', a1', a0', n4', Nat.reduceAdd, z0', n5', sa0, sa1, sa2, sa3, sa4, sa5, sa6, sa7, sa8, sa9, sa10, sa11]
      with_reducible refine s_end ?_
      with_reducible refine s_then ?_
      with_reducible refine s_seq ?_
      with_reducible refine s_seq ?_
      with_reducible refine s_reg ?_
      refine smove ?_
      simp only [pu', p0', c1', c0', i1', z0', b8_nat]
      refine slenS ?_
      simp only [pu', p0', c1', c0', i1', z0', b8_nat]
      refine smove ?_
      simp only [pu', p0', c1', c0', i1', z0', b8_nat]
      refine sLe (fun hb => ?_) (fun hb => ?_)
      replace hb := dT' hb
      simp only [pu', p0', c1', c0', i1', z0', b8_nat]
      with_reducible refine s_end ?_
      with_reducible refine s_then ?_
      refine sCT ?_
      with_reducible refine s_seq ?_
      with_reducible refine s_reg ?_
      refine sloadW ?_
      simp only [pu', p0', c1', c0', i1', z0', b8_nat]
      refine sbuild ?_
      simp only [pu', p0', c1', c0', i1', z0', b8_nat]
      refine sbn (fun hb => ?_) (fun hb => ?_)
      simp only [decide_eq_true_eq, Int.toNat_natCast, decide_eq_false_iff_not, Bool.not_eq_true', Bool.not_eq_false', not_true_eq_false, not_false_eq_true, beq_self_eq_true, Bool.and_true, Bool.true_and, Bool.and_false, Bool.false_and, Bool.and_eq_true, Bool.and_eq_false_iff, beq_iff_eq, beq_eq_false_iff_ne, ne_eq, Bool.not_true, Bool.not_false, Bool.true_eq_false, Bool.false_eq_true, Bool.not_eq_true, Bool.not_eq_false, and_true, true_and, and_false, false_and, or_false, false_or, or_true, true_or] at hb
      simp only [pu', p0', c1', c0', i1', z0', b8_nat]
      refine smove ?_
      simp only [pu', p0', c1', c0', i1', z0', b8_nat]
      refine smove ?_
      simp only [pu', p0', c1', c0', i1', z0', b8_nat]
      refine smove ?_
      simp only [pu', p0', c1', c0', i1', z0', b8_nat]
      refine seqS (fun hb => ?_) (fun hb => ?_)
      replace hb := dT' hb
      simp only [pu', p0', c1', c0', i1', z0', b8_nat]
      refine spickT ?_
      simp only [pu', p0', c1', c0', i1', z0', b8_nat]
      refine smove ?_
      simp only [pu', p0', c1', c0', i1', z0', b8_nat]
      refine sK (hx := rfl) (decodes_any) ?_
      simp only [pu', p0', c1', c0', i1', z0', b8_nat]
      refine spickT ?_
      simp only [pu', p0', c1', c0', i1', z0', b8_nat]
      refine sassign ?_
      simp only [pu', p0', c1', c0', i1', z0', b8_nat]
      with_reducible refine s_end ?_
      with_reducible refine s_then ?_
      with_reducible refine s_ret ?_
      with_reducible refine s_thenR ?_
      rotate_left 1
      replace hb := dF' hb
      exact absurd rfl hb
      simp only [decide_eq_true_eq, Int.toNat_natCast, decide_eq_false_iff_not, Bool.not_eq_true', Bool.not_eq_false', not_true_eq_false, not_false_eq_true, beq_self_eq_true, Bool.and_true, Bool.true_and, Bool.and_false, Bool.false_and, Bool.and_eq_true, Bool.and_eq_false_iff, beq_iff_eq, beq_eq_false_iff_ne, ne_eq, Bool.not_true, Bool.not_false, Bool.true_eq_false, Bool.false_eq_true, Bool.not_eq_true, Bool.not_eq_false, and_true, true_and, and_false, false_and, or_false, false_or, or_true, true_or] at hb
      replace hb := dF' hb
      exact absurd (by with_reducible assumption) hb
    all_goals try with_reducible refine w_n ?_
    all_goals refine w_1 rfl (by first | exact v_t (by rfl) | exact v_c1 (C1.p) (by rfl) (HA.p) (by rfl) | exact v_cF (CA.p) (by rfl) (HA.p) (by rfl)) ?_
    all_goals rfl
  · have c7 := one_no ha hb' hf hbl m0 (by omega) (by omega)
    generalize limAt m (0 + 6) 0 (bs ++ [lastB w]) = y at *
    focus
      refine sK (hx := rfl) (c7) ?_
      simp only [pu', p0', c1', c0', i1', z0', b8_nat]
      refine smove ?_
      simp only [pu', p0', c1', c0', i1', z0', b8_nat]
      refine sext ?_
      simp only [pu', p0', c1', c0', i1', z0', b8_nat]
      refine sext ?_
      simp only [pu', p0', c1', c0', i1', z0', b8_nat]
      refine salloc ?_
      simp only [pu', p0', c1', c0', i1', n0', n3', n1', n2', a2', a1', a0', n4', Nat.reduceAdd, z0', n5', sa0, sa1, sa2, sa3, sa4, sa5, sa6, sa7, sa8, sa9, sa10, sa11]
      refine sassign ?_
      simp only [pu', p0', c1', c0', i1', z0', b8_nat]
      refine sstoreF ?_
      simp only [pu', p0', c1', c0', i1', n0', n3', n1', n2', a2', a1', a0', n4', Nat.reduceAdd, z0', n5', sa0, sa1, sa2, sa3, sa4, sa5, sa6, sa7, sa8, sa9, sa10, sa11]
      with_reducible refine s_end ?_
      with_reducible refine s_then ?_
      with_reducible refine s_seq ?_
      with_reducible refine s_seq ?_
      with_reducible refine s_reg ?_
      refine smove ?_
      simp only [pu', p0', c1', c0', i1', z0', b8_nat]
      refine slenS ?_
      simp only [pu', p0', c1', c0', i1', z0', b8_nat]
      refine smove ?_
      simp only [pu', p0', c1', c0', i1', z0', b8_nat]
      refine sLe (fun hb => ?_) (fun hb => ?_)
      replace hb := dT' hb
      (exfalso; omega)
      replace hb := dF' hb
      simp only [pu', p0', c1', c0', i1', z0', b8_nat]
      with_reducible refine s_end ?_
      with_reducible refine s_then ?_
      refine sCF ?_
      with_reducible refine s_skip ?_
      with_reducible refine s_then ?_
      with_reducible refine s_seq ?_
      with_reducible refine s_reg ?_
      refine sfad ?_
      simp only [pu', p0', c1', c0', i1', z0', b8_nat]
      refine sload1 ?_
      simp only [pu', p0', c1', c0', i1', z0', b8_nat]
      refine sEq (fun hb => ?_) (fun hb => ?_)
      replace hb := dT' hb
      simp only [pu', p0', c1', c0', i1', z0', b8_nat]
      refine smove ?_
      simp only [pu', p0', c1', c0', i1', z0', b8_nat]
      refine smove ?_
      simp only [pu', p0', c1', c0', i1', z0', b8_nat]
      refine seqS (fun hb => ?_) (fun hb => ?_)
      replace hb := dT' hb
      simp only [pu', p0', c1', c0', i1', z0', b8_nat]
      refine spickT ?_
      simp only [pu', p0', c1', c0', i1', z0', b8_nat]
      refine smove ?_
      simp only [pu', p0', c1', c0', i1', z0', b8_nat]
      refine sK (hx := rfl) (decodes_any) ?_
      simp only [pu', p0', c1', c0', i1', z0', b8_nat]
      refine spickT ?_
      simp only [pu', p0', c1', c0', i1', z0', b8_nat]
      refine sassign ?_
      simp only [pu', p0', c1', c0', i1', z0', b8_nat]
      with_reducible refine s_end ?_
      with_reducible refine s_then ?_
      with_reducible refine s_ret ?_
      rotate_left 1
      replace hb := dF' hb
      exact absurd rfl hb
      replace hb := dF' hb
      exact absurd rfl hb
    all_goals try with_reducible refine w_n ?_
    all_goals refine w_1 rfl (by first | exact v_t (by rfl) | exact v_c1 (C1.p) (by rfl) (HA.p) (by rfl) | exact v_cF (CA.p) (by rfl) (HA.p) (by rfl)) ?_
    all_goals rfl
end Go.Proofs.YtgjbmhclgmpjdaaGreat
