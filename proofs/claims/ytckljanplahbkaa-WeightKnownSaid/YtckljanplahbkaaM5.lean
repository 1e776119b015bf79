/-
  A part of the proof of a statement of a chapter's seat; conditions: stated at each theorem.
-/
import Derived.Test.YtckljanplahbkaaM4
set_option linter.unusedSimpArgs false
set_option linter.unusedVariables false
set_option linter.unusedSectionVars false
set_option maxRecDepth 100000
set_option maxHeartbeats 4000000
namespace Go.Proofs.Ytckljanplahbkaa
open Go.Az Go
theorem rowEA {X : Hp} {i : Nat} {m : Int} {l : List Int} {k : Nat} (hi : HA X i (.cells (rowC m l l.length) 63 true)) (hk : k ≤ l.length) (hl : l.length ≤ 256) : TI X (.sl i 0 k k false) ((trn m l).take k) := by
  refine .inr ⟨i, 0, k, false, rowC m l l.length, 63, true, by rw [List.length_take, trn_len, Nat.min_eq_left hk], hi.p, ?_, ?_⟩
  · rw [rowC_len m l _ (Nat.le_refl _) hl, List.length_take, trn_len]; omega
  · rw [List.drop_zero, List.length_take, trn_len, Nat.min_eq_left hk, Nat.mul_one, encI_map]
    unfold rowC
    rw [List.take_length, List.take_append_of_le_length (by simp [trn]; exact hk), List.map_take]
theorem law3 (h : Hp) (s : AV) (l : List Int) (hS0 : Ints .i64 h s l) : ACalls Try.prog 3 [s] h (fun r _ => r = B true) := by
  have hS : TI h s l := elts_ints.2 hS0
  by_cases hl : l.length ≤ 260
  case neg =>
    refine acalls_of_wk hm Try.func3 rfl ?_
    simp only [Try.ntmps3, List.length_cons, List.length_nil, Nat.reduceAdd, Nat.reduceSub, List.reduceReplicate, List.cons_append, List.nil_append]
    show wk _ _ none _ _ ⟨_, []⟩ _
    have el1 := mkEL iok (0:Int) hS
    focus
      with_reducible refine s_seq ?_
      with_reducible refine s_reg ?_
      refine sassign ?_
      simp only [pu', p0', c1', c0', i1', z0', b8_nat]
      with_reducible refine s_end ?_
      with_reducible refine s_then ?_
      with_reducible refine s_seq ?_
      with_reducible refine s_seq ?_
      with_reducible refine s_reg ?_
      refine smove ?_
      simp only [pu', p0', c1', c0', i1', z0', b8_nat]
      refine slenE ?_
      simp only [pu', p0', c1', c0', i1', z0', b8_nat]
      refine sGt (fun hb => ?_) (fun hb => ?_)
      replace hb := dT' hb
      simp only [pu', p0', c1', c0', i1', z0', b8_nat]
      with_reducible refine s_end ?_
      with_reducible refine s_then ?_
      refine sCT ?_
      with_reducible refine s_seq ?_
      with_reducible refine s_reg ?_
      refine sK (hx := rfl) (awake_any) ?_
      simp only [pu', p0', c1', c0', i1', z0', b8_nat]
      refine sassign ?_
      simp only [pu', p0', c1', c0', i1', z0', b8_nat]
      with_reducible refine s_end ?_
      with_reducible refine s_then ?_
      with_reducible refine s_ret ?_
      with_reducible refine s_thenR ?_
      rotate_left 1
      replace hb := dF' hb
      (exfalso; omega)
    all_goals try with_reducible refine w_n ?_
    all_goals refine w_1 rfl (by first | exact v_t (by rfl) | exact v_c1 (C1.p) (by rfl) (HA.p) (by rfl) | exact v_cF (CA.p) (by rfl) (HA.p) (by rfl)) ?_
    rfl
  by_cases hc : chkW l = 0
  · obtain ⟨a1, a2, a3⟩ := cw_ok hc
    have hw : wtL l = trn (grt l) l := by rw [wtL, if_pos hc]
    have fa : ∀ X i, HA X i (.cells (rowC (grt l) l l.length) 63 true) → TI X (.sl i 0 l.length l.length false) (wtL l) := fun X i a => by
      have := rowEA a (Nat.le_refl _) a2
      rw [← trn_len (grt l) l, List.take_length, trn_len] at this
      rw [hw]; exact this
    have fb : ∀ X i, HA X i (.cells (rowC (grt l) l l.length) 63 true) → TI X (.sl i 0 (l.length - 1) (l.length - 1) false) (lsL l) := fun X i a => by
      have := rowEA a (Nat.sub_le l.length 1) a2
      rw [lsL, hw, List.dropLast_eq_take, trn_len]; exact this
    have hwl : (wtL l).length ≤ 1099511627776 := by rw [hw, trn_len]; omega
    have hll : (lsL l).length ≤ 1099511627776 := by rw [lsL, List.length_dropLast]; omega
    refine acalls_of_wk hm Try.func3 rfl ?_
    simp only [Try.ntmps3, List.length_cons, List.length_nil, Nat.reduceAdd, Nat.reduceSub, List.reduceReplicate, List.cons_append, List.nil_append]
    show wk _ _ none _ _ ⟨_, []⟩ _
    have el2 := mkEL iok (0:Int) hS
    focus
      with_reducible refine s_seq ?_
      with_reducible refine s_reg ?_
      refine sassign ?_
      simp only [pu', p0', c1', c0', i1', z0', b8_nat]
      with_reducible refine s_end ?_
      with_reducible refine s_then ?_
      with_reducible refine s_seq ?_
      with_reducible refine s_seq ?_
      with_reducible refine s_reg ?_
      refine smove ?_
      simp only [pu', p0', c1', c0', i1', z0', b8_nat]
      refine slenE ?_
      simp only [pu', p0', c1', c0', i1', z0', b8_nat]
      refine sGt (fun hb => ?_) (fun hb => ?_)
      replace hb := dT' hb
      (exfalso; omega)
      replace hb := dF' hb
      simp only [pu', p0', c1', c0', i1', z0', b8_nat]
      with_reducible refine s_end ?_
      with_reducible refine s_then ?_
      refine sCF ?_
      with_reducible refine s_skip ?_
      with_reducible refine s_then ?_
      with_reducible refine s_seq ?_
      with_reducible refine s_reg ?_
      refine smove ?_
      simp only [pu', p0', c1', c0', i1', z0', b8_nat]
      refine sC (hx := rfl) ((own_any _ s l hS (by omega)).mono ?_)
      rintro s1 _ _ hR1
      obtain ⟨o1, rfl, hE1⟩ := hR1.shapeE iok
      have el1 := fun r => mkEL iok (0:Int) (hE1 r)
      simp only [pu', p0', c1', c0', i1', n0', n3', n1', n2', a2', a1', a0', n4', Nat.reduceAdd, z0', n5', sa0, sa1, sa2, sa3, sa4, sa5, sa6, sa7, sa8, sa9, sa10, sa11]
      refine sassign ?_
      simp only [pu', p0', c1', c0', i1', z0', b8_nat]
      with_reducible refine s_end ?_
      with_reducible refine s_then ?_
      with_reducible refine s_seq ?_
      with_reducible refine s_reg ?_
      refine smove ?_
      simp only [pu', p0', c1', c0', i1', z0', b8_nat]
      refine sX (hx := rfl) (weights_ok _ s1 l (hE1 _) hc) ?_
      simp only [pu', p0', c1', c0', i1', n0', n3', n1', n2', a2', a1', a0', n4', Nat.reduceAdd, z0', n5', sa0, sa1, sa2, sa3, sa4, sa5, sa6, sa7, sa8, sa9, sa10, sa11]
      refine smove ?_
      simp only [pu', p0', c1', c0', i1', z0', b8_nat]
      refine sext ?_
      simp only [pu', p0', c1', c0', i1', z0', b8_nat]
      refine sext ?_
      simp only [pu', p0', c1', c0', i1', z0', b8_nat]
      refine sassign ?_
      simp only [pu', p0', c1', c0', i1', z0', b8_nat]
      refine sassign ?_
      simp only [pu', p0', c1', c0', i1', z0', b8_nat]
      with_reducible refine s_end ?_
      with_reducible refine s_then ?_
      with_reducible refine s_seq ?_
      with_reducible refine s_reg ?_
      refine smove ?_
      simp only [pu', p0', c1', c0', i1', z0', b8_nat]
      refine sC (hx := rfl) ((rweights_any _ s l (hS.ext (ext_app _ _))).mono ?_)
      rintro _ _ _ ⟨s2, rfl, hR2⟩
      obtain ⟨o2, rfl, hE2⟩ := hR2.shapeE iok
      simp only [a0', a1', a2'] at hE2
      have el2 := fun r => mkEL iok (0:Int) (hE2 r)
      simp only [pu', p0', c1', c0', i1', n0', n3', n1', n2', a2', a1', a0', n4', Nat.reduceAdd, z0', n5', sa0, sa1, sa2, sa3, sa4, sa5, sa6, sa7, sa8, sa9, sa10, sa11]
      refine smove ?_
      simp only [pu', p0', c1', c0', i1', z0', b8_nat]
      refine sext ?_
      simp only [pu', p0', c1', c0', i1', z0', b8_nat]
      refine sext ?_
      simp only [pu', p0', c1', c0', i1', z0', b8_nat]
      refine sassign ?_
      simp only [pu', p0', c1', c0', i1', z0', b8_nat]
      refine sassign ?_
      simp only [pu', p0', c1', c0', i1', z0', b8_nat]
      with_reducible refine s_end ?_
      with_reducible refine s_then ?_
      with_reducible refine s_seq ?_
      with_reducible refine s_reg ?_
      refine smove ?_
      simp only [pu', p0', c1', c0', i1', z0', b8_nat]
      refine sX (hx := rfl) (listed_ok _ s1 l (hE1 _) hc) ?_
      simp only [pu', p0', c1', c0', i1', n0', n3', n1', n2', a2', a1', a0', n4', Nat.reduceAdd, z0', n5', sa0, sa1, sa2, sa3, sa4, sa5, sa6, sa7, sa8, sa9, sa10, sa11]
      refine smove ?_
      simp only [pu', p0', c1', c0', i1', z0', b8_nat]
      refine sext ?_
      simp only [pu', p0', c1', c0', i1', z0', b8_nat]
      refine sext ?_
      simp only [pu', p0', c1', c0', i1', z0', b8_nat]
      refine sassign ?_
      simp only [pu', p0', c1', c0', i1', z0', b8_nat]
      refine sassign ?_
      simp only [pu', p0', c1', c0', i1', z0', b8_nat]
      with_reducible refine s_end ?_
      with_reducible refine s_then ?_
      with_reducible refine s_seq ?_
      with_reducible refine s_reg ?_
      refine smove ?_
      simp only [pu', p0', c1', c0', i1', z0', b8_nat]
      refine sC (hx := rfl) ((rlisted_any _ s l (hS.ext (ext_app _ _))).mono ?_)
      rintro _ _ _ ⟨s3, o3, rfl, rfl, hE3⟩
      simp only [pu', p0', c1', c0', i1', n0', n3', n1', n2', a2', a1', a0', n4', Nat.reduceAdd, z0', n5', sa0, sa1, sa2, sa3, sa4, sa5, sa6, sa7, sa8, sa9, sa10, sa11]
      refine smove ?_
      simp only [pu', p0', c1', c0', i1', z0', b8_nat]
      refine sext ?_
      simp only [pu', p0', c1', c0', i1', z0', b8_nat]
      refine sext ?_
      simp only [pu', p0', c1', c0', i1', z0', b8_nat]
      refine sassign ?_
      simp only [pu', p0', c1', c0', i1', z0', b8_nat]
      refine sassign ?_
      simp only [pu', p0', c1', c0', i1', z0', b8_nat]
      with_reducible refine s_end ?_
      with_reducible refine s_then ?_
      with_reducible refine s_seq ?_
      with_reducible refine s_reg ?_
      refine smove ?_
      simp only [pu', p0', c1', c0', i1', z0', b8_nat]
      refine sM (hx := rfl) (check_any _ s1 l (hE1 _)) ?_
      simp only [pu', p0', c1', c0', i1', z0', b8_nat]
      refine smove ?_
      simp only [pu', p0', c1', c0', i1', z0', b8_nat]
      refine sM (hx := rfl) (rcheck_any _ s l (hS.ext (ext_app _ _))) ?_
      simp only [pu', p0', c1', c0', i1', z0', b8_nat]
      refine sEq (fun hb => ?_) (fun hb => ?_)
      replace hb := dT' hb
      simp only [pu', p0', c1', c0', i1', z0', b8_nat]
      refine smove ?_
      simp only [pu', p0', c1', c0', i1', z0', b8_nat]
      refine smove ?_
      simp only [pu', p0', c1', c0', i1', z0', b8_nat]
      refine smove ?_
      simp only [pu', p0', c1', c0', i1', z0', b8_nat]
      refine sM (hx := rfl) (same_yes _ _ _ (wtL l) (fa _ _ (by infer_instance)) (hE2 _) hwl) ?_
      simp only [pu', p0', c1', c0', i1', z0', b8_nat]
      refine spickT ?_
      simp only [pu', p0', c1', c0', i1', z0', b8_nat]
      refine smove ?_
      simp only [pu', p0', c1', c0', i1', z0', b8_nat]
      refine smove ?_
      simp only [pu', p0', c1', c0', i1', z0', b8_nat]
      refine smove ?_
      simp only [pu', p0', c1', c0', i1', z0', b8_nat]
      refine sEq (fun hb => ?_) (fun hb => ?_)
      replace hb := dT' hb
      simp only [pu', p0', c1', c0', i1', z0', b8_nat]
      refine spickT ?_
      simp only [pu', p0', c1', c0', i1', z0', b8_nat]
      refine smove ?_
      simp only [pu', p0', c1', c0', i1', z0', b8_nat]
      refine smove ?_
      simp only [pu', p0', c1', c0', i1', z0', b8_nat]
      refine smove ?_
      simp only [pu', p0', c1', c0', i1', z0', b8_nat]
      refine sM (hx := rfl) (same_yes _ _ s3 (lsL l) (fb _ _ (by infer_instance)) (by simpa only [a0', a1', a2'] using hE3 []) hll) ?_
      simp only [pu', p0', c1', c0', i1', z0', b8_nat]
      refine spickT ?_
      simp only [pu', p0', c1', c0', i1', z0', b8_nat]
      refine smove ?_
      simp only [pu', p0', c1', c0', i1', z0', b8_nat]
      refine smove ?_
      simp only [pu', p0', c1', c0', i1', z0', b8_nat]
      refine smove ?_
      simp only [pu', p0', c1', c0', i1', z0', b8_nat]
      refine sEq (fun hb => ?_) (fun hb => ?_)
      replace hb := dT' hb
      simp only [pu', p0', c1', c0', i1', z0', b8_nat]
      refine spickT ?_
      simp only [pu', p0', c1', c0', i1', z0', b8_nat]
      refine smove ?_
      simp only [pu', p0', c1', c0', i1', z0', b8_nat]
      refine smove ?_
      simp only [pu', p0', c1', c0', i1', z0', b8_nat]
      refine smove ?_
      simp only [pu', p0', c1', c0', i1', z0', b8_nat]
      refine sM (hx := rfl) (same_yes _ _ _ l (hE1 _) (hS.ext (ext_app _ _)) (by omega)) ?_
      simp only [pu', p0', c1', c0', i1', z0', b8_nat]
      refine spickT ?_
      simp only [pu', p0', c1', c0', i1', z0', b8_nat]
      refine smove ?_
      simp only [pu', p0', c1', c0', i1', z0', b8_nat]
      refine sK (hx := rfl) (awake_any) ?_
      simp only [pu', p0', c1', c0', i1', z0', b8_nat]
      refine spickT ?_
      simp only [pu', p0', c1', c0', i1', z0', b8_nat]
      refine sassign ?_
      simp only [pu', p0', c1', c0', i1', z0', b8_nat]
      with_reducible refine s_end ?_
      with_reducible refine s_then ?_
      with_reducible refine s_ret ?_
      rotate_left 1
      replace hb := dF' hb
      exact absurd (by with_reducible assumption) hb
      replace hb := dF' hb
      (exfalso; omega)
      replace hb := dF' hb
      exact absurd rfl hb
    all_goals try with_reducible refine w_n ?_
    all_goals refine w_1 rfl (by first | exact v_t (by rfl) | exact v_c1 (C1.p) (by rfl) (HA.p) (by rfl) | exact v_cF (CA.p) (by rfl) (HA.p) (by rfl)) ?_
    all_goals rfl
  · have hw : wtL l = [] := by rw [wtL, if_neg hc]
    have hwl : (wtL l).length ≤ 1099511627776 := by rw [hw]; simp
    have hl2 : lsL l = [] := by rw [lsL, hw]; rfl
    have hll : (lsL l).length ≤ 1099511627776 := by rw [hl2]; simp
    refine acalls_of_wk hm Try.func3 rfl ?_
    simp only [Try.ntmps3, List.length_cons, List.length_nil, Nat.reduceAdd, Nat.reduceSub, List.reduceReplicate, List.cons_append, List.nil_append]
    show wk _ _ none _ _ ⟨_, []⟩ _
    have el3 := mkEL iok (0:Int) hS
    focus
      with_reducible refine s_seq ?_
      with_reducible refine s_reg ?_
      refine sassign ?_
      simp only [pu', p0', c1', c0', i1', z0', b8_nat]
      with_reducible refine s_end ?_
      with_reducible refine s_then ?_
      with_reducible refine s_seq ?_
      with_reducible refine s_seq ?_
      with_reducible refine s_reg ?_
      refine smove ?_
      simp only [pu', p0', c1', c0', i1', z0', b8_nat]
      refine slenE ?_
      simp only [pu', p0', c1', c0', i1', z0', b8_nat]
      refine sGt (fun hb => ?_) (fun hb => ?_)
      replace hb := dT' hb
      (exfalso; omega)
      replace hb := dF' hb
      simp only [pu', p0', c1', c0', i1', z0', b8_nat]
      with_reducible refine s_end ?_
      with_reducible refine s_then ?_
      refine sCF ?_
      with_reducible refine s_skip ?_
      with_reducible refine s_then ?_
      with_reducible refine s_seq ?_
      with_reducible refine s_reg ?_
      refine smove ?_
      simp only [pu', p0', c1', c0', i1', z0', b8_nat]
      refine sC (hx := rfl) ((own_any _ s l hS (by omega)).mono ?_)
      rintro s1 _ _ hR1
      obtain ⟨o1, rfl, hE1⟩ := hR1.shapeE iok
      have el1 := fun r => mkEL iok (0:Int) (hE1 r)
      simp only [pu', p0', c1', c0', i1', n0', n3', n1', n2', a2', a1', a0', n4', Nat.reduceAdd, z0', n5', sa0, sa1, sa2, sa3, sa4, sa5, sa6, sa7, sa8, sa9, sa10, sa11]
      refine sassign ?_
      simp only [pu', p0', c1', c0', i1', z0', b8_nat]
      with_reducible refine s_end ?_
      with_reducible refine s_then ?_
      with_reducible refine s_seq ?_
      with_reducible refine s_reg ?_
      refine smove ?_
      simp only [pu', p0', c1', c0', i1', z0', b8_nat]
      refine sM (hx := rfl) (weights_no _ s1 l (hE1 _) hc) ?_
      simp only [pu', p0', c1', c0', i1', z0', b8_nat]
      refine smove ?_
      simp only [pu', p0', c1', c0', i1', z0', b8_nat]
      refine sext ?_
      simp only [pu', p0', c1', c0', i1', z0', b8_nat]
      refine sext ?_
      simp only [pu', p0', c1', c0', i1', z0', b8_nat]
      refine sassign ?_
      simp only [pu', p0', c1', c0', i1', z0', b8_nat]
      refine sassign ?_
      simp only [pu', p0', c1', c0', i1', z0', b8_nat]
      with_reducible refine s_end ?_
      with_reducible refine s_then ?_
      with_reducible refine s_seq ?_
      with_reducible refine s_reg ?_
      refine smove ?_
      simp only [pu', p0', c1', c0', i1', z0', b8_nat]
      refine sC (hx := rfl) ((rweights_any _ s l (hS.ext (ext_app _ _))).mono ?_)
      rintro _ _ _ ⟨s2, rfl, hR2⟩
      obtain ⟨o2, rfl, hE2⟩ := hR2.shapeE iok
      simp only [a0', a1', a2'] at hE2
      have el2 := fun r => mkEL iok (0:Int) (hE2 r)
      simp only [pu', p0', c1', c0', i1', n0', n3', n1', n2', a2', a1', a0', n4', Nat.reduceAdd, z0', n5', sa0, sa1, sa2, sa3, sa4, sa5, sa6, sa7, sa8, sa9, sa10, sa11]
      refine smove ?_
      simp only [pu', p0', c1', c0', i1', z0', b8_nat]
      refine sext ?_
      simp only [pu', p0', c1', c0', i1', z0', b8_nat]
      refine sext ?_
      simp only [pu', p0', c1', c0', i1', z0', b8_nat]
      refine sassign ?_
      simp only [pu', p0', c1', c0', i1', z0', b8_nat]
      refine sassign ?_
      simp only [pu', p0', c1', c0', i1', z0', b8_nat]
      with_reducible refine s_end ?_
      with_reducible refine s_then ?_
      with_reducible refine s_seq ?_
      with_reducible refine s_reg ?_
      refine smove ?_
      simp only [pu', p0', c1', c0', i1', z0', b8_nat]
      refine sM (hx := rfl) (listed_no _ s1 l (hE1 _) hc) ?_
      simp only [pu', p0', c1', c0', i1', z0', b8_nat]
      refine smove ?_
      simp only [pu', p0', c1', c0', i1', z0', b8_nat]
      refine sext ?_
      simp only [pu', p0', c1', c0', i1', z0', b8_nat]
      refine sext ?_
      simp only [pu', p0', c1', c0', i1', z0', b8_nat]
      refine sassign ?_
      simp only [pu', p0', c1', c0', i1', z0', b8_nat]
      refine sassign ?_
      simp only [pu', p0', c1', c0', i1', z0', b8_nat]
      with_reducible refine s_end ?_
      with_reducible refine s_then ?_
      with_reducible refine s_seq ?_
      with_reducible refine s_reg ?_
      refine smove ?_
      simp only [pu', p0', c1', c0', i1', z0', b8_nat]
      refine sC (hx := rfl) ((rlisted_any _ s l (hS.ext (ext_app _ _))).mono ?_)
      rintro _ _ _ ⟨s3, o3, rfl, rfl, hE3⟩
      simp only [pu', p0', c1', c0', i1', n0', n3', n1', n2', a2', a1', a0', n4', Nat.reduceAdd, z0', n5', sa0, sa1, sa2, sa3, sa4, sa5, sa6, sa7, sa8, sa9, sa10, sa11]
      refine smove ?_
      simp only [pu', p0', c1', c0', i1', z0', b8_nat]
      refine sext ?_
      simp only [pu', p0', c1', c0', i1', z0', b8_nat]
      refine sext ?_
      simp only [pu', p0', c1', c0', i1', z0', b8_nat]
      refine sassign ?_
      simp only [pu', p0', c1', c0', i1', z0', b8_nat]
      refine sassign ?_
      simp only [pu', p0', c1', c0', i1', z0', b8_nat]
      with_reducible refine s_end ?_
      with_reducible refine s_then ?_
      with_reducible refine s_seq ?_
      with_reducible refine s_reg ?_
      refine smove ?_
      simp only [pu', p0', c1', c0', i1', z0', b8_nat]
      refine sM (hx := rfl) (check_any _ s1 l (hE1 _)) ?_
      simp only [pu', p0', c1', c0', i1', z0', b8_nat]
      refine smove ?_
      simp only [pu', p0', c1', c0', i1', z0', b8_nat]
      refine sM (hx := rfl) (rcheck_any _ s l (hS.ext (ext_app _ _))) ?_
      simp only [pu', p0', c1', c0', i1', z0', b8_nat]
      refine sEq (fun hb => ?_) (fun hb => ?_)
      replace hb := dT' hb
      simp only [pu', p0', c1', c0', i1', z0', b8_nat]
      refine smove ?_
      simp only [pu', p0', c1', c0', i1', z0', b8_nat]
      refine smove ?_
      simp only [pu', p0', c1', c0', i1', z0', b8_nat]
      refine smove ?_
      simp only [pu', p0', c1', c0', i1', z0', b8_nat]
      refine sM (hx := rfl) (same_yes _ _ _ (wtL l) (.inl ⟨rfl, hw⟩) (hE2 _) hwl) ?_
      simp only [pu', p0', c1', c0', i1', z0', b8_nat]
      refine spickT ?_
      simp only [pu', p0', c1', c0', i1', z0', b8_nat]
      refine smove ?_
      simp only [pu', p0', c1', c0', i1', z0', b8_nat]
      refine smove ?_
      simp only [pu', p0', c1', c0', i1', z0', b8_nat]
      refine smove ?_
      simp only [pu', p0', c1', c0', i1', z0', b8_nat]
      refine sEq (fun hb => ?_) (fun hb => ?_)
      replace hb := dT' hb
      simp only [pu', p0', c1', c0', i1', z0', b8_nat]
      refine spickT ?_
      simp only [pu', p0', c1', c0', i1', z0', b8_nat]
      refine smove ?_
      simp only [pu', p0', c1', c0', i1', z0', b8_nat]
      refine smove ?_
      simp only [pu', p0', c1', c0', i1', z0', b8_nat]
      refine smove ?_
      simp only [pu', p0', c1', c0', i1', z0', b8_nat]
      refine sM (hx := rfl) (same_yes _ _ s3 (lsL l) (.inl ⟨rfl, hl2⟩) (by simpa only [a0', a1', a2'] using hE3 []) hll) ?_
      simp only [pu', p0', c1', c0', i1', z0', b8_nat]
      refine spickT ?_
      simp only [pu', p0', c1', c0', i1', z0', b8_nat]
      refine smove ?_
      simp only [pu', p0', c1', c0', i1', z0', b8_nat]
      refine smove ?_
      simp only [pu', p0', c1', c0', i1', z0', b8_nat]
      refine smove ?_
      simp only [pu', p0', c1', c0', i1', z0', b8_nat]
      refine sEq (fun hb => ?_) (fun hb => ?_)
      replace hb := dT' hb
      simp only [pu', p0', c1', c0', i1', z0', b8_nat]
      refine spickT ?_
      simp only [pu', p0', c1', c0', i1', z0', b8_nat]
      refine smove ?_
      simp only [pu', p0', c1', c0', i1', z0', b8_nat]
      refine smove ?_
      simp only [pu', p0', c1', c0', i1', z0', b8_nat]
      refine smove ?_
      simp only [pu', p0', c1', c0', i1', z0', b8_nat]
      refine sM (hx := rfl) (same_yes _ _ _ l (hE1 _) (hS.ext (ext_app _ _)) (by omega)) ?_
      simp only [pu', p0', c1', c0', i1', z0', b8_nat]
      refine spickT ?_
      simp only [pu', p0', c1', c0', i1', z0', b8_nat]
      refine smove ?_
      simp only [pu', p0', c1', c0', i1', z0', b8_nat]
      refine sK (hx := rfl) (awake_any) ?_
      simp only [pu', p0', c1', c0', i1', z0', b8_nat]
      refine spickT ?_
      simp only [pu', p0', c1', c0', i1', z0', b8_nat]
      refine sassign ?_
      simp only [pu', p0', c1', c0', i1', z0', b8_nat]
      with_reducible refine s_end ?_
      with_reducible refine s_then ?_
      with_reducible refine s_ret ?_
      rotate_left 1
      replace hb := dF' hb
      exact absurd rfl hb
      replace hb := dF' hb
      exact absurd rfl hb
      replace hb := dF' hb
      exact absurd rfl hb
    all_goals try with_reducible refine w_n ?_
    all_goals refine w_1 rfl (by first | exact v_t (by rfl) | exact v_c1 (C1.p) (by rfl) (HA.p) (by rfl) | exact v_cF (CA.p) (by rfl) (HA.p) (by rfl)) ?_
    all_goals rfl
end Go.Proofs.Ytckljanplahbkaa
