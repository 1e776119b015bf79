/-
  A part of the proof of a statement of a chapter's seat; conditions: stated at each theorem.
-/
import Derived.Test.YtckljanplahbkaaM2
set_option linter.unusedVariables false
set_option linter.unusedSectionVars false
set_option linter.unusedSimpArgs false
set_option linter.unusedVariables false
set_option maxRecDepth 100000
set_option maxHeartbeats 4000000
namespace Go.Proofs.Ytckljanplahbkaa
open Go.Az Go
/-! ### Weights -/
def trn (m : Int) (l : List Int) : List Int := l.map fun x => if x = 0 then 0 else m + 1 - x
theorem trn_len (m : Int) (l : List Int) : (trn m l).length = l.length := by simp [trn]
def rowC (m : Int) (l : List Int) (i : Nat) : List AV := (trn m (l.take i)).map (fun x => I x) ++ List.replicate (256 - i) (I 0)
theorem rowC_len (m : Int) (l : List Int) (i : Nat) (h : i ≤ l.length) (h1 : i ≤ 256) : (rowC m l i).length = 256 := by
  simp [rowC, trn]; omega
theorem rowC_set (m : Int) (l : List Int) (i : Nat) (h : i < l.length) (h1 : i < 256) (h2 : l.getD i 0 ≠ 0) : (rowC m l i).set i (I (m + 1 - l.getD i 0)) = rowC m l (i + 1) := by
  have e : ((trn m (l.take i)).map (fun x => I x)).length = i := by simp [trn]; omega
  unfold rowC
  rw [List.set_append_right (i := i) _ (by omega), e, Nat.sub_self, takeT (d := (0:Int)) h, show 256 - i = (256 - (i + 1)) + 1 by omega, List.replicate_succ, List.set_cons_zero]
  simp only [trn, List.map_append, List.map_cons, List.map_nil, List.append_assoc, List.cons_append, List.nil_append, if_neg h2]
theorem rowC_skip (m : Int) (l : List Int) (i : Nat) (h : i < l.length) (h1 : i < 256) (h2 : l.getD i 0 = 0) : rowC m l i = rowC m l (i + 1) := by
  unfold rowC
  rw [takeT (d := (0:Int)) h, show 256 - i = (256 - (i + 1)) + 1 by omega, List.replicate_succ]
  simp only [trn, List.map_append, List.map_cons, List.map_nil, List.append_assoc, List.cons_append, List.nil_append, if_pos h2]
theorem und_63 : Try.prog.underlying 63 = some (.array 256 3) := by kernel_rfl
theorem x_slc63 {f : Fr} {h : Hp} {a b c : Operand} {i n : Nat} (hn : n ≤ 256) (ha : ev f a = .ptr i 0) (hb : ev f b = I n) (hc : ev f c = I n) : exL Try.prog f h (.slice 63 a none (some b) (some c)) = some (.sl i 0 n n false) := by
  obtain ⟨_, inf, hi, _⟩ := sliOf_spec sl_22
  have hn2 : ((n : Nat) : Int) ≤ 256 := by omega
  simp [exL, ha, hb, hc, slc, und_63, hi, bnds, bnd, intOf?, cutAt, hn, hn2]
theorem turned_any (h : Hp) (s : AV) (l : List Int) (m : Int) (hS : TI h s l) (hl : l.length ≤ 256) (h0 : 0 ≤ m) (h1 : m ≤ 11) (hin : ∀ x ∈ l, inr x) : ACalls Try.prog 32 [s, I m] h (fun r h' => r = .sl h.length 0 l.length l.length false ∧ h' = h ++ [.cells (rowC m l l.length) 63 true]) := by
  refine acalls_of_wk hm Try.func32 rfl ?_
  simp only [Try.ntmps32, List.length_cons, List.length_nil, Nat.reduceAdd, Nat.reduceSub, List.reduceReplicate, List.cons_append, List.nil_append]
  show wk _ _ none _ _ ⟨_, []⟩ _
  have el5 := mkEL iok (0:Int) hS
  with_reducible refine s_seq ?_
  with_reducible refine s_reg ?_
  refine sassign ?_
  simp only [pu', p0', c1', c0', i1', z0', b8_nat]
  with_reducible refine s_end ?_
  with_reducible refine s_then ?_
  with_reducible refine s_seq ?_
  with_reducible refine s_reg ?_
  refine salloc ?_
  simp only [pu', p0', c1', c0', i1', n0', n3', n1', n2', a2', a1', a0', n4', Nat.reduceAdd, z0', n5', sa0, sa1, sa2, sa3, sa4, sa5, sa6, sa7, sa8, sa9, sa10, sa11]
  with_reducible refine s_end ?_
  with_reducible refine s_then ?_
  with_reducible refine s_seq ?_
  with_reducible refine s_reg ?_
  refine smove ?_
  simp only [pu', p0', c1', c0', i1', z0', b8_nat]
  refine slenE ?_
  simp only [pu', p0', c1', c0', i1', z0', b8_nat]
  refine smove ?_
  simp only [pu', p0', c1', c0', i1', z0', b8_nat]
  refine slenE ?_
  simp only [pu', p0', c1', c0', i1', z0', b8_nat]
  refine s_gL (by rfl) (x_slc63 hl (by exact e_any (by rfl)) (by exact e_any (by rfl)) (by exact e_any (by rfl))) ?_
  simp only [Fr.put, List.set_cons_succ, List.set_cons_zero, Int.toNat_natCast, Nat.zero_add]
  have el6 := mkEL iok (0:Int) hS
  refine sassign ?_
  simp only [pu', p0', c1', c0', i1', z0', b8_nat]
  with_reducible refine s_end ?_
  with_reducible refine s_then ?_
  with_reducible refine s_seq ?_
  with_reducible refine s_seq ?_
  with_reducible refine s_reg ?_
  refine smove ?_
  simp only [pu', p0', c1', c0', i1', z0', b8_nat]
  refine slenE ?_
  simp only [pu', p0', c1', c0', i1', z0', b8_nat]
  refine smove ?_
  simp only [pu', p0', c1', c0', i1', z0', b8_nat]
  with_reducible refine s_end ?_
  with_reducible refine s_then ?_
  with_reducible refine s_block ?_
  refine s_loop hm (fun (b : Nat) s' => [s' 0, I m, s' 2, s' 3, s' 4, s' 5, .sl h.length 0 l.length l.length false, s' 7, s' 8, s' 9, s' 10, s' 11, s' 12, s' 13, s, I l.length, I b, s' 17, s' 18, s' 19, s' 20, s' 21, s' 22, s' 23, s' 24, s' 25, s' 26, s' 27, s' 28, s' 29, s' 30, s' 31]) (fun b => h ++ [.cells (rowC m l b) 63 true]) (fun b => b ≤ l.length) (fun b => l.length - b) 0 (by rfl) rfl (Nat.zero_le _) ?_
  intro i s' hi
  have hx1 : i < l.length → inr (l.getD i 0) := fun a => hin _ (getD_mem a)
  simp only [inr] at hx1
  have el7 := mkEL iok (0:Int) hS
  focus
    with_reducible refine s_seq ?_
    with_reducible refine s_reg ?_
    refine sLt (fun hb => ?_) (fun hb => ?_)
    replace hb := dT' hb
    simp only [pu', p0', c1', c0', i1', z0', b8_nat]
    with_reducible refine s_end ?_
    with_reducible refine s_then ?_
    with_reducible refine s_seq ?_
    refine sCT ?_
    with_reducible refine s_skip ?_
    with_reducible refine s_then ?_
    with_reducible refine s_seq ?_
    with_reducible refine s_block ?_
    with_reducible refine s_seq ?_
    with_reducible refine s_reg ?_
    refine smove ?_
    simp only [pu', p0', c1', c0', i1', z0', b8_nat]
    refine sidxE ?_
    simp only [pu', p0', c1', c0', i1', z0', b8_nat]
    refine sloadE1 ?_
    simp only [pu', p0', c1', c0', i1', z0', b8_nat]
    refine sassign ?_
    simp only [pu', p0', c1', c0', i1', z0', b8_nat]
    refine sassign ?_
    simp only [pu', p0', c1', c0', i1', z0', b8_nat]
    with_reducible refine s_end ?_
    with_reducible refine s_then ?_
    with_reducible refine s_seq ?_
    with_reducible refine s_reg ?_
    refine smove ?_
    simp only [pu', p0', c1', c0', i1', z0', b8_nat]
    refine sNe (fun hb => ?_) (fun hb => ?_)
    replace hb := dT' hb
    simp only [pu', p0', c1', c0', i1', z0', b8_nat]
    with_reducible refine s_end ?_
    with_reducible refine s_then ?_
    refine sCT ?_
    with_reducible refine s_reg ?_
    refine smove ?_
    simp only [pu', p0', c1', c0', i1', z0', b8_nat]
    refine smove ?_
    simp only [pu', p0', c1', c0', i1', z0', b8_nat]
    refine smove ?_
    simp only [pu', p0', c1', c0', i1', z0', b8_nat]
    refine sadd ?_
    simp only [pu', p0', c1', c0', i1', z0', b8_nat]
    refine smove ?_
    simp only [pu', p0', c1', c0', i1', z0', b8_nat]
    refine ssub ?_
    simp only [pu', p0', c1', c0', i1', z0', b8_nat]
    refine sidxS ?_
    simp only [pu', p0', c1', c0', i1', z0', b8_nat]
    rotate_left 1
    replace hb := dF' hb
    simp only [pu', p0', c1', c0', i1', z0', b8_nat]
    with_reducible refine s_end ?_
    with_reducible refine s_then ?_
    refine sCF ?_
    with_reducible refine s_skip ?_
    with_reducible refine s_blkN ?_
    with_reducible refine s_then ?_
    with_reducible refine s_reg ?_
    refine sadd ?_
    simp only [pu', p0', c1', c0', i1', z0', b8_nat]
    refine smove ?_
    simp only [pu', p0', c1', c0', i1', z0', b8_nat]
    with_reducible refine s_end ?_
    rotate_left 1
    replace hb := dF' hb
    simp only [pu', p0', c1', c0', i1', z0', b8_nat]
    with_reducible refine s_end ?_
    with_reducible refine s_then ?_
    with_reducible refine s_seq ?_
    refine sCF ?_
    with_reducible refine s_exit ?_
    with_reducible refine s_thenE ?_
    with_reducible refine l_exit ?_
    with_reducible refine s_blkE ?_
    with_reducible refine s_then ?_
    with_reducible refine s_seq ?_
    with_reducible refine s_reg ?_
    refine smove ?_
    simp only [pu', p0', c1', c0', i1', z0', b8_nat]
    refine sassign ?_
    simp only [pu', p0', c1', c0', i1', z0', b8_nat]
    with_reducible refine s_end ?_
    with_reducible refine s_then ?_
    with_reducible refine s_ret ?_
    rotate_left 1
  · refine s_gH (by rfl) (x_store1 C1.p (by exact e_any (by rfl)) (by exact e_any (by rfl)) (by rfl) ga0 (by rw [rowC_len m l i hi (by omega)]; omega)) ?_
    simp only [Fr.put, List.set_cons_succ, List.set_cons_zero, Int.toNat_natCast, List.length_append, List.length_set, List.length_cons, List.length_nil, List.nil_append, List.cons_append, List.append_assoc, List.length_replicate, Nat.reduceAdd, Nat.zero_add, Nat.add_assoc, sa0, sa1, sa2, sa3, sa4, sa5, sa6, sa7, sa8, sa9, sa10, sa11]
    with_reducible refine s_end ?_
    with_reducible refine s_blkN ?_
    with_reducible refine s_then ?_
    with_reducible refine s_reg ?_
    refine sadd ?_
    simp only [pu', p0', c1', c0', i1', z0', b8_nat]
    refine smove ?_
    simp only [pu', p0', c1', c0', i1', z0', b8_nat]
    with_reducible refine s_end ?_
    refine l_next (i + 1) (by omega) (by omega) (by rfl) ?_
    rw [Nat.mul_one, rowC_set m l i (by omega) (by omega) (by omega)]
  · refine l_next (i + 1) (by omega) (by omega) (by rfl) ?_
    rw [rowC_skip m l i (by omega) (by omega) (by omega)]
  · ((try with_reducible refine w_n ?_); refine w_1 rfl (by first | exact v_t (by rfl) | exact v_c1 (C1.p) (by rfl) (HA.p) (by rfl) | exact v_cF (CA.p) (by rfl) (HA.p) (by rfl)) ?_)
    rw [show i = l.length by omega]
    exact ⟨rfl, rfl⟩
def wtL (l : List Int) : List Int := if chkW l = 0 then trn (grt l) l else []
theorem cw_ok {l : List Int} (h : chkW l = 0) : 2 ≤ l.length ∧ l.length ≤ 256 ∧ (∀ x ∈ l, inr x) := by
  unfold chkW at h
  split at h
  · cases h
  · split at h
    · cases h
    · rename_i h1 h2
      exact ⟨by omega, by omega, Classical.not_not.1 h2⟩
theorem weights_ok (h : Hp) (s : AV) (l : List Int) (hS : TI h s l) (hc : chkW l = 0) : ACalls Try.prog 12 [s] h (fun r h' => r = .tup [.sl h.length 0 l.length l.length false, I 0] ∧ h' = h ++ [.cells (rowC (grt l) l l.length) 63 true]) := by
  obtain ⟨a1, a2, a3⟩ := cw_ok hc
  have hg := grt_bd l 11 (by omega) (fun x hx => (a3 x hx).2)
  refine acalls_of_wk hm Try.func12 rfl ?_
  simp only [Try.ntmps12, List.length_cons, List.length_nil, Nat.reduceAdd, Nat.reduceSub, List.reduceReplicate, List.cons_append, List.nil_append]
  show wk _ _ none _ _ ⟨_, []⟩ _
  with_reducible refine s_seq ?_
  with_reducible refine s_reg ?_
  refine sassign ?_
  simp only [pu', p0', c1', c0', i1', z0', b8_nat]
  refine sassign ?_
  simp only [pu', p0', c1', c0', i1', z0', b8_nat]
  with_reducible refine s_end ?_
  with_reducible refine s_then ?_
  with_reducible refine s_seq ?_
  with_reducible refine s_seq ?_
  with_reducible refine s_reg ?_
  refine smove ?_
  simp only [pu', p0', c1', c0', i1', z0', b8_nat]
  refine sM (hx := rfl) (check_any _ _ _ hS) ?_
  simp only [pu', p0', c1', c0', i1', z0', b8_nat]
  refine sassign ?_
  simp only [pu', p0', c1', c0', i1', z0', b8_nat]
  with_reducible refine s_end ?_
  with_reducible refine s_then ?_
  with_reducible refine s_seq ?_
  with_reducible refine s_reg ?_
  refine smove ?_
  simp only [pu', p0', c1', c0', i1', z0', b8_nat]
  refine sNe (fun hb => ?_) (fun hb => ?_)
  replace hb := dT' hb
  (exfalso; omega)
  replace hb := dF' hb
  simp only [pu', p0', c1', c0', i1', z0', b8_nat]
  with_reducible refine s_end ?_
  with_reducible refine s_then ?_
  refine sCF ?_
  with_reducible refine s_skip ?_
  with_reducible refine s_then ?_
  with_reducible refine s_seq ?_
  with_reducible refine s_reg ?_
  refine smove ?_
  simp only [pu', p0', c1', c0', i1', z0', b8_nat]
  refine smove ?_
  simp only [pu', p0', c1', c0', i1', z0', b8_nat]
  refine sM (hx := rfl) (greatest_any _ _ _ hS (by omega)) ?_
  simp only [pu', p0', c1', c0', i1', z0', b8_nat]
  refine sX (hx := rfl) (turned_any _ _ _ _ hS a2 hg.1 hg.2 a3) ?_
  simp only [pu', p0', c1', c0', i1', n0', n3', n1', n2', a2', a1', a0', n4', Nat.reduceAdd, z0', n5', sa0, sa1, sa2, sa3, sa4, sa5, sa6, sa7, sa8, sa9, sa10, sa11]
  refine sassign ?_
  simp only [pu', p0', c1', c0', i1', z0', b8_nat]
  refine sassign ?_
  simp only [pu', p0', c1', c0', i1', z0', b8_nat]
  with_reducible refine s_end ?_
  with_reducible refine s_then ?_
  with_reducible refine s_ret ?_
  all_goals try with_reducible refine w_n ?_
  all_goals refine w_2 rfl (by first | exact v_t (by rfl) | exact v_c1 (C1.p) (by rfl) (HA.p) (by rfl) | exact v_cF (CA.p) (by rfl) (HA.p) (by rfl)) (by first | exact v_t (by rfl) | exact v_c1 (C1.p) (by rfl) (HA.p) (by rfl) | exact v_cF (CA.p) (by rfl) (HA.p) (by rfl)) ?_
  exact ⟨rfl, rfl⟩
theorem x_slc22 {f : Fr} {h : Hp} {a b c : Operand} {i n m : Nat} (hn : m ≤ n) (ha : ev f a = .sl i 0 n n false) (hb : ev f b = I m) (hc : ev f c = I m) : exL Try.prog f h (.slice 22 a none (some b) (some c)) = some (.sl i 0 m m false) := by
  obtain ⟨hu, inf, hi, _⟩ := sliOf_spec sl_22
  have hn2 : ((m : Nat) : Int) ≤ n := by omega
  simp [exL, ha, hb, hc, slc, hu, hi, bnds, bnd, intOf?, cutAt, hn, hn2]
theorem listed_ok (h : Hp) (s : AV) (l : List Int) (hS : TI h s l) (hc : chkW l = 0) : ACalls Try.prog 14 [s] h (fun r h' => r = .tup [.sl h.length 0 (l.length - 1) (l.length - 1) false, I 0] ∧ h' = h ++ [.cells (rowC (grt l) l l.length) 63 true]) := by
  obtain ⟨a1, a2, a3⟩ := cw_ok hc
  have e : (l.length : Int) - 1 = ((l.length - 1 : Nat) : Int) := by omega
  refine acalls_of_wk hm Try.func14 rfl ?_
  simp only [Try.ntmps14, List.length_cons, List.length_nil, Nat.reduceAdd, Nat.reduceSub, List.reduceReplicate, List.cons_append, List.nil_append]
  show wk _ _ none _ _ ⟨_, []⟩ _
  with_reducible refine s_seq ?_
  with_reducible refine s_reg ?_
  refine sassign ?_
  simp only [pu', p0', c1', c0', i1', z0', b8_nat]
  refine sassign ?_
  simp only [pu', p0', c1', c0', i1', z0', b8_nat]
  with_reducible refine s_end ?_
  with_reducible refine s_then ?_
  with_reducible refine s_seq ?_
  with_reducible refine s_reg ?_
  refine smove ?_
  simp only [pu', p0', c1', c0', i1', z0', b8_nat]
  refine sX (hx := rfl) (weights_ok _ _ _ hS hc) ?_
  simp only [pu', p0', c1', c0', i1', n0', n3', n1', n2', a2', a1', a0', n4', Nat.reduceAdd, z0', n5', sa0, sa1, sa2, sa3, sa4, sa5, sa6, sa7, sa8, sa9, sa10, sa11]
  refine smove ?_
  simp only [pu', p0', c1', c0', i1', z0', b8_nat]
  refine sext ?_
  simp only [pu', p0', c1', c0', i1', z0', b8_nat]
  refine sext ?_
  simp only [pu', p0', c1', c0', i1', z0', b8_nat]
  refine sassign ?_
  simp only [pu', p0', c1', c0', i1', z0', b8_nat]
  refine sassign ?_
  simp only [pu', p0', c1', c0', i1', z0', b8_nat]
  with_reducible refine s_end ?_
  with_reducible refine s_then ?_
  with_reducible refine s_seq ?_
  with_reducible refine s_seq ?_
  with_reducible refine s_reg ?_
  refine smove ?_
  simp only [pu', p0', c1', c0', i1', z0', b8_nat]
  refine sNe (fun hb => ?_) (fun hb => ?_)
  replace hb := dT' hb
  (exfalso; omega)
  replace hb := dF' hb
  simp only [pu', p0', c1', c0', i1', z0', b8_nat]
  with_reducible refine s_end ?_
  with_reducible refine s_then ?_
  refine sCF ?_
  with_reducible refine s_skip ?_
  with_reducible refine s_then ?_
  with_reducible refine s_seq ?_
  with_reducible refine s_reg ?_
  refine smove ?_
  simp only [pu', p0', c1', c0', i1', z0', b8_nat]
  refine smove ?_
  simp only [pu', p0', c1', c0', i1', z0', b8_nat]
  refine slenX ?_
  simp only [pu', p0', c1', c0', i1', z0', b8_nat]
  refine ssub ?_
  simp only [pu', p0', c1', c0', i1', z0', b8_nat]
  refine smove ?_
  simp only [pu', p0', c1', c0', i1', z0', b8_nat]
  refine slenX ?_
  simp only [pu', p0', c1', c0', i1', z0', b8_nat]
  refine ssub ?_
  simp only [pu', p0', c1', c0', i1', z0', b8_nat]
  simp only [e]
  refine s_gL (by rfl) (x_slc22 (m := l.length - 1) (n := l.length) (by omega) (by exact e_any (by rfl)) (by exact e_any (by rfl)) (by exact e_any (by rfl))) ?_
  simp only [Fr.put, List.set_cons_succ, List.set_cons_zero, Int.toNat_natCast, Nat.zero_add]
  refine sassign ?_
  simp only [pu', p0', c1', c0', i1', z0', b8_nat]
  refine sassign ?_
  simp only [pu', p0', c1', c0', i1', z0', b8_nat]
  with_reducible refine s_end ?_
  with_reducible refine s_then ?_
  with_reducible refine s_ret ?_
  all_goals try with_reducible refine w_n ?_
  all_goals refine w_2 rfl (by first | exact v_t (by rfl) | exact v_c1 (C1.p) (by rfl) (HA.p) (by rfl) | exact v_cF (CA.p) (by rfl) (HA.p) (by rfl)) (by first | exact v_t (by rfl) | exact v_c1 (C1.p) (by rfl) (HA.p) (by rfl) | exact v_cF (CA.p) (by rfl) (HA.p) (by rfl)) ?_
  exact ⟨rfl, rfl⟩
end Go.Proofs.Ytckljanplahbkaa
