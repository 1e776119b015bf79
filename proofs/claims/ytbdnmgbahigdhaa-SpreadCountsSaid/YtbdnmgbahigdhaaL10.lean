/-
  A part of the proof of a statement of a chapter's seat; conditions: stated at each theorem.
-/
import Derived.Test.YtbdnmgbahigdhaaL9
set_option linter.unusedVariables false
set_option linter.unusedSectionVars false
set_option linter.unusedSimpArgs false
set_option linter.unusedVariables false
set_option maxRecDepth 100000
set_option maxHeartbeats 8000000
namespace Go.Proofs.Ytbdnmgbahigdhaa
open Go.Az Go
/-! ### Lists that are filled, one element after the other -/
def mixL (A B : List Int) (i : Nat) : List Int := A.take i ++ B.drop i
theorem mix_len {A B : List Int} (h : A.length = B.length) (i : Nat) : (mixL A B i).length = A.length := by
  simp only [mixL, List.length_append, List.length_take, List.length_drop]; omega
theorem mix_zero (A B : List Int) : mixL A B 0 = B := by simp [mixL]
theorem mix_end {A B : List Int} (h : A.length = B.length) {i : Nat} (hi : A.length ≤ i) : mixL A B i = A := by
  rw [mixL, List.take_of_length_le hi, List.drop_eq_nil_of_le (by omega), List.append_nil]
theorem mix_at {A B : List Int} (h : A.length = B.length) {i : Nat} (hi : i < A.length) : (mixL A B i).getD i 0 = B.getD i 0 := by
  rw [mixL, List.getD_eq_getElem?_getD, List.getElem?_append_right (by rw [List.length_take]; omega), List.length_take, show i - min i A.length = 0 by omega, List.getElem?_drop, List.getD_eq_getElem?_getD, Nat.add_zero]
theorem mix_set {A B : List Int} (h : A.length = B.length) {i : Nat} (hi : i < A.length) : (mixL A B i).set i (A.getD i 0) = mixL A B (i + 1) := by
  unfold mixL
  rw [List.set_append_right _ _ (by rw [List.length_take]; omega), List.length_take, show i - min i A.length = 0 by omega, takeT (d := 0) hi, dropT (l := B) (d := 0) (by omega), List.set_cons_zero, List.append_assoc]
  rfl
/-! ### Numbers of cells -/
def nxtP (ps l : List Int) (i : Nat) : List Int := tabL (fun s => if ctI (l.take i) s = 0 then ps.getD s 0 else baseN (ps.getD s 0) + ctI (l.take i) s) ps.length
theorem nxtP_len (ps l : List Int) (i : Nat) : (nxtP ps l i).length = ps.length := tab_len _ _
theorem nxtP_zero (ps l : List Int) : nxtP ps l 0 = ps := by
  refine List.ext_getElem (nxtP_len _ _ _) fun j a b => ?_
  simp only [nxtP, tabL, List.getElem_map, List.getElem_range, List.take_zero, ctI, if_true]
  rw [List.getD_eq_getElem?_getD, List.getElem?_eq_getElem b]; rfl
theorem nxtP_at {ps l : List Int} {i k : Nat} (h : k < ps.length) (e : l.getD i 0 = k) (h1 : -1 ≤ ps.getD k 0) (h2 : ps.getD k 0 ≠ 0) : (if (nxtP ps l i).getD k 0 < -(nxtP ps l i).getD k 0 then -(nxtP ps l i).getD k 0 else (nxtP ps l i).getD k 0) = numA ps l i ∧ -1 ≤ (nxtP ps l i).getD k 0 ∧ (nxtP ps l i).getD k 0 ≤ numA ps l i := by
  have hn := ctI_nn (l.take i) k
  have hb : 1 ≤ baseN (ps.getD k 0) := by unfold baseN; split <;> omega
  rw [nxtP, tab_at _ h, numA, e, Int.toNat_natCast]
  by_cases hc : ctI (l.take i) k = 0
  · rw [if_pos hc, hc]
    unfold baseN
    by_cases hp : ps.getD k 0 < 0
    · rw [if_pos (by omega), if_pos hp]; omega
    · rw [if_neg (by omega), if_neg hp]; omega
  · rw [if_neg hc, if_neg (by omega)]; omega
theorem nxtP_step {ps l : List Int} {i k : Nat} (hi : i < l.length) (h : k < ps.length) (e : l.getD i 0 = k) : (nxtP ps l i).set k (numA ps l i + 1) = nxtP ps l (i + 1) := by
  have hn := ctI_nn (l.take i) k
  refine tab_set _ _ _ _ _ (fun j hj hne => ?_) (fun _ => ?_)
  · have e1 : ctI (l.take (i + 1)) j = ctI (l.take i) j := by rw [ctI_take hi, e, if_neg (by omega), Int.add_zero]
    rw [e1]
  · have e1 : ctI (l.take (i + 1)) k = ctI (l.take i) k + 1 := by rw [ctI_take hi, e, if_pos rfl]
    rw [e1, numA, e, Int.toNat_natCast, if_neg (by omega)]; omega
theorem nxtL_zero (ps l : List Int) : nxtL ps l 0 = ps.map baseN := by
  refine List.ext_getElem (by rw [nxt_len, List.length_map]) fun j a b => ?_
  simp only [List.length_map] at b
  simp only [nxtL, tabL, List.getElem_map, List.getElem_range, List.take_zero, ctI, Int.add_zero]
  rw [List.getD_eq_getElem?_getD, List.getElem?_eq_getElem b]; rfl
/-- What is known of a cell of a right distribution. -/
structure CellF (z : Nat) (ps l : List Int) (i k : Nat) : Prop where
  lt : k < ps.length
  at' : l.getD i 0 = k
  ge : -1 ≤ ps.getD k 0
  ne : ps.getD k 0 ≠ 0
  n1 : 1 ≤ numA ps l i
  n2 : numA ps l i ≤ 8192
theorem cell_of {z : Nat} {ps : List Int} (h : DistOk z ps) {i : Nat} (hi : i < z) : ∃ k, CellF z ps (sprd z ps) i k := by
  obtain ⟨k, h1, h2, h3⟩ := sprd_sym h i hi
  have hg := h.ge _ (getD_mem h1)
  have hp := pts_le ps _ (getD_mem h1)
  have hz := okZ_pos h.okz
  have hs := h.sum
  have hn := ctI_nn ((sprd z ps).take i) k
  have hl := ctI_le ((sprd z ps).take i) k
  rw [List.length_take] at hl
  refine ⟨k, h1, h2, hg, h3, ?_, ?_⟩
  · rw [numA, h2, Int.toNat_natCast]; unfold baseN; split <;> omega
  · rw [numA, h2, Int.toNat_natCast]; unfold baseN; split <;> omega
theorem nums_at {ps l : List Int} {i : Nat} (h : i < l.length) : (nums ps l).getD i 0 = numA ps l i := tab_at _ h
theorem nums_len (ps l : List Int) : (nums ps l).length = l.length := tab_len _ _
def numQ (L : Int) (ps : List Int) : List Int := if dE L ps = 0 then nums ps (sprd (2 ^ L.toNat) ps) else []
def bitQ (L : Int) (ps : List Int) : List Int := (numQ L ps).map fun x => L - hiF x
theorem number31 {h Y : Hp} {L : List Pc} (S : Sep h Y L) (i6 : Nat) (zn : AV) (nl : List Int) (j s : Nat) (m : MemC L i6 (.cells [zn] 22 true)) (hk : L[j]? = some (WI zn nl)) (hs : s < nl.length) (h1 : -100000 ≤ nl.getD s 0) (h2 : nl.getD s 0 ≤ 100000) (v : Int) (hv : (if nl.getD s 0 < -nl.getD s 0 then -nl.getD s 0 else nl.getD s 0) = v) : ACalls Try.prog 31 [I s, .ptr i6 0] Y (fun r h' => r = I v ∧ Sep h h' (L.set j (WI zn (nl.set s (v + 1))))) := by
  have hO : Own (encI .i64) 1 3 Y zn nl := S.own j hk
  have a : EI Y zn nl := mkEL iok 0 hO.elts
  have pz := a.p.sl
  have hb1 : 0 ≤ v ∧ v ≤ 100000 := by rw [← hv]; split <;> omega
  have hsx : (s : Int) < nl.length := by omega
  have hx : ((s : Nat) : Int).toNat = s := Int.toNat_natCast _
  subst hv
  refine acalls_of_wk hm Try.func31 rfl ?_
  simp only [Try.ntmps31, List.length_cons, List.length_nil, Nat.reduceAdd, Nat.reduceSub, List.reduceReplicate, List.cons_append, List.nil_append]
  show wk _ _ none _ _ ⟨_, []⟩ _
  with_reducible refine s_seq ?_
  with_reducible refine s_reg ?_
  refine sassign ?_
  simp only [pu', p0', c1', c0', i1', z0', b8_nat]
  with_reducible refine s_end ?_
  with_reducible refine s_then ?_
  with_reducible refine s_seq ?_
  (refine s_regQ (id := 1) [(0, true), (1, true), (2, true), (3, true), (4, true), (5, true), (6, true), (7, true), (8, true), (9, true), (10, true)] (by kernel_rfl) (by conv => lhs; simp only [pickO, List.getElem?_cons_succ, List.getElem?_cons_zero]) ?_)
  refine qload1 ?_
  simp only [pu', p0', c1', c0', i1', z0', b8_nat]
  refine qmove ?_
  simp only [pu', p0', c1', c0', i1', z0', b8_nat]
  refine qidxE ?_
  simp only [pu', p0', c1', c0', i1', z0', b8_nat]
  refine qloadE1 ?_
  simp only [pu', p0', c1', c0', i1', z0', b8_nat]
  refine qload1 ?_
  simp only [pu', p0', c1', c0', i1', z0', b8_nat]
  refine qmove ?_
  simp only [pu', p0', c1', c0', i1', z0', b8_nat]
  refine qidxE ?_
  simp only [pu', p0', c1', c0', i1', z0', b8_nat]
  refine qloadE1 ?_
  simp only [pu', p0', c1', c0', i1', z0', b8_nat]
  (refine q_gL (by rfl) (x_neg (by exact e_any (by rfl)) (by omega) (by omega)) ?_; simp only [Fr.put, List.set_cons_succ, List.set_cons_zero, Int.toNat_natCast, Nat.zero_add])
  refine qmax ?_
  simp only [pu', p0', c1', c0', i1', z0', b8_nat]
  refine qassign ?_
  simp only [pu', p0', c1', c0', i1', z0', b8_nat]
  with_reducible refine q_end ?_
  with_reducible refine s_then ?_
  with_reducible refine s_seq ?_
  with_reducible refine s_reg ?_
  refine sload1 ?_
  simp only [pu', p0', c1', c0', i1', z0', b8_nat]
  refine smove ?_
  simp only [pu', p0', c1', c0', i1', z0', b8_nat]
  refine smove ?_
  simp only [pu', p0', c1', c0', i1', z0', b8_nat]
  refine sadd ?_
  simp only [pu', p0', c1', c0', i1', z0', b8_nat]
  refine sidxE ?_
  simp only [pu', p0', c1', c0', i1', z0', b8_nat]
  (refine s_stE (x := (s : Int)) j ((if nl.getD s 0 < -nl.getD s 0 then -nl.getD s 0 else nl.getD s 0) + 1) (0 : Int) (fun Y1 T1 => ?_) inferInstance hk iok inferInstance (by omega) (by omega) (by rfl) inferInstance; rw [hx] at T1; simp only [Fr.put, List.set_cons_succ, List.set_cons_zero, Int.toNat_natCast, Nat.zero_add])
  with_reducible refine s_end ?_
  with_reducible refine s_then ?_
  with_reducible refine s_seq ?_
  with_reducible refine s_reg ?_
  refine smove ?_
  simp only [pu', p0', c1', c0', i1', z0', b8_nat]
  refine sassign ?_
  simp only [pu', p0', c1', c0', i1', z0', b8_nat]
  with_reducible refine s_end ?_
  with_reducible refine s_then ?_
  with_reducible refine s_ret ?_
  all_goals try with_reducible refine w_n ?_
  all_goals refine w_1 rfl (by first | exact v_t (by rfl) | exact v_c1 (C1.p) (by rfl) (HA.p) (by rfl) | exact v_cF (CA.p) (by rfl) (HA.p) (by rfl)) ?_
  exact ⟨rfl, T1⟩
end Go.Proofs.Ytbdnmgbahigdhaa
