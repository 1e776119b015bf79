/-
  A part of the proof of a statement of a chapter's seat; conditions: stated at each theorem.
-/
import Derived.Test.YtckljanplahbkaaM5
set_option linter.unusedVariables false
set_option linter.unusedSectionVars false
set_option linter.unusedSimpArgs false
set_option linter.unusedVariables false
set_option maxRecDepth 100000
set_option maxHeartbeats 4000000
namespace Go.Proofs.Ytckljanplahbkaa
open Go.Az Go
/-! ### The highest bit -/
def hiF (n : Int) : Int := if n ≤ 0 then -1 else Nat.log2 n.toNat
theorem hi_bd (n : Int) : -1 ≤ hiF n := by
  unfold hiF
  split <;> omega
theorem hi_lt {n : Int} {k : Nat} (h : n < 2 ^ k) (hk : 0 < k) : hiF n < k := by
  unfold hiF
  split
  · omega
  · have e : ((2 ^ k : Nat) : Int) = 2 ^ k := by simp
    have := (Nat.log2_lt (n := n.toNat) (k := k) (by omega)).2 (by omega)
    omega
theorem hi_self {n : Int} (h : 0 ≤ n) : n < pw (hiF n + 1) := by
  unfold hiF pw
  split
  · have : n = 0 := by omega
    subst this; decide
  · have h1 := Nat.lt_log2_self (n := n.toNat)
    have e : ((2 ^ (n.toNat.log2 + 1) : Nat) : Int) = 2 ^ (n.toNat.log2 + 1) := by simp
    rw [show (((n.toNat.log2 : Nat) : Int) + 1).toNat = n.toNat.log2 + 1 by omega, ← e]
    omega
def hOf (v : Int) (i : Nat) : Int := if i = 0 ∨ v ≤ 0 then -1 else min ((i : Int) - 1) (Nat.log2 v.toNat)
theorem h_yes {v : Int} {i : Nat} (h0 : 0 ≤ v) (h : v / 2 ^ i > 0) : hOf v (i + 1) = i := by
  have e : ((2 ^ i : Nat) : Int) = 2 ^ i := by simp
  have hp : 0 < 2 ^ i := Nat.pow_pos (by omega)
  rw [← e] at h
  have hv : ((2 ^ i : Nat) : Int) ≤ v := by
    rcases Int.lt_or_le v ((2 ^ i : Nat) : Int) with h1 | h1
    · rw [Int.ediv_eq_zero_of_lt h0 h1] at h; omega
    · exact h1
  have h2 : i ≤ Nat.log2 v.toNat := (Nat.le_log2 (by omega)).2 (by omega)
  rw [hOf, if_neg (by omega)]; omega
theorem h_no {v : Int} {i : Nat} (h0 : 0 ≤ v) (h : ¬ v / 2 ^ i > 0) : hOf v (i + 1) = hOf v i := by
  have e : ((2 ^ i : Nat) : Int) = 2 ^ i := by simp
  have hp : 0 < 2 ^ i := Nat.pow_pos (by omega)
  rw [← e] at h
  by_cases hv : v ≤ 0
  · rw [hOf, hOf, if_pos (.inr hv), if_pos (.inr hv)]
  · have hlt : v < ((2 ^ i : Nat) : Int) := by
      rcases Int.lt_or_le v ((2 ^ i : Nat) : Int) with h1 | h1
      · exact h1
      · have h3 : 1 ≤ v / ((2 ^ i : Nat) : Int) := Int.le_ediv_of_mul_le (by omega) (by omega)
        omega
    have h2 : Nat.log2 v.toNat < i := (Nat.log2_lt (by omega)).2 (by omega)
    rw [hOf, hOf, if_neg (by omega), if_neg (by omega)]; omega
theorem h_end {v : Int} (h0 : 0 ≤ v) (h : v < 9223372036854775808) : hOf v 63 = hiF v := by
  unfold hOf hiF
  by_cases hv : v ≤ 0
  · rw [if_pos (.inr hv), if_pos hv]
  · have h2 : Nat.log2 v.toNat < 63 := (Nat.log2_lt (by omega)).2 (by omega)
    rw [if_neg (by omega), if_neg hv]; omega
theorem high_any (n : Int) (h0 : 0 ≤ n) (h : n ≤ 4611686018427387904) : ACalls Try.prog 49 [I n] [] (fun r _ => r = I (hiF n) ∧ r.sc 0 = true) := by
  refine acalls_of_wk hm Try.func49 rfl ?_
  simp only [Try.ntmps49, List.length_cons, List.length_nil, Nat.reduceAdd, Nat.reduceSub, List.reduceReplicate, List.cons_append, List.nil_append]
  show wk _ _ none _ _ ⟨_, []⟩ _
  with_reducible refine s_seq ?_
  with_reducible refine s_reg ?_
  refine sassign ?_
  simp only [pu', p0', c1', c0', i1', z0', b8_nat]
  with_reducible refine s_end ?_
  with_reducible refine s_then ?_
  with_reducible refine s_seq ?_
  with_reducible refine s_reg ?_
  refine sassign ?_
  simp only [pu', p0', c1', c0', i1', z0', b8_nat]
  with_reducible refine s_end ?_
  with_reducible refine s_then ?_
  with_reducible refine s_seq ?_
  with_reducible refine s_seq ?_
  with_reducible refine s_reg ?_
  refine smove ?_
  simp only [pu', p0', c1', c0', i1', z0', b8_nat]
  with_reducible refine s_end ?_
  with_reducible refine s_then ?_
  with_reducible refine s_block ?_
  refine s_loop hm (fun (i : Nat) s' => [I n, s' 1, s' 2, I (hOf n i), s' 4, I i, s' 6, s' 7, s' 8, s' 9, s' 10, s' 11, s' 12, s' 13, s' 14]) (fun _ => []) (fun i => i ≤ 63) (fun i => 63 - i) 0 (by rfl) rfl (by simp) ?_
  intro i s' hi
  focus
    with_reducible refine s_seq ?_
    with_reducible refine s_reg ?_
    refine sLt (fun hb => ?_) (fun hb => ?_)
    replace hb := dT' hb
    simp only [pu', p0', c1', c0', i1', z0', b8_nat]
    with_reducible refine s_end ?_
    with_reducible refine s_then ?_
    with_reducible refine s_seq ?_
    refine sCT ?_
    with_reducible refine s_skip ?_
    with_reducible refine s_then ?_
    with_reducible refine s_seq ?_
    with_reducible refine s_block ?_
    with_reducible refine s_seq ?_
    with_reducible refine s_reg ?_
    refine smove ?_
    simp only [pu', p0', c1', c0', i1', z0', b8_nat]
    refine sassign ?_
    simp only [pu', p0', c1', c0', i1', z0', b8_nat]
    with_reducible refine s_end ?_
    with_reducible refine s_then ?_
    with_reducible refine s_seq ?_
    with_reducible refine s_reg ?_
    refine smove ?_
    simp only [pu', p0', c1', c0', i1', z0', b8_nat]
    refine smove ?_
    simp only [pu', p0', c1', c0', i1', z0', b8_nat]
    refine sshr ?_
    simp only [pu', p0', c1', c0', i1', z0', b8_nat]
    refine sGt (fun hb => ?_) (fun hb => ?_)
    replace hb := dT' hb
    simp only [pu', p0', c1', c0', i1', z0', b8_nat]
    with_reducible refine s_end ?_
    with_reducible refine s_then ?_
    refine sCT ?_
    with_reducible refine s_reg ?_
    refine smove ?_
    simp only [pu', p0', c1', c0', i1', z0', b8_nat]
    refine sassign ?_
    simp only [pu', p0', c1', c0', i1', z0', b8_nat]
    with_reducible refine s_end ?_
    with_reducible refine s_blkN ?_
    with_reducible refine s_then ?_
    with_reducible refine s_reg ?_
    refine sadd ?_
    simp only [pu', p0', c1', c0', i1', z0', b8_nat]
    refine smove ?_
    simp only [pu', p0', c1', c0', i1', z0', b8_nat]
    with_reducible refine s_end ?_
    rotate_left 1
    replace hb := dF' hb
    simp only [pu', p0', c1', c0', i1', z0', b8_nat]
    with_reducible refine s_end ?_
    with_reducible refine s_then ?_
    refine sCF ?_
    with_reducible refine s_skip ?_
    with_reducible refine s_blkN ?_
    with_reducible refine s_then ?_
    with_reducible refine s_reg ?_
    refine sadd ?_
    simp only [pu', p0', c1', c0', i1', z0', b8_nat]
    refine smove ?_
    simp only [pu', p0', c1', c0', i1', z0', b8_nat]
    with_reducible refine s_end ?_
    rotate_left 1
    replace hb := dF' hb
    simp only [pu', p0', c1', c0', i1', z0', b8_nat]
    with_reducible refine s_end ?_
    with_reducible refine s_then ?_
    with_reducible refine s_seq ?_
    refine sCF ?_
    with_reducible refine s_exit ?_
    with_reducible refine s_thenE ?_
    with_reducible refine l_exit ?_
    with_reducible refine s_blkE ?_
    with_reducible refine s_then ?_
    with_reducible refine s_seq ?_
    with_reducible refine s_reg ?_
    refine smove ?_
    simp only [pu', p0', c1', c0', i1', z0', b8_nat]
    refine sassign ?_
    simp only [pu', p0', c1', c0', i1', z0', b8_nat]
    with_reducible refine s_end ?_
    with_reducible refine s_then ?_
    with_reducible refine s_ret ?_
    rotate_left 1
  · refine l_next (i + 1) (by omega) (by omega) ?_ rfl
    rw [h_yes h0 (by omega)]; rfl
  · refine l_next (i + 1) (by omega) (by omega) ?_ rfl
    rw [h_no h0 (by omega)]; rfl
  · ((try with_reducible refine w_n ?_); refine w_1 rfl (by first | exact v_t (by rfl) | exact v_c1 (C1.p) (by rfl) (HA.p) (by rfl) | exact v_cF (CA.p) (by rfl) (HA.p) (by rfl)) ?_)
    rw [show i = 63 by omega, h_end h0 (by omega)]
    exact ⟨rfl, rfl⟩
theorem bits_any (n : Int) (h0 : 0 ≤ n) (h : n ≤ 4611686018427387904) : ACalls Try.prog 44 [I n] [] (fun r _ => r = I (hiF n + 1) ∧ r.sc 0 = true) := by
  have hb1 := hi_bd n
  have hb2 := hi_lt (n := n) (k := 63) (by omega) (by omega)
  refine acalls_of_wk hm Try.func44 rfl ?_
  simp only [Try.ntmps44, List.length_cons, List.length_nil, Nat.reduceAdd, Nat.reduceSub, List.reduceReplicate, List.cons_append, List.nil_append]
  show wk _ _ none _ _ ⟨_, []⟩ _
  with_reducible refine s_seq ?_
  with_reducible refine s_reg ?_
  refine sassign ?_
  simp only [pu', p0', c1', c0', i1', z0', b8_nat]
  with_reducible refine s_end ?_
  with_reducible refine s_then ?_
  with_reducible refine s_seq ?_
  with_reducible refine s_reg ?_
  refine smove ?_
  simp only [pu', p0', c1', c0', i1', z0', b8_nat]
  refine sK (hx := rfl) (high_any _ h0 h) ?_
  simp only [pu', p0', c1', c0', i1', z0', b8_nat]
  refine sadd ?_
  simp only [pu', p0', c1', c0', i1', z0', b8_nat]
  refine sassign ?_
  simp only [pu', p0', c1', c0', i1', z0', b8_nat]
  with_reducible refine s_end ?_
  with_reducible refine s_then ?_
  with_reducible refine s_ret ?_
  all_goals try with_reducible refine w_n ?_
  all_goals refine w_1 rfl (by first | exact v_t (by rfl) | exact v_c1 (C1.p) (by rfl) (HA.p) (by rfl) | exact v_cF (CA.p) (by rfl) (HA.p) (by rfl)) ?_
  exact ⟨rfl, rfl⟩
end Go.Proofs.Ytckljanplahbkaa
