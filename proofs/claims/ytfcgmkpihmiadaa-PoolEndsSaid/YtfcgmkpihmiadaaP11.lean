/-
  A part of the proof of a statement of a chapter's seat; conditions: stated at each theorem.
-/
import Derived.Test.YtfcgmkpihmiadaaP10
set_option linter.unusedVariables false
set_option linter.unusedSectionVars false
set_option linter.unusedSimpArgs false
set_option linter.unusedVariables false
set_option maxRecDepth 100000
set_option maxHeartbeats 8000000
namespace Go.Proofs.Ytfcgmkpihmiadaa
open Go.Az Go
/-! ### Numbers of workers and of units -/
def fu : List Int → Int → Int
  | [], _ => -1
  | u :: r, i => if badU u then i else fu r (i + 1)
theorem fu_iff : ∀ (l : List Int) (i : Int), 0 ≤ i → (0 ≤ fu l i ↔ ∃ u ∈ l, badU u)
  | [], i, h => by simp [fu]
  | u :: r, i, h => by
    rw [fu]
    by_cases hb : badU u
    · rw [if_pos hb]; exact ⟨fun _ => ⟨u, by simp, hb⟩, fun _ => h⟩
    · rw [if_neg hb, fu_iff r (i + 1) (by omega)]
      constructor
      · rintro ⟨x, hx, hb'⟩; exact ⟨x, by simp [hx], hb'⟩
      · rintro ⟨x, hx, hb'⟩
        rcases List.mem_cons.1 hx with rfl | hx
        · exact absurd hb' hb
        · exact ⟨x, hx, hb'⟩
theorem badf_any (u : Int) : ACalls Try.prog 68 [I u] [] (fun r _ => r = B (decide (badU u)) ∧ r.sc 0 = true) := by
  refine acalls_of_wk hm Try.func68 rfl ?_
  simp only [Try.ntmps68, List.length_cons, List.length_nil, Nat.reduceAdd, Nat.reduceSub, List.reduceReplicate, List.cons_append, List.nil_append]
  show wk _ _ none _ _ ⟨_, []⟩ _
  focus
    with_reducible refine s_seq ?_
    with_reducible refine s_reg ?_
    refine sassign ?_
    simp only [pu', p0', c1', c0', i1', z0', b8_nat]
    with_reducible refine s_end ?_
    with_reducible refine s_then ?_
    with_reducible refine s_seq ?_
    with_reducible refine s_reg ?_
    refine smove ?_
    simp only [pu', p0', c1', c0', i1', z0', b8_nat]
    refine sLt (fun hb => ?_) (fun hb => ?_)
    replace hb := dT' hb
    simp only [pu', p0', c1', c0', i1', z0', b8_nat]
    refine smove ?_
    simp only [pu', p0', c1', c0', i1', z0', b8_nat]
    refine sN ?_
    simp only [pu', p0', c1', c0', i1', z0', b8_nat]
    refine sN ?_
    simp only [pu', p0', c1', c0', i1', z0', b8_nat]
    refine spickT ?_
    simp only [pu', p0', c1', c0', i1', z0', b8_nat]
    refine sassign ?_
    simp only [pu', p0', c1', c0', i1', z0', b8_nat]
    with_reducible refine s_end ?_
    with_reducible refine s_then ?_
    with_reducible refine s_ret ?_
    rotate_left 1
    replace hb := dF' hb
    simp only [pu', p0', c1', c0', i1', z0', b8_nat]
    refine smove ?_
    simp only [pu', p0', c1', c0', i1', z0', b8_nat]
    refine smove ?_
    simp only [pu', p0', c1', c0', i1', z0', b8_nat]
    refine sGt (fun hb => ?_) (fun hb => ?_)
    replace hb := dT' hb
    simp only [pu', p0', c1', c0', i1', z0', b8_nat]
    refine spickF ?_
    simp only [pu', p0', c1', c0', i1', z0', b8_nat]
    refine sassign ?_
    simp only [pu', p0', c1', c0', i1', z0', b8_nat]
    with_reducible refine s_end ?_
    with_reducible refine s_then ?_
    with_reducible refine s_ret ?_
    rotate_left 1
    replace hb := dF' hb
    simp only [pu', p0', c1', c0', i1', z0', b8_nat]
    refine spickF ?_
    simp only [pu', p0', c1', c0', i1', z0', b8_nat]
    refine sassign ?_
    simp only [pu', p0', c1', c0', i1', z0', b8_nat]
    with_reducible refine s_end ?_
    with_reducible refine s_then ?_
    with_reducible refine s_ret ?_
    rotate_left 1
  all_goals try with_reducible refine w_n ?_
  all_goals refine w_1 rfl (by first | exact v_t (by rfl) | exact v_c1 (C1.p) (by rfl) (HA.p) (by rfl) | exact v_cF (CA.p) (by rfl) (HA.p) (by rfl)) ?_
  all_goals
    refine ⟨?_, rfl⟩
    first
      | rw [decide_eq_true (show badU u by unfold badU; omega)]; done
      | rw [decide_eq_false (show ¬ badU u by unfold badU; omega)]; done
theorem indexu_any (h : Hp) (s : AV) (l : List Int) (hS : Elts (encI .i64) 1 h s l) (hlen : l.length ≤ 1099511627776) : ACalls Try.prog 73 [s, .fn (.func 68) []] h (fun r h' => r = I (fu l 0) ∧ h' = h) := by
  refine acalls_of_wk hm Try.func73 rfl ?_
  simp only [Try.ntmps73, List.length_cons, List.length_nil, Nat.reduceAdd, Nat.reduceSub, List.reduceReplicate, List.cons_append, List.nil_append]
  show wk _ _ none _ _ ⟨_, []⟩ _
  have el1 := mkEL iok (0 : Int) hS
  with_reducible refine s_seq ?_
  with_reducible refine s_reg ?_
  refine sassign ?_
  simp only [pu', p0', c1', c0', i1', z0', b8_nat]
  with_reducible refine s_end ?_
  with_reducible refine s_then ?_
  with_reducible refine s_seq ?_
  with_reducible refine s_seq ?_
  with_reducible refine s_reg ?_
  refine smove ?_
  simp only [pu', p0', c1', c0', i1', z0', b8_nat]
  refine slenE ?_
  simp only [pu', p0', c1', c0', i1', z0', b8_nat]
  refine smove ?_
  simp only [pu', p0', c1', c0', i1', z0', b8_nat]
  with_reducible refine s_end ?_
  with_reducible refine s_then ?_
  with_reducible refine s_block ?_
  refine s_loop hm (fun (b : Nat) s' => [s, .fn (.func 68) [], U, U, I 0, s' 5, s' 6, I l.length, I b, s' 9, s' 10, s' 11, s' 12, s' 13, s' 14, s' 15, s' 16, s' 17, s' 18]) (fun _ => h) (fun b => b ≤ l.length ∧ fu (l.drop b) b = fu l 0) (fun b => l.length - b) 0 (by rfl) rfl ⟨Nat.zero_le _, rfl⟩ ?_
  rintro i s' ⟨hi1, hi2⟩
  have hd : i < l.length → fu (l.drop i) i = if badU (l.getD i 0) then (i : Int) else fu (l.drop (i + 1)) (i + 1) := fun h => by rw [dropT (d := 0) h, fu]
  have cb := badf_any (l.getD i 0)
  by_cases hb0 : badU (l.getD i 0)
  · rw [decide_eq_true hb0] at cb
    have el2 := mkEL iok (0 : Int) hS
    focus
      with_reducible refine s_seq ?_
      with_reducible refine s_reg ?_
      refine sLt (fun hb => ?_) (fun hb => ?_)
      replace hb := dT' hb
      simp only [pu', p0', c1', c0', i1', z0', b8_nat]
      with_reducible refine s_end ?_
      with_reducible refine s_then ?_
      with_reducible refine s_seq ?_
      refine sCT ?_
      with_reducible refine s_skip ?_
      with_reducible refine s_then ?_
      with_reducible refine s_seq ?_
      with_reducible refine s_block ?_
      with_reducible refine s_seq ?_
      with_reducible refine s_reg ?_
      refine smove ?_
      simp only [pu', p0', c1', c0', i1', z0', b8_nat]
      refine sassign ?_
      simp only [pu', p0', c1', c0', i1', z0', b8_nat]
      with_reducible refine s_end ?_
      with_reducible refine s_then ?_
      with_reducible refine s_seq ?_
      with_reducible refine s_reg ?_
      refine smove ?_
      simp only [pu', p0', c1', c0', i1', z0', b8_nat]
      refine smove ?_
      simp only [pu', p0', c1', c0', i1', z0', b8_nat]
      refine smove ?_
      simp only [pu', p0', c1', c0', i1', z0', b8_nat]
      refine sidxE ?_
      simp only [pu', p0', c1', c0', i1', z0', b8_nat]
      refine sloadE1 ?_
      simp only [pu', p0', c1', c0', i1', z0', b8_nat]
      refine sK (hx := rfl) (cb) ?_
      simp only [pu', p0', c1', c0', i1', z0', b8_nat]
      with_reducible refine s_end ?_
      with_reducible refine s_then ?_
      refine sCT ?_
      with_reducible refine s_seq ?_
      with_reducible refine s_reg ?_
      refine smove ?_
      simp only [pu', p0', c1', c0', i1', z0', b8_nat]
      refine sassign ?_
      simp only [pu', p0', c1', c0', i1', z0', b8_nat]
      with_reducible refine s_end ?_
      with_reducible refine s_then ?_
      with_reducible refine s_ret ?_
      with_reducible refine s_blkR ?_
      with_reducible refine s_thenR ?_
      with_reducible refine l_ret ?_
      with_reducible refine s_blkR ?_
      with_reducible refine s_thenR ?_
      rotate_left 1
      replace hb := dF' hb
      simp only [pu', p0', c1', c0', i1', z0', b8_nat]
      with_reducible refine s_end ?_
      with_reducible refine s_then ?_
      with_reducible refine s_seq ?_
      refine sCF ?_
      with_reducible refine s_exit ?_
      with_reducible refine s_thenE ?_
      with_reducible refine l_exit ?_
      with_reducible refine s_blkE ?_
      with_reducible refine s_then ?_
      with_reducible refine s_seq ?_
      with_reducible refine s_reg ?_
      refine sassign ?_
      simp only [pu', p0', c1', c0', i1', z0', b8_nat]
      with_reducible refine s_end ?_
      with_reducible refine s_then ?_
      with_reducible refine s_ret ?_
      rotate_left 1
    all_goals first
      | (((try with_reducible refine w_n ?_); refine w_1 rfl (by first | exact v_t (by rfl) | exact v_c1 (C1.p) (by rfl) (HA.p) (by rfl) | exact v_cF (CA.p) (by rfl) (HA.p) (by rfl)) ?_); refine ⟨?_, rfl⟩; rw [hd (by omega), if_pos hb0] at hi2; rw [hi2]; done)
      | (((try with_reducible refine w_n ?_); refine w_1 rfl (by first | exact v_t (by rfl) | exact v_c1 (C1.p) (by rfl) (HA.p) (by rfl) | exact v_cF (CA.p) (by rfl) (HA.p) (by rfl)) ?_); refine ⟨?_, rfl⟩; rw [List.drop_eq_nil_of_le (by omega), fu] at hi2; rw [← hi2])
  · rw [decide_eq_false hb0] at cb
    have el3 := mkEL iok (0 : Int) hS
    focus
      with_reducible refine s_seq ?_
      with_reducible refine s_reg ?_
      refine sLt (fun hb => ?_) (fun hb => ?_)
      replace hb := dT' hb
      simp only [pu', p0', c1', c0', i1', z0', b8_nat]
      with_reducible refine s_end ?_
      with_reducible refine s_then ?_
      with_reducible refine s_seq ?_
      refine sCT ?_
      with_reducible refine s_skip ?_
      with_reducible refine s_then ?_
      with_reducible refine s_seq ?_
      with_reducible refine s_block ?_
      with_reducible refine s_seq ?_
      with_reducible refine s_reg ?_
      refine smove ?_
      simp only [pu', p0', c1', c0', i1', z0', b8_nat]
      refine sassign ?_
      simp only [pu', p0', c1', c0', i1', z0', b8_nat]
      with_reducible refine s_end ?_
      with_reducible refine s_then ?_
      with_reducible refine s_seq ?_
      with_reducible refine s_reg ?_
      refine smove ?_
      simp only [pu', p0', c1', c0', i1', z0', b8_nat]
      refine smove ?_
      simp only [pu', p0', c1', c0', i1', z0', b8_nat]
      refine smove ?_
      simp only [pu', p0', c1', c0', i1', z0', b8_nat]
      refine sidxE ?_
      simp only [pu', p0', c1', c0', i1', z0', b8_nat]
      refine sloadE1 ?_
      simp only [pu', p0', c1', c0', i1', z0', b8_nat]
      refine sK (hx := rfl) (cb) ?_
      simp only [pu', p0', c1', c0', i1', z0', b8_nat]
      with_reducible refine s_end ?_
      with_reducible refine s_then ?_
      refine sCF ?_
      with_reducible refine s_skip ?_
      with_reducible refine s_blkN ?_
      with_reducible refine s_then ?_
      with_reducible refine s_reg ?_
      refine sadd ?_
      simp only [pu', p0', c1', c0', i1', z0', b8_nat]
      refine smove ?_
      simp only [pu', p0', c1', c0', i1', z0', b8_nat]
      with_reducible refine s_end ?_
      rotate_left 1
      replace hb := dF' hb
      simp only [pu', p0', c1', c0', i1', z0', b8_nat]
      with_reducible refine s_end ?_
      with_reducible refine s_then ?_
      with_reducible refine s_seq ?_
      refine sCF ?_
      with_reducible refine s_exit ?_
      with_reducible refine s_thenE ?_
      with_reducible refine l_exit ?_
      with_reducible refine s_blkE ?_
      with_reducible refine s_then ?_
      with_reducible refine s_seq ?_
      with_reducible refine s_reg ?_
      refine sassign ?_
      simp only [pu', p0', c1', c0', i1', z0', b8_nat]
      with_reducible refine s_end ?_
      with_reducible refine s_then ?_
      with_reducible refine s_ret ?_
      rotate_left 1
    all_goals first
      | (refine l_next (i + 1) ⟨by omega, ?_⟩ (by omega) (by rfl) rfl; rw [hd (by omega), if_neg hb0] at hi2; exact hi2)
      | (((try with_reducible refine w_n ?_); refine w_1 rfl (by first | exact v_t (by rfl) | exact v_c1 (C1.p) (by rfl) (HA.p) (by rfl) | exact v_cF (CA.p) (by rfl) (HA.p) (by rfl)) ?_); refine ⟨?_, rfl⟩; rw [List.drop_eq_nil_of_le (by omega), fu] at hi2; rw [← hi2])
theorem containsu_any (h : Hp) (s : AV) (l : List Int) (hS : Elts (encI .i64) 1 h s l) (hlen : l.length ≤ 1099511627776) : ACalls Try.prog 67 [s, .fn (.func 68) []] h (fun r h' => r = B (decide (∃ u ∈ l, badU u)) ∧ h' = h) := by
  have hf := fu_iff l 0 (by omega)
  refine acalls_of_wk hm Try.func67 rfl ?_
  simp only [Try.ntmps67, List.length_cons, List.length_nil, Nat.reduceAdd, Nat.reduceSub, List.reduceReplicate, List.cons_append, List.nil_append]
  show wk _ _ none _ _ ⟨_, []⟩ _
  focus
    with_reducible refine s_seq ?_
    with_reducible refine s_reg ?_
    refine sassign ?_
    simp only [pu', p0', c1', c0', i1', z0', b8_nat]
    with_reducible refine s_end ?_
    with_reducible refine s_then ?_
    with_reducible refine s_seq ?_
    with_reducible refine s_reg ?_
    refine smove ?_
    simp only [pu', p0', c1', c0', i1', z0', b8_nat]
    refine smove ?_
    simp only [pu', p0', c1', c0', i1', z0', b8_nat]
    refine sM (hx := rfl) (indexu_any _ _ _ hS hlen) ?_
    simp only [pu', p0', c1', c0', i1', z0', b8_nat]
    refine sGe (fun hb => ?_) (fun hb => ?_)
    replace hb := dT' hb
    simp only [pu', p0', c1', c0', i1', z0', b8_nat]
    refine sassign ?_
    simp only [pu', p0', c1', c0', i1', z0', b8_nat]
    with_reducible refine s_end ?_
    with_reducible refine s_then ?_
    with_reducible refine s_ret ?_
    rotate_left 1
    replace hb := dF' hb
    simp only [pu', p0', c1', c0', i1', z0', b8_nat]
    refine sassign ?_
    simp only [pu', p0', c1', c0', i1', z0', b8_nat]
    with_reducible refine s_end ?_
    with_reducible refine s_then ?_
    with_reducible refine s_ret ?_
    rotate_left 1
  all_goals try with_reducible refine w_n ?_
  all_goals refine w_1 rfl (by first | exact v_t (by rfl) | exact v_c1 (C1.p) (by rfl) (HA.p) (by rfl) | exact v_cF (CA.p) (by rfl) (HA.p) (by rfl)) ?_
  all_goals
    refine ⟨?_, rfl⟩
    first
      | rw [decide_eq_true (hf.1 (by omega))]; done
      | rw [decide_eq_false (fun hh => by have := hf.2 hh; omega)]; done
theorem giv_a {n : Int} {l : List Int} (h : n < 1 ∨ 64 < n) : givE n l = 30 := by unfold givE; exact if_pos h
theorem giv_b {n : Int} {l : List Int} (h : ¬ (n < 1 ∨ 64 < n)) (h1 : l.length < 1 ∨ 4096 < l.length) : givE n l = 6 := by unfold givE; exact (if_neg h).trans (if_pos h1)
theorem giv_c {n : Int} {l : List Int} (h : ¬ (n < 1 ∨ 64 < n)) (h1 : ¬ (l.length < 1 ∨ 4096 < l.length)) (hb : ∃ u ∈ l, badU u) : givE n l = 2 := by unfold givE; exact (if_neg h).trans ((if_neg h1).trans (if_pos hb))
theorem giv_d {n : Int} {l : List Int} (h : ¬ (n < 1 ∨ 64 < n)) (h1 : ¬ (l.length < 1 ∨ 4096 < l.length)) (hb : ¬ ∃ u ∈ l, badU u) : givE n l = 0 := by unfold givE; exact (if_neg h).trans ((if_neg h1).trans (if_neg hb))
theorem sizes_any (n : Int) (h : Hp) (s : AV) (l : List Int) (hS : Elts (encI .i64) 1 h s l) (hlen : l.length ≤ 1099511627776) : ACalls Try.prog 46 [I n, s] h (fun r h' => r = I (givE n l) ∧ h' = h) := by
  have c := containsu_any h s l hS hlen
  by_cases hbad : ∃ u ∈ l, badU u
  · rw [decide_eq_true hbad] at c
    refine acalls_of_wk hm Try.func46 rfl ?_
    simp only [Try.ntmps46, List.length_cons, List.length_nil, Nat.reduceAdd, Nat.reduceSub, List.reduceReplicate, List.cons_append, List.nil_append]
    show wk _ _ none _ _ ⟨_, []⟩ _
    have el4 := mkEL iok (0 : Int) hS
    focus
      with_reducible refine s_seq ?_
      with_reducible refine s_reg ?_
      refine sassign ?_
      simp only [pu', p0', c1', c0', i1', z0', b8_nat]
      with_reducible refine s_end ?_
      with_reducible refine s_then ?_
      with_reducible refine s_seq ?_
      with_reducible refine s_block ?_
      with_reducible refine s_seq ?_
      with_reducible refine s_reg ?_
      refine smove ?_
      simp only [pu', p0', c1', c0', i1', z0', b8_nat]
      refine sLt (fun hb => ?_) (fun hb => ?_)
      replace hb := dT' hb
      simp only [pu', p0', c1', c0', i1', z0', b8_nat]
      refine smove ?_
      simp only [pu', p0', c1', c0', i1', z0', b8_nat]
      refine sN ?_
      simp only [pu', p0', c1', c0', i1', z0', b8_nat]
      refine sN ?_
      simp only [pu', p0', c1', c0', i1', z0', b8_nat]
      refine spickT ?_
      simp only [pu', p0', c1', c0', i1', z0', b8_nat]
      refine sassign ?_
      simp only [pu', p0', c1', c0', i1', z0', b8_nat]
      with_reducible refine s_end ?_
      with_reducible refine s_then ?_
      refine sCT ?_
      with_reducible refine s_seq ?_
      with_reducible refine s_reg ?_
      refine sassign ?_
      simp only [pu', p0', c1', c0', i1', z0', b8_nat]
      with_reducible refine s_end ?_
      with_reducible refine s_then ?_
      with_reducible refine s_ret ?_
      with_reducible refine s_blkR ?_
      with_reducible refine s_thenR ?_
      rotate_left 1
      replace hb := dF' hb
      simp only [pu', p0', c1', c0', i1', z0', b8_nat]
      refine smove ?_
      simp only [pu', p0', c1', c0', i1', z0', b8_nat]
      refine smove ?_
      simp only [pu', p0', c1', c0', i1', z0', b8_nat]
      refine sGt (fun hb => ?_) (fun hb => ?_)
      replace hb := dT' hb
      simp only [pu', p0', c1', c0', i1', z0', b8_nat]
      refine spickF ?_
      simp only [pu', p0', c1', c0', i1', z0', b8_nat]
      refine sassign ?_
      simp only [pu', p0', c1', c0', i1', z0', b8_nat]
      with_reducible refine s_end ?_
      with_reducible refine s_then ?_
      refine sCT ?_
      with_reducible refine s_seq ?_
      with_reducible refine s_reg ?_
      refine sassign ?_
      simp only [pu', p0', c1', c0', i1', z0', b8_nat]
      with_reducible refine s_end ?_
      with_reducible refine s_then ?_
      with_reducible refine s_ret ?_
      with_reducible refine s_blkR ?_
      with_reducible refine s_thenR ?_
      rotate_left 1
      replace hb := dF' hb
      simp only [pu', p0', c1', c0', i1', z0', b8_nat]
      refine spickF ?_
      simp only [pu', p0', c1', c0', i1', z0', b8_nat]
      refine sassign ?_
      simp only [pu', p0', c1', c0', i1', z0', b8_nat]
      with_reducible refine s_end ?_
      with_reducible refine s_then ?_
      refine sCF ?_
      with_reducible refine s_seq ?_
      with_reducible refine s_reg ?_
      refine smove ?_
      simp only [pu', p0', c1', c0', i1', z0', b8_nat]
      refine slenE ?_
      simp only [pu', p0', c1', c0', i1', z0', b8_nat]
      refine sLt (fun hb => ?_) (fun hb => ?_)
      replace hb := dT' hb
      simp only [pu', p0', c1', c0', i1', z0', b8_nat]
      refine smove ?_
      simp only [pu', p0', c1', c0', i1', z0', b8_nat]
      refine sN ?_
      simp only [pu', p0', c1', c0', i1', z0', b8_nat]
      refine sN ?_
      simp only [pu', p0', c1', c0', i1', z0', b8_nat]
      refine sN ?_
      simp only [pu', p0', c1', c0', i1', z0', b8_nat]
      refine spickT ?_
      simp only [pu', p0', c1', c0', i1', z0', b8_nat]
      refine sassign ?_
      simp only [pu', p0', c1', c0', i1', z0', b8_nat]
      with_reducible refine s_end ?_
      with_reducible refine s_then ?_
      refine sCT ?_
      with_reducible refine s_seq ?_
      with_reducible refine s_reg ?_
      refine sassign ?_
      simp only [pu', p0', c1', c0', i1', z0', b8_nat]
      with_reducible refine s_end ?_
      with_reducible refine s_then ?_
      with_reducible refine s_ret ?_
      with_reducible refine s_blkR ?_
      with_reducible refine s_thenR ?_
      rotate_left 1
      replace hb := dF' hb
      simp only [pu', p0', c1', c0', i1', z0', b8_nat]
      refine smove ?_
      simp only [pu', p0', c1', c0', i1', z0', b8_nat]
      refine smove ?_
      simp only [pu', p0', c1', c0', i1', z0', b8_nat]
      refine slenE ?_
      simp only [pu', p0', c1', c0', i1', z0', b8_nat]
      refine sGt (fun hb => ?_) (fun hb => ?_)
      replace hb := dT' hb
      simp only [pu', p0', c1', c0', i1', z0', b8_nat]
      refine spickF ?_
      simp only [pu', p0', c1', c0', i1', z0', b8_nat]
      refine sassign ?_
      simp only [pu', p0', c1', c0', i1', z0', b8_nat]
      with_reducible refine s_end ?_
      with_reducible refine s_then ?_
      refine sCT ?_
      with_reducible refine s_seq ?_
      with_reducible refine s_reg ?_
      refine sassign ?_
      simp only [pu', p0', c1', c0', i1', z0', b8_nat]
      with_reducible refine s_end ?_
      with_reducible refine s_then ?_
      with_reducible refine s_ret ?_
      with_reducible refine s_blkR ?_
      with_reducible refine s_thenR ?_
      rotate_left 1
      replace hb := dF' hb
      simp only [pu', p0', c1', c0', i1', z0', b8_nat]
      refine spickF ?_
      simp only [pu', p0', c1', c0', i1', z0', b8_nat]
      refine sassign ?_
      simp only [pu', p0', c1', c0', i1', z0', b8_nat]
      with_reducible refine s_end ?_
      with_reducible refine s_then ?_
      refine sCF ?_
      with_reducible refine s_seq ?_
      with_reducible refine s_reg ?_
      refine smove ?_
      simp only [pu', p0', c1', c0', i1', z0', b8_nat]
      refine sM (hx := rfl) (c) ?_
      simp only [pu', p0', c1', c0', i1', z0', b8_nat]
      refine sassign ?_
      simp only [pu', p0', c1', c0', i1', z0', b8_nat]
      with_reducible refine s_end ?_
      with_reducible refine s_then ?_
      refine sCT ?_
      with_reducible refine s_seq ?_
      with_reducible refine s_reg ?_
      refine sassign ?_
      simp only [pu', p0', c1', c0', i1', z0', b8_nat]
      with_reducible refine s_end ?_
      with_reducible refine s_then ?_
      with_reducible refine s_ret ?_
      with_reducible refine s_blkR ?_
      with_reducible refine s_thenR ?_
      rotate_left 1
    all_goals try with_reducible refine w_n ?_
    all_goals refine w_1 rfl (by first | exact v_t (by rfl) | exact v_c1 (C1.p) (by rfl) (HA.p) (by rfl) | exact v_cF (CA.p) (by rfl) (HA.p) (by rfl)) ?_
    all_goals
      refine ⟨?_, rfl⟩
      first
        | rw [giv_a (by omega)]; done
        | rw [giv_b (by omega) (by omega)]; done
        | rw [giv_c (by omega) (by omega) hbad]; done
  · rw [decide_eq_false hbad] at c
    refine acalls_of_wk hm Try.func46 rfl ?_
    simp only [Try.ntmps46, List.length_cons, List.length_nil, Nat.reduceAdd, Nat.reduceSub, List.reduceReplicate, List.cons_append, List.nil_append]
    show wk _ _ none _ _ ⟨_, []⟩ _
    have el5 := mkEL iok (0 : Int) hS
    focus
      with_reducible refine s_seq ?_
      with_reducible refine s_reg ?_
      refine sassign ?_
      simp only [pu', p0', c1', c0', i1', z0', b8_nat]
      with_reducible refine s_end ?_
      with_reducible refine s_then ?_
      with_reducible refine s_seq ?_
      with_reducible refine s_block ?_
      with_reducible refine s_seq ?_
      with_reducible refine s_reg ?_
      refine smove ?_
      simp only [pu', p0', c1', c0', i1', z0', b8_nat]
      refine sLt (fun hb => ?_) (fun hb => ?_)
      replace hb := dT' hb
      simp only [pu', p0', c1', c0', i1', z0', b8_nat]
      refine smove ?_
      simp only [pu', p0', c1', c0', i1', z0', b8_nat]
      refine sN ?_
      simp only [pu', p0', c1', c0', i1', z0', b8_nat]
      refine sN ?_
      simp only [pu', p0', c1', c0', i1', z0', b8_nat]
      refine spickT ?_
      simp only [pu', p0', c1', c0', i1', z0', b8_nat]
      refine sassign ?_
      simp only [pu', p0', c1', c0', i1', z0', b8_nat]
      with_reducible refine s_end ?_
      with_reducible refine s_then ?_
      refine sCT ?_
      with_reducible refine s_seq ?_
      with_reducible refine s_reg ?_
      refine sassign ?_
      simp only [pu', p0', c1', c0', i1', z0', b8_nat]
      with_reducible refine s_end ?_
      with_reducible refine s_then ?_
      with_reducible refine s_ret ?_
      with_reducible refine s_blkR ?_
      with_reducible refine s_thenR ?_
      rotate_left 1
      replace hb := dF' hb
      simp only [pu', p0', c1', c0', i1', z0', b8_nat]
      refine smove ?_
      simp only [pu', p0', c1', c0', i1', z0', b8_nat]
      refine smove ?_
      simp only [pu', p0', c1', c0', i1', z0', b8_nat]
      refine sGt (fun hb => ?_) (fun hb => ?_)
      replace hb := dT' hb
      simp only [pu', p0', c1', c0', i1', z0', b8_nat]
      refine spickF ?_
      simp only [pu', p0', c1', c0', i1', z0', b8_nat]
      refine sassign ?_
      simp only [pu', p0', c1', c0', i1', z0', b8_nat]
      with_reducible refine s_end ?_
      with_reducible refine s_then ?_
      refine sCT ?_
      with_reducible refine s_seq ?_
      with_reducible refine s_reg ?_
      refine sassign ?_
      simp only [pu', p0', c1', c0', i1', z0', b8_nat]
      with_reducible refine s_end ?_
      with_reducible refine s_then ?_
      with_reducible refine s_ret ?_
      with_reducible refine s_blkR ?_
      with_reducible refine s_thenR ?_
      rotate_left 1
      replace hb := dF' hb
      simp only [pu', p0', c1', c0', i1', z0', b8_nat]
      refine spickF ?_
      simp only [pu', p0', c1', c0', i1', z0', b8_nat]
      refine sassign ?_
      simp only [pu', p0', c1', c0', i1', z0', b8_nat]
      with_reducible refine s_end ?_
      with_reducible refine s_then ?_
      refine sCF ?_
      with_reducible refine s_seq ?_
      with_reducible refine s_reg ?_
      refine smove ?_
      simp only [pu', p0', c1', c0', i1', z0', b8_nat]
      refine slenE ?_
      simp only [pu', p0', c1', c0', i1', z0', b8_nat]
      refine sLt (fun hb => ?_) (fun hb => ?_)
      replace hb := dT' hb
      simp only [pu', p0', c1', c0', i1', z0', b8_nat]
      refine smove ?_
      simp only [pu', p0', c1', c0', i1', z0', b8_nat]
      refine sN ?_
      simp only [pu', p0', c1', c0', i1', z0', b8_nat]
      refine sN ?_
      simp only [pu', p0', c1', c0', i1', z0', b8_nat]
      refine sN ?_
      simp only [pu', p0', c1', c0', i1', z0', b8_nat]
      refine spickT ?_
      simp only [pu', p0', c1', c0', i1', z0', b8_nat]
      refine sassign ?_
      simp only [pu', p0', c1', c0', i1', z0', b8_nat]
      with_reducible refine s_end ?_
      with_reducible refine s_then ?_
      refine sCT ?_
      with_reducible refine s_seq ?_
      with_reducible refine s_reg ?_
      refine sassign ?_
      simp only [pu', p0', c1', c0', i1', z0', b8_nat]
      with_reducible refine s_end ?_
      with_reducible refine s_then ?_
      with_reducible refine s_ret ?_
      with_reducible refine s_blkR ?_
      with_reducible refine s_thenR ?_
      rotate_left 1
      replace hb := dF' hb
      simp only [pu', p0', c1', c0', i1', z0', b8_nat]
      refine smove ?_
      simp only [pu', p0', c1', c0', i1', z0', b8_nat]
      refine smove ?_
      simp only [pu', p0', c1', c0', i1', z0', b8_nat]
      refine slenE ?_
      simp only [pu', p0', c1', c0', i1', z0', b8_nat]
      refine sGt (fun hb => ?_) (fun hb => ?_)
      replace hb := dT' hb
      simp only [pu', p0', c1', c0', i1', z0', b8_nat]
      refine spickF ?_
      simp only [pu', p0', c1', c0', i1', z0', b8_nat]
      refine sassign ?_
      simp only [pu', p0', c1', c0', i1', z0', b8_nat]
      with_reducible refine s_end ?_
      with_reducible refine s_then ?_
      refine sCT ?_
      with_reducible refine s_seq ?_
      with_reducible refine s_reg ?_
      refine sassign ?_
      simp only [pu', p0', c1', c0', i1', z0', b8_nat]
      with_reducible refine s_end ?_
      with_reducible refine s_then ?_
      with_reducible refine s_ret ?_
      with_reducible refine s_blkR ?_
      with_reducible refine s_thenR ?_
      rotate_left 1
      replace hb := dF' hb
      simp only [pu', p0', c1', c0', i1', z0', b8_nat]
      refine spickF ?_
      simp only [pu', p0', c1', c0', i1', z0', b8_nat]
      refine sassign ?_
      simp only [pu', p0', c1', c0', i1', z0', b8_nat]
      with_reducible refine s_end ?_
      with_reducible refine s_then ?_
      refine sCF ?_
      with_reducible refine s_seq ?_
      with_reducible refine s_reg ?_
      refine smove ?_
      simp only [pu', p0', c1', c0', i1', z0', b8_nat]
      refine sM (hx := rfl) (c) ?_
      simp only [pu', p0', c1', c0', i1', z0', b8_nat]
      refine sassign ?_
      simp only [pu', p0', c1', c0', i1', z0', b8_nat]
      with_reducible refine s_end ?_
      with_reducible refine s_then ?_
      refine sCF ?_
      with_reducible refine s_skip ?_
      with_reducible refine s_blkN ?_
      with_reducible refine s_then ?_
      with_reducible refine s_seq ?_
      with_reducible refine s_reg ?_
      refine sassign ?_
      simp only [pu', p0', c1', c0', i1', z0', b8_nat]
      with_reducible refine s_end ?_
      with_reducible refine s_then ?_
      with_reducible refine s_ret ?_
      rotate_left 1
    all_goals try with_reducible refine w_n ?_
    all_goals refine w_1 rfl (by first | exact v_t (by rfl) | exact v_c1 (C1.p) (by rfl) (HA.p) (by rfl) | exact v_cF (CA.p) (by rfl) (HA.p) (by rfl)) ?_
    all_goals
      refine ⟨?_, rfl⟩
      first
        | rw [giv_a (by omega)]; done
        | rw [giv_b (by omega) (by omega)]; done
        | rw [giv_d (by omega) (by omega) hbad]; done
theorem Sep.eqL {h Y : Hp} {L L' : List Pc} (s : Sep h Y L) (e : L = L') : Sep h Y L' := e ▸ s
/-! ### Jobs are emitted -/
theorem emitted_mk (h : Hp) (i : Nat) : ACalls Try.prog 41 [.ptr i 0] h (fun r h' => r = .fn (.func 63) [.ptr h.length 0] ∧ h' = h ++ [.cells [.ptr i 0] 66 true]) := by
  refine acalls_of_wk hm Try.func41 rfl ?_
  simp only [Try.ntmps41, List.length_cons, List.length_nil, Nat.reduceAdd, Nat.reduceSub, List.reduceReplicate, List.cons_append, List.nil_append]
  show wk _ _ none _ _ ⟨_, []⟩ _
  with_reducible refine s_seq ?_
  with_reducible refine s_reg ?_
  refine sbox1 ?_
  simp only [pu', p0', c1', c0', i1', n0', n3', n1', n2', a2', a1', a0', n4', Nat.reduceAdd, z0', n5', sa0, sa1, sa2, sa3, sa4, sa5, sa6, sa7, sa8, sa9, sa10, sa11]
  refine sassign ?_
  simp only [pu', p0', c1', c0', i1', z0', b8_nat]
  with_reducible refine s_end ?_
  with_reducible refine s_then ?_
  with_reducible refine s_seq ?_
  with_reducible refine s_reg ?_
  refine sfunc1 ?_
  simp only [pu', p0', c1', c0', i1', z0', b8_nat]
  refine sassign ?_
  simp only [pu', p0', c1', c0', i1', z0', b8_nat]
  with_reducible refine s_end ?_
  with_reducible refine s_then ?_
  with_reducible refine s_ret ?_
  all_goals try with_reducible refine w_n ?_
  all_goals refine w_1 rfl (by first | exact v_t (by rfl) | exact v_c1 (C1.p) (by rfl) (HA.p) (by rfl) | exact v_cF (CA.p) (by rfl) (HA.p) (by rfl)) ?_
  exact ⟨rfl, rfl⟩
abbrev CP (ip : Nat) (su sw z : AV) (o : Int) : Pc := pcC ip (.cells [su, sw, z, I o] 26 true)
theorem em_stop {h G0 : Hp} {ip ic il : Nat} {N : Hp → Prop} (p : Pl) (su sw z : AV) (lo : AObj) (E : List Pc) (S0 : Sep h G0 (CP ip su sw z p.out :: pcC ic (.cells [.ptr ip 0] 66 true) :: pcC il lo :: WT z p.ts :: E)) (a : QI h E su p.us) (b : QK h E sw p.ws) (pz : SlC z) (pu : SlC su) (pw : SlC sw) (hf : Fits p) (ho : 0 ≤ p.out ∧ p.out < 1000000)
    (hy : ∀ X z', SlC z' → Sep h X (WT z' (emN p).ts :: CP ip su sw z' (p.out + 1) :: pcC ic (.cells [.ptr ip 0] 66 true) :: pcC il lo :: E) → AYld Try.prog il [I p.out] X (fun r h' => r = B false ∧ N h')) :
    ACalls Try.prog 63 [.yld il, .ptr ic 0] G0 (fun _ h' => (emC p ∧ N h') ∨ (¬ emC p ∧ h' = G0)) := by
  have f1 := hf.u
  have f2 := hf.w
  have f3 := hf.t
  obtain ⟨us, ws, ts, out⟩ := p
  simp only [] at f1 f2 f3 S0 a b ho hy ⊢
  have hcp : emC ⟨us, ws, ts, out⟩ ↔ out < ts.length ∧ (ts.getD out.toNat tk0).o = true := Iff.rfl
  refine acalls_of_wk hm Try.func63 rfl ?_
  simp only [Try.ntmps63, List.length_cons, List.length_nil, Nat.reduceAdd, Nat.reduceSub, List.reduceReplicate, List.cons_append, List.nil_append]
  show wk _ _ none _ _ ⟨_, []⟩ _
  with_reducible refine s_block ?_
  refine s_loop hm (fun (b : Nat) s' => [.yld il, .ptr ic 0, s' 2, s' 3, s' 4, s' 5, s' 6, s' 7, s' 8, s' 9, s' 10, s' 11, s' 12, s' 13, s' 14, s' 15, s' 16, s' 17, s' 18, s' 19, s' 20, s' 21, s' 22, s' 23, s' 24, s' 25, s' 26, s' 27, s' 28, s' 29, s' 30, s' 31, s' 32, s' 33, s' 34, s' 35, s' 36, s' 37, s' 38, s' 39, s' 40, s' 41, s' 42, s' 43, s' 44, s' 45, s' 46, s' 47]) (fun _ => G0) (fun _ => True) (fun b => b) 0 (by rfl) rfl trivial ?_
  rintro k s' _
  have hf2 : Fits ⟨us, ws, ts, out + 1⟩ := ⟨f1, f2, f3⟩
  focus
    with_reducible refine s_seq ?_
    with_reducible refine s_seq ?_
    (refine s_regQ (id := 0) [(0, true), (1, true), (2, true), (3, true), (4, true), (5, true), (6, true), (7, true), (8, true), (9, true), (10, true), (11, true), (12, true), (13, true), (14, true), (15, true), (16, true), (17, true), (18, true), (19, true), (20, true), (21, true), (22, true)] (by kernel_rfl) (by conv => lhs; simp only [pickO, List.getElem?_cons_succ, List.getElem?_cons_zero]) ?_)
    refine qload1 ?_
    simp only [pu', p0', c1', c0', i1', z0', b8_nat]
    refine qnilP ?_
    simp only [pu', p0', c1', c0', i1', z0', b8_nat]
    refine qfad ?_
    simp only [pu', p0', c1', c0', i1', z0', b8_nat]
    refine qload1 ?_
    simp only [pu', p0', c1', c0', i1', z0', b8_nat]
    refine qload1 ?_
    simp only [pu', p0', c1', c0', i1', z0', b8_nat]
    refine qnilP ?_
    simp only [pu', p0', c1', c0', i1', z0', b8_nat]
    refine qfad ?_
    simp only [pu', p0', c1', c0', i1', z0', b8_nat]
    refine qload1 ?_
    simp only [pu', p0', c1', c0', i1', z0', b8_nat]
    refine qlenE ?_
    simp only [pu', p0', c1', c0', i1', z0', b8_nat]
    refine qLt (fun hb => ?_) (fun hb => ?_)
    replace hb := dT' hb
    simp only [pu', p0', c1', c0', i1', z0', b8_nat]
    refine qmove ?_
    simp only [pu', p0', c1', c0', i1', z0', b8_nat]
    refine qload1 ?_
    simp only [pu', p0', c1', c0', i1', z0', b8_nat]
    refine qnilP ?_
    simp only [pu', p0', c1', c0', i1', z0', b8_nat]
    refine qfad ?_
    simp only [pu', p0', c1', c0', i1', z0', b8_nat]
    refine qload1 ?_
    simp only [pu', p0', c1', c0', i1', z0', b8_nat]
    refine qload1 ?_
    simp only [pu', p0', c1', c0', i1', z0', b8_nat]
    refine qnilP ?_
    simp only [pu', p0', c1', c0', i1', z0', b8_nat]
    refine qfad ?_
    simp only [pu', p0', c1', c0', i1', z0', b8_nat]
    refine qload1 ?_
    simp only [pu', p0', c1', c0', i1', z0', b8_nat]
    refine qidxE ?_
    simp only [pu', p0', c1', c0', i1', z0', b8_nat]
    refine qfadE ?_
    simp only [pu', p0', c1', c0', i1', z0', b8_nat]
    refine qloadBF (fun hb => ?_) (fun hb => ?_)
    simp only [pu', p0', c1', c0', i1', z0', b8_nat]
    refine qpickT ?_
    simp only [pu', p0', c1', c0', i1', z0', b8_nat]
    with_reducible refine q_end ?_
    with_reducible refine s_then ?_
    refine sCT ?_
    with_reducible refine s_skip ?_
    with_reducible refine s_then ?_
    with_reducible refine s_block ?_
    with_reducible refine s_seq ?_
    with_reducible refine s_reg ?_
    refine sload1 ?_
    simp only [pu', p0', c1', c0', i1', z0', b8_nat]
    refine snilP ?_
    simp only [pu', p0', c1', c0', i1', z0', b8_nat]
    refine sfad ?_
    simp only [pu', p0', c1', c0', i1', z0', b8_nat]
    refine sload1 ?_
    simp only [pu', p0', c1', c0', i1', z0', b8_nat]
    refine sassign ?_
    simp only [pu', p0', c1', c0', i1', z0', b8_nat]
    with_reducible refine s_end ?_
    with_reducible refine s_then ?_
    with_reducible refine s_seq ?_
    with_reducible refine s_reg ?_
    refine sload1 ?_
    simp only [pu', p0', c1', c0', i1', z0', b8_nat]
    refine snilP ?_
    simp only [pu', p0', c1', c0', i1', z0', b8_nat]
    refine sfad ?_
    simp only [pu', p0', c1', c0', i1', z0', b8_nat]
    refine sload1 ?_
    simp only [pu', p0', c1', c0', i1', z0', b8_nat]
    refine sadd ?_
    simp only [pu', p0', c1', c0', i1', z0', b8_nat]
    refine snilP ?_
    simp only [pu', p0', c1', c0', i1', z0', b8_nat]
    refine sfad ?_
    simp only [pu', p0', c1', c0', i1', z0', b8_nat]
    refine sstore1 ?_
    simp only [pu', p0', c1', c0', i1', n0', n3', n1', n2', a2', a1', a0', n4', Nat.reduceAdd, z0', n5', sa0, sa1, sa2, sa3, sa4, sa5, sa6, sa7, sa8, sa9, sa10, sa11]
    with_reducible refine s_end ?_
    with_reducible refine s_then ?_
    with_reducible refine s_seq ?_
    (refine s_regT (id := 3) (.light 0 (.light 1 (.light 2 (.light 3 (.alt 4 [3] (.light 5 (.alt 6 [0, 1, 2, 3, 5] (.done) (.no))) (.no)))))) [4, 6] (by kernel_rfl) (by conv => lhs; simp only [pickT, List.getElem?_cons_succ, List.getElem?_cons_zero]) ?_)
    refine tload1 ?_
    simp only [pu', p0', c1', c0', i1', z0', b8_nat]
    refine tload1 ?_
    simp only [pu', p0', c1', c0', i1', z0', b8_nat]
    refine tnilP ?_
    simp only [pu', p0', c1', c0', i1', z0', b8_nat]
    refine tloadW ?_
    simp only [pu', p0', c1', c0', i1', z0', b8_nat]
    refine uC (hx := rfl) ((admit_in ⟨us, ws, ts, out + 1⟩ su sw z inferInstance inferInstance inferInstance inferInstance pz pu pw hf2 (by simp only []; omega)).mono ?_)
    rintro _ m42 _ ⟨z1, rfl, pz1, S2⟩
    refine ⟨(by repeat' first | exact trivial | refine ⟨.inl rfl, ?_⟩ | refine ⟨.inr (ha_same inferInstance inferInstance), ?_⟩), ?_⟩
    simp only [pu', p0', c1', c0', i1', n0', n3', n1', n2', a2', a1', a0', n4', Nat.reduceAdd, z0', n5', sa0, sa1, sa2, sa3, sa4, sa5, sa6, sa7, sa8, sa9, sa10, sa11]
    refine tnilP ?_
    simp only [pu', p0', c1', c0', i1', z0', b8_nat]
    refine ustoreF ?_
    simp only [pu', p0', c1', c0', i1', n0', n3', n1', n2', a2', a1', a0', n4', Nat.reduceAdd, z0', n5', sa0, sa1, sa2, sa3, sa4, sa5, sa6, sa7, sa8, sa9, sa10, sa11]
    with_reducible refine t_end ?_
    with_reducible refine s_then ?_
    with_reducible refine s_seq ?_
    with_reducible refine s_reg ?_
    refine smove ?_
    simp only [pu', p0', c1', c0', i1', z0', b8_nat]
    refine smove ?_
    simp only [pu', p0', c1', c0', i1', z0', b8_nat]
    rotate_left 1
    simp only [pu', p0', c1', c0', i1', z0', b8_nat]
    refine qpickT ?_
    simp only [pu', p0', c1', c0', i1', z0', b8_nat]
    with_reducible refine q_end ?_
    with_reducible refine s_then ?_
    refine sCF ?_
    with_reducible refine s_exit ?_
    with_reducible refine s_thenE ?_
    with_reducible refine l_exit ?_
    with_reducible refine s_blkE ?_
    rotate_left 1
    replace hb := dF' hb
    simp only [pu', p0', c1', c0', i1', z0', b8_nat]
    refine qmove ?_
    simp only [pu', p0', c1', c0', i1', z0', b8_nat]
    refine qN ?_
    simp only [pu', p0', c1', c0', i1', z0', b8_nat]
    refine qN ?_
    simp only [pu', p0', c1', c0', i1', z0', b8_nat]
    refine qN ?_
    simp only [pu', p0', c1', c0', i1', z0', b8_nat]
    refine qN ?_
    simp only [pu', p0', c1', c0', i1', z0', b8_nat]
    refine qN ?_
    simp only [pu', p0', c1', c0', i1', z0', b8_nat]
    refine qN ?_
    simp only [pu', p0', c1', c0', i1', z0', b8_nat]
    refine qN ?_
    simp only [pu', p0', c1', c0', i1', z0', b8_nat]
    refine qN ?_
    simp only [pu', p0', c1', c0', i1', z0', b8_nat]
    refine qN ?_
    simp only [pu', p0', c1', c0', i1', z0', b8_nat]
    refine qN ?_
    simp only [pu', p0', c1', c0', i1', z0', b8_nat]
    refine qN ?_
    simp only [pu', p0', c1', c0', i1', z0', b8_nat]
    refine qpickF ?_
    simp only [pu', p0', c1', c0', i1', z0', b8_nat]
    with_reducible refine q_end ?_
    with_reducible refine s_then ?_
    refine sCF ?_
    with_reducible refine s_exit ?_
    with_reducible refine s_thenE ?_
    with_reducible refine l_exit ?_
    with_reducible refine s_blkE ?_
    rotate_left 1
  · refine sY (hx := rfl) ((hy _ z1 pz1 ?_).mono ?_)
    · exact Sep.eqL inferInstance rfl
    rintro r Y _ ⟨rfl, hN⟩
    simp only [Fr.put, List.set_cons_succ, List.set_cons_zero, Int.toNat_natCast, Nat.zero_add]
    refine snotF ?_
    simp only [pu', p0', c1', c0', i1', z0', b8_nat]
    with_reducible refine s_end ?_
    with_reducible refine s_then ?_
    refine sCT ?_
    with_reducible refine s_ret ?_
    with_reducible refine s_blkR ?_
    with_reducible refine l_ret ?_
    with_reducible refine s_blkR ?_
    all_goals try with_reducible refine w_n ?_
    all_goals refine w_0 rfl  ?_
    exact .inl ⟨hcp.2 ⟨by omega, by assumption⟩, hN⟩
  · all_goals try with_reducible refine w_n ?_
    all_goals refine w_0 rfl  ?_
    exact .inr ⟨fun hh => (by have := (hcp.1 hh).2; rw [hb] at this; cases this), rfl⟩
  · all_goals try with_reducible refine w_n ?_
    all_goals refine w_0 rfl  ?_
    exact .inr ⟨fun hh => hb (hcp.1 hh).1, rfl⟩
theorem adm_le : ∀ (n : Nat) (p : Pl), p.ts.length ≤ p.us.length → (adm n p).ts.length ≤ p.us.length
  | 0, p, h => h
  | n + 1, p, h => by
    by_cases h1 : (p.ts.length : Int) < admN p
    · rw [adm_go h1]
      have := admN_le p
      exact adm_le n ⟨p.us, p.ws, p.ts ++ [newT (p.us.getD p.ts.length 0)], p.out⟩ (by simp only [List.length_append, List.length_singleton]; omega)
    · rw [adm_no h1]; exact h
structure EmB where
  p : Pl
  z : AV
  zo : AV
  l : List Int
  G : Hp
  m : Nat
theorem em_all {h G0 : Hp} {ip ic il io : Nat} (p0 : Pl) (su sw z0 : AV) (lo : AObj) (E : List Pc) (S0 : Sep h G0 (WT z0 p0.ts :: CP ip su sw z0 p0.out :: pcC ic (.cells [.ptr ip 0] 66 true) :: pcC il lo :: pcC io (.cells [nilS] 22 true) :: WI nilS [] :: E)) (a : QI h E su p0.us) (b : QK h E sw p0.ws) (pz0 : SlC z0) (pu : SlC su) (pw : SlC sw) (hf : Fits p0) (ho : 0 ≤ p0.out ∧ p0.out ≤ p0.ts.length) (hl : p0.ts.length ≤ p0.us.length)
    (hy : ∀ X z zo (q : Pl) (n : Int) (l : List Int), l.length ≤ 1000000 → SlC z → SlC zo → Sep h X (WT z q.ts :: CP ip su sw z q.out :: pcC ic (.cells [.ptr ip 0] 66 true) :: pcC il lo :: pcC io (.cells [zo] 22 true) :: WI zo l :: E) → AYld Try.prog il [I n] X (fun r h' => r = B true ∧ ∃ zo', SlC zo' ∧ Sep h h' (WT z q.ts :: CP ip su sw z q.out :: pcC ic (.cells [.ptr ip 0] 66 true) :: pcC il lo :: pcC io (.cells [zo'] 22 true) :: WI zo' (l ++ [n]) :: E))) :
    ACalls Try.prog 63 [.yld il, .ptr ic 0] G0 (fun _ h' => ∃ q z zo, q = emi (p0.us.length + 1) p0 [] ∧ SlC z ∧ SlC zo ∧ Sep h h' (WT z q.p.ts :: CP ip su sw z q.p.out :: pcC ic (.cells [.ptr ip 0] 66 true) :: pcC il lo :: pcC io (.cells [zo] 22 true) :: WI zo q.l :: E)) := by
  have f1 := hf.u
  have f2 := hf.w
  have f3 := hf.t
  obtain ⟨us, ws, ts0, out0⟩ := p0
  simp only [] at f1 f2 f3 S0 a b ho hl ⊢
  refine acalls_of_wk hm Try.func63 rfl ?_
  simp only [Try.ntmps63, List.length_cons, List.length_nil, Nat.reduceAdd, Nat.reduceSub, List.reduceReplicate, List.cons_append, List.nil_append]
  show wk _ _ none _ _ ⟨_, []⟩ _
  with_reducible refine s_block ?_
  refine s_loop hm (fun (b : EmB) s' => [.yld il, .ptr ic 0, s' 2, s' 3, s' 4, s' 5, s' 6, s' 7, s' 8, s' 9, s' 10, s' 11, s' 12, s' 13, s' 14, s' 15, s' 16, s' 17, s' 18, s' 19, s' 20, s' 21, s' 22, s' 23, s' 24, s' 25, s' 26, s' 27, s' 28, s' 29, s' 30, s' 31, s' 32, s' 33, s' 34, s' 35, s' 36, s' 37, s' 38, s' 39, s' 40, s' 41, s' 42, s' 43, s' 44, s' 45, s' 46, s' 47]) (fun b => b.G) (fun b => b.p.us = us ∧ b.p.ws = ws ∧ 0 ≤ b.p.out ∧ b.p.out ≤ b.p.ts.length ∧ b.p.ts.length ≤ us.length ∧ (b.l.length : Int) ≤ b.p.out ∧ SlC b.z ∧ SlC b.zo ∧ Sep h b.G (WT b.z b.p.ts :: CP ip su sw b.z b.p.out :: pcC ic (.cells [.ptr ip 0] 66 true) :: pcC il lo :: pcC io (.cells [b.zo] 22 true) :: WI b.zo b.l :: E) ∧ (us.length : Int) < b.m + b.p.out ∧ emi b.m b.p b.l = emi (us.length + 1) ⟨us, ws, ts0, out0⟩ []) (fun b => (us.length - b.p.out).toNat) ⟨⟨us, ws, ts0, out0⟩, z0, nilS, [], G0, us.length + 1⟩ (by rfl) rfl ⟨rfl, rfl, ho.1, ho.2, hl, by simp only [List.length_nil]; omega, pz0, inferInstance, S0, by simp only []; omega, rfl⟩ ?_
  rintro ⟨⟨us', ws', ts, out⟩, z, zo, l, G, m⟩ s' ⟨rfl, rfl, g0, g1, g2, g3, pz, pzo, S1, g4, g5⟩
  simp only [] at g0 g1 g2 g3 pz pzo S1 g4 g5 a b f1 f2 ⊢
  have hcp : emC ⟨us', ws', ts, out⟩ ↔ out < ts.length ∧ (ts.getD out.toNat tk0).o = true := Iff.rfl
  have hf2 : Fits ⟨us', ws', ts, out + 1⟩ := ⟨f1, f2, by simp only []; omega⟩
  have hk := adm_keep us'.length ⟨us', ws', ts, out + 1⟩
  have hk2 := adm_le us'.length ⟨us', ws', ts, out + 1⟩ (by simp only []; omega)
  focus
    with_reducible refine s_seq ?_
    with_reducible refine s_seq ?_
    (refine s_regQ (id := 0) [(0, true), (1, true), (2, true), (3, true), (4, true), (5, true), (6, true), (7, true), (8, true), (9, true), (10, true), (11, true), (12, true), (13, true), (14, true), (15, true), (16, true), (17, true), (18, true), (19, true), (20, true), (21, true), (22, true)] (by kernel_rfl) (by conv => lhs; simp only [pickO, List.getElem?_cons_succ, List.getElem?_cons_zero]) ?_)
    refine qload1 ?_
    simp only [pu', p0', c1', c0', i1', z0', b8_nat]
    refine qnilP ?_
    simp only [pu', p0', c1', c0', i1', z0', b8_nat]
    refine qfad ?_
    simp only [pu', p0', c1', c0', i1', z0', b8_nat]
    refine qload1 ?_
    simp only [pu', p0', c1', c0', i1', z0', b8_nat]
    refine qload1 ?_
    simp only [pu', p0', c1', c0', i1', z0', b8_nat]
    refine qnilP ?_
    simp only [pu', p0', c1', c0', i1', z0', b8_nat]
    refine qfad ?_
    simp only [pu', p0', c1', c0', i1', z0', b8_nat]
    refine qload1 ?_
    simp only [pu', p0', c1', c0', i1', z0', b8_nat]
    refine qlenE ?_
    simp only [pu', p0', c1', c0', i1', z0', b8_nat]
    refine qLt (fun hb => ?_) (fun hb => ?_)
    replace hb := dT' hb
    simp only [pu', p0', c1', c0', i1', z0', b8_nat]
    refine qmove ?_
    simp only [pu', p0', c1', c0', i1', z0', b8_nat]
    refine qload1 ?_
    simp only [pu', p0', c1', c0', i1', z0', b8_nat]
    refine qnilP ?_
    simp only [pu', p0', c1', c0', i1', z0', b8_nat]
    refine qfad ?_
    simp only [pu', p0', c1', c0', i1', z0', b8_nat]
    refine qload1 ?_
    simp only [pu', p0', c1', c0', i1', z0', b8_nat]
    refine qload1 ?_
    simp only [pu', p0', c1', c0', i1', z0', b8_nat]
    refine qnilP ?_
    simp only [pu', p0', c1', c0', i1', z0', b8_nat]
    refine qfad ?_
    simp only [pu', p0', c1', c0', i1', z0', b8_nat]
    refine qload1 ?_
    simp only [pu', p0', c1', c0', i1', z0', b8_nat]
    refine qidxE ?_
    simp only [pu', p0', c1', c0', i1', z0', b8_nat]
    refine qfadE ?_
    simp only [pu', p0', c1', c0', i1', z0', b8_nat]
    refine qloadBF (fun hb => ?_) (fun hb => ?_)
    simp only [pu', p0', c1', c0', i1', z0', b8_nat]
    refine qpickT ?_
    simp only [pu', p0', c1', c0', i1', z0', b8_nat]
    with_reducible refine q_end ?_
    with_reducible refine s_then ?_
    refine sCT ?_
    with_reducible refine s_skip ?_
    with_reducible refine s_then ?_
    with_reducible refine s_block ?_
    with_reducible refine s_seq ?_
    with_reducible refine s_reg ?_
    refine sload1 ?_
    simp only [pu', p0', c1', c0', i1', z0', b8_nat]
    refine snilP ?_
    simp only [pu', p0', c1', c0', i1', z0', b8_nat]
    refine sfad ?_
    simp only [pu', p0', c1', c0', i1', z0', b8_nat]
    refine sload1 ?_
    simp only [pu', p0', c1', c0', i1', z0', b8_nat]
    refine sassign ?_
    simp only [pu', p0', c1', c0', i1', z0', b8_nat]
    with_reducible refine s_end ?_
    with_reducible refine s_then ?_
    with_reducible refine s_seq ?_
    with_reducible refine s_reg ?_
    refine sload1 ?_
    simp only [pu', p0', c1', c0', i1', z0', b8_nat]
    refine snilP ?_
    simp only [pu', p0', c1', c0', i1', z0', b8_nat]
    refine sfad ?_
    simp only [pu', p0', c1', c0', i1', z0', b8_nat]
    refine sload1 ?_
    simp only [pu', p0', c1', c0', i1', z0', b8_nat]
    refine sadd ?_
    simp only [pu', p0', c1', c0', i1', z0', b8_nat]
    refine snilP ?_
    simp only [pu', p0', c1', c0', i1', z0', b8_nat]
    refine sfad ?_
    simp only [pu', p0', c1', c0', i1', z0', b8_nat]
    refine sstore1 ?_
    simp only [pu', p0', c1', c0', i1', n0', n3', n1', n2', a2', a1', a0', n4', Nat.reduceAdd, z0', n5', sa0, sa1, sa2, sa3, sa4, sa5, sa6, sa7, sa8, sa9, sa10, sa11]
    with_reducible refine s_end ?_
    with_reducible refine s_then ?_
    with_reducible refine s_seq ?_
    (refine s_regT (id := 3) (.light 0 (.light 1 (.light 2 (.light 3 (.alt 4 [3] (.light 5 (.alt 6 [0, 1, 2, 3, 5] (.done) (.no))) (.no)))))) [4, 6] (by kernel_rfl) (by conv => lhs; simp only [pickT, List.getElem?_cons_succ, List.getElem?_cons_zero]) ?_)
    refine tload1 ?_
    simp only [pu', p0', c1', c0', i1', z0', b8_nat]
    refine tload1 ?_
    simp only [pu', p0', c1', c0', i1', z0', b8_nat]
    refine tnilP ?_
    simp only [pu', p0', c1', c0', i1', z0', b8_nat]
    refine tloadW ?_
    simp only [pu', p0', c1', c0', i1', z0', b8_nat]
    refine uC (hx := rfl) ((admit_in ⟨us', ws', ts, out + 1⟩ su sw z inferInstance inferInstance inferInstance inferInstance pz pu pw hf2 (by simp only []; omega)).mono ?_)
    rintro _ m42 _ ⟨z1, rfl, pz1, S2⟩
    refine ⟨(by repeat' first | exact trivial | refine ⟨.inl rfl, ?_⟩ | refine ⟨.inr (ha_same inferInstance inferInstance), ?_⟩), ?_⟩
    simp only [pu', p0', c1', c0', i1', n0', n3', n1', n2', a2', a1', a0', n4', Nat.reduceAdd, z0', n5', sa0, sa1, sa2, sa3, sa4, sa5, sa6, sa7, sa8, sa9, sa10, sa11]
    refine tnilP ?_
    simp only [pu', p0', c1', c0', i1', z0', b8_nat]
    refine ustoreF ?_
    simp only [pu', p0', c1', c0', i1', n0', n3', n1', n2', a2', a1', a0', n4', Nat.reduceAdd, z0', n5', sa0, sa1, sa2, sa3, sa4, sa5, sa6, sa7, sa8, sa9, sa10, sa11]
    with_reducible refine t_end ?_
    with_reducible refine s_then ?_
    with_reducible refine s_seq ?_
    with_reducible refine s_reg ?_
    refine smove ?_
    simp only [pu', p0', c1', c0', i1', z0', b8_nat]
    refine smove ?_
    simp only [pu', p0', c1', c0', i1', z0', b8_nat]
    rotate_left 1
    simp only [pu', p0', c1', c0', i1', z0', b8_nat]
    refine qpickT ?_
    simp only [pu', p0', c1', c0', i1', z0', b8_nat]
    with_reducible refine q_end ?_
    with_reducible refine s_then ?_
    refine sCF ?_
    with_reducible refine s_exit ?_
    with_reducible refine s_thenE ?_
    with_reducible refine l_exit ?_
    with_reducible refine s_blkE ?_
    rotate_left 1
    replace hb := dF' hb
    simp only [pu', p0', c1', c0', i1', z0', b8_nat]
    refine qmove ?_
    simp only [pu', p0', c1', c0', i1', z0', b8_nat]
    refine qN ?_
    simp only [pu', p0', c1', c0', i1', z0', b8_nat]
    refine qN ?_
    simp only [pu', p0', c1', c0', i1', z0', b8_nat]
    refine qN ?_
    simp only [pu', p0', c1', c0', i1', z0', b8_nat]
    refine qN ?_
    simp only [pu', p0', c1', c0', i1', z0', b8_nat]
    refine qN ?_
    simp only [pu', p0', c1', c0', i1', z0', b8_nat]
    refine qN ?_
    simp only [pu', p0', c1', c0', i1', z0', b8_nat]
    refine qN ?_
    simp only [pu', p0', c1', c0', i1', z0', b8_nat]
    refine qN ?_
    simp only [pu', p0', c1', c0', i1', z0', b8_nat]
    refine qN ?_
    simp only [pu', p0', c1', c0', i1', z0', b8_nat]
    refine qN ?_
    simp only [pu', p0', c1', c0', i1', z0', b8_nat]
    refine qN ?_
    simp only [pu', p0', c1', c0', i1', z0', b8_nat]
    refine qpickF ?_
    simp only [pu', p0', c1', c0', i1', z0', b8_nat]
    with_reducible refine q_end ?_
    with_reducible refine s_then ?_
    refine sCF ?_
    with_reducible refine s_exit ?_
    with_reducible refine s_thenE ?_
    with_reducible refine l_exit ?_
    with_reducible refine s_blkE ?_
    rotate_left 1
  · refine sY (hx := rfl) ((hy _ z1 zo (emN ⟨us', ws', ts, out⟩) out l (by omega) pz1 pzo ?_).mono ?_)
    · have e : (emN ⟨us', ws', ts, out⟩).out = out + 1 := hk.2.2.1
      rw [e]
      exact Sep.eqL inferInstance rfl
    rintro r Y _ ⟨rfl, zo', pzo', S3⟩
    simp only [Fr.put, List.set_cons_succ, List.set_cons_zero, Int.toNat_natCast, Nat.zero_add]
    refine snotT ?_
    simp only [pu', p0', c1', c0', i1', z0', b8_nat]
    with_reducible refine s_end ?_
    with_reducible refine s_then ?_
    refine sCF ?_
    with_reducible refine s_skip ?_
    with_reducible refine s_blkN ?_
    obtain ⟨m, rfl⟩ : ∃ k, m = k + 1 := ⟨m - 1, by omega⟩
    rw [emi_go (hcp.2 ⟨by omega, by assumption⟩)] at g5
    have e1 : (emN ⟨us', ws', ts, out⟩).us = us' := hk.1
    have e2 : (emN ⟨us', ws', ts, out⟩).ws = ws' := hk.2.1
    have e3 : (emN ⟨us', ws', ts, out⟩).out = out + 1 := hk.2.2.1
    have e4 : ts.length ≤ (emN ⟨us', ws', ts, out⟩).ts.length := hk.2.2.2
    have e5 : (emN ⟨us', ws', ts, out⟩).ts.length ≤ us'.length := hk2
    refine l_next ⟨emN ⟨us', ws', ts, out⟩, z1, zo', l ++ [out], Y, m⟩ ⟨e1, e2, by simp only [e3]; omega, by simp only [e3]; omega, e5, by simp only [e3, List.length_append, List.length_singleton]; omega, pz1, pzo', S3, by simp only [e3]; omega, g5⟩ (by simp only [e3]; omega) (by rfl) rfl
  · all_goals try with_reducible refine w_n ?_
    all_goals refine w_0 rfl  ?_
    rw [emi_no (fun hh => by have := (hcp.1 hh).2; rw [hb] at this; cases this)] at g5
    exact ⟨_, z, zo, g5, pz, pzo, S1⟩
  · all_goals try with_reducible refine w_n ?_
    all_goals refine w_0 rfl  ?_
    rw [emi_no (fun hh => hb (hcp.1 hh).1)] at g5
    exact ⟨_, z, zo, g5, pz, pzo, S1⟩
end Go.Proofs.Ytfcgmkpihmiadaa
