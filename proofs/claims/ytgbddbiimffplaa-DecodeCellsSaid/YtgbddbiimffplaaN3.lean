/-
  A part of the proof of a statement of a chapter's seat; conditions: stated at each theorem.
-/
import Derived.Test.YtgbddbiimffplaaN2
set_option linter.unusedVariables false
set_option linter.unusedSectionVars false
set_option linter.unusedSimpArgs false
set_option linter.unusedVariables false
set_option maxRecDepth 100000
set_option maxHeartbeats 8000000
namespace Go.Proofs.Ytgbddbiimffplaa
open Go.Az Go
/-! ### The error of a distribution -/
theorem getD_mem {l : List Int} {n : Nat} (h : n < l.length) : l.getD n 0 ∈ l := by
  rw [List.getD_eq_getElem?_getD, List.getElem?_eq_getElem h]; exact List.getElem_mem h
def mnF (l : List Int) : Int := l.foldl (fun m x => if x < m then x else m) (l.getD 0 0)
theorem mnF_one {l : List Int} (h : 0 < l.length) : mnF (l.take 1) = l.getD 0 0 := by
  match l, h with
  | x :: r, _ => simp [mnF]
theorem mnF_snoc {l : List Int} {k : Nat} (h0 : 0 < k) (h : k < l.length) : mnF (l.take (k + 1)) = if l.getD k 0 < mnF (l.take k) then l.getD k 0 else mnF (l.take k) := by
  have e : (l.take (k + 1)).getD 0 0 = (l.take k).getD 0 0 := by
    rw [List.getD_eq_getElem?_getD, List.getD_eq_getElem?_getD, List.getElem?_take, List.getElem?_take, if_pos (by omega), if_pos (by omega)]
  rw [mnF, mnF, e, takeT (d := 0) h, List.foldl_append]; rfl
theorem mnF_key (c : Int) : ∀ (l : List Int) (m : Int), (l.foldl (fun m x => if x < m then x else m) m < c ↔ m < c ∨ ∃ x ∈ l, x < c)
  | [], m => by simp
  | y :: l, m => by
    rw [List.foldl_cons, mnF_key c l]
    by_cases h : y < m
    · rw [if_pos h]
      constructor
      · rintro (h1 | ⟨x, h1, h2⟩)
        · exact .inr ⟨y, by simp, h1⟩
        · exact .inr ⟨x, by simp [h1], h2⟩
      · rintro (h1 | ⟨x, h1, h2⟩)
        · exact .inl (by omega)
        · rcases List.mem_cons.1 h1 with h3 | h3
          · exact .inl (by omega)
          · exact .inr ⟨x, h3, h2⟩
    · rw [if_neg h]
      constructor
      · rintro (h1 | ⟨x, h1, h2⟩)
        · exact .inl h1
        · exact .inr ⟨x, by simp [h1], h2⟩
      · rintro (h1 | ⟨x, h1, h2⟩)
        · exact .inl h1
        · rcases List.mem_cons.1 h1 with h3 | h3
          · exact .inl (by omega)
          · exact .inr ⟨x, h3, h2⟩
theorem mnF_iff {l : List Int} (h : 0 < l.length) : mnF l < -1 ↔ ¬ ∀ x ∈ l, -1 ≤ x := by
  rw [mnF, mnF_key]
  constructor
  · rintro (h1 | ⟨x, h1, h2⟩) hh
    · have := hh _ (getD_mem h); omega
    · have := hh x h1; omega
  · intro hh
    right
    refine Classical.byContradiction fun hn => hh fun x hx => ?_
    exact Int.not_lt.1 fun h1 => hn ⟨x, hx, by omega⟩
theorem min36 (h : Hp) (s : AV) (l : List Int) [a : EI h s l] (hlen : l.length ≤ 1099511627776) (hne : 0 < l.length) : ACalls Try.prog 43 [s] h (fun r h' => r = I (mnF l) ∧ h' = h) := by
  refine acalls_of_wk hm Try.func43 rfl ?_
  simp only [Try.ntmps43, List.length_cons, List.length_nil, Nat.reduceAdd, Nat.reduceSub, List.reduceReplicate, List.cons_append, List.nil_append]
  show wk _ _ none _ _ ⟨_, []⟩ _
  with_reducible refine s_seq ?_
  with_reducible refine s_reg ?_
  refine sassign ?_
  simp only [pu', p0', c1', c0', i1', z0', b8_nat]
  with_reducible refine s_end ?_
  with_reducible refine s_then ?_
  with_reducible refine s_seq ?_
  with_reducible refine s_seq ?_
  with_reducible refine s_reg ?_
  refine smove ?_
  simp only [pu', p0', c1', c0', i1', z0', b8_nat]
  refine slenE ?_
  simp only [pu', p0', c1', c0', i1', z0', b8_nat]
  refine sLt (fun hb => ?_) (fun hb => ?_)
  replace hb := dT' hb
  (exfalso; omega)
  replace hb := dF' hb
  simp only [pu', p0', c1', c0', i1', z0', b8_nat]
  with_reducible refine s_end ?_
  with_reducible refine s_then ?_
  refine sCF ?_
  with_reducible refine s_skip ?_
  with_reducible refine s_then ?_
  with_reducible refine s_seq ?_
  with_reducible refine s_reg ?_
  refine smove ?_
  simp only [pu', p0', c1', c0', i1', z0', b8_nat]
  refine sidxE ?_
  simp only [pu', p0', c1', c0', i1', z0', b8_nat]
  refine sloadE1 ?_
  simp only [pu', p0', c1', c0', i1', z0', b8_nat]
  refine sassign ?_
  simp only [pu', p0', c1', c0', i1', z0', b8_nat]
  with_reducible refine s_end ?_
  with_reducible refine s_then ?_
  with_reducible refine s_seq ?_
  with_reducible refine s_seq ?_
  with_reducible refine s_reg ?_
  refine sassign ?_
  simp only [pu', p0', c1', c0', i1', z0', b8_nat]
  with_reducible refine s_end ?_
  with_reducible refine s_then ?_
  with_reducible refine s_block ?_
  refine s_loop hm (fun (b : Nat) s' => [s, s' 1, s' 2, I (mnF (l.take b)), I b, s' 5, s' 6, s' 7, s' 8, s' 9, s' 10, s' 11, s' 12, s' 13, s' 14, s' 15, s' 16, s' 17, s' 18, s' 19, s' 20, s' 21, s' 22, s' 23, s' 24]) (fun _ => h) (fun b => 0 < b ∧ b ≤ l.length) (fun b => l.length - b) 1 (by rw [mnF_one hne]; rfl) rfl ⟨by omega, by omega⟩ ?_
  rintro i s' ⟨hi0, hi⟩
  have hs := fun hh => mnF_snoc (l := l) hi0 hh
  focus
    with_reducible refine s_seq ?_
    with_reducible refine s_seq ?_
    with_reducible refine s_reg ?_
    refine smove ?_
    simp only [pu', p0', c1', c0', i1', z0', b8_nat]
    refine smove ?_
    simp only [pu', p0', c1', c0', i1', z0', b8_nat]
    refine slenE ?_
    simp only [pu', p0', c1', c0', i1', z0', b8_nat]
    refine sLt (fun hb => ?_) (fun hb => ?_)
    replace hb := dT' hb
    simp only [pu', p0', c1', c0', i1', z0', b8_nat]
    with_reducible refine s_end ?_
    with_reducible refine s_then ?_
    refine sCT ?_
    with_reducible refine s_skip ?_
    with_reducible refine s_then ?_
    with_reducible refine s_seq ?_
    with_reducible refine s_block ?_
    with_reducible refine s_reg ?_
    refine smove ?_
    simp only [pu', p0', c1', c0', i1', z0', b8_nat]
    refine smove ?_
    simp only [pu', p0', c1', c0', i1', z0', b8_nat]
    refine smove ?_
    simp only [pu', p0', c1', c0', i1', z0', b8_nat]
    refine sidxE ?_
    simp only [pu', p0', c1', c0', i1', z0', b8_nat]
    refine sloadE1 ?_
    simp only [pu', p0', c1', c0', i1', z0', b8_nat]
    refine smin ?_
    simp only [pu', p0', c1', c0', i1', z0', b8_nat]
    refine sassign ?_
    simp only [pu', p0', c1', c0', i1', z0', b8_nat]
    with_reducible refine s_end ?_
    with_reducible refine s_blkN ?_
    with_reducible refine s_then ?_
    with_reducible refine s_reg ?_
    refine smove ?_
    simp only [pu', p0', c1', c0', i1', z0', b8_nat]
    refine sadd ?_
    simp only [pu', p0', c1', c0', i1', z0', b8_nat]
    refine sassign ?_
    simp only [pu', p0', c1', c0', i1', z0', b8_nat]
    with_reducible refine s_end ?_
    rotate_left 1
    replace hb := dF' hb
    simp only [pu', p0', c1', c0', i1', z0', b8_nat]
    with_reducible refine s_end ?_
    with_reducible refine s_then ?_
    refine sCF ?_
    with_reducible refine s_exit ?_
    with_reducible refine s_thenE ?_
    with_reducible refine l_exit ?_
    with_reducible refine s_blkE ?_
    with_reducible refine s_then ?_
    with_reducible refine s_seq ?_
    with_reducible refine s_reg ?_
    refine smove ?_
    simp only [pu', p0', c1', c0', i1', z0', b8_nat]
    refine sassign ?_
    simp only [pu', p0', c1', c0', i1', z0', b8_nat]
    with_reducible refine s_end ?_
    with_reducible refine s_then ?_
    with_reducible refine s_ret ?_
    rotate_left 1
  · refine l_next (i + 1) ⟨by omega, by omega⟩ (by omega) (by rw [hs (by omega)]; rfl) rfl
  · all_goals try with_reducible refine w_n ?_
    all_goals refine w_1 rfl (by first | exact v_t (by rfl) | exact v_c1 (C1.p) (by rfl) (HA.p) (by rfl) | exact v_cF (CA.p) (by rfl) (HA.p) (by rfl)) ?_
    rw [List.take_of_length_le (by omega)]
    exact ⟨rfl, rfl⟩
def cp20 (n : Int) : Int := min n 1048576
theorem add39 (h : Hp) (i : Nat) (n x : Int) (hi : HA h i (.cells [I n] 3 true)) (h0 : 0 ≤ n ∧ n ≤ 1048576) (h1 : 0 ≤ x ∧ x ≤ 1048576) : ACalls Try.prog 50 [I x, .ptr i 0] h (fun r h' => h' = h.set i (.cells [I (cp20 (n + x))] 3 true)) := by
  have e : cp20 (n + x) = if 1048576 < n + x then 1048576 else n + x := by unfold cp20; split <;> omega
  rw [e]
  refine acalls_of_wk hm Try.func50 rfl ?_
  simp only [Try.ntmps50, List.length_cons, List.length_nil, Nat.reduceAdd, Nat.reduceSub, List.reduceReplicate, List.cons_append, List.nil_append]
  show wk _ _ none _ _ ⟨_, []⟩ _
  with_reducible refine s_reg ?_
  refine sload1 ?_
  simp only [pu', p0', c1', c0', i1', z0', b8_nat]
  refine smove ?_
  simp only [pu', p0', c1', c0', i1', z0', b8_nat]
  refine sadd ?_
  simp only [pu', p0', c1', c0', i1', z0', b8_nat]
  refine smin ?_
  simp only [pu', p0', c1', c0', i1', z0', b8_nat]
  refine sstore1 ?_
  simp only [pu', p0', c1', c0', i1', n0', n3', n1', n2', a2', a1', a0', n4', Nat.reduceAdd, z0', n5', sa0, sa1, sa2, sa3, sa4, sa5, sa6, sa7, sa8, sa9, sa10, sa11]
  with_reducible refine s_end ?_
  all_goals try with_reducible refine w_n ?_
  all_goals refine w_0 rfl  ?_
  rfl
theorem points37 (h : Hp) (s : AV) (L : Int) (l : List Int) [a : EI h s l] (hlen : l.length ≤ 1099511627776) : ACalls Try.prog 44 [DA s L] h (fun r h' => r = I (cp20 (ptsF l)) ∧ h' = h) := by
  have ps := a.p.sl
  refine acalls_back ?_
  refine acalls_of_wk hm Try.func44 rfl ?_
  simp only [Try.ntmps44, List.length_cons, List.length_nil, Nat.reduceAdd, Nat.reduceSub, List.reduceReplicate, List.cons_append, List.nil_append]
  show wk _ _ none _ _ ⟨_, []⟩ _
  with_reducible refine s_seq ?_
  with_reducible refine s_reg ?_
  refine sboxA ?_
  simp only [pu', p0', c1', c0', i1', n0', n3', n1', n2', a2', a1', a0', n4', Nat.reduceAdd, z0', n5', sa0, sa1, sa2, sa3, sa4, sa5, sa6, sa7, sa8, sa9, sa10, sa11]
  refine sassign ?_
  simp only [pu', p0', c1', c0', i1', z0', b8_nat]
  with_reducible refine s_end ?_
  with_reducible refine s_then ?_
  with_reducible refine s_seq ?_
  with_reducible refine s_reg ?_
  refine salloc ?_
  simp only [pu', p0', c1', c0', i1', n0', n3', n1', n2', a2', a1', a0', n4', Nat.reduceAdd, z0', n5', sa0, sa1, sa2, sa3, sa4, sa5, sa6, sa7, sa8, sa9, sa10, sa11]
  refine sstore1 ?_
  simp only [pu', p0', c1', c0', i1', n0', n3', n1', n2', a2', a1', a0', n4', Nat.reduceAdd, z0', n5', sa0, sa1, sa2, sa3, sa4, sa5, sa6, sa7, sa8, sa9, sa10, sa11]
  with_reducible refine s_end ?_
  with_reducible refine s_then ?_
  with_reducible refine s_seq ?_
  with_reducible refine s_reg ?_
  refine sfunc1 ?_
  simp only [pu', p0', c1', c0', i1', z0', b8_nat]
  refine sassign ?_
  simp only [pu', p0', c1', c0', i1', z0', b8_nat]
  with_reducible refine s_end ?_
  with_reducible refine s_then ?_
  with_reducible refine s_seq ?_
  with_reducible refine s_seq ?_
  with_reducible refine s_reg ?_
  refine sfad ?_
  simp only [pu', p0', c1', c0', i1', z0', b8_nat]
  refine sload1 ?_
  simp only [pu', p0', c1', c0', i1', z0', b8_nat]
  refine slenE ?_
  simp only [pu', p0', c1', c0', i1', z0', b8_nat]
  refine smove ?_
  simp only [pu', p0', c1', c0', i1', z0', b8_nat]
  with_reducible refine s_end ?_
  with_reducible refine s_then ?_
  with_reducible refine s_block ?_
  refine s_loop hm (fun (b : Nat) s' => [s' 0, s' 1, s' 2, .ptr (h.length + 1) 0, .fn (.func 50) [.ptr (h.length + 1) 0], s' 5, s' 6, s' 7, s' 8, s, I l.length, I b, s' 12, s' 13, s' 14, s' 15, s' 16, s' 17, s' 18, s' 19, s' 20, s' 21, s' 22, s' 23, s' 24]) (fun b => h ++ [.cells [I L, s] 24 true, .cells [I (cp20 (ptsF (l.take b)))] 3 true]) (fun b => b ≤ l.length) (fun b => l.length - b) 0 (by rfl) rfl (Nat.zero_le _) ?_
  intro i s' hi
  have hs := fun hh => ptsF_take (l := l) (i := i) hh
  have hnn := ptsF_nn (l.take i)
  have hc : 0 ≤ cp20 (ptsF (l.take i)) ∧ cp20 (ptsF (l.take i)) ≤ 1048576 := by unfold cp20; omega
  have hs1 : i < l.length → l.getD i 0 < 0 → cp20 (ptsF (l.take (i + 1))) = cp20 (cp20 (ptsF (l.take i)) + 1) := fun h1 h2 => by
    rw [hs h1, if_pos h2]; unfold cp20; omega
  have hs2 : i < l.length → ¬ l.getD i 0 < 0 → cp20 (ptsF (l.take (i + 1))) = cp20 (cp20 (ptsF (l.take i)) + (if 1048576 < l.getD i 0 then 1048576 else l.getD i 0)) := fun h1 h2 => by
    rw [hs h1, if_neg h2]; unfold cp20; split <;> omega
  focus
    with_reducible refine s_seq ?_
    with_reducible refine s_reg ?_
    refine sLt (fun hb => ?_) (fun hb => ?_)
    replace hb := dT' hb
    simp only [pu', p0', c1', c0', i1', z0', b8_nat]
    with_reducible refine s_end ?_
    with_reducible refine s_then ?_
    with_reducible refine s_seq ?_
    refine sCT ?_
    with_reducible refine s_skip ?_
    with_reducible refine s_then ?_
    with_reducible refine s_seq ?_
    with_reducible refine s_block ?_
    with_reducible refine s_seq ?_
    with_reducible refine s_reg ?_
    refine sidxE ?_
    simp only [pu', p0', c1', c0', i1', z0', b8_nat]
    refine sloadE1 ?_
    simp only [pu', p0', c1', c0', i1', z0', b8_nat]
    refine sassign ?_
    simp only [pu', p0', c1', c0', i1', z0', b8_nat]
    with_reducible refine s_end ?_
    with_reducible refine s_then ?_
    with_reducible refine s_seq ?_
    with_reducible refine s_reg ?_
    refine smove ?_
    simp only [pu', p0', c1', c0', i1', z0', b8_nat]
    refine sLt (fun hb => ?_) (fun hb => ?_)
    replace hb := dT' hb
    simp only [pu', p0', c1', c0', i1', z0', b8_nat]
    with_reducible refine s_end ?_
    with_reducible refine s_then ?_
    refine sCT ?_
    with_reducible refine s_reg ?_
    refine smove ?_
    simp only [pu', p0', c1', c0', i1', z0', b8_nat]
    refine sC (hx := rfl) ((add39 _ (h.length + 1) _ _ inferInstance hc ⟨by omega, by omega⟩).mono ?_)
    rintro _ m50 _ rfl
    simp only [pu', p0', c1', c0', i1', n0', n3', n1', n2', a2', a1', a0', n4', Nat.reduceAdd, z0', n5', sa0, sa1, sa2, sa3, sa4, sa5, sa6, sa7, sa8, sa9, sa10, sa11]
    with_reducible refine s_end ?_
    with_reducible refine s_blkN ?_
    with_reducible refine s_then ?_
    with_reducible refine s_reg ?_
    refine sadd ?_
    simp only [pu', p0', c1', c0', i1', z0', b8_nat]
    refine smove ?_
    simp only [pu', p0', c1', c0', i1', z0', b8_nat]
    with_reducible refine s_end ?_
    rotate_left 1
    replace hb := dF' hb
    simp only [pu', p0', c1', c0', i1', z0', b8_nat]
    with_reducible refine s_end ?_
    with_reducible refine s_then ?_
    refine sCF ?_
    with_reducible refine s_reg ?_
    refine smove ?_
    simp only [pu', p0', c1', c0', i1', z0', b8_nat]
    refine smove ?_
    simp only [pu', p0', c1', c0', i1', z0', b8_nat]
    refine smin ?_
    simp only [pu', p0', c1', c0', i1', z0', b8_nat]
    refine sC (hx := rfl) ((add39 _ (h.length + 1) _ _ inferInstance hc ⟨by omega, by omega⟩).mono ?_)
    rintro _ m50 _ rfl
    simp only [pu', p0', c1', c0', i1', n0', n3', n1', n2', a2', a1', a0', n4', Nat.reduceAdd, z0', n5', sa0, sa1, sa2, sa3, sa4, sa5, sa6, sa7, sa8, sa9, sa10, sa11]
    with_reducible refine s_end ?_
    with_reducible refine s_blkN ?_
    with_reducible refine s_then ?_
    with_reducible refine s_reg ?_
    refine sadd ?_
    simp only [pu', p0', c1', c0', i1', z0', b8_nat]
    refine smove ?_
    simp only [pu', p0', c1', c0', i1', z0', b8_nat]
    with_reducible refine s_end ?_
    rotate_left 1
    replace hb := dF' hb
    simp only [pu', p0', c1', c0', i1', z0', b8_nat]
    with_reducible refine s_end ?_
    with_reducible refine s_then ?_
    with_reducible refine s_seq ?_
    refine sCF ?_
    with_reducible refine s_exit ?_
    with_reducible refine s_thenE ?_
    with_reducible refine l_exit ?_
    with_reducible refine s_blkE ?_
    with_reducible refine s_then ?_
    with_reducible refine s_seq ?_
    with_reducible refine s_reg ?_
    refine sload1 ?_
    simp only [pu', p0', c1', c0', i1', z0', b8_nat]
    refine sassign ?_
    simp only [pu', p0', c1', c0', i1', z0', b8_nat]
    with_reducible refine s_end ?_
    with_reducible refine s_then ?_
    with_reducible refine s_ret ?_
    rotate_left 1
  · refine l_next (i + 1) (by omega) (by omega) (by rfl) ?_
    rw [hs1 (by omega) (by omega)]
  · refine l_next (i + 1) (by omega) (by omega) (by rfl) ?_
    rw [hs2 (by omega) (by omega)]
  · all_goals try with_reducible refine w_n ?_
    all_goals refine w_1 rfl (by first | exact v_t (by rfl) | exact v_c1 (C1.p) (by rfl) (HA.p) (by rfl) | exact v_cF (CA.p) (by rfl) (HA.p) (by rfl)) ?_
    rw [List.take_of_length_le (by omega)]
    exact ⟨rfl, ext_app _ _, rfl, trivial⟩
theorem dE_31 {L : Int} {ps : List Int} (h : L < 5 ∨ 12 < L) : dE L ps = 31 := if_pos h
theorem dE_23 {L : Int} {ps : List Int} (h : ¬ (L < 5 ∨ 12 < L)) (h1 : ps.length < 1 ∨ 256 < ps.length ∨ ps.getD (ps.length - 1) 0 = 0 ∨ (¬ ∀ x ∈ ps, -1 ≤ x) ∨ ptsF ps ≠ 2 ^ L.toNat) : dE L ps = 23 := by rw [dE, if_neg h, if_pos h1]
theorem dE_0 {L : Int} {ps : List Int} (h : ¬ (L < 5 ∨ 12 < L)) (h1 : ¬ (ps.length < 1 ∨ 256 < ps.length ∨ ps.getD (ps.length - 1) 0 = 0 ∨ (¬ ∀ x ∈ ps, -1 ≤ x) ∨ ptsF ps ≠ 2 ^ L.toNat)) : dE L ps = 0 := by rw [dE, if_neg h, if_neg h1]
theorem pow_bd {L : Nat} (h : L ≤ 12) : (1 : Int) ≤ 2 ^ L ∧ (2 : Int) ^ L ≤ 4096 := by
  have h1 : (2 : Nat) ^ L ≤ 2 ^ 12 := Nat.pow_le_pow_right (by omega) h
  have h2 : 0 < (2 : Nat) ^ L := Nat.pow_pos (by omega)
  have e : ((2 ^ L : Nat) : Int) = 2 ^ L := by simp
  omega
theorem check28 (h : Hp) (s : AV) (L : Int) (l : List Int) [a : EI h s l] (hlen : l.length ≤ 1099511627776) : ACalls Try.prog 29 [DA s L] h (fun r h' => r = I (dE L l) ∧ h' = h) := by
  have ps := a.p.sl
  have c36 := fun Y (a : EI Y s l) hne => min36 Y s l hlen hne
  have c37 := fun Y (a : EI Y s l) => points37 Y s L l hlen
  refine acalls_back ?_
  by_cases hL : L < 5 ∨ 12 < L
  · rw [dE_31 hL]
    refine acalls_of_wk hm Try.func29 rfl ?_
    simp only [Try.ntmps29, List.length_cons, List.length_nil, Nat.reduceAdd, Nat.reduceSub, List.reduceReplicate, List.cons_append, List.nil_append]
    show wk _ _ none _ _ ⟨_, []⟩ _
    focus
      with_reducible refine s_seq ?_
      with_reducible refine s_reg ?_
      refine sboxA ?_
      simp only [pu', p0', c1', c0', i1', n0', n3', n1', n2', a2', a1', a0', n4', Nat.reduceAdd, z0', n5', sa0, sa1, sa2, sa3, sa4, sa5, sa6, sa7, sa8, sa9, sa10, sa11]
      refine sassign ?_
      simp only [pu', p0', c1', c0', i1', z0', b8_nat]
      with_reducible refine s_end ?_
      with_reducible refine s_then ?_
      with_reducible refine s_seq ?_
      with_reducible refine s_seq ?_
      with_reducible refine s_reg ?_
      refine sfad ?_
      simp only [pu', p0', c1', c0', i1', z0', b8_nat]
      refine sload1 ?_
      simp only [pu', p0', c1', c0', i1', z0', b8_nat]
      refine sLt (fun hb => ?_) (fun hb => ?_)
      replace hb := dT' hb
      simp only [pu', p0', c1', c0', i1', z0', b8_nat]
      refine smove ?_
      simp only [pu', p0', c1', c0', i1', z0', b8_nat]
      refine sN ?_
      simp only [pu', p0', c1', c0', i1', z0', b8_nat]
      refine sN ?_
      simp only [pu', p0', c1', c0', i1', z0', b8_nat]
      refine sN ?_
      simp only [pu', p0', c1', c0', i1', z0', b8_nat]
      refine spickT ?_
      simp only [pu', p0', c1', c0', i1', z0', b8_nat]
      with_reducible refine s_end ?_
      with_reducible refine s_then ?_
      refine sCT ?_
      with_reducible refine s_seq ?_
      with_reducible refine s_reg ?_
      refine sassign ?_
      simp only [pu', p0', c1', c0', i1', z0', b8_nat]
      with_reducible refine s_end ?_
      with_reducible refine s_then ?_
      with_reducible refine s_ret ?_
      with_reducible refine s_thenR ?_
      rotate_left 1
      replace hb := dF' hb
      simp only [pu', p0', c1', c0', i1', z0', b8_nat]
      refine smove ?_
      simp only [pu', p0', c1', c0', i1', z0', b8_nat]
      refine sfad ?_
      simp only [pu', p0', c1', c0', i1', z0', b8_nat]
      refine sload1 ?_
      simp only [pu', p0', c1', c0', i1', z0', b8_nat]
      refine sGt (fun hb => ?_) (fun hb => ?_)
      replace hb := dT' hb
      simp only [pu', p0', c1', c0', i1', z0', b8_nat]
      refine spickF ?_
      simp only [pu', p0', c1', c0', i1', z0', b8_nat]
      with_reducible refine s_end ?_
      with_reducible refine s_then ?_
      refine sCT ?_
      with_reducible refine s_seq ?_
      with_reducible refine s_reg ?_
      refine sassign ?_
      simp only [pu', p0', c1', c0', i1', z0', b8_nat]
      with_reducible refine s_end ?_
      with_reducible refine s_then ?_
      with_reducible refine s_ret ?_
      with_reducible refine s_thenR ?_
      rotate_left 1
      replace hb := dF' hb
      (exfalso; omega)
    all_goals
      all_goals try with_reducible refine w_n ?_
      all_goals refine w_1 rfl (by first | exact v_t (by rfl) | exact v_c1 (C1.p) (by rfl) (HA.p) (by rfl) | exact v_cF (CA.p) (by rfl) (HA.p) (by rfl)) ?_
      exact ⟨rfl, ext_app _ _, rfl, trivial⟩
  obtain ⟨n, rfl⟩ : ∃ n : Nat, L = n := ⟨L.toNat, by omega⟩
  have hq := pow_bd (L := n) (by omega)
  have hp := ptsF_nn l
  have h1 := fun hh => dE_23 (ps := l) hL hh
  have h2 := fun hh => dE_0 (ps := l) hL hh
  rw [Int.toNat_natCast] at h1 h2
  have h3 := fun hh => mnF_iff (l := l) hh
  have hlast : ((l.length : Int) - 1).toNat = l.length - 1 := by omega
  have h4 : cp20 (ptsF l) = 2 ^ n ↔ ptsF l = 2 ^ n := by unfold cp20; omega
  refine acalls_of_wk hm Try.func29 rfl ?_
  simp only [Try.ntmps29, List.length_cons, List.length_nil, Nat.reduceAdd, Nat.reduceSub, List.reduceReplicate, List.cons_append, List.nil_append]
  show wk _ _ none _ _ ⟨_, []⟩ _
  focus
    with_reducible refine s_seq ?_
    with_reducible refine s_reg ?_
    refine sboxA ?_
    simp only [pu', p0', c1', c0', i1', n0', n3', n1', n2', a2', a1', a0', n4', Nat.reduceAdd, z0', n5', sa0, sa1, sa2, sa3, sa4, sa5, sa6, sa7, sa8, sa9, sa10, sa11]
    refine sassign ?_
    simp only [pu', p0', c1', c0', i1', z0', b8_nat]
    with_reducible refine s_end ?_
    with_reducible refine s_then ?_
    with_reducible refine s_seq ?_
    with_reducible refine s_seq ?_
    with_reducible refine s_reg ?_
    refine sfad ?_
    simp only [pu', p0', c1', c0', i1', z0', b8_nat]
    refine sload1 ?_
    simp only [pu', p0', c1', c0', i1', z0', b8_nat]
    refine sLt (fun hb => ?_) (fun hb => ?_)
    replace hb := dT' hb
    (exfalso; omega)
    replace hb := dF' hb
    simp only [pu', p0', c1', c0', i1', z0', b8_nat]
    refine smove ?_
    simp only [pu', p0', c1', c0', i1', z0', b8_nat]
    refine sfad ?_
    simp only [pu', p0', c1', c0', i1', z0', b8_nat]
    refine sload1 ?_
    simp only [pu', p0', c1', c0', i1', z0', b8_nat]
    refine sGt (fun hb => ?_) (fun hb => ?_)
    replace hb := dT' hb
    (exfalso; omega)
    replace hb := dF' hb
    simp only [pu', p0', c1', c0', i1', z0', b8_nat]
    refine spickF ?_
    simp only [pu', p0', c1', c0', i1', z0', b8_nat]
    with_reducible refine s_end ?_
    with_reducible refine s_then ?_
    refine sCF ?_
    with_reducible refine s_skip ?_
    with_reducible refine s_then ?_
    with_reducible refine s_seq ?_
    with_reducible refine s_reg ?_
    refine sfad ?_
    simp only [pu', p0', c1', c0', i1', z0', b8_nat]
    refine sload1 ?_
    simp only [pu', p0', c1', c0', i1', z0', b8_nat]
    refine slenE ?_
    simp only [pu', p0', c1', c0', i1', z0', b8_nat]
    refine sassign ?_
    simp only [pu', p0', c1', c0', i1', z0', b8_nat]
    with_reducible refine s_end ?_
    with_reducible refine s_then ?_
    with_reducible refine s_seq ?_
    with_reducible refine s_seq ?_
    (refine s_regQ (id := 4) [(0, true), (1, true), (2, true), (3, true), (4, true), (5, true), (6, true), (7, true), (8, true), (9, true), (10, true), (11, true), (12, true), (13, true), (14, true), (15, true), (16, true), (17, true), (18, false), (19, true), (20, true), (21, true), (22, true), (24, true), (25, true), (26, true), (23, false), (27, true), (28, true)] (by kernel_rfl) (by conv => lhs; simp only [pickO, List.getElem?_cons_succ, List.getElem?_cons_zero]) ?_)
    refine qmove ?_
    simp only [pu', p0', c1', c0', i1', z0', b8_nat]
    refine qLt (fun hb => ?_) (fun hb => ?_)
    replace hb := dT' hb
    simp only [pu', p0', c1', c0', i1', z0', b8_nat]
    refine qmove ?_
    simp only [pu', p0', c1', c0', i1', z0', b8_nat]
    refine qN ?_
    simp only [pu', p0', c1', c0', i1', z0', b8_nat]
    refine qN ?_
    simp only [pu', p0', c1', c0', i1', z0', b8_nat]
    refine qpickT ?_
    simp only [pu', p0', c1', c0', i1', z0', b8_nat]
    refine qmove ?_
    simp only [pu', p0', c1', c0', i1', z0', b8_nat]
    refine qN ?_
    simp only [pu', p0', c1', c0', i1', z0', b8_nat]
    refine qN ?_
    simp only [pu', p0', c1', c0', i1', z0', b8_nat]
    refine qN ?_
    simp only [pu', p0', c1', c0', i1', z0', b8_nat]
    refine qN ?_
    simp only [pu', p0', c1', c0', i1', z0', b8_nat]
    refine qN ?_
    simp only [pu', p0', c1', c0', i1', z0', b8_nat]
    refine qN ?_
    simp only [pu', p0', c1', c0', i1', z0', b8_nat]
    refine qN ?_
    simp only [pu', p0', c1', c0', i1', z0', b8_nat]
    refine qpickT ?_
    simp only [pu', p0', c1', c0', i1', z0', b8_nat]
    refine qmove ?_
    simp only [pu', p0', c1', c0', i1', z0', b8_nat]
    refine qN ?_
    simp only [pu', p0', c1', c0', i1', z0', b8_nat]
    refine qN ?_
    simp only [pu', p0', c1', c0', i1', z0', b8_nat]
    refine qN ?_
    simp only [pu', p0', c1', c0', i1', z0', b8_nat]
    refine qN ?_
    simp only [pu', p0', c1', c0', i1', z0', b8_nat]
    refine qpickT ?_
    simp only [pu', p0', c1', c0', i1', z0', b8_nat]
    refine qmove ?_
    simp only [pu', p0', c1', c0', i1', z0', b8_nat]
    refine qN ?_
    simp only [pu', p0', c1', c0', i1', z0', b8_nat]
    refine qN ?_
    simp only [pu', p0', c1', c0', i1', z0', b8_nat]
    refine qN ?_
    simp only [pu', p0', c1', c0', i1', z0', b8_nat]
    refine qN ?_
    simp only [pu', p0', c1', c0', i1', z0', b8_nat]
    refine qN ?_
    simp only [pu', p0', c1', c0', i1', z0', b8_nat]
    refine qN ?_
    simp only [pu', p0', c1', c0', i1', z0', b8_nat]
    refine qpickT ?_
    simp only [pu', p0', c1', c0', i1', z0', b8_nat]
    with_reducible refine q_end ?_
    with_reducible refine s_then ?_
    refine sCT ?_
    with_reducible refine s_seq ?_
    with_reducible refine s_reg ?_
    refine sassign ?_
    simp only [pu', p0', c1', c0', i1', z0', b8_nat]
    with_reducible refine s_end ?_
    with_reducible refine s_then ?_
    with_reducible refine s_ret ?_
    with_reducible refine s_thenR ?_
    rotate_left 1
    replace hb := dF' hb
    simp only [pu', p0', c1', c0', i1', z0', b8_nat]
    refine qmove ?_
    simp only [pu', p0', c1', c0', i1', z0', b8_nat]
    refine qmove ?_
    simp only [pu', p0', c1', c0', i1', z0', b8_nat]
    refine qGt (fun hb => ?_) (fun hb => ?_)
    replace hb := dT' hb
    simp only [pu', p0', c1', c0', i1', z0', b8_nat]
    refine qpickF ?_
    simp only [pu', p0', c1', c0', i1', z0', b8_nat]
    refine qmove ?_
    simp only [pu', p0', c1', c0', i1', z0', b8_nat]
    refine qN ?_
    simp only [pu', p0', c1', c0', i1', z0', b8_nat]
    refine qN ?_
    simp only [pu', p0', c1', c0', i1', z0', b8_nat]
    refine qN ?_
    simp only [pu', p0', c1', c0', i1', z0', b8_nat]
    refine qN ?_
    simp only [pu', p0', c1', c0', i1', z0', b8_nat]
    refine qN ?_
    simp only [pu', p0', c1', c0', i1', z0', b8_nat]
    refine qN ?_
    simp only [pu', p0', c1', c0', i1', z0', b8_nat]
    refine qN ?_
    simp only [pu', p0', c1', c0', i1', z0', b8_nat]
    refine qpickT ?_
    simp only [pu', p0', c1', c0', i1', z0', b8_nat]
    refine qmove ?_
    simp only [pu', p0', c1', c0', i1', z0', b8_nat]
    refine qN ?_
    simp only [pu', p0', c1', c0', i1', z0', b8_nat]
    refine qN ?_
    simp only [pu', p0', c1', c0', i1', z0', b8_nat]
    refine qN ?_
    simp only [pu', p0', c1', c0', i1', z0', b8_nat]
    refine qN ?_
    simp only [pu', p0', c1', c0', i1', z0', b8_nat]
    refine qpickT ?_
    simp only [pu', p0', c1', c0', i1', z0', b8_nat]
    refine qmove ?_
    simp only [pu', p0', c1', c0', i1', z0', b8_nat]
    refine qN ?_
    simp only [pu', p0', c1', c0', i1', z0', b8_nat]
    refine qN ?_
    simp only [pu', p0', c1', c0', i1', z0', b8_nat]
    refine qN ?_
    simp only [pu', p0', c1', c0', i1', z0', b8_nat]
    refine qN ?_
    simp only [pu', p0', c1', c0', i1', z0', b8_nat]
    refine qN ?_
    simp only [pu', p0', c1', c0', i1', z0', b8_nat]
    refine qN ?_
    simp only [pu', p0', c1', c0', i1', z0', b8_nat]
    refine qpickT ?_
    simp only [pu', p0', c1', c0', i1', z0', b8_nat]
    with_reducible refine q_end ?_
    with_reducible refine s_then ?_
    refine sCT ?_
    with_reducible refine s_seq ?_
    with_reducible refine s_reg ?_
    refine sassign ?_
    simp only [pu', p0', c1', c0', i1', z0', b8_nat]
    with_reducible refine s_end ?_
    with_reducible refine s_then ?_
    with_reducible refine s_ret ?_
    with_reducible refine s_thenR ?_
    rotate_left 1
    replace hb := dF' hb
    simp only [pu', p0', c1', c0', i1', z0', b8_nat]
    refine qpickF ?_
    simp only [pu', p0', c1', c0', i1', z0', b8_nat]
    refine qmove ?_
    simp only [pu', p0', c1', c0', i1', z0', b8_nat]
    refine qfad ?_
    simp only [pu', p0', c1', c0', i1', z0', b8_nat]
    refine qload1 ?_
    simp only [pu', p0', c1', c0', i1', z0', b8_nat]
    refine qmove ?_
    simp only [pu', p0', c1', c0', i1', z0', b8_nat]
    refine qsub ?_
    simp only [pu', p0', c1', c0', i1', z0', b8_nat]
    refine qidxE ?_
    simp only [pu', p0', c1', c0', i1', z0', b8_nat]
    refine qloadE1 ?_
    simp only [pu', p0', c1', c0', i1', z0', b8_nat]
    refine qEq (fun hb => ?_) (fun hb => ?_)
    replace hb := dT' hb
    simp only [pu', p0', c1', c0', i1', z0', b8_nat]
    refine qpickF ?_
    simp only [pu', p0', c1', c0', i1', z0', b8_nat]
    refine qmove ?_
    simp only [pu', p0', c1', c0', i1', z0', b8_nat]
    refine qN ?_
    simp only [pu', p0', c1', c0', i1', z0', b8_nat]
    refine qN ?_
    simp only [pu', p0', c1', c0', i1', z0', b8_nat]
    refine qN ?_
    simp only [pu', p0', c1', c0', i1', z0', b8_nat]
    refine qN ?_
    simp only [pu', p0', c1', c0', i1', z0', b8_nat]
    refine qpickT ?_
    simp only [pu', p0', c1', c0', i1', z0', b8_nat]
    refine qmove ?_
    simp only [pu', p0', c1', c0', i1', z0', b8_nat]
    refine qN ?_
    simp only [pu', p0', c1', c0', i1', z0', b8_nat]
    refine qN ?_
    simp only [pu', p0', c1', c0', i1', z0', b8_nat]
    refine qN ?_
    simp only [pu', p0', c1', c0', i1', z0', b8_nat]
    refine qN ?_
    simp only [pu', p0', c1', c0', i1', z0', b8_nat]
    refine qN ?_
    simp only [pu', p0', c1', c0', i1', z0', b8_nat]
    refine qN ?_
    simp only [pu', p0', c1', c0', i1', z0', b8_nat]
    refine qpickT ?_
    simp only [pu', p0', c1', c0', i1', z0', b8_nat]
    with_reducible refine q_end ?_
    with_reducible refine s_then ?_
    refine sCT ?_
    with_reducible refine s_seq ?_
    with_reducible refine s_reg ?_
    refine sassign ?_
    simp only [pu', p0', c1', c0', i1', z0', b8_nat]
    with_reducible refine s_end ?_
    with_reducible refine s_then ?_
    with_reducible refine s_ret ?_
    with_reducible refine s_thenR ?_
    rotate_left 1
    replace hb := dF' hb
    simp only [pu', p0', c1', c0', i1', z0', b8_nat]
    refine qpickF ?_
    simp only [pu', p0', c1', c0', i1', z0', b8_nat]
    refine qmove ?_
    simp only [pu', p0', c1', c0', i1', z0', b8_nat]
    refine qfad ?_
    simp only [pu', p0', c1', c0', i1', z0', b8_nat]
    refine qload1 ?_
    simp only [pu', p0', c1', c0', i1', z0', b8_nat]
    refine qM (hx := rfl) (c36 _ inferInstance (by omega)) ?_
    simp only [pu', p0', c1', c0', i1', z0', b8_nat]
    refine qLt (fun hb => ?_) (fun hb => ?_)
    replace hb := dT' hb
    simp only [pu', p0', c1', c0', i1', z0', b8_nat]
    refine qpickF ?_
    simp only [pu', p0', c1', c0', i1', z0', b8_nat]
    refine qmove ?_
    simp only [pu', p0', c1', c0', i1', z0', b8_nat]
    refine qN ?_
    simp only [pu', p0', c1', c0', i1', z0', b8_nat]
    refine qN ?_
    simp only [pu', p0', c1', c0', i1', z0', b8_nat]
    refine qN ?_
    simp only [pu', p0', c1', c0', i1', z0', b8_nat]
    refine qN ?_
    simp only [pu', p0', c1', c0', i1', z0', b8_nat]
    refine qN ?_
    simp only [pu', p0', c1', c0', i1', z0', b8_nat]
    refine qN ?_
    simp only [pu', p0', c1', c0', i1', z0', b8_nat]
    refine qpickT ?_
    simp only [pu', p0', c1', c0', i1', z0', b8_nat]
    with_reducible refine q_end ?_
    with_reducible refine s_then ?_
    refine sCT ?_
    with_reducible refine s_seq ?_
    with_reducible refine s_reg ?_
    refine sassign ?_
    simp only [pu', p0', c1', c0', i1', z0', b8_nat]
    with_reducible refine s_end ?_
    with_reducible refine s_then ?_
    with_reducible refine s_ret ?_
    with_reducible refine s_thenR ?_
    rotate_left 1
    replace hb := dF' hb
    simp only [pu', p0', c1', c0', i1', z0', b8_nat]
    refine qpickF ?_
    simp only [pu', p0', c1', c0', i1', z0', b8_nat]
    refine qmove ?_
    simp only [pu', p0', c1', c0', i1', z0', b8_nat]
    refine qloadW ?_
    simp only [pu', p0', c1', c0', i1', z0', b8_nat]
    refine qfad ?_
    simp only [pu', p0', c1', c0', i1', z0', b8_nat]
    refine qload1 ?_
    simp only [pu', p0', c1', c0', i1', z0', b8_nat]
    refine qshl1 ?_
    simp only [pu', p0', c1', c0', i1', z0', b8_nat]
    refine qM (hx := rfl) (c37 _ inferInstance) ?_
    simp only [pu', p0', c1', c0', i1', z0', b8_nat]
    refine qNe (fun hb => ?_) (fun hb => ?_)
    replace hb := dT' hb
    simp only [pu', p0', c1', c0', i1', z0', b8_nat]
    refine qpickF ?_
    simp only [pu', p0', c1', c0', i1', z0', b8_nat]
    with_reducible refine q_end ?_
    with_reducible refine s_then ?_
    refine sCT ?_
    with_reducible refine s_seq ?_
    with_reducible refine s_reg ?_
    refine sassign ?_
    simp only [pu', p0', c1', c0', i1', z0', b8_nat]
    with_reducible refine s_end ?_
    with_reducible refine s_then ?_
    with_reducible refine s_ret ?_
    with_reducible refine s_thenR ?_
    rotate_left 1
    replace hb := dF' hb
    simp only [pu', p0', c1', c0', i1', z0', b8_nat]
    refine qpickF ?_
    simp only [pu', p0', c1', c0', i1', z0', b8_nat]
    with_reducible refine q_end ?_
    with_reducible refine s_then ?_
    refine sCF ?_
    with_reducible refine s_skip ?_
    with_reducible refine s_then ?_
    with_reducible refine s_seq ?_
    with_reducible refine s_reg ?_
    refine sassign ?_
    simp only [pu', p0', c1', c0', i1', z0', b8_nat]
    with_reducible refine s_end ?_
    with_reducible refine s_then ?_
    with_reducible refine s_ret ?_
    rotate_left 1
  all_goals
    all_goals try with_reducible refine w_n ?_
    all_goals refine w_1 rfl (by first | exact v_t (by rfl) | exact v_c1 (C1.p) (by rfl) (HA.p) (by rfl) | exact v_cF (CA.p) (by rfl) (HA.p) (by rfl)) ?_
    first
      | (rw [h1 (.inl (by omega))]; exact ⟨rfl, ext_app _ _, rfl, trivial⟩)
      | (rw [h1 (.inr (.inl (by omega)))]; exact ⟨rfl, ext_app _ _, rfl, trivial⟩)
      | (rw [h1 (.inr (.inr (.inl (by rw [← hlast]; omega))))]; exact ⟨rfl, ext_app _ _, rfl, trivial⟩)
      | (rw [h1 (.inr (.inr (.inr (.inl ((h3 (by omega)).1 (by omega))))))]; exact ⟨rfl, ext_app _ _, rfl, trivial⟩)
      | (rw [h1 (.inr (.inr (.inr (.inr (fun e => absurd (h4.2 e) (by assumption))))))]; exact ⟨rfl, ext_app _ _, rfl, trivial⟩)
      | (rw [h2 (by
          have h5 := h3 (by omega)
          rintro (g | g | g | g | g)
          · omega
          · omega
          · rw [← hlast] at g; omega
          · have := h5.2 g; omega
          · exact g (h4.1 (by omega)))]; exact ⟨rfl, ext_app _ _, rfl, trivial⟩)
/-! ### .. as the document says it -/
theorem pts_le : ∀ (l : List Int) (x : Int), x ∈ l → x ≤ ptsF l
  | [], x, h => by simp at h
  | y :: l, x, h => by
    have h0 := ptsF_nn l
    rw [ptsF]
    rcases List.mem_cons.1 h with h1 | h1
    · subst h1; split <;> omega
    · have := pts_le l x h1; split <;> omega
end Go.Proofs.Ytgbddbiimffplaa
