/-
  A part of the proof of a statement of a chapter's seat; conditions: stated at each theorem.
-/
import Derived.Test.YtgjbmhclgmpjdaaGreatQ7
set_option linter.unusedVariables false
set_option linter.unusedSectionVars false
set_option linter.unusedSimpArgs false
set_option linter.unusedVariables false
set_option maxRecDepth 100000
set_option maxHeartbeats 8000000
namespace Go.Proofs.YtgjbmhclgmpjdaaGreat
open Go.Az Go
theorem close_any (h : Hp) (i j : Nat) (hi : HA h i (.cells [I 0, I 0] 27 true)) : DCalls Tryz.prog 111 [.ptr i 0, .ptr j 0] h .returning (fun u' h' => u' = .returning ∧ h' = h) := by
  refine dcalls_of_wk hm Tryz.func111 rfl ?_
  simp only [Tryz.ntmps111, List.length_cons, List.length_nil, Nat.reduceAdd, Nat.reduceSub, List.reduceReplicate, List.cons_append, List.nil_append]
  show wk _ _ none _ _ ⟨_, []⟩ _
  with_reducible refine s_seq ?_
  with_reducible refine s_reg ?_
  refine sfad ?_
  simp only [pu', p0', c1', c0', i1', z0', b8_nat]
  refine sload1 ?_
  simp only [pu', p0', c1', c0', i1', z0', b8_nat]
  refine sNe (fun hb => ?_) (fun hb => ?_)
  replace hb := dT' hb
  (exfalso; omega)
  replace hb := dF' hb
  simp only [pu', p0', c1', c0', i1', z0', b8_nat]
  refine smove ?_
  simp only [pu', p0', c1', c0', i1', z0', b8_nat]
  (with_reducible refine s_gN ?_ ?_; exact wG rfl rfl rfl rfl rfl)
  simp only [pu', p0', c1', c0', i1', z0', b8_nat]
  (with_reducible refine s_gN ?_ ?_; exact wG rfl rfl rfl rfl rfl)
  simp only [pu', p0', c1', c0', i1', z0', b8_nat]
  (with_reducible refine s_gN ?_ ?_; exact wG rfl rfl rfl rfl rfl)
  simp only [pu', p0', c1', c0', i1', z0', b8_nat]
  refine spickF ?_
  simp only [pu', p0', c1', c0', i1', z0', b8_nat]
  with_reducible refine s_end ?_
  with_reducible refine s_then ?_
  refine sCF ?_
  with_reducible refine s_skip ?_
  exact wD_n (wD_0 rfl ⟨rfl, rfl⟩)
theorem set_old {h : Hp} {i : Nat} {o : AObj} (hi : HA h i o) : h.set i o = h := by
  have hig := hi.p
  refine List.ext_getElem? fun j => ?_
  by_cases hj : i = j
  · subst hj
    have hil : i < h.length := by
      rcases Nat.lt_or_ge i h.length with h1 | h1
      · exact h1
      · rw [List.getElem?_eq_none h1] at hig; cases hig
    rw [List.getElem?_set_self hil, hig]
  · rw [List.getElem?_set_ne hj]
/-- The bytes from x on, n of them. -/
def sub (l : List UInt8) (x n : Int) : List UInt8 := (l.take (x + n).toNat).drop x.toNat
theorem bytes_any (h : Hp) (i : Nat) (l : List UInt8) (x n : Int) (hi : HA h i (rc l x)) (h0 : 0 ≤ x) (h1 : 0 ≤ n) (h2 : x + n ≤ l.length) (hl : (l.length : Int) ≤ 4611686018427387904) : ACalls Tryz.prog 88 [.ptr i 0, I n] h (fun r h' => r = St (sub l x n) ∧ h' = h.set i (rc l (x + n))) := by
  have hig := hi.p
  have hil : i < h.length := by
    rcases Nat.lt_or_ge i h.length with h1 | h1
    · exact h1
    · rw [List.getElem?_eq_none h1] at hig; cases hig
  have c1 := fun X (a : HA X i (rc l x)) => bad_any X i l x a
  have c2 := fun X (a : HA X i (rc l x)) => cleft_any X i l x a h0 (by omega) (by omega)
  refine acalls_backS ?_
  refine PCalls.acalls ?_
  refine pcalls_of_wk hm Tryz.func88 rfl ?_
  simp only [Tryz.ntmps88, List.length_cons, List.length_nil, Nat.reduceAdd, Nat.reduceSub, List.reduceReplicate, List.cons_append, List.nil_append]
  show wk _ _ none _ _ ⟨_, []⟩ _
  with_reducible refine s_seq ?_
  with_reducible refine s_reg ?_
  refine sbox1 ?_
  simp only [pu', p0', c1', c0', i1', n0', n3', n1', n2', a2', a1', a0', n4', Nat.reduceAdd, z0', n5', sa0, sa1, sa2, sa3, sa4, sa5, sa6, sa7, sa8, sa9, sa10, sa11]
  refine sassign ?_
  simp only [pu', p0', c1', c0', i1', z0', b8_nat]
  with_reducible refine s_end ?_
  with_reducible refine s_then ?_
  with_reducible refine s_seq ?_
  with_reducible refine s_reg ?_
  refine salloc ?_
  simp only [pu', p0', c1', c0', i1', n0', n3', n1', n2', a2', a1', a0', n4', Nat.reduceAdd, z0', n5', sa0, sa1, sa2, sa3, sa4, sa5, sa6, sa7, sa8, sa9, sa10, sa11]
  with_reducible refine s_end ?_
  with_reducible refine s_then ?_
  with_reducible refine s_seq ?_
  refine s_seq (s_regPn 1 (by conv => lhs; simp only [List.take_succ_cons, List.take_zero]) (by conv => lhs; simp only [List.drop_succ_cons, List.drop_zero]) ?_)
  refine sfunc2 ?_
  simp only [pu', p0', c1', c0', i1', z0', b8_nat]
  with_reducible refine s_end ?_
  refine p_def ?_
  refine p_end ?_
  with_reducible refine s_then ?_
  with_reducible refine s_seq ?_
  with_reducible refine s_block ?_
  with_reducible refine s_seq ?_
  with_reducible refine s_reg ?_
  refine sload1 ?_
  simp only [pu', p0', c1', c0', i1', z0', b8_nat]
  refine sM (hx := rfl) (c1 _ (by infer_instance)) ?_
  simp only [pu', p0', c1', c0', i1', z0', b8_nat]
  refine sassign ?_
  simp only [pu', p0', c1', c0', i1', z0', b8_nat]
  with_reducible refine s_end ?_
  with_reducible refine s_then ?_
  refine sCF ?_
  with_reducible refine s_seq ?_
  with_reducible refine s_reg ?_
  refine smove ?_
  simp only [pu', p0', c1', c0', i1', z0', b8_nat]
  refine sLt (fun hb => ?_) (fun hb => ?_)
  replace hb := dT' hb
  (exfalso; omega)
  replace hb := dF' hb
  simp only [pu', p0', c1', c0', i1', z0', b8_nat]
  refine sassign ?_
  simp only [pu', p0', c1', c0', i1', z0', b8_nat]
  with_reducible refine s_end ?_
  with_reducible refine s_then ?_
  refine sCF ?_
  with_reducible refine s_seq ?_
  with_reducible refine s_reg ?_
  refine smove ?_
  simp only [pu', p0', c1', c0', i1', z0', b8_nat]
  refine sload1 ?_
  simp only [pu', p0', c1', c0', i1', z0', b8_nat]
  refine sM (hx := rfl) (c2 _ (by infer_instance)) ?_
  simp only [pu', p0', c1', c0', i1', z0', b8_nat]
  refine sGt (fun hb => ?_) (fun hb => ?_)
  replace hb := dT' hb
  (exfalso; omega)
  replace hb := dF' hb
  simp only [pu', p0', c1', c0', i1', z0', b8_nat]
  refine sassign ?_
  simp only [pu', p0', c1', c0', i1', z0', b8_nat]
  with_reducible refine s_end ?_
  with_reducible refine s_then ?_
  refine sCF ?_
  with_reducible refine s_skip ?_
  with_reducible refine s_blkN ?_
  with_reducible refine s_then ?_
  with_reducible refine s_seq ?_
  (refine s_regQ (id := 11) [(0, true), (1, true), (2, true), (3, true), (4, true), (5, true), (6, true), (7, true), (8, true), (9, true), (10, true), (11, true), (12, true), (13, true), (14, true), (15, true), (16, true), (17, true), (18, true)] (by kernel_rfl) (by conv => lhs; simp only [pickO, List.getElem?_cons_succ, List.getElem?_cons_zero]) ?_)
  refine qload1 ?_
  simp only [pu', p0', c1', c0', i1', z0', b8_nat]
  refine qnilP ?_
  simp only [pu', p0', c1', c0', i1', z0', b8_nat]
  refine qfad ?_
  simp only [pu', p0', c1', c0', i1', z0', b8_nat]
  refine qfad ?_
  simp only [pu', p0', c1', c0', i1', z0', b8_nat]
  refine qload1 ?_
  simp only [pu', p0', c1', c0', i1', z0', b8_nat]
  refine qload1 ?_
  simp only [pu', p0', c1', c0', i1', z0', b8_nat]
  refine qnilP ?_
  simp only [pu', p0', c1', c0', i1', z0', b8_nat]
  refine qfad ?_
  simp only [pu', p0', c1', c0', i1', z0', b8_nat]
  refine qfad ?_
  simp only [pu', p0', c1', c0', i1', z0', b8_nat]
  refine qload1 ?_
  simp only [pu', p0', c1', c0', i1', z0', b8_nat]
  refine qload1 ?_
  simp only [pu', p0', c1', c0', i1', z0', b8_nat]
  refine qnilP ?_
  simp only [pu', p0', c1', c0', i1', z0', b8_nat]
  refine qfad ?_
  simp only [pu', p0', c1', c0', i1', z0', b8_nat]
  refine qfad ?_
  simp only [pu', p0', c1', c0', i1', z0', b8_nat]
  refine qload1 ?_
  simp only [pu', p0', c1', c0', i1', z0', b8_nat]
  refine qmove ?_
  simp only [pu', p0', c1', c0', i1', z0', b8_nat]
  refine qadd ?_
  simp only [pu', p0', c1', c0', i1', z0', b8_nat]
  refine qslcS ?_
  simp only [pu', p0', c1', c0', i1', z0', b8_nat]
  refine qassign ?_
  simp only [pu', p0', c1', c0', i1', z0', b8_nat]
  with_reducible refine q_end ?_
  with_reducible refine s_then ?_
  with_reducible refine s_seq ?_
  with_reducible refine s_reg ?_
  refine sload1 ?_
  simp only [pu', p0', c1', c0', i1', z0', b8_nat]
  refine snilP ?_
  simp only [pu', p0', c1', c0', i1', z0', b8_nat]
  refine sfad ?_
  simp only [pu', p0', c1', c0', i1', z0', b8_nat]
  refine sfad ?_
  simp only [pu', p0', c1', c0', i1', z0', b8_nat]
  refine sload1 ?_
  simp only [pu', p0', c1', c0', i1', z0', b8_nat]
  refine smove ?_
  simp only [pu', p0', c1', c0', i1', z0', b8_nat]
  refine sadd ?_
  simp only [pu', p0', c1', c0', i1', z0', b8_nat]
  refine snilP ?_
  simp only [pu', p0', c1', c0', i1', z0', b8_nat]
  refine sfad ?_
  simp only [pu', p0', c1', c0', i1', z0', b8_nat]
  refine sfad ?_
  simp only [pu', p0', c1', c0', i1', z0', b8_nat]
  refine sstore1 ?_
  simp only [pu', p0', c1', c0', i1', n0', n3', n1', n2', a2', a1', a0', n4', Nat.reduceAdd, z0', n5', sa0, sa1, sa2, sa3, sa4, sa5, sa6, sa7, sa8, sa9, sa10, sa11]
  with_reducible refine s_end ?_
  with_reducible refine s_then ?_
  with_reducible refine s_seq ?_
  with_reducible refine s_reg ?_
  refine smove ?_
  simp only [pu', p0', c1', c0', i1', z0', b8_nat]
  refine sassign ?_
  simp only [pu', p0', c1', c0', i1', z0', b8_nat]
  with_reducible refine s_end ?_
  with_reducible refine s_then ?_
  with_reducible refine s_ret ?_
  refine wP_f (close_any _ _ _ ⟨by rw [List.getElem?_set_ne (by omega), List.getElem?_append_right (by omega)]; simp⟩) rfl ?_
  all_goals try with_reducible refine w_n ?_
  all_goals refine w_1 rfl (by first | exact v_t (by rfl) | exact v_c1 (C1.p) (by rfl) (HA.p) (by rfl) | exact v_cF (CA.p) (by rfl) (HA.p) (by rfl)) ?_
  refine ⟨h.set i (rc l (x + n)), rfl, List.length_set, ?_, ?_, rfl, rfl⟩
  · intro o ho
    rcases List.mem_or_eq_of_mem_set ho with h5 | h5
    · exact .inl h5
    · exact .inr (h5 ▸ rfl)
  · rw [List.set_append_left _ _ hil]; exact ext_app _ _
/-! ### Numbers -/
def numP (l : List UInt8) : Nat → Int
  | 0 => 0
  | k + 1 => numP l k + (l.getD k 0).toNat * 2 ^ (8 * k)
theorem numP_rng (l : List UInt8) : ∀ k, 0 ≤ numP l k ∧ numP l k < 2 ^ (8 * k)
  | 0 => by simp [numP]
  | k + 1 => by
    have h := numP_rng l k
    have hb := UInt8.toNat_lt (l.getD k 0)
    have e : (2 : Int) ^ (8 * (k + 1)) = 256 * 2 ^ (8 * k) := by rw [show 8 * (k + 1) = 8 + 8 * k by omega, Int.pow_add]; rfl
    have hp : (0 : Int) < 2 ^ (8 * k) := Int.pow_pos (by omega)
    rw [numP, e]
    generalize (2 : Int) ^ (8 * k) = q at *
    have h1 : (0 : Int) ≤ ((l.getD k 0).toNat : Int) * q := Int.mul_nonneg (by omega) (by omega)
    have h2 : ((l.getD k 0).toNat : Int) * q ≤ 255 * q := Int.mul_le_mul_of_nonneg_right (by omega) (by omega)
    omega
theorem or_add64 {x y : Int} {m : Nat} (h0 : 0 ≤ x) (h1 : x < 2 ^ m) (h2 : 0 ≤ y) (h3 : x + y * 2 ^ m < 18446744073709551616) : orI .u64 x (y * 2 ^ m) = x + y * 2 ^ m := by
  obtain ⟨a, rfl⟩ := Int.eq_ofNat_of_zero_le h0
  obtain ⟨b, rfl⟩ := Int.eq_ofNat_of_zero_le h2
  have e : ((b : Nat) : Int) * 2 ^ m = ((b * 2 ^ m : Nat) : Int) := by simp
  rw [e] at h3 ⊢
  have h1' : a < 2 ^ m := by
    have : ((a : Nat) : Int) < ((2 ^ m : Nat) : Int) := by simpa using h1
    omega
  have h3' : a + b * 2 ^ m < 18446744073709551616 := by omega
  have hor : a ||| b * 2 ^ m = a + b * 2 ^ m := by
    have := Nat.shiftLeft_add_eq_or_of_lt h1' b
    rw [Nat.shiftLeft_eq] at this
    rw [Nat.or_comm, ← this]; omega
  unfold orI
  have hb : IntKind.bits .u64 = 64 := rfl
  rw [hb, BitVec.toNat_or, BitVec.toNat_ofInt, BitVec.toNat_ofInt]
  have e1 : (((a : Nat) : Int) % ((2 ^ 64 : Nat) : Int)).toNat = a := by omega
  have e2 : (((b * 2 ^ m : Nat) : Int) % ((2 ^ 64 : Nat) : Int)).toNat = b * 2 ^ m := by omega
  rw [e1, e2, hor, wrap_u64]
  omega
theorem number64_any (l : List UInt8) (hl : l.length ≤ 6) : ACalls Tryz.prog 101 [St l] [] (fun r _ => r = W64 (numP l l.length) ∧ r.sc 0 = true) := by
  refine acalls_of_wk hm Tryz.func101 rfl ?_
  simp only [Tryz.ntmps101, List.length_cons, List.length_nil, Nat.reduceAdd, Nat.reduceSub, List.reduceReplicate, List.cons_append, List.nil_append]
  show wk _ _ none _ _ ⟨_, []⟩ _
  with_reducible refine s_seq ?_
  with_reducible refine s_reg ?_
  refine sassign ?_
  simp only [pu', p0', c1', c0', i1', z0', b8_nat]
  with_reducible refine s_end ?_
  with_reducible refine s_then ?_
  with_reducible refine s_seq ?_
  with_reducible refine s_reg ?_
  refine sassign ?_
  simp only [pu', p0', c1', c0', i1', z0', b8_nat]
  with_reducible refine s_end ?_
  with_reducible refine s_then ?_
  with_reducible refine s_seq ?_
  with_reducible refine s_seq ?_
  with_reducible refine s_reg ?_
  refine smove ?_
  simp only [pu', p0', c1', c0', i1', z0', b8_nat]
  refine slenS ?_
  simp only [pu', p0', c1', c0', i1', z0', b8_nat]
  with_reducible refine s_end ?_
  with_reducible refine s_then ?_
  with_reducible refine s_block ?_
  with_reducible refine s_seq ?_
  with_reducible refine s_block ?_
  with_reducible refine s_seq ?_
  with_reducible refine s_block ?_
  with_reducible refine s_seq ?_
  with_reducible refine s_block ?_
  with_reducible refine s_seq ?_
  with_reducible refine s_seq ?_
  with_reducible refine s_seq ?_
  with_reducible refine s_reg ?_
  refine sEq (fun hb => ?_) (fun hb => ?_)
  replace hb := dT' hb
  (exfalso; omega)
  replace hb := dF' hb
  simp only [pu', p0', c1', c0', i1', z0', b8_nat]
  refine sassign ?_
  simp only [pu', p0', c1', c0', i1', z0', b8_nat]
  with_reducible refine s_end ?_
  with_reducible refine s_then ?_
  refine sCF ?_
  with_reducible refine s_skip ?_
  with_reducible refine s_then ?_
  with_reducible refine s_seq ?_
  with_reducible refine s_reg ?_
  refine sEq (fun hb => ?_) (fun hb => ?_)
  replace hb := dT' hb
  (exfalso; omega)
  replace hb := dF' hb
  simp only [pu', p0', c1', c0', i1', z0', b8_nat]
  refine sassign ?_
  simp only [pu', p0', c1', c0', i1', z0', b8_nat]
  with_reducible refine s_end ?_
  with_reducible refine s_then ?_
  refine sCF ?_
  with_reducible refine s_skip ?_
  with_reducible refine s_then ?_
  with_reducible refine s_exit ?_
  with_reducible refine s_blkX (by decide) ?_
  with_reducible refine s_thenE ?_
  with_reducible refine s_blkX (by decide) ?_
  with_reducible refine s_thenE ?_
  with_reducible refine s_blkE ?_
  with_reducible refine s_then ?_
  with_reducible refine s_seq ?_
  with_reducible refine s_seq ?_
  with_reducible refine s_reg ?_
  refine smove ?_
  simp only [pu', p0', c1', c0', i1', z0', b8_nat]
  refine slenS ?_
  simp only [pu', p0', c1', c0', i1', z0', b8_nat]
  refine smin ?_
  simp only [pu', p0', c1', c0', i1', z0', b8_nat]
  refine smove ?_
  simp only [pu', p0', c1', c0', i1', z0', b8_nat]
  with_reducible refine s_end ?_
  with_reducible refine s_then ?_
  with_reducible refine s_block ?_
  rw [if_neg (show ¬ ((6 : Int) < l.length) by omega)]
  refine s_loop hm (fun (b : Nat) s' => [St l, s' 1, s' 2, W64 (numP l b), s' 4, s' 5, s' 6, s' 7, s' 8, s' 9, s' 10, s' 11, s' 12, s' 13, s' 14, s' 15, s' 16, s' 17, s' 18, s' 19, s' 20, s' 21, s' 22, s' 23, s' 24, I l.length, I b, s' 27, s' 28, s' 29, s' 30, s' 31, s' 32, s' 33, s' 34, s' 35, s' 36, s' 37, s' 38, s' 39]) (fun b => []) (fun b => b ≤ l.length) (fun b => l.length - b) 0 (by rfl) rfl (by simp) ?_
  rintro k s' hk
  simp only [] at hk ⊢
  have hq := UInt8.toNat_lt (l.getD k 0)
  have hr := numP_rng l k
  focus
    with_reducible refine s_seq ?_
    with_reducible refine s_reg ?_
    refine sLt (fun hb => ?_) (fun hb => ?_)
    replace hb := dT' hb
    simp only [pu', p0', c1', c0', i1', z0', b8_nat]
    with_reducible refine s_end ?_
    with_reducible refine s_then ?_
    with_reducible refine s_seq ?_
    refine sCT ?_
    with_reducible refine s_skip ?_
    with_reducible refine s_then ?_
    with_reducible refine s_seq ?_
    with_reducible refine s_block ?_
    with_reducible refine s_seq ?_
    with_reducible refine s_reg ?_
    refine smove ?_
    simp only [pu', p0', c1', c0', i1', z0', b8_nat]
    refine sassign ?_
    simp only [pu', p0', c1', c0', i1', z0', b8_nat]
    with_reducible refine s_end ?_
    with_reducible refine s_then ?_
    with_reducible refine s_reg ?_
    refine smove ?_
    simp only [pu', p0', c1', c0', i1', z0', b8_nat]
    refine smove ?_
    simp only [pu', p0', c1', c0', i1', z0', b8_nat]
    refine smove ?_
    simp only [pu', p0', c1', c0', i1', z0', b8_nat]
    refine sidxStr ?_
    simp only [pu', p0', c1', c0', i1', z0', b8_nat]
    refine sconv ?_
    simp only [pu', p0', c1', c0', i1', z0', b8_nat]
    refine smove ?_
    simp only [pu', p0', c1', c0', i1', z0', b8_nat]
    refine smul ?_
    simp only [pu', p0', c1', c0', i1', z0', b8_nat]
    rotate_left 1
    replace hb := dF' hb
    simp only [pu', p0', c1', c0', i1', z0', b8_nat]
    with_reducible refine s_end ?_
    with_reducible refine s_then ?_
    with_reducible refine s_seq ?_
    refine sCF ?_
    with_reducible refine s_exit ?_
    with_reducible refine s_thenE ?_
    with_reducible refine l_exit ?_
    with_reducible refine s_blkE ?_
    with_reducible refine s_then ?_
    with_reducible refine s_exit ?_
    with_reducible refine s_blkE ?_
    with_reducible refine s_then ?_
    with_reducible refine s_seq ?_
    with_reducible refine s_reg ?_
    refine smove ?_
    simp only [pu', p0', c1', c0', i1', z0', b8_nat]
    refine sassign ?_
    simp only [pu', p0', c1', c0', i1', z0', b8_nat]
    with_reducible refine s_end ?_
    with_reducible refine s_then ?_
    with_reducible refine s_ret ?_
    rotate_left 1
  · have e1 : (2 : Int) ^ (8 * k) ≤ 1099511627776 := by
      have h : (2 : Nat) ^ (8 * k) ≤ 1099511627776 := Nat.pow_le_pow_right (n := 2) (by decide) (show 8 * k ≤ 40 by omega)
      have h2 : ((2 ^ (8 * k) : Nat) : Int) ≤ ((1099511627776 : Nat) : Int) := Int.ofNat_le.2 h
      rw [Int.natCast_pow] at h2
      exact h2
    have hp : (0 : Int) < 2 ^ (8 * k) := Int.pow_pos (by omega)
    have s0 : (0 : Int) ≤ ((l.getD k 0).toNat : Int) * 2 ^ (8 * k) := Int.mul_nonneg (by omega) (by omega)
    have s1 : ((l.getD k 0).toNat : Int) * 2 ^ (8 * k) ≤ 255 * 2 ^ (8 * k) := Int.mul_le_mul_of_nonneg_right (by omega) (by omega)
    refine sshl (m := 8 * k) ?_ (hy := by omega) (hm := by show _ ≤ 64; omega) (hr := wrap_u64_in s0 (by omega))
    simp only [Fr.put, List.set_cons_succ, List.set_cons_zero, Int.toNat_natCast, Nat.zero_add]
    refine sor ?_
    simp only [pu', p0', c1', c0', i1', z0', b8_nat]
    refine sassign ?_
    simp only [pu', p0', c1', c0', i1', z0', b8_nat]
    with_reducible refine s_end ?_
    with_reducible refine s_blkN ?_
    with_reducible refine s_then ?_
    with_reducible refine s_reg ?_
    refine sadd ?_
    simp only [pu', p0', c1', c0', i1', z0', b8_nat]
    refine smove ?_
    simp only [pu', p0', c1', c0', i1', z0', b8_nat]
    with_reducible refine s_end ?_
    refine l_next (k + 1) (by omega) (by omega) ?_ (by rfl)
    rw [or_add64 hr.1 hr.2 (by omega) (by omega)]
    rfl
  · all_goals try with_reducible refine w_n ?_
    all_goals refine w_1 rfl (by first | exact v_t (by rfl) | exact v_c1 (C1.p) (by rfl) (HA.p) (by rfl) | exact v_cF (CA.p) (by rfl) (HA.p) (by rfl)) ?_
    exact ⟨by rw [show k = l.length by omega], rfl⟩
theorem number1_any (a : UInt8) : ACalls Tryz.prog 101 [St [a]] [] (fun r _ => r = W64 a.toNat ∧ r.sc 0 = true) := by
  have h := number64_any [a] (by simp)
  have e : numP [a] [a].length = a.toNat := by simp [numP]
  rwa [e] at h
theorem number3_any (a b c : UInt8) : ACalls Tryz.prog 101 [St [a, b, c]] [] (fun r _ => r = W64 (a.toNat + b.toNat * 256 + c.toNat * 65536) ∧ r.sc 0 = true) := by
  have h := number64_any [a, b, c] (by simp)
  have e : numP [a, b, c] [a, b, c].length = a.toNat + b.toNat * 256 + c.toNat * 65536 := by simp [numP]
  rwa [e] at h
end Go.Proofs.YtgjbmhclgmpjdaaGreat
