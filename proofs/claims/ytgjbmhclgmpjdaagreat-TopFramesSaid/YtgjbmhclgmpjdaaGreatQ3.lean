/-
  A part of the proof of a statement of a chapter's seat; conditions: stated at each theorem.
-/
import Derived.Test.YtgjbmhclgmpjdaaGreatQ2
set_option linter.unusedVariables false
set_option linter.unusedSectionVars false
set_option linter.unusedSimpArgs false
set_option linter.unusedVariables false
set_option maxRecDepth 100000
set_option maxHeartbeats 8000000
namespace Go.Proofs.YtgjbmhclgmpjdaaGreat
open Go.Az Go
/-! ### Bits -/
theorem or_add {x y : Int} {m : Nat} (h0 : 0 ≤ x) (h1 : x < 2 ^ m) (h2 : 0 ≤ y) (h3 : x + y * 2 ^ m < 4294967296) : orI .u32 x (y * 2 ^ m) = x + y * 2 ^ m := by
  obtain ⟨a, rfl⟩ := Int.eq_ofNat_of_zero_le h0
  obtain ⟨b, rfl⟩ := Int.eq_ofNat_of_zero_le h2
  have e : ((b : Nat) : Int) * 2 ^ m = ((b * 2 ^ m : Nat) : Int) := by simp
  rw [e] at h3 ⊢
  have h1' : a < 2 ^ m := by
    have : ((a : Nat) : Int) < ((2 ^ m : Nat) : Int) := by simpa using h1
    omega
  have h3' : a + b * 2 ^ m < 4294967296 := by omega
  have hor : a ||| b * 2 ^ m = a + b * 2 ^ m := by
    have := Nat.shiftLeft_add_eq_or_of_lt h1' b
    rw [Nat.shiftLeft_eq] at this
    rw [Nat.or_comm, ← this]; omega
  unfold orI
  have hb : IntKind.bits .u32 = 32 := rfl
  rw [hb, BitVec.toNat_or, BitVec.toNat_ofInt, BitVec.toNat_ofInt]
  have e1 : (((a : Nat) : Int) % ((2 ^ 32 : Nat) : Int)).toNat = a := by omega
  have e2 : (((b * 2 ^ m : Nat) : Int) % ((2 ^ 32 : Nat) : Int)).toNat = b * 2 ^ m := by omega
  rw [e1, e2, hor, wrap_u32]
  omega
theorem and15 (w x : Nat) (hw : 4 ≤ w) (hx : x < 2 ^ w) : (BitVec.ofNat w x &&& ~~~BitVec.ofNat w 15).toNat = x - x % 16 := by
  have e : x - x % 16 = (x / 16) * 16 := by omega
  rw [e]
  apply Nat.eq_of_testBit_eq
  intro i
  rw [BitVec.testBit_toNat, BitVec.getLsbD_and, BitVec.getLsbD_not]
  have h15 : (BitVec.ofNat w 15).getLsbD i = decide (i < 4) := by
    rw [← BitVec.testBit_toNat, BitVec.toNat_ofNat]
    have : 15 % 2 ^ w = 2 ^ 4 - 1 := by
      rw [Nat.mod_eq_of_lt]
      exact Nat.lt_of_lt_of_le (show 15 < 2 ^ 4 by decide) (Nat.pow_le_pow_right (by decide) hw)
    rw [this, Nat.testBit_two_pow_sub_one]
  have hxx : (BitVec.ofNat w x).getLsbD i = x.testBit i := by
    rw [← BitVec.testBit_toNat, BitVec.toNat_ofNat, Nat.mod_eq_of_lt hx]
  rw [h15, hxx]
  have e2 : (x / 16) * 16 = (x >>> 4) <<< 4 := by rw [Nat.shiftLeft_eq, Nat.shiftRight_eq_div_pow]
  rw [e2, Nat.testBit_shiftLeft, Nat.testBit_shiftRight]
  by_cases hi : i < 4
  · have : ¬ (4 ≤ i) := by omega
    simp [hi, this]
  · have h4 : 4 ≤ i := by omega
    rw [show 4 + (i - 4) = i by omega]
    by_cases hiw : i < w
    · simp [hi, h4, hiw]
    · have : x.testBit i = false := Nat.testBit_lt_two_pow (Nat.lt_of_lt_of_le hx (Nat.pow_le_pow_right (by decide) (by omega)))
      simp [this]
theorem andn32 {x : Int} (h0 : 0 ≤ x) (h1 : x < 4294967296) : andnI .u32 x 15 = x - x % 16 := by
  obtain ⟨a, rfl⟩ := Int.eq_ofNat_of_zero_le h0
  unfold andnI
  have hb : IntKind.bits .u32 = 32 := rfl
  have := and15 32 a (by decide) (by omega)
  rw [hb, show BitVec.ofInt 32 ((a : Nat) : Int) = BitVec.ofNat 32 a from BitVec.ofInt_natCast _ _, show BitVec.ofInt 32 15 = BitVec.ofNat 32 15 from rfl, this, wrap_u32]
  omega
theorem andn8 {x : Int} (h0 : 0 ≤ x) (h1 : x < 256) : andnI .u8 x 15 = x - x % 16 := by
  obtain ⟨a, rfl⟩ := Int.eq_ofNat_of_zero_le h0
  unfold andnI
  have hb : IntKind.bits .u8 = 8 := rfl
  have := and15 8 a (by decide) (by omega)
  rw [hb, show BitVec.ofInt 8 ((a : Nat) : Int) = BitVec.ofNat 8 a from BitVec.ofInt_natCast _ _, show BitVec.ofInt 8 15 = BitVec.ofNat 8 15 from rfl, this, wrap_u8, b8_toNat]
  omega
/-! ### A number of four bytes -/
def num4 (l : List UInt8) : Int := (l.getD 0 0).toNat + (l.getD 1 0).toNat * 2 ^ 8 + (l.getD 2 0).toNat * 2 ^ 16 + (l.getD 3 0).toNat * 2 ^ 24
theorem num4_rng (l : List UInt8) : 0 ≤ num4 l ∧ num4 l < 4294967296 := by
  have h0 := UInt8.toNat_lt (l.getD 0 0)
  have h1 := UInt8.toNat_lt (l.getD 1 0)
  have h2 := UInt8.toNat_lt (l.getD 2 0)
  have h3 := UInt8.toNat_lt (l.getD 3 0)
  unfold num4
  omega
theorem number_any (l : List UInt8) (hl : 4 ≤ l.length) : ACalls Tryz.prog 25 [St l] [] (fun r _ => r = W32 (num4 l) ∧ r.sc 0 = true) := by
  have h0 := UInt8.toNat_lt (l.getD (Int.toNat 0) 0)
  have h1 := UInt8.toNat_lt (l.getD (Int.toNat 1) 0)
  have h2 := UInt8.toNat_lt (l.getD (Int.toNat 2) 0)
  have h3 := UInt8.toNat_lt (l.getD (Int.toNat 3) 0)
  refine acalls_of_wk hm Tryz.func25 rfl ?_
  simp only [Tryz.ntmps25, List.length_cons, List.length_nil, Nat.reduceAdd, Nat.reduceSub, List.reduceReplicate, List.cons_append, List.nil_append]
  show wk _ _ none _ _ ⟨_, []⟩ _
  with_reducible refine s_seq ?_
  with_reducible refine s_reg ?_
  refine sassign ?_
  simp only [pu', p0', c1', c0', i1', z0', b8_nat]
  with_reducible refine s_end ?_
  with_reducible refine s_then ?_
  with_reducible refine s_seq ?_
  (refine s_regQ (id := 1) [(0, true), (1, true), (2, true), (3, true), (4, true), (5, true), (6, true), (7, true), (8, true), (9, true), (10, true), (11, true), (12, true), (13, true), (14, true), (15, true), (16, true), (17, true), (18, true)] (by kernel_rfl) (by conv => lhs; simp only [pickO, List.getElem?_cons_succ, List.getElem?_cons_zero]) ?_)
  refine qmove ?_
  simp only [pu', p0', c1', c0', i1', z0', b8_nat]
  refine qidxStr ?_
  simp only [pu', p0', c1', c0', i1', z0', b8_nat]
  refine qconv ?_
  simp only [pu', p0', c1', c0', i1', z0', b8_nat]
  refine qmove ?_
  simp only [pu', p0', c1', c0', i1', z0', b8_nat]
  refine qidxStr ?_
  simp only [pu', p0', c1', c0', i1', z0', b8_nat]
  refine qconv ?_
  simp only [pu', p0', c1', c0', i1', z0', b8_nat]
  refine qshl ?_
  simp only [pu', p0', c1', c0', i1', z0', b8_nat]
  refine qor ?_
  simp only [pu', p0', c1', c0', i1', z0', b8_nat]
  refine qmove ?_
  simp only [pu', p0', c1', c0', i1', z0', b8_nat]
  refine qidxStr ?_
  simp only [pu', p0', c1', c0', i1', z0', b8_nat]
  refine qconv ?_
  simp only [pu', p0', c1', c0', i1', z0', b8_nat]
  refine qshl ?_
  simp only [pu', p0', c1', c0', i1', z0', b8_nat]
  refine qor ?_
  simp only [pu', p0', c1', c0', i1', z0', b8_nat]
  refine qmove ?_
  simp only [pu', p0', c1', c0', i1', z0', b8_nat]
  refine qidxStr ?_
  simp only [pu', p0', c1', c0', i1', z0', b8_nat]
  refine qconv ?_
  simp only [pu', p0', c1', c0', i1', z0', b8_nat]
  refine qshl ?_
  simp only [pu', p0', c1', c0', i1', z0', b8_nat]
  refine qor ?_
  simp only [pu', p0', c1', c0', i1', z0', b8_nat]
  refine qassign ?_
  simp only [pu', p0', c1', c0', i1', z0', b8_nat]
  with_reducible refine q_end ?_
  with_reducible refine s_then ?_
  with_reducible refine s_ret ?_
  all_goals try with_reducible refine w_n ?_
  all_goals refine w_1 rfl (by first | exact v_t (by rfl) | exact v_c1 (C1.p) (by rfl) (HA.p) (by rfl) | exact v_cF (CA.p) (by rfl) (HA.p) (by rfl)) ?_
  refine ⟨?_, rfl⟩
  have o1 := or_add (x := ((l.getD (Int.toNat 0) 0).toNat : Nat)) (y := ((l.getD (Int.toNat 1) 0).toNat : Nat)) (m := 8) (by omega) (by omega) (by omega) (by omega)
  have o2 := or_add (x := ((l.getD (Int.toNat 0) 0).toNat : Nat) + ((l.getD (Int.toNat 1) 0).toNat : Nat) * 2 ^ 8) (y := ((l.getD (Int.toNat 2) 0).toNat : Nat)) (m := 16) (by omega) (by omega) (by omega) (by omega)
  have o3 := or_add (x := ((l.getD (Int.toNat 0) 0).toNat : Nat) + ((l.getD (Int.toNat 1) 0).toNat : Nat) * 2 ^ 8 + ((l.getD (Int.toNat 2) 0).toNat : Nat) * 2 ^ 16) (y := ((l.getD (Int.toNat 3) 0).toNat : Nat)) (m := 24) (by omega) (by omega) (by omega) (by omega)
  rw [o1, o2, o3]
  rfl
/-! ### The reader -/
instance (s : ByteArray) (x : Int) : BD Tryz.prog 70 [(0, .v (.string s)), (1, I x)] (.agg [.v (.string s), I x]) := ⟨by kernel_rfl⟩
instance (s : ByteArray) (x : Int) : BD Tryz.prog 72 [(0, .agg [.v (.string s), I x])] (.agg [.v (.string s), I x]) := ⟨by kernel_rfl⟩
abbrev rdr (l : List UInt8) (x : Int) : AObj := .cells [St l, I x] 72 true
theorem rest_any (h : Hp) (i : Nat) (l : List UInt8) (x : Int) (hi : HA h i (rdr l x)) (h0 : 0 ≤ x) (h1 : x ≤ l.length) : ACalls Tryz.prog 26 [.ptr i 0] h (fun r h' => r = St (l.drop x.toNat) ∧ h' = h) := by
  refine acalls_of_wk hm Tryz.func26 rfl ?_
  simp only [Tryz.ntmps26, List.length_cons, List.length_nil, Nat.reduceAdd, Nat.reduceSub, List.reduceReplicate, List.cons_append, List.nil_append]
  show wk _ _ none _ _ ⟨_, []⟩ _
  with_reducible refine s_seq ?_
  with_reducible refine s_reg ?_
  refine sassign ?_
  simp only [pu', p0', c1', c0', i1', z0', b8_nat]
  with_reducible refine s_end ?_
  with_reducible refine s_then ?_
  with_reducible refine s_seq ?_
  (refine s_regQ (id := 1) [(0, true), (1, true), (2, true), (3, true), (4, true), (5, true), (6, true), (7, true), (8, true), (9, true)] (by kernel_rfl) (by conv => lhs; simp only [pickO, List.getElem?_cons_succ, List.getElem?_cons_zero]) ?_)
  refine qmove ?_
  simp only [pu', p0', c1', c0', i1', z0', b8_nat]
  refine qnilP ?_
  simp only [pu', p0', c1', c0', i1', z0', b8_nat]
  refine qfad ?_
  simp only [pu', p0', c1', c0', i1', z0', b8_nat]
  refine qload1 ?_
  simp only [pu', p0', c1', c0', i1', z0', b8_nat]
  refine qmove ?_
  simp only [pu', p0', c1', c0', i1', z0', b8_nat]
  refine qnilP ?_
  simp only [pu', p0', c1', c0', i1', z0', b8_nat]
  refine qfad ?_
  simp only [pu', p0', c1', c0', i1', z0', b8_nat]
  refine qload1 ?_
  simp only [pu', p0', c1', c0', i1', z0', b8_nat]
  refine qslcLo ?_
  simp only [pu', p0', c1', c0', i1', z0', b8_nat]
  refine qassign ?_
  simp only [pu', p0', c1', c0', i1', z0', b8_nat]
  with_reducible refine q_end ?_
  with_reducible refine s_then ?_
  with_reducible refine s_ret ?_
  all_goals try with_reducible refine w_n ?_
  all_goals refine w_1 rfl (by first | exact v_t (by rfl) | exact v_c1 (C1.p) (by rfl) (HA.p) (by rfl) | exact v_cF (CA.p) (by rfl) (HA.p) (by rfl)) ?_
  exact ⟨rfl, rfl⟩
theorem left_any (h : Hp) (i : Nat) (l : List UInt8) (x : Int) (hi : HA h i (rdr l x)) (h0 : 0 ≤ x) (h1 : x ≤ l.length) (hl : (l.length : Int) ≤ 9223372036854775807) : ACalls Tryz.prog 24 [.ptr i 0] h (fun r h' => r = I (l.length - x) ∧ h' = h) := by
  refine acalls_of_wk hm Tryz.func24 rfl ?_
  simp only [Tryz.ntmps24, List.length_cons, List.length_nil, Nat.reduceAdd, Nat.reduceSub, List.reduceReplicate, List.cons_append, List.nil_append]
  show wk _ _ none _ _ ⟨_, []⟩ _
  with_reducible refine s_seq ?_
  with_reducible refine s_reg ?_
  refine sassign ?_
  simp only [pu', p0', c1', c0', i1', z0', b8_nat]
  with_reducible refine s_end ?_
  with_reducible refine s_then ?_
  with_reducible refine s_seq ?_
  (refine s_regQ (id := 1) [(0, true), (1, true), (2, true), (3, true), (4, true), (5, true), (6, true), (7, true), (8, true), (9, true), (10, true)] (by kernel_rfl) (by conv => lhs; simp only [pickO, List.getElem?_cons_succ, List.getElem?_cons_zero]) ?_)
  refine qmove ?_
  simp only [pu', p0', c1', c0', i1', z0', b8_nat]
  refine qnilP ?_
  simp only [pu', p0', c1', c0', i1', z0', b8_nat]
  refine qfad ?_
  simp only [pu', p0', c1', c0', i1', z0', b8_nat]
  refine qload1 ?_
  simp only [pu', p0', c1', c0', i1', z0', b8_nat]
  refine qlenS ?_
  simp only [pu', p0', c1', c0', i1', z0', b8_nat]
  refine qmove ?_
  simp only [pu', p0', c1', c0', i1', z0', b8_nat]
  refine qnilP ?_
  simp only [pu', p0', c1', c0', i1', z0', b8_nat]
  refine qfad ?_
  simp only [pu', p0', c1', c0', i1', z0', b8_nat]
  refine qload1 ?_
  simp only [pu', p0', c1', c0', i1', z0', b8_nat]
  refine qsub ?_
  simp only [pu', p0', c1', c0', i1', z0', b8_nat]
  refine qassign ?_
  simp only [pu', p0', c1', c0', i1', z0', b8_nat]
  with_reducible refine q_end ?_
  with_reducible refine s_then ?_
  with_reducible refine s_ret ?_
  all_goals try with_reducible refine w_n ?_
  all_goals refine w_1 rfl (by first | exact v_t (by rfl) | exact v_c1 (C1.p) (by rfl) (HA.p) (by rfl) | exact v_cF (CA.p) (by rfl) (HA.p) (by rfl)) ?_
  exact ⟨rfl, rfl⟩
theorem opened_any (h : Hp) (l : List UInt8) (x : Int) : ACalls Tryz.prog 22 [St l, I x] h (fun r h' => r = .tup [.ptr h.length 0, B (decide (0 ≤ x) && decide (x ≤ l.length))] ∧ h' = h ++ [rdr l x]) := by
  refine acalls_of_wk hm Tryz.func22 rfl ?_
  simp only [Tryz.ntmps22, List.length_cons, List.length_nil, Nat.reduceAdd, Nat.reduceSub, List.reduceReplicate, List.cons_append, List.nil_append]
  show wk _ _ none _ _ ⟨_, []⟩ _
  focus
    with_reducible refine s_seq ?_
    with_reducible refine s_reg ?_
    refine sassign ?_
    simp only [pu', p0', c1', c0', i1', z0', b8_nat]
    refine sassign ?_
    simp only [pu', p0', c1', c0', i1', z0', b8_nat]
    with_reducible refine s_end ?_
    with_reducible refine s_then ?_
    with_reducible refine s_seq ?_
    with_reducible refine s_reg ?_
    refine smove ?_
    simp only [pu', p0', c1', c0', i1', z0', b8_nat]
    refine smove ?_
    simp only [pu', p0', c1', c0', i1', z0', b8_nat]
    refine sbuild ?_
    simp only [pu', p0', c1', c0', i1', z0', b8_nat]
    refine sbuild ?_
    simp only [pu', p0', c1', c0', i1', z0', b8_nat]
    refine sboxA ?_
    simp only [pu', p0', c1', c0', i1', n0', n3', n1', n2', a2', a1', a0', n4', Nat.reduceAdd, z0', n5', sa0, sa1, sa2, sa3, sa4, sa5, sa6, sa7, sa8, sa9, sa10, sa11]
    refine smove ?_
    simp only [pu', p0', c1', c0', i1', z0', b8_nat]
    refine sGe (fun hb => ?_) (fun hb => ?_)
    replace hb := dT' hb
    simp only [pu', p0', c1', c0', i1', z0', b8_nat]
    refine smove ?_
    simp only [pu', p0', c1', c0', i1', z0', b8_nat]
    refine smove ?_
    simp only [pu', p0', c1', c0', i1', z0', b8_nat]
    refine smove ?_
    simp only [pu', p0', c1', c0', i1', z0', b8_nat]
    refine slenS ?_
    simp only [pu', p0', c1', c0', i1', z0', b8_nat]
    refine sLe (fun hb => ?_) (fun hb => ?_)
    replace hb := dT' hb
    simp only [pu', p0', c1', c0', i1', z0', b8_nat]
    refine spickT ?_
    simp only [pu', p0', c1', c0', i1', z0', b8_nat]
    refine sassign ?_
    simp only [pu', p0', c1', c0', i1', z0', b8_nat]
    refine sassign ?_
    simp only [pu', p0', c1', c0', i1', z0', b8_nat]
    with_reducible refine s_end ?_
    with_reducible refine s_then ?_
    with_reducible refine s_ret ?_
    rotate_left 1
    replace hb := dF' hb
    simp only [pu', p0', c1', c0', i1', z0', b8_nat]
    refine spickT ?_
    simp only [pu', p0', c1', c0', i1', z0', b8_nat]
    refine sassign ?_
    simp only [pu', p0', c1', c0', i1', z0', b8_nat]
    refine sassign ?_
    simp only [pu', p0', c1', c0', i1', z0', b8_nat]
    with_reducible refine s_end ?_
    with_reducible refine s_then ?_
    with_reducible refine s_ret ?_
    rotate_left 1
    replace hb := dF' hb
    simp only [pu', p0', c1', c0', i1', z0', b8_nat]
    refine smove ?_
    simp only [pu', p0', c1', c0', i1', z0', b8_nat]
    (with_reducible refine s_gN ?_ ?_; exact wG rfl rfl rfl rfl rfl)
    simp only [pu', p0', c1', c0', i1', z0', b8_nat]
    (with_reducible refine s_gN ?_ ?_; exact wG rfl rfl rfl rfl rfl)
    simp only [pu', p0', c1', c0', i1', z0', b8_nat]
    (with_reducible refine s_gN ?_ ?_; exact wG rfl rfl rfl rfl rfl)
    simp only [pu', p0', c1', c0', i1', z0', b8_nat]
    (with_reducible refine s_gN ?_ ?_; exact wG rfl rfl rfl rfl rfl)
    simp only [pu', p0', c1', c0', i1', z0', b8_nat]
    refine spickF ?_
    simp only [pu', p0', c1', c0', i1', z0', b8_nat]
    refine sassign ?_
    simp only [pu', p0', c1', c0', i1', z0', b8_nat]
    refine sassign ?_
    simp only [pu', p0', c1', c0', i1', z0', b8_nat]
    with_reducible refine s_end ?_
    with_reducible refine s_then ?_
    with_reducible refine s_ret ?_
    rotate_left 1
  all_goals try with_reducible refine w_n ?_
  all_goals refine w_2 rfl (by first | exact v_t (by rfl) | exact v_c1 (C1.p) (by rfl) (HA.p) (by rfl) | exact v_cF (CA.p) (by rfl) (HA.p) (by rfl)) (by first | exact v_t (by rfl) | exact v_c1 (C1.p) (by rfl) (HA.p) (by rfl) | exact v_cF (CA.p) (by rfl) (HA.p) (by rfl)) ?_
  all_goals
    refine ⟨?_, rfl⟩
    first
      | (rw [decide_eq_true (p := 0 ≤ x) (by omega), decide_eq_true (p := x ≤ l.length) (by omega)]; rfl)
      | (rw [decide_eq_false (p := 0 ≤ x) (by omega)]; rfl)
      | (rw [decide_eq_false (p := x ≤ l.length) (by omega), Bool.and_false])
/-! ### What begins -/
def isPart (l : List UInt8) : Prop := ((l.getD 0 0).toNat - (l.getD 0 0).toNat % 16 = 80 ∧ l.drop 1 = ((le4 407710288).take l.length).drop 1) ∨ l = (le4 4247762216).take l.length
instance (l : List UInt8) : Decidable (isPart l) := by unfold isPart; infer_instance
def beg (l : List UInt8) : Int :=
  if 4 ≤ l.length then (if num4 l = 4247762216 then 2 else if num4 l - num4 l % 16 = 407710288 then 1 else 4)
  else if l = [] then 0 else if isPart l then 3 else 4
section
variable {l : List UInt8}
theorem bg_2 (h : 4 ≤ l.length) (h1 : num4 l = 4247762216) : beg l = 2 := by rw [beg, if_pos h, if_pos h1]
theorem bg_1 (h : 4 ≤ l.length) (h1 : num4 l - num4 l % 16 = 407710288) : beg l = 1 := by rw [beg, if_pos h, if_neg (by omega), if_pos h1]
theorem bg_4 (h : 4 ≤ l.length) (h1 : num4 l ≠ 4247762216) (h2 : num4 l - num4 l % 16 ≠ 407710288) : beg l = 4 := by rw [beg, if_pos h, if_neg h1, if_neg h2]
theorem bg_0 (h : l.length = 0) : beg l = 0 := by rw [beg, if_neg (by omega), if_pos (List.length_eq_zero_iff.1 h)]
theorem bg_3 (h : ¬ 4 ≤ l.length) (h1 : l.length ≠ 0) (h2 : isPart l) : beg l = 3 := by rw [beg, if_neg h, if_neg (by intro e; subst e; exact h1 rfl), if_pos h2]
theorem bg_n (h : ¬ 4 ≤ l.length) (h1 : l.length ≠ 0) (h2 : ¬ isPart l) : beg l = 4 := by rw [beg, if_neg h, if_neg (by intro e; subst e; exact h1 rfl), if_neg h2]
theorem drop_1 (h : l.length = 1) : l.drop 1 = ((le4 407710288).take l.length).drop 1 := by
  rw [h, List.drop_eq_nil_of_le (by omega)]; rfl
end
theorem begins_any (h : Hp) (i : Nat) (l : List UInt8) (x : Int) (hi : HA h i (rdr l x)) (h0 : 0 ≤ x) (h1 : x ≤ l.length) (hl : (l.length : Int) ≤ 9223372036854775807) : ACalls Tryz.prog 23 [.ptr i 0] h (fun r h' => r = I (beg (l.drop x.toNat)) ∧ h' = h) := by
  obtain ⟨R, hR⟩ : ∃ R, R = l.drop x.toNat := ⟨_, rfl⟩
  have hRl : (R.length : Int) = l.length - x := by rw [hR, List.length_drop]; omega
  have c1 := rest_any h i l x hi h0 h1
  have c2 := left_any h i l x hi h0 h1 hl
  rw [← hR] at c1 ⊢
  rw [← hRl] at c2
  have q0 := UInt8.toNat_lt (R.getD (Int.toNat 0) 0)
  have q1 := andn8 (x := ((R.getD (Int.toNat 0) 0).toNat : Nat)) (by omega) (by omega)
  have q2 := num4_rng R
  have q3 := andn32 q2.1 q2.2
  have e1 := le4_len 407710288
  have e2 := le4_len 4247762216
  refine acalls_of_wk hm Tryz.func23 rfl ?_
  simp only [Tryz.ntmps23, List.length_cons, List.length_nil, Nat.reduceAdd, Nat.reduceSub, List.reduceReplicate, List.cons_append, List.nil_append]
  show wk _ _ none _ _ ⟨_, []⟩ _
  focus
    with_reducible refine s_seq ?_
    with_reducible refine s_reg ?_
    refine sassign ?_
    simp only [pu', p0', c1', c0', i1', z0', b8_nat]
    with_reducible refine s_end ?_
    with_reducible refine s_then ?_
    with_reducible refine s_seq ?_
    with_reducible refine s_reg ?_
    refine smove ?_
    simp only [pu', p0', c1', c0', i1', z0', b8_nat]
    refine snilP ?_
    simp only [pu', p0', c1', c0', i1', z0', b8_nat]
    refine sfad ?_
    simp only [pu', p0', c1', c0', i1', z0', b8_nat]
    refine sM (hx := rfl) (c2) ?_
    simp only [pu', p0', c1', c0', i1', z0', b8_nat]
    refine sassign ?_
    simp only [pu', p0', c1', c0', i1', z0', b8_nat]
    with_reducible refine s_end ?_
    with_reducible refine s_then ?_
    with_reducible refine s_seq ?_
    with_reducible refine s_seq ?_
    with_reducible refine s_reg ?_
    refine smove ?_
    simp only [pu', p0', c1', c0', i1', z0', b8_nat]
    refine sGe (fun hb => ?_) (fun hb => ?_)
    replace hb := dT' hb
    simp only [pu', p0', c1', c0', i1', z0', b8_nat]
    with_reducible refine s_end ?_
    with_reducible refine s_then ?_
    refine sCT ?_
    with_reducible refine s_seq ?_
    with_reducible refine s_seq ?_
    with_reducible refine s_reg ?_
    refine smove ?_
    simp only [pu', p0', c1', c0', i1', z0', b8_nat]
    refine snilP ?_
    simp only [pu', p0', c1', c0', i1', z0', b8_nat]
    refine sfad ?_
    simp only [pu', p0', c1', c0', i1', z0', b8_nat]
    refine sM (hx := rfl) (c1) ?_
    simp only [pu', p0', c1', c0', i1', z0', b8_nat]
    refine sK (hx := rfl) (number_any _ (by omega)) ?_
    simp only [pu', p0', c1', c0', i1', z0', b8_nat]
    refine sassign ?_
    simp only [pu', p0', c1', c0', i1', z0', b8_nat]
    with_reducible refine s_end ?_
    with_reducible refine s_then ?_
    with_reducible refine s_block ?_
    with_reducible refine s_seq ?_
    with_reducible refine s_reg ?_
    refine smove ?_
    simp only [pu', p0', c1', c0', i1', z0', b8_nat]
    refine sEq (fun hb => ?_) (fun hb => ?_)
    replace hb := dT' hb
    simp only [pu', p0', c1', c0', i1', z0', b8_nat]
    refine sassign ?_
    simp only [pu', p0', c1', c0', i1', z0', b8_nat]
    with_reducible refine s_end ?_
    with_reducible refine s_then ?_
    refine sCT ?_
    with_reducible refine s_seq ?_
    with_reducible refine s_reg ?_
    refine sassign ?_
    simp only [pu', p0', c1', c0', i1', z0', b8_nat]
    with_reducible refine s_end ?_
    with_reducible refine s_then ?_
    with_reducible refine s_ret ?_
    with_reducible refine s_blkR ?_
    with_reducible refine s_thenR ?_
    with_reducible refine s_thenR ?_
    rotate_left 1
    replace hb := dF' hb
    simp only [pu', p0', c1', c0', i1', z0', b8_nat]
    refine sassign ?_
    simp only [pu', p0', c1', c0', i1', z0', b8_nat]
    with_reducible refine s_end ?_
    with_reducible refine s_then ?_
    refine sCF ?_
    with_reducible refine s_seq ?_
    with_reducible refine s_reg ?_
    refine smove ?_
    simp only [pu', p0', c1', c0', i1', z0', b8_nat]
    refine sandn ?_
    simp only [pu', p0', c1', c0', i1', z0', b8_nat]
    refine sEq (fun hb => ?_) (fun hb => ?_)
    replace hb := dT' hb
    simp only [pu', p0', c1', c0', i1', z0', b8_nat]
    refine sassign ?_
    simp only [pu', p0', c1', c0', i1', z0', b8_nat]
    with_reducible refine s_end ?_
    with_reducible refine s_then ?_
    refine sCT ?_
    with_reducible refine s_seq ?_
    with_reducible refine s_reg ?_
    refine sassign ?_
    simp only [pu', p0', c1', c0', i1', z0', b8_nat]
    with_reducible refine s_end ?_
    with_reducible refine s_then ?_
    with_reducible refine s_ret ?_
    with_reducible refine s_blkR ?_
    with_reducible refine s_thenR ?_
    with_reducible refine s_thenR ?_
    rotate_left 1
    replace hb := dF' hb
    simp only [pu', p0', c1', c0', i1', z0', b8_nat]
    refine sassign ?_
    simp only [pu', p0', c1', c0', i1', z0', b8_nat]
    with_reducible refine s_end ?_
    with_reducible refine s_then ?_
    refine sCF ?_
    with_reducible refine s_skip ?_
    with_reducible refine s_blkN ?_
    with_reducible refine s_then ?_
    with_reducible refine s_seq ?_
    with_reducible refine s_reg ?_
    refine sassign ?_
    simp only [pu', p0', c1', c0', i1', z0', b8_nat]
    with_reducible refine s_end ?_
    with_reducible refine s_then ?_
    with_reducible refine s_ret ?_
    with_reducible refine s_thenR ?_
    rotate_left 1
    replace hb := dF' hb
    simp only [pu', p0', c1', c0', i1', z0', b8_nat]
    with_reducible refine s_end ?_
    with_reducible refine s_then ?_
    refine sCF ?_
    with_reducible refine s_skip ?_
    with_reducible refine s_then ?_
    with_reducible refine s_seq ?_
    with_reducible refine s_reg ?_
    refine smove ?_
    simp only [pu', p0', c1', c0', i1', z0', b8_nat]
    refine snilP ?_
    simp only [pu', p0', c1', c0', i1', z0', b8_nat]
    refine sfad ?_
    simp only [pu', p0', c1', c0', i1', z0', b8_nat]
    refine sM (hx := rfl) (c1) ?_
    simp only [pu', p0', c1', c0', i1', z0', b8_nat]
    refine sassign ?_
    simp only [pu', p0', c1', c0', i1', z0', b8_nat]
    with_reducible refine s_end ?_
    with_reducible refine s_then ?_
    with_reducible refine s_seq ?_
    with_reducible refine s_seq ?_
    with_reducible refine s_reg ?_
    refine smove ?_
    simp only [pu', p0', c1', c0', i1', z0', b8_nat]
    with_reducible refine s_end ?_
    with_reducible refine s_then ?_
    with_reducible refine s_block ?_
    with_reducible refine s_seq ?_
    with_reducible refine s_block ?_
    with_reducible refine s_block ?_
    with_reducible refine s_seq ?_
    with_reducible refine s_block ?_
    with_reducible refine s_seq ?_
    with_reducible refine s_block ?_
    with_reducible refine s_seq ?_
    with_reducible refine s_seq ?_
    with_reducible refine s_seq ?_
    with_reducible refine s_reg ?_
    refine sEq (fun hb => ?_) (fun hb => ?_)
    replace hb := dT' hb
    simp only [pu', p0', c1', c0', i1', z0', b8_nat]
    refine sassign ?_
    simp only [pu', p0', c1', c0', i1', z0', b8_nat]
    with_reducible refine s_end ?_
    with_reducible refine s_then ?_
    refine sCT ?_
    with_reducible refine s_exit ?_
    with_reducible refine s_thenE ?_
    with_reducible refine s_thenE ?_
    with_reducible refine s_blkE ?_
    with_reducible refine s_then ?_
    with_reducible refine s_seq ?_
    with_reducible refine s_seq ?_
    with_reducible refine s_reg ?_
    refine sassign ?_
    simp only [pu', p0', c1', c0', i1', z0', b8_nat]
    with_reducible refine s_end ?_
    with_reducible refine s_then ?_
    with_reducible refine s_ret ?_
    with_reducible refine s_thenR ?_
    with_reducible refine s_blkR ?_
    with_reducible refine s_thenR ?_
    with_reducible refine s_blkR ?_
    with_reducible refine s_blkR ?_
    with_reducible refine s_thenR ?_
    with_reducible refine s_blkR ?_
    with_reducible refine s_thenR ?_
    rotate_left 1
    replace hb := dF' hb
    simp only [pu', p0', c1', c0', i1', z0', b8_nat]
    refine sassign ?_
    simp only [pu', p0', c1', c0', i1', z0', b8_nat]
    with_reducible refine s_end ?_
    with_reducible refine s_then ?_
    refine sCF ?_
    with_reducible refine s_skip ?_
    with_reducible refine s_then ?_
    with_reducible refine s_seq ?_
    with_reducible refine s_seq ?_
    with_reducible refine s_reg ?_
    refine sEq (fun hb => ?_) (fun hb => ?_)
    replace hb := dT' hb
    simp only [pu', p0', c1', c0', i1', z0', b8_nat]
    refine sassign ?_
    simp only [pu', p0', c1', c0', i1', z0', b8_nat]
    with_reducible refine s_end ?_
    with_reducible refine s_then ?_
    refine sCT ?_
    with_reducible refine s_exit ?_
    with_reducible refine s_thenE ?_
    with_reducible refine s_thenE ?_
    with_reducible refine s_blkX (by decide) ?_
    with_reducible refine s_thenE ?_
    with_reducible refine s_blkE ?_
    with_reducible refine s_then ?_
    with_reducible refine s_seq ?_
    with_reducible refine s_seq ?_
    with_reducible refine s_reg ?_
    refine smove ?_
    simp only [pu', p0', c1', c0', i1', z0', b8_nat]
    refine sidxStr ?_
    simp only [pu', p0', c1', c0', i1', z0', b8_nat]
    refine sandn ?_
    simp only [pu', p0', c1', c0', i1', z0', b8_nat]
    refine sEq (fun hb => ?_) (fun hb => ?_)
    replace hb := dT' hb
    simp only [pu', p0', c1', c0', i1', z0', b8_nat]
    refine smove ?_
    simp only [pu', p0', c1', c0', i1', z0', b8_nat]
    (with_reducible refine s_gN ?_ ?_; exact wG rfl rfl rfl rfl rfl)
    simp only [pu', p0', c1', c0', i1', z0', b8_nat]
    (with_reducible refine s_gN ?_ ?_; exact wG rfl rfl rfl rfl rfl)
    simp only [pu', p0', c1', c0', i1', z0', b8_nat]
    (with_reducible refine s_gN ?_ ?_; exact wG rfl rfl rfl rfl rfl)
    simp only [pu', p0', c1', c0', i1', z0', b8_nat]
    (with_reducible refine s_gN ?_ ?_; exact wG rfl rfl rfl rfl rfl)
    simp only [pu', p0', c1', c0', i1', z0', b8_nat]
    refine spickT ?_
    simp only [pu', p0', c1', c0', i1', z0', b8_nat]
    with_reducible refine s_end ?_
    with_reducible refine s_then ?_
    refine sCT ?_
    with_reducible refine s_seq ?_
    with_reducible refine s_reg ?_
    refine sassign ?_
    simp only [pu', p0', c1', c0', i1', z0', b8_nat]
    with_reducible refine s_end ?_
    with_reducible refine s_then ?_
    with_reducible refine s_ret ?_
    with_reducible refine s_thenR ?_
    with_reducible refine s_blkR ?_
    with_reducible refine s_blkR ?_
    with_reducible refine s_thenR ?_
    with_reducible refine s_blkR ?_
    with_reducible refine s_thenR ?_
    rotate_left 1
    replace hb := dF' hb
    simp only [pu', p0', c1', c0', i1', z0', b8_nat]
    refine smove ?_
    simp only [pu', p0', c1', c0', i1', z0', b8_nat]
    refine smove ?_
    simp only [pu', p0', c1', c0', i1', z0', b8_nat]
    refine sK (hx := rfl) (little_any _ (by omega)) ?_
    simp only [pu', p0', c1', c0', i1', z0', b8_nat]
    refine sslcHi ?_
    simp only [pu', p0', c1', c0', i1', z0', b8_nat]
    refine seqS (fun hb => ?_) (fun hb => ?_)
    replace hb := dT' hb
    simp only [pu', p0', c1', c0', i1', z0', b8_nat]
    refine spickF ?_
    simp only [pu', p0', c1', c0', i1', z0', b8_nat]
    with_reducible refine s_end ?_
    with_reducible refine s_then ?_
    refine sCT ?_
    with_reducible refine s_seq ?_
    with_reducible refine s_reg ?_
    refine sassign ?_
    simp only [pu', p0', c1', c0', i1', z0', b8_nat]
    with_reducible refine s_end ?_
    with_reducible refine s_then ?_
    with_reducible refine s_ret ?_
    with_reducible refine s_thenR ?_
    with_reducible refine s_blkR ?_
    with_reducible refine s_blkR ?_
    with_reducible refine s_thenR ?_
    with_reducible refine s_blkR ?_
    with_reducible refine s_thenR ?_
    rotate_left 1
    replace hb := dF' hb
    simp only [pu', p0', c1', c0', i1', z0', b8_nat]
    refine spickF ?_
    simp only [pu', p0', c1', c0', i1', z0', b8_nat]
    with_reducible refine s_end ?_
    with_reducible refine s_then ?_
    refine sCF ?_
    with_reducible refine s_skip ?_
    with_reducible refine s_then ?_
    with_reducible refine s_exit ?_
    with_reducible refine s_blkX (by decide) ?_
    with_reducible refine s_blkX (by decide) ?_
    with_reducible refine s_thenE ?_
    with_reducible refine s_blkE ?_
    with_reducible refine s_then ?_
    with_reducible refine s_seq ?_
    with_reducible refine s_reg ?_
    refine sassign ?_
    simp only [pu', p0', c1', c0', i1', z0', b8_nat]
    with_reducible refine s_end ?_
    with_reducible refine s_then ?_
    with_reducible refine s_ret ?_
    rotate_left 1
    replace hb := dF' hb
    simp only [pu', p0', c1', c0', i1', z0', b8_nat]
    refine sassign ?_
    simp only [pu', p0', c1', c0', i1', z0', b8_nat]
    with_reducible refine s_end ?_
    with_reducible refine s_then ?_
    refine sCF ?_
    with_reducible refine s_skip ?_
    with_reducible refine s_then ?_
    with_reducible refine s_seq ?_
    with_reducible refine s_reg ?_
    refine sEq (fun hb => ?_) (fun hb => ?_)
    replace hb := dT' hb
    simp only [pu', p0', c1', c0', i1', z0', b8_nat]
    refine sassign ?_
    simp only [pu', p0', c1', c0', i1', z0', b8_nat]
    with_reducible refine s_end ?_
    with_reducible refine s_then ?_
    refine sCT ?_
    with_reducible refine s_exit ?_
    with_reducible refine s_thenE ?_
    with_reducible refine s_blkX (by decide) ?_
    with_reducible refine s_thenE ?_
    with_reducible refine s_blkX (by decide) ?_
    with_reducible refine s_thenE ?_
    with_reducible refine s_blkE ?_
    with_reducible refine s_blkN ?_
    with_reducible refine s_then ?_
    with_reducible refine s_seq ?_
    with_reducible refine s_seq ?_
    (refine s_regQ (id := 17) [(0, true), (1, true), (2, true), (3, true), (4, true), (5, true), (6, true), (8, true), (7, false), (9, true), (10, true), (11, true), (12, true), (13, true), (15, true), (14, false), (16, true), (17, true), (18, true)] (by kernel_rfl) (by conv => lhs; simp only [pickO, List.getElem?_cons_succ, List.getElem?_cons_zero]) ?_)
    refine qmove ?_
    simp only [pu', p0', c1', c0', i1', z0', b8_nat]
    refine qidxStr ?_
    simp only [pu', p0', c1', c0', i1', z0', b8_nat]
    refine qandn ?_
    simp only [pu', p0', c1', c0', i1', z0', b8_nat]
    refine qEq (fun hb => ?_) (fun hb => ?_)
    replace hb := dT' hb
    simp only [pu', p0', c1', c0', i1', z0', b8_nat]
    refine qmove ?_
    simp only [pu', p0', c1', c0', i1', z0', b8_nat]
    refine qmove ?_
    simp only [pu', p0', c1', c0', i1', z0', b8_nat]
    refine qslcLo ?_
    simp only [pu', p0', c1', c0', i1', z0', b8_nat]
    refine qmove ?_
    simp only [pu', p0', c1', c0', i1', z0', b8_nat]
    refine qK (hx := rfl) (little_any _ (by omega)) ?_
    simp only [pu', p0', c1', c0', i1', z0', b8_nat]
    refine qslcS ?_
    simp only [pu', p0', c1', c0', i1', z0', b8_nat]
    refine qeqS (fun hb => ?_) (fun hb => ?_)
    replace hb := dT' hb
    simp only [pu', p0', c1', c0', i1', z0', b8_nat]
    refine qpickT ?_
    simp only [pu', p0', c1', c0', i1', z0', b8_nat]
    refine qmove ?_
    simp only [pu', p0', c1', c0', i1', z0', b8_nat]
    (with_reducible refine q_gN ?_ ?_; exact wG rfl rfl rfl rfl rfl)
    simp only [pu', p0', c1', c0', i1', z0', b8_nat]
    (with_reducible refine q_gN ?_ ?_; exact wG rfl rfl rfl rfl rfl)
    simp only [pu', p0', c1', c0', i1', z0', b8_nat]
    (with_reducible refine q_gN ?_ ?_; exact wG rfl rfl rfl rfl rfl)
    simp only [pu', p0', c1', c0', i1', z0', b8_nat]
    (with_reducible refine q_gN ?_ ?_; exact wG rfl rfl rfl rfl rfl)
    simp only [pu', p0', c1', c0', i1', z0', b8_nat]
    (with_reducible refine q_gN ?_ ?_; exact wG rfl rfl rfl rfl rfl)
    simp only [pu', p0', c1', c0', i1', z0', b8_nat]
    refine qpickT ?_
    simp only [pu', p0', c1', c0', i1', z0', b8_nat]
    with_reducible refine q_end ?_
    with_reducible refine s_then ?_
    refine sCT ?_
    with_reducible refine s_seq ?_
    with_reducible refine s_reg ?_
    refine sassign ?_
    simp only [pu', p0', c1', c0', i1', z0', b8_nat]
    with_reducible refine s_end ?_
    with_reducible refine s_then ?_
    with_reducible refine s_ret ?_
    with_reducible refine s_thenR ?_
    with_reducible refine s_blkR ?_
    with_reducible refine s_thenR ?_
    rotate_left 1
    replace hb := dF' hb
    simp only [pu', p0', c1', c0', i1', z0', b8_nat]
    refine qpickT ?_
    simp only [pu', p0', c1', c0', i1', z0', b8_nat]
    refine qmove ?_
    simp only [pu', p0', c1', c0', i1', z0', b8_nat]
    refine qmove ?_
    simp only [pu', p0', c1', c0', i1', z0', b8_nat]
    refine qmove ?_
    simp only [pu', p0', c1', c0', i1', z0', b8_nat]
    refine qK (hx := rfl) (little_any _ (by omega)) ?_
    simp only [pu', p0', c1', c0', i1', z0', b8_nat]
    refine qslcHi ?_
    simp only [pu', p0', c1', c0', i1', z0', b8_nat]
    refine qeqS (fun hb => ?_) (fun hb => ?_)
    replace hb := dT' hb
    simp only [pu', p0', c1', c0', i1', z0', b8_nat]
    refine qpickF ?_
    simp only [pu', p0', c1', c0', i1', z0', b8_nat]
    with_reducible refine q_end ?_
    with_reducible refine s_then ?_
    refine sCT ?_
    with_reducible refine s_seq ?_
    with_reducible refine s_reg ?_
    refine sassign ?_
    simp only [pu', p0', c1', c0', i1', z0', b8_nat]
    with_reducible refine s_end ?_
    with_reducible refine s_then ?_
    with_reducible refine s_ret ?_
    with_reducible refine s_thenR ?_
    with_reducible refine s_blkR ?_
    with_reducible refine s_thenR ?_
    rotate_left 1
    replace hb := dF' hb
    simp only [pu', p0', c1', c0', i1', z0', b8_nat]
    refine qpickF ?_
    simp only [pu', p0', c1', c0', i1', z0', b8_nat]
    with_reducible refine q_end ?_
    with_reducible refine s_then ?_
    refine sCF ?_
    with_reducible refine s_skip ?_
    with_reducible refine s_then ?_
    with_reducible refine s_exit ?_
    with_reducible refine s_blkE ?_
    with_reducible refine s_then ?_
    with_reducible refine s_seq ?_
    with_reducible refine s_reg ?_
    refine sassign ?_
    simp only [pu', p0', c1', c0', i1', z0', b8_nat]
    with_reducible refine s_end ?_
    with_reducible refine s_then ?_
    with_reducible refine s_ret ?_
    rotate_left 1
    replace hb := dF' hb
    simp only [pu', p0', c1', c0', i1', z0', b8_nat]
    refine qmove ?_
    simp only [pu', p0', c1', c0', i1', z0', b8_nat]
    (with_reducible refine q_gN ?_ ?_; exact wG rfl rfl rfl rfl rfl)
    simp only [pu', p0', c1', c0', i1', z0', b8_nat]
    (with_reducible refine q_gN ?_ ?_; exact wG rfl rfl rfl rfl rfl)
    simp only [pu', p0', c1', c0', i1', z0', b8_nat]
    (with_reducible refine q_gN ?_ ?_; exact wG rfl rfl rfl rfl rfl)
    simp only [pu', p0', c1', c0', i1', z0', b8_nat]
    (with_reducible refine q_gN ?_ ?_; exact wG rfl rfl rfl rfl rfl)
    simp only [pu', p0', c1', c0', i1', z0', b8_nat]
    (with_reducible refine q_gN ?_ ?_; exact wG rfl rfl rfl rfl rfl)
    simp only [pu', p0', c1', c0', i1', z0', b8_nat]
    (with_reducible refine q_gN ?_ ?_; exact wG rfl rfl rfl rfl rfl)
    simp only [pu', p0', c1', c0', i1', z0', b8_nat]
    refine qpickF ?_
    simp only [pu', p0', c1', c0', i1', z0', b8_nat]
    refine qmove ?_
    simp only [pu', p0', c1', c0', i1', z0', b8_nat]
    refine qmove ?_
    simp only [pu', p0', c1', c0', i1', z0', b8_nat]
    refine qmove ?_
    simp only [pu', p0', c1', c0', i1', z0', b8_nat]
    refine qK (hx := rfl) (little_any _ (by omega)) ?_
    simp only [pu', p0', c1', c0', i1', z0', b8_nat]
    refine qslcHi ?_
    simp only [pu', p0', c1', c0', i1', z0', b8_nat]
    refine qeqS (fun hb => ?_) (fun hb => ?_)
    replace hb := dT' hb
    simp only [pu', p0', c1', c0', i1', z0', b8_nat]
    refine qpickF ?_
    simp only [pu', p0', c1', c0', i1', z0', b8_nat]
    with_reducible refine q_end ?_
    with_reducible refine s_then ?_
    refine sCT ?_
    with_reducible refine s_seq ?_
    with_reducible refine s_reg ?_
    refine sassign ?_
    simp only [pu', p0', c1', c0', i1', z0', b8_nat]
    with_reducible refine s_end ?_
    with_reducible refine s_then ?_
    with_reducible refine s_ret ?_
    with_reducible refine s_thenR ?_
    with_reducible refine s_blkR ?_
    with_reducible refine s_thenR ?_
    rotate_left 1
    replace hb := dF' hb
    simp only [pu', p0', c1', c0', i1', z0', b8_nat]
    refine qpickF ?_
    simp only [pu', p0', c1', c0', i1', z0', b8_nat]
    with_reducible refine q_end ?_
    with_reducible refine s_then ?_
    refine sCF ?_
    with_reducible refine s_skip ?_
    with_reducible refine s_then ?_
    with_reducible refine s_exit ?_
    with_reducible refine s_blkE ?_
    with_reducible refine s_then ?_
    with_reducible refine s_seq ?_
    with_reducible refine s_reg ?_
    refine sassign ?_
    simp only [pu', p0', c1', c0', i1', z0', b8_nat]
    with_reducible refine s_end ?_
    with_reducible refine s_then ?_
    with_reducible refine s_ret ?_
    rotate_left 1
    replace hb := dF' hb
    simp only [pu', p0', c1', c0', i1', z0', b8_nat]
    refine sassign ?_
    simp only [pu', p0', c1', c0', i1', z0', b8_nat]
    with_reducible refine s_end ?_
    with_reducible refine s_then ?_
    refine sCF ?_
    with_reducible refine s_skip ?_
    with_reducible refine s_then ?_
    with_reducible refine s_exit ?_
    with_reducible refine s_blkX (by decide) ?_
    with_reducible refine s_thenE ?_
    with_reducible refine s_blkX (by decide) ?_
    with_reducible refine s_thenE ?_
    with_reducible refine s_blkX (by decide) ?_
    with_reducible refine s_blkE ?_
    with_reducible refine s_then ?_
    with_reducible refine s_seq ?_
    with_reducible refine s_seq ?_
    (refine s_regQ (id := 17) [(0, true), (1, true), (2, true), (3, true), (4, true), (5, true), (6, true), (8, true), (7, false), (9, true), (10, true), (11, true), (12, true), (13, true), (15, true), (14, false), (16, true), (17, true), (18, true)] (by kernel_rfl) (by conv => lhs; simp only [pickO, List.getElem?_cons_succ, List.getElem?_cons_zero]) ?_)
    refine qmove ?_
    simp only [pu', p0', c1', c0', i1', z0', b8_nat]
    refine qidxStr ?_
    simp only [pu', p0', c1', c0', i1', z0', b8_nat]
    refine qandn ?_
    simp only [pu', p0', c1', c0', i1', z0', b8_nat]
    refine qEq (fun hb => ?_) (fun hb => ?_)
    replace hb := dT' hb
    simp only [pu', p0', c1', c0', i1', z0', b8_nat]
    refine qmove ?_
    simp only [pu', p0', c1', c0', i1', z0', b8_nat]
    refine qmove ?_
    simp only [pu', p0', c1', c0', i1', z0', b8_nat]
    refine qslcLo ?_
    simp only [pu', p0', c1', c0', i1', z0', b8_nat]
    refine qmove ?_
    simp only [pu', p0', c1', c0', i1', z0', b8_nat]
    refine qK (hx := rfl) (little_any _ (by omega)) ?_
    simp only [pu', p0', c1', c0', i1', z0', b8_nat]
    refine qslcS ?_
    simp only [pu', p0', c1', c0', i1', z0', b8_nat]
    refine qeqS (fun hb => ?_) (fun hb => ?_)
    replace hb := dT' hb
    simp only [pu', p0', c1', c0', i1', z0', b8_nat]
    refine qpickT ?_
    simp only [pu', p0', c1', c0', i1', z0', b8_nat]
    refine qmove ?_
    simp only [pu', p0', c1', c0', i1', z0', b8_nat]
    (with_reducible refine q_gN ?_ ?_; exact wG rfl rfl rfl rfl rfl)
    simp only [pu', p0', c1', c0', i1', z0', b8_nat]
    (with_reducible refine q_gN ?_ ?_; exact wG rfl rfl rfl rfl rfl)
    simp only [pu', p0', c1', c0', i1', z0', b8_nat]
    (with_reducible refine q_gN ?_ ?_; exact wG rfl rfl rfl rfl rfl)
    simp only [pu', p0', c1', c0', i1', z0', b8_nat]
    (with_reducible refine q_gN ?_ ?_; exact wG rfl rfl rfl rfl rfl)
    simp only [pu', p0', c1', c0', i1', z0', b8_nat]
    (with_reducible refine q_gN ?_ ?_; exact wG rfl rfl rfl rfl rfl)
    simp only [pu', p0', c1', c0', i1', z0', b8_nat]
    refine qpickT ?_
    simp only [pu', p0', c1', c0', i1', z0', b8_nat]
    with_reducible refine q_end ?_
    with_reducible refine s_then ?_
    refine sCT ?_
    with_reducible refine s_seq ?_
    with_reducible refine s_reg ?_
    refine sassign ?_
    simp only [pu', p0', c1', c0', i1', z0', b8_nat]
    with_reducible refine s_end ?_
    with_reducible refine s_then ?_
    with_reducible refine s_ret ?_
    with_reducible refine s_thenR ?_
    with_reducible refine s_blkR ?_
    with_reducible refine s_thenR ?_
    rotate_left 1
    replace hb := dF' hb
    simp only [pu', p0', c1', c0', i1', z0', b8_nat]
    refine qpickT ?_
    simp only [pu', p0', c1', c0', i1', z0', b8_nat]
    refine qmove ?_
    simp only [pu', p0', c1', c0', i1', z0', b8_nat]
    refine qmove ?_
    simp only [pu', p0', c1', c0', i1', z0', b8_nat]
    refine qmove ?_
    simp only [pu', p0', c1', c0', i1', z0', b8_nat]
    refine qK (hx := rfl) (little_any _ (by omega)) ?_
    simp only [pu', p0', c1', c0', i1', z0', b8_nat]
    refine qslcHi ?_
    simp only [pu', p0', c1', c0', i1', z0', b8_nat]
    refine qeqS (fun hb => ?_) (fun hb => ?_)
    replace hb := dT' hb
    simp only [pu', p0', c1', c0', i1', z0', b8_nat]
    refine qpickF ?_
    simp only [pu', p0', c1', c0', i1', z0', b8_nat]
    with_reducible refine q_end ?_
    with_reducible refine s_then ?_
    refine sCT ?_
    with_reducible refine s_seq ?_
    with_reducible refine s_reg ?_
    refine sassign ?_
    simp only [pu', p0', c1', c0', i1', z0', b8_nat]
    with_reducible refine s_end ?_
    with_reducible refine s_then ?_
    with_reducible refine s_ret ?_
    with_reducible refine s_thenR ?_
    with_reducible refine s_blkR ?_
    with_reducible refine s_thenR ?_
    rotate_left 1
    replace hb := dF' hb
    simp only [pu', p0', c1', c0', i1', z0', b8_nat]
    refine qpickF ?_
    simp only [pu', p0', c1', c0', i1', z0', b8_nat]
    with_reducible refine q_end ?_
    with_reducible refine s_then ?_
    refine sCF ?_
    with_reducible refine s_skip ?_
    with_reducible refine s_then ?_
    with_reducible refine s_exit ?_
    with_reducible refine s_blkE ?_
    with_reducible refine s_then ?_
    with_reducible refine s_seq ?_
    with_reducible refine s_reg ?_
    refine sassign ?_
    simp only [pu', p0', c1', c0', i1', z0', b8_nat]
    with_reducible refine s_end ?_
    with_reducible refine s_then ?_
    with_reducible refine s_ret ?_
    rotate_left 1
    replace hb := dF' hb
    simp only [pu', p0', c1', c0', i1', z0', b8_nat]
    refine qmove ?_
    simp only [pu', p0', c1', c0', i1', z0', b8_nat]
    (with_reducible refine q_gN ?_ ?_; exact wG rfl rfl rfl rfl rfl)
    simp only [pu', p0', c1', c0', i1', z0', b8_nat]
    (with_reducible refine q_gN ?_ ?_; exact wG rfl rfl rfl rfl rfl)
    simp only [pu', p0', c1', c0', i1', z0', b8_nat]
    (with_reducible refine q_gN ?_ ?_; exact wG rfl rfl rfl rfl rfl)
    simp only [pu', p0', c1', c0', i1', z0', b8_nat]
    (with_reducible refine q_gN ?_ ?_; exact wG rfl rfl rfl rfl rfl)
    simp only [pu', p0', c1', c0', i1', z0', b8_nat]
    (with_reducible refine q_gN ?_ ?_; exact wG rfl rfl rfl rfl rfl)
    simp only [pu', p0', c1', c0', i1', z0', b8_nat]
    (with_reducible refine q_gN ?_ ?_; exact wG rfl rfl rfl rfl rfl)
    simp only [pu', p0', c1', c0', i1', z0', b8_nat]
    refine qpickF ?_
    simp only [pu', p0', c1', c0', i1', z0', b8_nat]
    refine qmove ?_
    simp only [pu', p0', c1', c0', i1', z0', b8_nat]
    refine qmove ?_
    simp only [pu', p0', c1', c0', i1', z0', b8_nat]
    refine qmove ?_
    simp only [pu', p0', c1', c0', i1', z0', b8_nat]
    refine qK (hx := rfl) (little_any _ (by omega)) ?_
    simp only [pu', p0', c1', c0', i1', z0', b8_nat]
    refine qslcHi ?_
    simp only [pu', p0', c1', c0', i1', z0', b8_nat]
    refine qeqS (fun hb => ?_) (fun hb => ?_)
    replace hb := dT' hb
    simp only [pu', p0', c1', c0', i1', z0', b8_nat]
    refine qpickF ?_
    simp only [pu', p0', c1', c0', i1', z0', b8_nat]
    with_reducible refine q_end ?_
    with_reducible refine s_then ?_
    refine sCT ?_
    with_reducible refine s_seq ?_
    with_reducible refine s_reg ?_
    refine sassign ?_
    simp only [pu', p0', c1', c0', i1', z0', b8_nat]
    with_reducible refine s_end ?_
    with_reducible refine s_then ?_
    with_reducible refine s_ret ?_
    with_reducible refine s_thenR ?_
    with_reducible refine s_blkR ?_
    with_reducible refine s_thenR ?_
    rotate_left 1
    replace hb := dF' hb
    simp only [pu', p0', c1', c0', i1', z0', b8_nat]
    refine qpickF ?_
    simp only [pu', p0', c1', c0', i1', z0', b8_nat]
    with_reducible refine q_end ?_
    with_reducible refine s_then ?_
    refine sCF ?_
    with_reducible refine s_skip ?_
    with_reducible refine s_then ?_
    with_reducible refine s_exit ?_
    with_reducible refine s_blkE ?_
    with_reducible refine s_then ?_
    with_reducible refine s_seq ?_
    with_reducible refine s_reg ?_
    refine sassign ?_
    simp only [pu', p0', c1', c0', i1', z0', b8_nat]
    with_reducible refine s_end ?_
    with_reducible refine s_then ?_
    with_reducible refine s_ret ?_
    rotate_left 1
  all_goals try with_reducible refine w_n ?_
  all_goals refine w_1 rfl (by first | exact v_t (by rfl) | exact v_c1 (C1.p) (by rfl) (HA.p) (by rfl) | exact v_cF (CA.p) (by rfl) (HA.p) (by rfl)) ?_
  all_goals
    refine ⟨?_, rfl⟩
    have q1' : andnI IntKind.u8 (((R.getD 0 0).toNat : Nat) : Int) 15 = (((R.getD 0 0).toNat : Nat) : Int) - (((R.getD 0 0).toNat : Nat) : Int) % 16 := q1
    first
      | (rw [bg_2 (by omega) (by omega)]; done)
      | (rw [bg_1 (by omega) (by omega)]; done)
      | (rw [bg_4 (by omega) (by omega) (by omega)]; done)
      | (rw [bg_0 (by omega)]; done)
      | (have q4 : andnI IntKind.u8 (((R.getD 0 0).toNat : Nat) : Int) 15 = 80 := by assumption
         rw [bg_3 (by omega) (by omega) (.inl ⟨by omega, by first | exact hb | exact drop_1 (by omega)⟩)]; done)
      | (rw [bg_3 (by omega) (by omega) (.inr hb)]; done)
      | (rw [bg_3 (by omega) (by omega) (.inr (by rw [show R.length = 1 by omega]; exact hb))]; done)
      | (rw [bg_n (by omega) (by omega) (by
            rintro (⟨a1, a2⟩ | a1)
            · first
                | (have q4 : ¬ andnI IntKind.u8 (((R.getD 0 0).toNat : Nat) : Int) 15 = 80 := by assumption
                   omega)
                | (have q4 : ¬ R.drop 1 = ((le4 407710288).take R.length).drop 1 := by assumption
                   exact q4 a2)
            · first
                | exact hb a1
                | exact hb (by rw [show R.length = 1 by omega] at a1; exact a1))]; done)
end Go.Proofs.YtgjbmhclgmpjdaaGreat
