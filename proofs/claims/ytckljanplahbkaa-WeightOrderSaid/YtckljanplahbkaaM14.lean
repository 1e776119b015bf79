/-
  A part of the proof of a statement of a chapter's seat; conditions: stated at each theorem.
-/
import Derived.Test.YtckljanplahbkaaM13
set_option linter.unusedVariables false
set_option linter.unusedSectionVars false
set_option linter.unusedSimpArgs false
set_option linter.unusedVariables false
set_option maxRecDepth 100000
set_option maxHeartbeats 4000000
namespace Go.Proofs.Ytckljanplahbkaa
open Go.Az Go
instance (e a : Int) : BD Try.prog 36 [(0, I e), (1, I a)] (.agg [I e, I a]) := ⟨by kernel_rfl⟩
instance (e : Int) : BD Try.prog 36 [(0, I e)] (.agg [I e, I 0]) := ⟨by kernel_rfl⟩
instance : BD Try.prog 36 [] (.agg [I 0, I 0]) := ⟨by kernel_rfl⟩
instance (s : ByteArray) (x : Int) : BD Try.prog 58 [(0, .v (.string s)), (1, I x)] (.agg [.v (.string s), I x]) := ⟨by kernel_rfl⟩
instance (s : ByteArray) (x : Int) : BD Try.prog 60 [(0, .agg [.v (.string s), I x])] (.agg [.v (.string s), I x, nilS]) := ⟨by kernel_rfl⟩
def nb (s : List UInt8) (a i : Nat) : Int := if i % 2 = 0 then byt s (a + 1 + i / 2) / 2 ^ 4 else byt s (a + 1 + i / 2) % 16
def nibs (s : List UInt8) (a m : Nat) : List Int := (List.range m).map (nb s a)
theorem nibs_len (s : List UInt8) (a m : Nat) : (nibs s a m).length = m := by simp [nibs]
theorem nibs_snoc (s : List UInt8) (a m : Nat) : nibs s a (m + 1) = nibs s a m ++ [nb s a m] := by simp [nibs, List.range_succ]
structure RdR where
  out : List Int
  nx : Int
  e : Int
  a : Int
def rdD (s : List UInt8) (x : Int) : RdR :=
  if x < 0 ∨ s.length < x then ⟨[], 0, 2, 0⟩ else if x = s.length then ⟨[], 0, 5, s.length⟩
  else if byt s x.toNat - 127 < 1 then ⟨[], 0, 21, x⟩
  else if (s.length : Int) - (x + 1) < (byt s x.toNat - 127 + 1) / 2 then ⟨[], 0, 5, s.length⟩
  else if impE (nibs s x.toNat (byt s x.toNat - 127).toNat) ≠ 0 then ⟨[], 0, 21, x⟩
  else ⟨nibs s x.toNat (byt s x.toNat - 127).toNat, x + 1 + (byt s x.toNat - 127 + 1) / 2, 0, 0⟩
section
variable {s : List UInt8} {x : Int}
theorem rd_1 (h : x < 0 ∨ s.length < x) : rdD s x = ⟨[], 0, 2, 0⟩ := if_pos h
theorem rd_2 (h : x = s.length) : rdD s x = ⟨[], 0, 5, s.length⟩ := by rw [rdD, if_neg (by omega), if_pos h]
theorem rd_3 (h : ¬ (x < 0 ∨ s.length ≤ x)) (h1 : byt s x.toNat - 127 < 1) : rdD s x = ⟨[], 0, 21, x⟩ := by rw [rdD, if_neg (by omega), if_neg (by omega), if_pos h1]
theorem rd_4 (h : ¬ (x < 0 ∨ s.length ≤ x)) (h1 : ¬ byt s x.toNat - 127 < 1) (h2 : (s.length : Int) - (x + 1) < (byt s x.toNat - 127 + 1) / 2) : rdD s x = ⟨[], 0, 5, s.length⟩ := by rw [rdD, if_neg (by omega), if_neg (by omega), if_neg h1, if_pos h2]
theorem rd_5 (h : ¬ (x < 0 ∨ s.length ≤ x)) (h1 : ¬ byt s x.toNat - 127 < 1) (h2 : ¬ (s.length : Int) - (x + 1) < (byt s x.toNat - 127 + 1) / 2) (h3 : impE (nibs s x.toNat (byt s x.toNat - 127).toNat) ≠ 0) : rdD s x = ⟨[], 0, 21, x⟩ := by rw [rdD, if_neg (by omega), if_neg (by omega), if_neg h1, if_neg h2, if_pos h3]
theorem rd_6 (h : ¬ (x < 0 ∨ s.length ≤ x)) (h1 : ¬ byt s x.toNat - 127 < 1) (h2 : ¬ (s.length : Int) - (x + 1) < (byt s x.toNat - 127 + 1) / 2) (h3 : impE (nibs s x.toNat (byt s x.toNat - 127).toNat) = 0) : rdD s x = ⟨nibs s x.toNat (byt s x.toNat - 127).toNat, x + 1 + (byt s x.toNat - 127 + 1) / 2, 0, 0⟩ := by rw [rdD, if_neg (by omega), if_neg (by omega), if_neg h1, if_neg h2, if_neg (by omega)]
end
structure RB where
  i : Nat
  z : AV
  H : Hp
abbrev fRd (d : RdR) (z : AV) : AV := .tup [z, I d.nx, .agg [I d.e, I d.a]]
/-! ### The program's reader -/
structure RP where
  k : Nat
  z : AV
  H : Hp
theorem nibs_half (s : List UInt8) (a m k : Nat) (h : 2 * k < m) : nibs s a (min (2 * k) m) ++ hlf (byt s (a + 1 + k)) ((m : Int) - (min (2 * k) m : Nat)) = nibs s a (min (2 * (k + 1)) m) := by
  have e1 : nb s a (2 * k) = byt s (a + 1 + k) / 2 ^ 4 := by rw [nb, if_pos (by omega), show 2 * k / 2 = k by omega]
  have e2 : nb s a (2 * k + 1) = byt s (a + 1 + k) % 16 := by rw [nb, if_neg (by omega), show (2 * k + 1) / 2 = k by omega]
  rw [show min (2 * k) m = 2 * k by omega]
  by_cases h2 : 2 * k + 1 < m
  · rw [hlf, if_pos (by omega), show min (2 * (k + 1)) m = 2 * k + 1 + 1 by omega, nibs_snoc, nibs_snoc, e1, e2, List.append_assoc]; rfl
  · rw [hlf, if_neg (by omega), show min (2 * (k + 1)) m = 2 * k + 1 by omega, nibs_snoc, e1]
theorem read_any (h : Hp) (s : List UInt8) (x : Int) (hs : s.length ≤ 1000000) : ACalls Try.prog 27 [St s, I x] h (fun r h' => ∃ z, r = fRd (rdD s x) z ∧ RetS (encI .i64) 3 h (rdD s x).out z h') := by
  refine ret_own (e := 3) iok ipp (fRd (rdD s x)) (fun _ _ => rfl) (fun n z h => by simp [AV.sc, AV.scs, h]) ?_
  have nl : ∀ {d : RdR} {X : Hp} {r : AV}, d.out = [] → Ext h X → r = fRd d nilS → rdD s x = d → ∃ l z, Ext h X ∧ r = fRd (rdD s x) z ∧ Own (encI .i64) 1 3 X z l ∧ (∀ i, objOf z = some i → h.length ≤ i) ∧ Tight z ∧ ∀ s' h2, RetS (encI .i64) 3 h l s' h2 → ∃ z, fRd (rdD s x) s' = fRd (rdD s x) z ∧ RetS (encI .i64) 3 h (rdD s x).out z h2 := by
    intro d X r h1 h2 h3 h4
    exact ⟨[], nilS, h2, by rw [h4]; exact h3, .inl ⟨rfl, rfl⟩, fun i hi => (by cases hi), tight_nil, fun s' h2 hh => ⟨s', rfl, by rw [h4, h1]; exact hh⟩⟩
  by_cases hx : x < 0 ∨ s.length < x
  · refine acalls_of_wk hm Try.func27 rfl ?_
    simp only [Try.ntmps27, List.length_cons, List.length_nil, Nat.reduceAdd, Nat.reduceSub, List.reduceReplicate, List.cons_append, List.nil_append]
    show wk _ _ none _ _ ⟨_, []⟩ _
    focus
      with_reducible refine s_seq ?_
      with_reducible refine s_reg ?_
      refine sassign ?_
      simp only [pu', p0', c1', c0', i1', z0', b8_nat]
      refine sassign ?_
      simp only [pu', p0', c1', c0', i1', z0', b8_nat]
      refine salloc ?_
      simp only [pu', p0', c1', c0', i1', n0', n3', n1', n2', a2', a1', a0', n4', Nat.reduceAdd, z0', n5', sa0, sa1, sa2, sa3, sa4, sa5, sa6, sa7, sa8, sa9, sa10, sa11]
      with_reducible refine s_end ?_
      with_reducible refine s_then ?_
      with_reducible refine s_seq ?_
      with_reducible refine s_seq ?_
      with_reducible refine s_reg ?_
      refine smove ?_
      simp only [pu', p0', c1', c0', i1', z0', b8_nat]
      refine sLt (fun hb => ?_) (fun hb => ?_)
      replace hb := dT' hb
      simp only [pu', p0', c1', c0', i1', z0', b8_nat]
      refine smove ?_
      simp only [pu', p0', c1', c0', i1', z0', b8_nat]
      refine sN ?_
      simp only [pu', p0', c1', c0', i1', z0', b8_nat]
      refine sN ?_
      simp only [pu', p0', c1', c0', i1', z0', b8_nat]
      refine sN ?_
      simp only [pu', p0', c1', c0', i1', z0', b8_nat]
      refine sN ?_
      simp only [pu', p0', c1', c0', i1', z0', b8_nat]
      refine spickT ?_
      simp only [pu', p0', c1', c0', i1', z0', b8_nat]
      with_reducible refine s_end ?_
      with_reducible refine s_then ?_
      refine sCT ?_
      with_reducible refine s_seq ?_
      with_reducible refine s_reg ?_
      refine sbuild ?_
      simp only [pu', p0', c1', c0', i1', z0', b8_nat]
      refine sassign ?_
      simp only [pu', p0', c1', c0', i1', z0', b8_nat]
      refine sassign ?_
      simp only [pu', p0', c1', c0', i1', z0', b8_nat]
      refine sstoreF ?_
      simp only [pu', p0', c1', c0', i1', n0', n3', n1', n2', a2', a1', a0', n4', Nat.reduceAdd, z0', n5', sa0, sa1, sa2, sa3, sa4, sa5, sa6, sa7, sa8, sa9, sa10, sa11]
      with_reducible refine s_end ?_
      with_reducible refine s_then ?_
      with_reducible refine s_ret ?_
      with_reducible refine s_thenR ?_
      rotate_left 1
      replace hb := dF' hb
      simp only [pu', p0', c1', c0', i1', z0', b8_nat]
      refine smove ?_
      simp only [pu', p0', c1', c0', i1', z0', b8_nat]
      refine smove ?_
      simp only [pu', p0', c1', c0', i1', z0', b8_nat]
      refine smove ?_
      simp only [pu', p0', c1', c0', i1', z0', b8_nat]
      refine slenS ?_
      simp only [pu', p0', c1', c0', i1', z0', b8_nat]
      refine sGt (fun hb => ?_) (fun hb => ?_)
      replace hb := dT' hb
      simp only [pu', p0', c1', c0', i1', z0', b8_nat]
      refine spickF ?_
      simp only [pu', p0', c1', c0', i1', z0', b8_nat]
      with_reducible refine s_end ?_
      with_reducible refine s_then ?_
      refine sCT ?_
      with_reducible refine s_seq ?_
      with_reducible refine s_reg ?_
      refine sbuild ?_
      simp only [pu', p0', c1', c0', i1', z0', b8_nat]
      refine sassign ?_
      simp only [pu', p0', c1', c0', i1', z0', b8_nat]
      refine sassign ?_
      simp only [pu', p0', c1', c0', i1', z0', b8_nat]
      refine sstoreF ?_
      simp only [pu', p0', c1', c0', i1', n0', n3', n1', n2', a2', a1', a0', n4', Nat.reduceAdd, z0', n5', sa0, sa1, sa2, sa3, sa4, sa5, sa6, sa7, sa8, sa9, sa10, sa11]
      with_reducible refine s_end ?_
      with_reducible refine s_then ?_
      with_reducible refine s_ret ?_
      with_reducible refine s_thenR ?_
      rotate_left 1
      replace hb := dF' hb
      (exfalso; omega)
    all_goals try with_reducible refine w_n ?_
    all_goals refine w_3 rfl (by first | exact v_t (by rfl) | exact v_c1 (C1.p) (by rfl) (HA.p) (by rfl) | exact v_cF (CA.p) (by rfl) (HA.p) (by rfl)) (by first | exact v_t (by rfl) | exact v_c1 (C1.p) (by rfl) (HA.p) (by rfl) | exact v_cF (CA.p) (by rfl) (HA.p) (by rfl)) (by first | exact v_t (by rfl) | exact v_c1 (C1.p) (by rfl) (HA.p) (by rfl) | exact v_cF (CA.p) (by rfl) (HA.p) (by rfl)) ?_
    all_goals exact nl (d := ⟨[], 0, 2, 0⟩) rfl (ext_app _ _) rfl (rd_1 hx)
  have cl := fun X y z (q : HA X (h.length + 1) (rd s y z)) (a : 0 ≤ y) (b : y ≤ s.length) => left_any X (h.length + 1) s y z q a b hs
  have cn := fun X y z (q : HA X (h.length + 1) (rd s y z)) (a : 0 ≤ y) (b : y < s.length) => next_any X (h.length + 1) s y z q a b hs
  by_cases hxe : x = s.length
  · refine acalls_of_wk hm Try.func27 rfl ?_
    simp only [Try.ntmps27, List.length_cons, List.length_nil, Nat.reduceAdd, Nat.reduceSub, List.reduceReplicate, List.cons_append, List.nil_append]
    show wk _ _ none _ _ ⟨_, []⟩ _
    focus
      with_reducible refine s_seq ?_
      with_reducible refine s_reg ?_
      refine sassign ?_
      simp only [pu', p0', c1', c0', i1', z0', b8_nat]
      refine sassign ?_
      simp only [pu', p0', c1', c0', i1', z0', b8_nat]
      refine salloc ?_
      simp only [pu', p0', c1', c0', i1', n0', n3', n1', n2', a2', a1', a0', n4', Nat.reduceAdd, z0', n5', sa0, sa1, sa2, sa3, sa4, sa5, sa6, sa7, sa8, sa9, sa10, sa11]
      with_reducible refine s_end ?_
      with_reducible refine s_then ?_
      with_reducible refine s_seq ?_
      with_reducible refine s_seq ?_
      with_reducible refine s_reg ?_
      refine smove ?_
      simp only [pu', p0', c1', c0', i1', z0', b8_nat]
      refine sLt (fun hb => ?_) (fun hb => ?_)
      replace hb := dT' hb
      (exfalso; omega)
      replace hb := dF' hb
      simp only [pu', p0', c1', c0', i1', z0', b8_nat]
      refine smove ?_
      simp only [pu', p0', c1', c0', i1', z0', b8_nat]
      refine smove ?_
      simp only [pu', p0', c1', c0', i1', z0', b8_nat]
      refine smove ?_
      simp only [pu', p0', c1', c0', i1', z0', b8_nat]
      refine slenS ?_
      simp only [pu', p0', c1', c0', i1', z0', b8_nat]
      refine sGt (fun hb => ?_) (fun hb => ?_)
      replace hb := dT' hb
      (exfalso; omega)
      replace hb := dF' hb
      simp only [pu', p0', c1', c0', i1', z0', b8_nat]
      refine spickF ?_
      simp only [pu', p0', c1', c0', i1', z0', b8_nat]
      with_reducible refine s_end ?_
      with_reducible refine s_then ?_
      refine sCF ?_
      with_reducible refine s_skip ?_
      with_reducible refine s_then ?_
      with_reducible refine s_seq ?_
      with_reducible refine s_reg ?_
      refine smove ?_
      simp only [pu', p0', c1', c0', i1', z0', b8_nat]
      refine smove ?_
      simp only [pu', p0', c1', c0', i1', z0', b8_nat]
      refine sbuild ?_
      simp only [pu', p0', c1', c0', i1', z0', b8_nat]
      refine sbuild ?_
      simp only [pu', p0', c1', c0', i1', z0', b8_nat]
      refine sboxA ?_
      simp only [pu', p0', c1', c0', i1', n0', n3', n1', n2', a2', a1', a0', n4', Nat.reduceAdd, z0', n5', sa0, sa1, sa2, sa3, sa4, sa5, sa6, sa7, sa8, sa9, sa10, sa11]
      refine sassign ?_
      simp only [pu', p0', c1', c0', i1', z0', b8_nat]
      with_reducible refine s_end ?_
      with_reducible refine s_then ?_
      with_reducible refine s_seq ?_
      with_reducible refine s_seq ?_
      with_reducible refine s_reg ?_
      refine smove ?_
      simp only [pu', p0', c1', c0', i1', z0', b8_nat]
      refine snilP ?_
      simp only [pu', p0', c1', c0', i1', z0', b8_nat]
      refine sfad ?_
      simp only [pu', p0', c1', c0', i1', z0', b8_nat]
      refine sM (hx := rfl) (cl _ _ _ (by infer_instance) (by omega) (by omega)) ?_
      simp only [pu', p0', c1', c0', i1', z0', b8_nat]
      refine sEq (fun hb => ?_) (fun hb => ?_)
      replace hb := dT' hb
      simp only [pu', p0', c1', c0', i1', z0', b8_nat]
      with_reducible refine s_end ?_
      with_reducible refine s_then ?_
      refine sCT ?_
      with_reducible refine s_seq ?_
      with_reducible refine s_reg ?_
      refine smove ?_
      simp only [pu', p0', c1', c0', i1', z0', b8_nat]
      refine slenS ?_
      simp only [pu', p0', c1', c0', i1', z0', b8_nat]
      refine sbuild ?_
      simp only [pu', p0', c1', c0', i1', z0', b8_nat]
      refine sassign ?_
      simp only [pu', p0', c1', c0', i1', z0', b8_nat]
      refine sassign ?_
      simp only [pu', p0', c1', c0', i1', z0', b8_nat]
      refine sstoreF ?_
      simp only [pu', p0', c1', c0', i1', n0', n3', n1', n2', a2', a1', a0', n4', Nat.reduceAdd, z0', n5', sa0, sa1, sa2, sa3, sa4, sa5, sa6, sa7, sa8, sa9, sa10, sa11]
      with_reducible refine s_end ?_
      with_reducible refine s_then ?_
      with_reducible refine s_ret ?_
      with_reducible refine s_thenR ?_
      rotate_left 1
      replace hb := dF' hb
      (exfalso; omega)
    all_goals try with_reducible refine w_n ?_
    all_goals refine w_3 rfl (by first | exact v_t (by rfl) | exact v_c1 (C1.p) (by rfl) (HA.p) (by rfl) | exact v_cF (CA.p) (by rfl) (HA.p) (by rfl)) (by first | exact v_t (by rfl) | exact v_c1 (C1.p) (by rfl) (HA.p) (by rfl) | exact v_cF (CA.p) (by rfl) (HA.p) (by rfl)) (by first | exact v_t (by rfl) | exact v_c1 (C1.p) (by rfl) (HA.p) (by rfl) | exact v_cF (CA.p) (by rfl) (HA.p) (by rfl)) ?_
    all_goals exact nl (d := ⟨[], 0, 5, s.length⟩) rfl (ext_app _ _) rfl (rd_2 hxe)
  have hx2 : ¬ (x < 0 ∨ s.length ≤ x) := by omega
  obtain ⟨a, rfl⟩ := Int.eq_ofNat_of_zero_le (show 0 ≤ x by omega)
  have hb0 := byt_bd s a
  have r3 := rd_3 (s := s) hx2
  have r4 := rd_4 (s := s) hx2
  have r5 := rd_5 (s := s) hx2
  have r6 := rd_6 (s := s) hx2
  simp only [Int.toNat_natCast] at r3 r4 r5 r6
  refine acalls_of_wk hm Try.func27 rfl ?_
  simp only [Try.ntmps27, List.length_cons, List.length_nil, Nat.reduceAdd, Nat.reduceSub, List.reduceReplicate, List.cons_append, List.nil_append]
  show wk _ _ none _ _ ⟨_, []⟩ _
  focus
    with_reducible refine s_seq ?_
    with_reducible refine s_reg ?_
    refine sassign ?_
    simp only [pu', p0', c1', c0', i1', z0', b8_nat]
    refine sassign ?_
    simp only [pu', p0', c1', c0', i1', z0', b8_nat]
    refine salloc ?_
    simp only [pu', p0', c1', c0', i1', n0', n3', n1', n2', a2', a1', a0', n4', Nat.reduceAdd, z0', n5', sa0, sa1, sa2, sa3, sa4, sa5, sa6, sa7, sa8, sa9, sa10, sa11]
    with_reducible refine s_end ?_
    with_reducible refine s_then ?_
    with_reducible refine s_seq ?_
    with_reducible refine s_seq ?_
    with_reducible refine s_reg ?_
    refine smove ?_
    simp only [pu', p0', c1', c0', i1', z0', b8_nat]
    refine sLt (fun hb => ?_) (fun hb => ?_)
    replace hb := dT' hb
    (exfalso; omega)
    replace hb := dF' hb
    simp only [pu', p0', c1', c0', i1', z0', b8_nat]
    refine smove ?_
    simp only [pu', p0', c1', c0', i1', z0', b8_nat]
    refine smove ?_
    simp only [pu', p0', c1', c0', i1', z0', b8_nat]
    refine smove ?_
    simp only [pu', p0', c1', c0', i1', z0', b8_nat]
    refine slenS ?_
    simp only [pu', p0', c1', c0', i1', z0', b8_nat]
    refine sGt (fun hb => ?_) (fun hb => ?_)
    replace hb := dT' hb
    (exfalso; omega)
    replace hb := dF' hb
    simp only [pu', p0', c1', c0', i1', z0', b8_nat]
    refine spickF ?_
    simp only [pu', p0', c1', c0', i1', z0', b8_nat]
    with_reducible refine s_end ?_
    with_reducible refine s_then ?_
    refine sCF ?_
    with_reducible refine s_skip ?_
    with_reducible refine s_then ?_
    with_reducible refine s_seq ?_
    with_reducible refine s_reg ?_
    refine smove ?_
    simp only [pu', p0', c1', c0', i1', z0', b8_nat]
    refine smove ?_
    simp only [pu', p0', c1', c0', i1', z0', b8_nat]
    refine sbuild ?_
    simp only [pu', p0', c1', c0', i1', z0', b8_nat]
    refine sbuild ?_
    simp only [pu', p0', c1', c0', i1', z0', b8_nat]
    refine sboxA ?_
    simp only [pu', p0', c1', c0', i1', n0', n3', n1', n2', a2', a1', a0', n4', Nat.reduceAdd, z0', n5', sa0, sa1, sa2, sa3, sa4, sa5, sa6, sa7, sa8, sa9, sa10, sa11]
    refine sassign ?_
    simp only [pu', p0', c1', c0', i1', z0', b8_nat]
    with_reducible refine s_end ?_
    with_reducible refine s_then ?_
    with_reducible refine s_seq ?_
    with_reducible refine s_seq ?_
    with_reducible refine s_reg ?_
    refine smove ?_
    simp only [pu', p0', c1', c0', i1', z0', b8_nat]
    refine snilP ?_
    simp only [pu', p0', c1', c0', i1', z0', b8_nat]
    refine sfad ?_
    simp only [pu', p0', c1', c0', i1', z0', b8_nat]
    refine sM (hx := rfl) (cl _ _ _ (by infer_instance) (by omega) (by omega)) ?_
    simp only [pu', p0', c1', c0', i1', z0', b8_nat]
    refine sEq (fun hb => ?_) (fun hb => ?_)
    replace hb := dT' hb
    (exfalso; omega)
    replace hb := dF' hb
    simp only [pu', p0', c1', c0', i1', z0', b8_nat]
    with_reducible refine s_end ?_
    with_reducible refine s_then ?_
    refine sCF ?_
    with_reducible refine s_skip ?_
    with_reducible refine s_then ?_
    with_reducible refine s_seq ?_
    with_reducible refine s_reg ?_
    refine smove ?_
    simp only [pu', p0', c1', c0', i1', z0', b8_nat]
    refine snilP ?_
    simp only [pu', p0', c1', c0', i1', z0', b8_nat]
    refine sfad ?_
    simp only [pu', p0', c1', c0', i1', z0', b8_nat]
    refine sX (hx := rfl) (cn _ _ _ (by infer_instance) (by omega) (by omega)) ?_
    simp only [pu', p0', c1', c0', i1', n0', n3', n1', n2', a2', a1', a0', n4', Nat.reduceAdd, z0', n5', sa0, sa1, sa2, sa3, sa4, sa5, sa6, sa7, sa8, sa9, sa10, sa11]
    refine ssub ?_
    simp only [pu', p0', c1', c0', i1', z0', b8_nat]
    refine sassign ?_
    simp only [pu', p0', c1', c0', i1', z0', b8_nat]
    with_reducible refine s_end ?_
    with_reducible refine s_then ?_
    with_reducible refine s_seq ?_
    with_reducible refine s_seq ?_
    with_reducible refine s_reg ?_
    refine smove ?_
    simp only [pu', p0', c1', c0', i1', z0', b8_nat]
    refine sLt (fun hb => ?_) (fun hb => ?_)
    replace hb := dT' hb
    simp only [pu', p0', c1', c0', i1', z0', b8_nat]
    with_reducible refine s_end ?_
    with_reducible refine s_then ?_
    refine sCT ?_
    with_reducible refine s_seq ?_
    with_reducible refine s_reg ?_
    refine smove ?_
    simp only [pu', p0', c1', c0', i1', z0', b8_nat]
    refine sbuild ?_
    simp only [pu', p0', c1', c0', i1', z0', b8_nat]
    refine sassign ?_
    simp only [pu', p0', c1', c0', i1', z0', b8_nat]
    refine sassign ?_
    simp only [pu', p0', c1', c0', i1', z0', b8_nat]
    refine sstoreF ?_
    simp only [pu', p0', c1', c0', i1', n0', n3', n1', n2', a2', a1', a0', n4', Nat.reduceAdd, z0', n5', sa0, sa1, sa2, sa3, sa4, sa5, sa6, sa7, sa8, sa9, sa10, sa11]
    with_reducible refine s_end ?_
    with_reducible refine s_then ?_
    with_reducible refine s_ret ?_
    with_reducible refine s_thenR ?_
    rotate_left 1
    replace hb := dF' hb
    simp only [pu', p0', c1', c0', i1', z0', b8_nat]
    with_reducible refine s_end ?_
    with_reducible refine s_then ?_
    refine sCF ?_
    with_reducible refine s_skip ?_
    with_reducible refine s_then ?_
    with_reducible refine s_seq ?_
    with_reducible refine s_seq ?_
    with_reducible refine s_reg ?_
    refine smove ?_
    simp only [pu', p0', c1', c0', i1', z0', b8_nat]
    refine snilP ?_
    simp only [pu', p0', c1', c0', i1', z0', b8_nat]
    refine sfad ?_
    simp only [pu', p0', c1', c0', i1', z0', b8_nat]
    refine sM (hx := rfl) (cl _ _ _ (by infer_instance) (by omega) (by omega)) ?_
    simp only [pu', p0', c1', c0', i1', z0', b8_nat]
    refine smove ?_
    simp only [pu', p0', c1', c0', i1', z0', b8_nat]
    refine sadd ?_
    simp only [pu', p0', c1', c0', i1', z0', b8_nat]
    refine squo ?_
    simp only [pu', p0', c1', c0', i1', z0', b8_nat]
    refine sLt (fun hb => ?_) (fun hb => ?_)
    replace hb := dT' hb
    simp only [pu', p0', c1', c0', i1', z0', b8_nat]
    with_reducible refine s_end ?_
    with_reducible refine s_then ?_
    refine sCT ?_
    with_reducible refine s_seq ?_
    with_reducible refine s_reg ?_
    refine smove ?_
    simp only [pu', p0', c1', c0', i1', z0', b8_nat]
    refine slenS ?_
    simp only [pu', p0', c1', c0', i1', z0', b8_nat]
    refine sbuild ?_
    simp only [pu', p0', c1', c0', i1', z0', b8_nat]
    refine sassign ?_
    simp only [pu', p0', c1', c0', i1', z0', b8_nat]
    refine sassign ?_
    simp only [pu', p0', c1', c0', i1', z0', b8_nat]
    refine sstoreF ?_
    simp only [pu', p0', c1', c0', i1', n0', n3', n1', n2', a2', a1', a0', n4', Nat.reduceAdd, z0', n5', sa0, sa1, sa2, sa3, sa4, sa5, sa6, sa7, sa8, sa9, sa10, sa11]
    with_reducible refine s_end ?_
    with_reducible refine s_then ?_
    with_reducible refine s_ret ?_
    with_reducible refine s_thenR ?_
    rotate_left 1
    replace hb := dF' hb
    simp only [pu', p0', c1', c0', i1', z0', b8_nat]
    with_reducible refine s_end ?_
    with_reducible refine s_then ?_
    refine sCF ?_
    with_reducible refine s_skip ?_
    with_reducible refine s_then ?_
    with_reducible refine s_seq ?_
    with_reducible refine s_block ?_
    rotate_left 1
  · all_goals try with_reducible refine w_n ?_
    all_goals refine w_3 rfl (by first | exact v_t (by rfl) | exact v_c1 (C1.p) (by rfl) (HA.p) (by rfl) | exact v_cF (CA.p) (by rfl) (HA.p) (by rfl)) (by first | exact v_t (by rfl) | exact v_c1 (C1.p) (by rfl) (HA.p) (by rfl) | exact v_cF (CA.p) (by rfl) (HA.p) (by rfl)) (by first | exact v_t (by rfl) | exact v_c1 (C1.p) (by rfl) (HA.p) (by rfl) | exact v_cF (CA.p) (by rfl) (HA.p) (by rfl)) ?_
    exact nl (d := ⟨[], 0, 21, a⟩) rfl (ext_app _ _) rfl (r3 (by omega))
  · all_goals try with_reducible refine w_n ?_
    all_goals refine w_3 rfl (by first | exact v_t (by rfl) | exact v_c1 (C1.p) (by rfl) (HA.p) (by rfl) | exact v_cF (CA.p) (by rfl) (HA.p) (by rfl)) (by first | exact v_t (by rfl) | exact v_c1 (C1.p) (by rfl) (HA.p) (by rfl) | exact v_cF (CA.p) (by rfl) (HA.p) (by rfl)) (by first | exact v_t (by rfl) | exact v_c1 (C1.p) (by rfl) (HA.p) (by rfl) | exact v_cF (CA.p) (by rfl) (HA.p) (by rfl)) ?_
    exact nl (d := ⟨[], 0, 5, s.length⟩) rfl (ext_app _ _) rfl (r4 (by omega) (by omega))
  obtain ⟨m, hmm⟩ := Int.eq_ofNat_of_zero_le (show 0 ≤ byt s a - 127 by omega)
  simp only [hmm, Int.toNat_natCast] at r5 r6 ⊢
  have hm1 : 1 ≤ m ∧ m ≤ 128 ∧ (s.length : Int) - (a + 1) ≥ ((m : Int) + 1) / 2 := by omega
  have r5' := r5 (by omega) (by omega)
  have r6' := r6 (by omega) (by omega)
  clear r3 r4 r5 r6
  refine s_loop hm (fun (b : RP) s' => [St s, I a, s' 2, s' 3, s' 4, s' 5, .ptr h.length 0, .ptr (h.length + 1) 0, I m, s' 9, s' 10, s' 11, s' 12, s' 13, s' 14, s' 15, s' 16, s' 17, s' 18, s' 19, s' 20, s' 21, s' 22, s' 23, s' 24, s' 25, s' 26, s' 27, s' 28, s' 29, s' 30, s' 31, s' 32, s' 33, s' 34, s' 35, s' 36, s' 37, s' 38, s' 39, s' 40, s' 41, s' 42, s' 43, s' 44, s' 45, s' 46, s' 47, s' 48, s' 49, s' 50, s' 51, s' 52, s' 53, s' 54, s' 55, s' 56, s' 57, s' 58, s' 59, s' 60, s' 61, s' 62, s' 63, s' 64, s' 65, s' 66, s' 67, s' 68, s' 69, s' 70, s' 71, s' 72, s' 73, s' 74, s' 75, s' 76, s' 77, s' 78, s' 79, s' 80, s' 81, s' 82, s' 83, s' 84]) (fun b => b.H) (fun b => 2 * b.k < m + 2 ∧ Ext h b.H ∧ b.H[h.length]? = some (.cells [I 0, I 0] 36 true) ∧ b.H[h.length + 1]? = some (rd s ((a : Int) + 1 + b.k) b.z) ∧ Own (encI .i64) 1 3 b.H b.z (nibs s a (min (2 * b.k) m)) ∧ (∀ k, objOf b.z = some k → h.length + 2 ≤ k) ∧ Tight b.z) (fun b => m + 2 - 2 * b.k) ⟨0, nilS, h ++ [.cells [I 0, I 0] 36 true, rd s ((a : Int) + 1) nilS]⟩ (by rfl) (by rfl) ⟨by simp, ext_app _ _, ga0, by simp only [Int.natCast_zero, Int.add_zero]; exact ga1, .inl ⟨rfl, by simp [nibs]⟩, fun k hk => (by cases hk), tight_nil⟩ ?_
  rintro ⟨k, z, H⟩ s'' ⟨hk, hx', hc, hr, hO, hz, hT⟩
  simp only [] at hk hx' hc hr hO hz hT ⊢
  have hcl := hp_lt hc
  have hrl := hp_lt hr
  have i0 : HA H h.length (.cells [I 0, I 0] 36 true) := ⟨hc⟩
  have i2 : HA H (h.length + 1) (rd s ((a : Int) + 1 + k) z) := ⟨hr⟩
  have i1 := fun o => (⟨List.getElem?_set_self hcl⟩ : HA (H.set h.length o) h.length o)
  have hnl := nibs_len s a (min (2 * k) m)
  have hxl := hx'.1
  have crr := right_any H z (nibs s a (min (2 * k) m)) hO.elts
  have el1 := mkEL iok (0:Int) hO.elts
  focus
    with_reducible refine s_seq ?_
    with_reducible refine s_seq ?_
    with_reducible refine s_reg ?_
    refine smove ?_
    simp only [pu', p0', c1', c0', i1', z0', b8_nat]
    refine snilP ?_
    simp only [pu', p0', c1', c0', i1', z0', b8_nat]
    refine sfad ?_
    simp only [pu', p0', c1', c0', i1', z0', b8_nat]
    refine sload1 ?_
    simp only [pu', p0', c1', c0', i1', z0', b8_nat]
    refine slenE ?_
    simp only [pu', p0', c1', c0', i1', z0', b8_nat]
    refine smove ?_
    simp only [pu', p0', c1', c0', i1', z0', b8_nat]
    refine sLt (fun hb => ?_) (fun hb => ?_)
    replace hb := dT' hb
    simp only [pu', p0', c1', c0', i1', z0', b8_nat]
    with_reducible refine s_end ?_
    with_reducible refine s_then ?_
    refine sCT ?_
    with_reducible refine s_skip ?_
    with_reducible refine s_then ?_
    with_reducible refine s_block ?_
    with_reducible refine s_reg ?_
    refine smove ?_
    simp only [pu', p0', c1', c0', i1', z0', b8_nat]
    refine smove ?_
    simp only [pu', p0', c1', c0', i1', z0', b8_nat]
    refine smove ?_
    simp only [pu', p0', c1', c0', i1', z0', b8_nat]
    refine snilP ?_
    simp only [pu', p0', c1', c0', i1', z0', b8_nat]
    refine sfad ?_
    simp only [pu', p0', c1', c0', i1', z0', b8_nat]
    refine sload1 ?_
    simp only [pu', p0', c1', c0', i1', z0', b8_nat]
    refine slenE ?_
    simp only [pu', p0', c1', c0', i1', z0', b8_nat]
    refine ssub ?_
    simp only [pu', p0', c1', c0', i1', z0', b8_nat]
    rotate_left 1
    replace hb := dF' hb
    simp only [pu', p0', c1', c0', i1', z0', b8_nat]
    with_reducible refine s_end ?_
    with_reducible refine s_then ?_
    refine sCF ?_
    with_reducible refine s_exit ?_
    with_reducible refine s_thenE ?_
    with_reducible refine l_exit ?_
    with_reducible refine s_blkE ?_
    with_reducible refine s_then ?_
    with_reducible refine s_seq ?_
    with_reducible refine s_seq ?_
    with_reducible refine s_reg ?_
    refine smove ?_
    simp only [pu', p0', c1', c0', i1', z0', b8_nat]
    refine snilP ?_
    simp only [pu', p0', c1', c0', i1', z0', b8_nat]
    refine sfad ?_
    simp only [pu', p0', c1', c0', i1', z0', b8_nat]
    refine sload1 ?_
    simp only [pu', p0', c1', c0', i1', z0', b8_nat]
    refine sM (hx := rfl) (crr) ?_
    simp only [pu', p0', c1', c0', i1', z0', b8_nat]
    refine sNe (fun hb => ?_) (fun hb => ?_)
    replace hb := dT' hb
    simp only [pu', p0', c1', c0', i1', z0', b8_nat]
    with_reducible refine s_end ?_
    with_reducible refine s_then ?_
    refine sCT ?_
    with_reducible refine s_seq ?_
    with_reducible refine s_reg ?_
    refine smove ?_
    simp only [pu', p0', c1', c0', i1', z0', b8_nat]
    refine sbuild ?_
    simp only [pu', p0', c1', c0', i1', z0', b8_nat]
    refine sassign ?_
    simp only [pu', p0', c1', c0', i1', z0', b8_nat]
    refine sassign ?_
    simp only [pu', p0', c1', c0', i1', z0', b8_nat]
    refine sstoreF ?_
    simp only [pu', p0', c1', c0', i1', n0', n3', n1', n2', a2', a1', a0', n4', Nat.reduceAdd, z0', n5', sa0, sa1, sa2, sa3, sa4, sa5, sa6, sa7, sa8, sa9, sa10, sa11]
    with_reducible refine s_end ?_
    with_reducible refine s_then ?_
    with_reducible refine s_ret ?_
    with_reducible refine s_thenR ?_
    rotate_left 1
    replace hb := dF' hb
    simp only [pu', p0', c1', c0', i1', z0', b8_nat]
    with_reducible refine s_end ?_
    with_reducible refine s_then ?_
    refine sCF ?_
    with_reducible refine s_skip ?_
    with_reducible refine s_then ?_
    with_reducible refine s_seq ?_
    (refine s_regT (id := 15) (.light 0 (.light 1 (.light 2 (.light 3 (.light 4 (.light 5 (.light 6 (.light 7 (.light 8 (.light 9 (.light 10 (.light 11 (.alt 12 [0, 1, 2, 3, 4, 5, 6, 7, 8, 9, 10, 11] (.done) (.no)))))))))))))) [12] (by kernel_rfl) (by conv => lhs; simp only [pickT, List.getElem?_cons_succ, List.getElem?_cons_zero]) ?_)
    refine tmove ?_
    simp only [pu', p0', c1', c0', i1', z0', b8_nat]
    refine tnilP ?_
    simp only [pu', p0', c1', c0', i1', z0', b8_nat]
    refine tfad ?_
    simp only [pu', p0', c1', c0', i1', z0', b8_nat]
    refine tload1 ?_
    simp only [pu', p0', c1', c0', i1', z0', b8_nat]
    refine tmove ?_
    simp only [pu', p0', c1', c0', i1', z0', b8_nat]
    refine tnilP ?_
    simp only [pu', p0', c1', c0', i1', z0', b8_nat]
    refine tfad ?_
    simp only [pu', p0', c1', c0', i1', z0', b8_nat]
    refine tfad ?_
    simp only [pu', p0', c1', c0', i1', z0', b8_nat]
    refine tload1 ?_
    simp only [pu', p0', c1', c0', i1', z0', b8_nat]
    refine tbuild ?_
    simp only [pu', p0', c1', c0', i1', z0', b8_nat]
    refine tassign ?_
    simp only [pu', p0', c1', c0', i1', z0', b8_nat]
    refine tassign ?_
    simp only [pu', p0', c1', c0', i1', z0', b8_nat]
    refine ustoreF ?_
    simp only [pu', p0', c1', c0', i1', n0', n3', n1', n2', a2', a1', a0', n4', Nat.reduceAdd, z0', n5', sa0, sa1, sa2, sa3, sa4, sa5, sa6, sa7, sa8, sa9, sa10, sa11]
    with_reducible refine t_end ?_
    with_reducible refine s_then ?_
    with_reducible refine s_ret ?_
    rotate_left 1
  · have hbk := half_any H (h.length + 1) s ((a : Int) + 1 + k) z (nibs s a (min (2 * k) m)) ((m : Int) - ((nibs s a (min (2 * k) m)).length : Nat)) i2 (by omega) (by omega) hs hO (fun hh => by have := hz _ hh; omega) (by omega)
    refine sC (hx := rfl) (hbk.mono ?_)
    rintro r2 H2 _ ⟨z2, hP⟩
    simp only [Fr.put, List.set_cons_succ, List.set_cons_zero, Int.toNat_natCast, List.length_append, List.length_set, List.length_cons, List.length_nil, List.nil_append, List.cons_append, List.append_assoc, List.length_replicate, Nat.reduceAdd, Nat.zero_add, Nat.add_assoc, sa0, sa1, sa2, sa3, sa4, sa5, sa6, sa7, sa8, sa9, sa10, sa11]
    with_reducible refine s_end ?_
    with_reducible refine s_blkN ?_
    have hP1 := hP.len
    refine l_next ⟨k + 1, z2, H2⟩ ⟨by simp only []; omega, ⟨by simp only []; omega, fun j hj => ?_⟩, ?_, ?_, ?_, fun j hj => ?_, hP.tight hT⟩ (by simp only []; omega) (by rfl) rfl
    · have hzj : objOf z ≠ some j := fun hh => by have := hz j hh; omega
      simp only []
      rw [hP.oth j (by omega) (by omega) hzj, hx'.2 j hj]
    · have hzj : objOf z ≠ some h.length := fun hh => by have := hz _ hh; omega
      simp only []
      rw [hP.oth _ (by omega) (by omega) hzj, hc]
    · have := hP.rdr
      simp only []
      rw [show ((k + 1 : Nat) : Int) = (k : Int) + 1 by omega, ← Int.add_assoc]
      exact this
    · have := hP.own
      rw [hnl, show ((a : Int) + 1 + k).toNat = a + 1 + k by omega, nibs_half s a m k (by omega)] at this
      exact this
    · rcases hP.obj j hj with h1 | h1
      · exact hz j h1
      · omega
  · all_goals try with_reducible refine w_n ?_
    all_goals refine w_3 rfl (by first | exact v_t (by rfl) | exact v_c1 (C1.p) (by rfl) (HA.p) (by rfl) | exact v_cF (CA.p) (by rfl) (HA.p) (by rfl)) (by first | exact v_t (by rfl) | exact v_c1 (C1.p) (by rfl) (HA.p) (by rfl) | exact v_cF (CA.p) (by rfl) (HA.p) (by rfl)) (by first | exact v_t (by rfl) | exact v_c1 (C1.p) (by rfl) (HA.p) (by rfl) | exact v_cF (CA.p) (by rfl) (HA.p) (by rfl)) ?_
    have him : min (2 * k) m = m := by omega
    have hz2 : impE (nibs s a (min (2 * k) m)) ≠ 0 := by omega
    rw [him] at hz2
    exact nl (d := ⟨[], 0, 21, a⟩) rfl (ext_set hx' (Nat.le_refl _)) rfl (r5' hz2)
  · all_goals try with_reducible refine w_n ?_
    all_goals refine w_3 rfl (by first | exact v_t (by rfl) | exact v_c1 (C1.p) (by rfl) (HA.p) (by rfl) | exact v_cF (CA.p) (by rfl) (HA.p) (by rfl)) (by first | exact v_t (by rfl) | exact v_c1 (C1.p) (by rfl) (HA.p) (by rfl) | exact v_cF (CA.p) (by rfl) (HA.p) (by rfl)) (by first | exact v_t (by rfl) | exact v_c1 (C1.p) (by rfl) (HA.p) (by rfl) | exact v_cF (CA.p) (by rfl) (HA.p) (by rfl)) ?_
    have him : min (2 * k) m = m := by omega
    have hz2 : impE (nibs s a (min (2 * k) m)) = 0 := by omega
    rw [him] at hz2 hO
    have hr := r6' hz2
    have hkk : (a : Int) + 1 + k = a + 1 + ((m : Int) + 1) / 2 := by omega
    refine ⟨_, z, ext_set hx' (Nat.le_refl _), by rw [hr, hkk], hO.oth (o := some h.length) ⟨by rw [List.length_set]; exact Nat.le_refl _, fun j hj hne2 => List.getElem?_set_ne (fun e => hne2 (by rw [e]))⟩ (fun k hk hh => by injection hh with hh; have := hz k hk; omega), fun k hk => by have := hz k hk; omega, hT, fun s' h2 hh => ⟨s', rfl, by rw [hr]; exact hh⟩⟩
end Go.Proofs.Ytckljanplahbkaa
