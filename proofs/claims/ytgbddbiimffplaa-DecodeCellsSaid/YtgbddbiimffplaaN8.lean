/-
  A part of the proof of a statement of a chapter's seat; conditions: stated at each theorem.
-/
import Derived.Test.YtgbddbiimffplaaN30
set_option linter.unusedVariables false
set_option linter.unusedSectionVars false
set_option linter.unusedSimpArgs false
set_option linter.unusedVariables false
set_option maxRecDepth 100000
set_option maxHeartbeats 8000000
namespace Go.Proofs.Ytgbddbiimffplaa
open Go.Az Go
abbrev RI (h : Hp) (L : List Pc) (s : AV) (l : List Int) : Prop := ER Int (encI .i64) 1 0 h L s l
abbrev CA (c : Ce) : AV := .agg (encC c)
theorem bd_41 (a b c : Int) : bld Try.prog 41 [(0, I a), (1, I b), (2, I c)] = some (CA ⟨a, b, c⟩) := by kernel_rfl
instance (a b c : Int) : BD Try.prog 41 [(0, I a), (1, I b), (2, I c)] (CA ⟨a, b, c⟩) := ⟨bd_41 a b c⟩
theorem bd_41o (a : Int) : bld Try.prog 41 [(0, I a)] = some (CA ⟨a, 0, 0⟩) := by kernel_rfl
instance (a : Int) : BD Try.prog 41 [(0, I a)] (CA ⟨a, 0, 0⟩) := ⟨bd_41o a⟩
theorem bs_27o (x : Ce) : bslC Try.prog 27 1 [(0, CA x)] = some (41, encC x) := by kernel_rfl
instance (x : Ce) : BS Try.prog 27 1 [(0, CA x)] 41 (encC x) := ⟨bs_27o x⟩
theorem cmp_66o : cmpOf Try.prog 66 = some (I 0) := by kernel_rfl
theorem cmp_66 : CMP Try.prog 66 (I 0) := cmp_of cmp_66o
theorem und_65 : Try.prog.underlying 65 = some (.array 512 41) := by kernel_rfl
theorem inf_41 : (Try.prog.info? 41).map (fun i => i.size) = some 3 := by kernel_rfl
theorem x_slc65 {f : Fr} {h : Hp} {a : Operand} {i : Nat} (ha : ev f a = .ptr i 0) : exL Try.prog f h (.slice 65 a none (some (.const (.int .i64 0))) (some (.const (.int .i64 512)))) = some (.sl i 0 0 512 false) := by
  have h2 := inf_41
  cases hi : Try.prog.info? 41 with
  | none => rw [hi] at h2; cases h2
  | some inf =>
    rw [hi] at h2
    have h3 : inf.size = 3 := by simpa using h2
    have hb : ev f (.const (.int .i64 0)) = I 0 := rfl
    have hc : ev f (.const (.int .i64 512)) = I 512 := rfl
    simp [exL, ha, hb, hc, slc, und_65, hi, bnds, bnd, intOf?, cutAt]
/-! ### The table, by a map -/
theorem number33 (x : Int) : ACalls Try.prog 33 [I x] [] (fun r _ => r = I (baseN x) ∧ r.sc 0 = true) := by
  by_cases hx : x < 0
  · rw [baseN, if_pos hx]
    refine acalls_of_wk hm Try.func33 rfl ?_
    simp only [Try.ntmps33, List.length_cons, List.length_nil, Nat.reduceAdd, Nat.reduceSub, List.reduceReplicate, List.cons_append, List.nil_append]
    show wk _ _ none _ _ ⟨_, []⟩ _
    focus
      with_reducible refine s_seq ?_
      with_reducible refine s_reg ?_
      refine sassign ?_
      simp only [pu', p0', c1', c0', i1', z0', b8_nat]
      with_reducible refine s_end ?_
      with_reducible refine s_then ?_
      with_reducible refine s_seq ?_
      with_reducible refine s_seq ?_
      with_reducible refine s_reg ?_
      refine smove ?_
      simp only [pu', p0', c1', c0', i1', z0', b8_nat]
      refine sLt (fun hb => ?_) (fun hb => ?_)
      replace hb := dT' hb
      simp only [pu', p0', c1', c0', i1', z0', b8_nat]
      with_reducible refine s_end ?_
      with_reducible refine s_then ?_
      refine sCT ?_
      with_reducible refine s_seq ?_
      with_reducible refine s_reg ?_
      refine sassign ?_
      simp only [pu', p0', c1', c0', i1', z0', b8_nat]
      with_reducible refine s_end ?_
      with_reducible refine s_then ?_
      with_reducible refine s_ret ?_
      with_reducible refine s_thenR ?_
      rotate_left 1
      replace hb := dF' hb
      exact absurd (by with_reducible assumption) hb
    all_goals try with_reducible refine w_n ?_
    all_goals refine w_1 rfl (by first | exact v_t (by rfl) | exact v_c1 (C1.p) (by rfl) (HA.p) (by rfl) | exact v_cF (CA.p) (by rfl) (HA.p) (by rfl)) ?_
    exact ⟨rfl, rfl⟩
  · rw [baseN, if_neg hx]
    refine acalls_of_wk hm Try.func33 rfl ?_
    simp only [Try.ntmps33, List.length_cons, List.length_nil, Nat.reduceAdd, Nat.reduceSub, List.reduceReplicate, List.cons_append, List.nil_append]
    show wk _ _ none _ _ ⟨_, []⟩ _
    with_reducible refine s_seq ?_
    with_reducible refine s_reg ?_
    refine sassign ?_
    simp only [pu', p0', c1', c0', i1', z0', b8_nat]
    with_reducible refine s_end ?_
    with_reducible refine s_then ?_
    with_reducible refine s_seq ?_
    with_reducible refine s_seq ?_
    with_reducible refine s_reg ?_
    refine smove ?_
    simp only [pu', p0', c1', c0', i1', z0', b8_nat]
    refine sLt (fun hb => ?_) (fun hb => ?_)
    replace hb := dT' hb
    (exfalso; omega)
    replace hb := dF' hb
    simp only [pu', p0', c1', c0', i1', z0', b8_nat]
    with_reducible refine s_end ?_
    with_reducible refine s_then ?_
    refine sCF ?_
    with_reducible refine s_skip ?_
    with_reducible refine s_then ?_
    with_reducible refine s_seq ?_
    with_reducible refine s_reg ?_
    refine smove ?_
    simp only [pu', p0', c1', c0', i1', z0', b8_nat]
    refine sassign ?_
    simp only [pu', p0', c1', c0', i1', z0', b8_nat]
    with_reducible refine s_end ?_
    with_reducible refine s_then ?_
    with_reducible refine s_ret ?_
    all_goals try with_reducible refine w_n ?_
    all_goals refine w_1 rfl (by first | exact v_t (by rfl) | exact v_c1 (C1.p) (by rfl) (HA.p) (by rfl) | exact v_cF (CA.p) (by rfl) (HA.p) (by rfl)) ?_
    exact ⟨rfl, rfl⟩
theorem probs32 (Y : Hp) (ib : Nat) (n : Int) (s : AV) (ps : List Int) (k : Nat) (g : HA Y ib (.cells [I n, s] 24 true)) (a : EI Y s ps) (hk : k < ps.length) : ACalls Try.prog 32 [I k, .ptr ib 0] Y (fun r h' => r = I (baseN (ps.getD k 0)) ∧ h' = Y) := by
  have pss := a.p.sl
  have hk' : (k : Int) < ps.length := by omega
  refine acalls_of_wk hm Try.func32 rfl ?_
  simp only [Try.ntmps32, List.length_cons, List.length_nil, Nat.reduceAdd, Nat.reduceSub, List.reduceReplicate, List.cons_append, List.nil_append]
  show wk _ _ none _ _ ⟨_, []⟩ _
  with_reducible refine s_seq ?_
  with_reducible refine s_reg ?_
  refine sassign ?_
  simp only [pu', p0', c1', c0', i1', z0', b8_nat]
  with_reducible refine s_end ?_
  with_reducible refine s_then ?_
  with_reducible refine s_seq ?_
  with_reducible refine s_reg ?_
  refine sfad ?_
  simp only [pu', p0', c1', c0', i1', z0', b8_nat]
  refine sload1 ?_
  simp only [pu', p0', c1', c0', i1', z0', b8_nat]
  refine smove ?_
  simp only [pu', p0', c1', c0', i1', z0', b8_nat]
  refine sidxE ?_
  simp only [pu', p0', c1', c0', i1', z0', b8_nat]
  refine sloadE1 ?_
  simp only [pu', p0', c1', c0', i1', z0', b8_nat]
  refine sK (hx := rfl) (number33 _) ?_
  simp only [pu', p0', c1', c0', i1', z0', b8_nat]
  refine sassign ?_
  simp only [pu', p0', c1', c0', i1', z0', b8_nat]
  with_reducible refine s_end ?_
  with_reducible refine s_then ?_
  with_reducible refine s_ret ?_
  all_goals try with_reducible refine w_n ?_
  all_goals refine w_1 rfl (by first | exact v_t (by rfl) | exact v_c1 (C1.p) (by rfl) (HA.p) (by rfl) | exact v_cF (CA.p) (by rfl) (HA.p) (by rfl)) ?_
  exact ⟨rfl, rfl⟩
structure OfB where
  i : Nat
  z : AV
  m : List (Int × AV)
  G : Hp
theorem of31 {h X : Hp} {L : List Pc} (S : Sep h X L) (n ib : Nat) (s zl : AV) (ps : List Int) (hn : n ≤ 9) (hok : DistOk (2 ^ n) ps) (g : MemC L ib (.cells [I n, s] 24 true)) (a : EI h s ps) (b : RI h L zl (sprd (2 ^ n) ps)) :
    ACalls Try.prog 31 [I n, .fn (.func 32) [.ptr ib 0], zl] X (fun r h' => ∃ z, r = z ∧ SlC z ∧ Sep h h' (WR z (dcd n ps (sprd (2 ^ n) ps)) :: L)) := by
  have pss := a.p.sl
  have b0 : EI X zl (sprd (2 ^ n) ps) := inferInstance
  have pzl := b0.p.sl
  have hz := okZ_pos hok.okz
  have e := pow_z n
  have hll := dist_len rfl hok
  have hz512 : 2 ^ n ≤ 512 := by
    have : (2 : Nat) ^ n ≤ 2 ^ 9 := Nat.pow_le_pow_right (by omega) hn
    omega
  have hcel := fun (i : Nat) (hi : i < 2 ^ n) => cel_of hok hi
  have hdl := dcd_len (n : Int) ps (sprd (2 ^ n) ps)
  have c32 := fun Y k (a : EI Y s ps) g hk => probs32 Y ib n s ps k g a hk
  have hda := fun (i : Nat) (hi : i < (sprd (2 ^ n) ps).length) => dcd_at (n := (n : Int)) (ps := ps) hi
  generalize hl : sprd (2 ^ n) ps = l at *
  refine acalls_of_wk hm Try.func31 rfl ?_
  simp only [Try.ntmps31, List.length_cons, List.length_nil, Nat.reduceAdd, Nat.reduceSub, List.reduceReplicate, List.cons_append, List.nil_append]
  show wk _ _ none _ _ ⟨_, []⟩ _
  with_reducible refine s_seq ?_
  with_reducible refine s_reg ?_
  refine sassign ?_
  simp only [pu', p0', c1', c0', i1', z0', b8_nat]
  with_reducible refine s_end ?_
  with_reducible refine s_then ?_
  with_reducible refine s_seq ?_
  with_reducible refine s_reg ?_
  refine salloc ?_
  simp only [pu', p0', c1', c0', i1', n0', n3', n1', n2', a2', a1', a0', n4', Nat.reduceAdd, z0', n5', sa0, sa1, sa2, sa3, sa4, sa5, sa6, sa7, sa8, sa9, sa10, sa11]
  with_reducible refine s_end ?_
  with_reducible refine s_then ?_
  with_reducible refine s_seq ?_
  with_reducible refine s_reg ?_
  (refine s_gL (by rfl) (x_slc65 (by exact e_any (by rfl))) ?_; simp only [Fr.put, List.set_cons_succ, List.set_cons_zero, Int.toNat_natCast, Nat.zero_add])
  refine sassign ?_
  simp only [pu', p0', c1', c0', i1', z0', b8_nat]
  with_reducible refine s_end ?_
  with_reducible refine s_then ?_
  with_reducible refine s_seq ?_
  with_reducible refine s_reg ?_
  (refine s_mkm ?_; simp only [Fr.put, List.set_cons_succ, List.set_cons_zero, Int.toNat_natCast, List.length_append, List.length_set, List.length_cons, List.length_nil, List.nil_append, List.cons_append, List.append_assoc, List.length_replicate, Nat.reduceAdd, Nat.zero_add, Nat.add_assoc, sa0, sa1, sa2, sa3, sa4, sa5, sa6, sa7, sa8, sa9, sa10, sa11])
  refine sassign ?_
  simp only [pu', p0', c1', c0', i1', z0', b8_nat]
  with_reducible refine s_end ?_
  with_reducible refine s_then ?_
  with_reducible refine s_seq ?_
  with_reducible refine s_seq ?_
  with_reducible refine s_reg ?_
  refine smove ?_
  simp only [pu', p0', c1', c0', i1', z0', b8_nat]
  refine slenE ?_
  simp only [pu', p0', c1', c0', i1', z0', b8_nat]
  refine smove ?_
  simp only [pu', p0', c1', c0', i1', z0', b8_nat]
  with_reducible refine s_end ?_
  with_reducible refine s_then ?_
  with_reducible refine s_block ?_
  refine s_loop hm (fun (b : OfB) s' => [I n, .fn (.func 32) [.ptr ib 0], s' 2, s' 3, s' 4, s' 5, s' 6, s' 7, b.z, .mp (X.length + 1), s' 10, s' 11, s' 12, s' 13, s' 14, s' 15, s' 16, s' 17, zl, I l.length, I b.i, s' 21, s' 22, s' 23, s' 24, s' 25, s' 26, s' 27, s' 28, s' 29, s' 30, s' 31, s' 32, s' 33, s' 34, s' 35, s' 36, s' 37, s' 38, s' 39, s' 40, s' 41, s' 42, s' 43, s' 44, s' 45, s' 46, s' 47, s' 48, s' 49, s' 50, s' 51, s' 52, s' 53, s' 54, s' 55, s' 56, s' 57, s' 58, s' 59, s' 60, s' 61, s' 62, s' 63]) (fun b => b.G) (fun b => b.i ≤ l.length ∧ SlC b.z ∧ (∀ s : Int, imGet b.m s = if ctI (l.take b.i) s = 0 then none else some (I (baseN (ps.getD s.toNat 0) + ctI (l.take b.i) s))) ∧ Sep h b.G (WR b.z ((dcd n ps l).take b.i) :: pcC (X.length + 1) (mpO b.m) :: L)) (fun b => l.length - b.i) ⟨0, .sl X.length 0 0 512 false, [], _⟩ (by rfl) rfl ⟨Nat.zero_le _, inferInstance, fun s => by simp only [List.take_zero, ctI, if_true]; rfl, ?_⟩ ?_
  · have S1 : Sep h (X ++ [.cells (List.replicate 1536 (I 0)) 65 true, mpO []]) (L ++ litP X.length [.cells (List.replicate 1536 (I 0)) 65 true, mpO []]) := S.pushL _
    have S2 := S1.perm (List.perm_append_comm (l₂ := litP X.length [.cells (List.replicate 1536 (I 0)) 65 true, mpO []]))
    exact Sep.roomW S2 0 rfl encC 3 512 (by rw [List.length_replicate]; omega)
  rintro ⟨i, z, m, G⟩ s' ⟨hi, pz, hm1, S1⟩
  simp only [] at hi pz hm1 S1 ⊢
  by_cases hil : i < l.length
  · obtain ⟨k, c⟩ := hcel i (by omega)
    have c1 := c.lt
    have c2 := c.at'
    have c3 := c.n1
    have c4 := c.n2
    have c5 := c.eq
    have c6 := c.h0
    have c7 := c.hn
    obtain ⟨c8, c9⟩ := c.pw
    have hcA := hda i hil
    rw [celA] at hcA
    have htk : (dcd n ps l).take (i + 1) = (dcd n ps l).take i ++ [⟨l.getD i 0, (n : Int) - hiF (numA ps l i), numA ps l i * 2 ^ ((n : Int) - hiF (numA ps l i)).toNat - 2 ^ n⟩] := by
      rw [takeC (by omega), hcA, Int.toNat_natCast]
    have htl : ((dcd n ps l).take i).length = i := by rw [List.length_take]; omega
    have hx2 : (l.getD i 0).toNat = k := by omega
    have hmk := hm1 k
    rw [Int.toNat_natCast] at hmk
    have hct := fun s => ctI_take hil s
    have c36 := high_any (numA ps l i) (by omega) (by omega)
    have hz1 : (2 : Int) ^ n ≤ 512 := by omega
    by_cases h0 : ctI (l.take i) k = 0
    · rw [if_pos h0] at hmk
      have hN : imGet m (l.getD i 0) = none := by rw [c2]; exact hmk
      have hg1 : imGet (imSet m (l.getD i 0) (I (numA ps l i))) (l.getD i 0) = some (I (numA ps l i)) := by rw [imGet_set, if_pos rfl]
      have d32 : ∀ Y, HA Y ib (.cells [I n, s] 24 true) → EI Y s ps → ACalls Try.prog 32 [I (l.getD i 0), .ptr ib 0] Y (fun r h' => r = I (numA ps l i) ∧ h' = Y) := fun Y g a => by
        have := c32 Y k a g c1
        rwa [show baseN (ps.getD k 0) = numA ps l i by omega, ← c2] at this
      have hm2 : ∀ s : Int, imGet (imSet (imSet m (l.getD i 0) (I (numA ps l i))) (l.getD i 0) (I (numA ps l i + 1))) s = if ctI (l.take (i + 1)) s = 0 then none else some (I (baseN (ps.getD s.toNat 0) + ctI (l.take (i + 1)) s)) := fun s => by
        have hn := ctI_nn (l.take i) s
        rw [imGet_set, hct s]
        by_cases hs : s = l.getD i 0
        · have hsk : s = k := by omega
          subst hsk
          rw [if_pos hs, if_pos hs.symm, if_neg (by omega), Int.toNat_natCast]
          rw [show numA ps l i + 1 = baseN (ps.getD k 0) + (ctI (l.take i) k + 1) by omega]
        · rw [if_neg hs, imGet_set, if_neg hs, hm1 s, show (if l.getD i 0 = s then (1 : Int) else 0) = 0 from if_neg (fun e => hs e.symm), Int.add_zero]
      focus
        with_reducible refine s_seq ?_
        with_reducible refine s_reg ?_
        refine sLt (fun hb => ?_) (fun hb => ?_)
        replace hb := dT' hb
        simp only [pu', p0', c1', c0', i1', z0', b8_nat]
        with_reducible refine s_end ?_
        with_reducible refine s_then ?_
        with_reducible refine s_seq ?_
        refine sCT ?_
        with_reducible refine s_skip ?_
        with_reducible refine s_then ?_
        with_reducible refine s_seq ?_
        with_reducible refine s_block ?_
        with_reducible refine s_seq ?_
        with_reducible refine s_reg ?_
        refine sidxE ?_
        simp only [pu', p0', c1', c0', i1', z0', b8_nat]
        refine sloadE1 ?_
        simp only [pu', p0', c1', c0', i1', z0', b8_nat]
        refine sassign ?_
        simp only [pu', p0', c1', c0', i1', z0', b8_nat]
        with_reducible refine s_end ?_
        with_reducible refine s_then ?_
        with_reducible refine s_seq ?_
        with_reducible refine s_seq ?_
        with_reducible refine s_reg ?_
        refine smove ?_
        simp only [pu', p0', c1', c0', i1', z0', b8_nat]
        refine smove ?_
        simp only [pu', p0', c1', c0', i1', z0', b8_nat]
        (refine s_lkpN cmp_66 inferInstance hN ?_; simp only [Fr.put, List.set_cons_succ, List.set_cons_zero, Int.toNat_natCast, Nat.zero_add])
        refine smove ?_
        simp only [pu', p0', c1', c0', i1', z0', b8_nat]
        refine sext ?_
        simp only [pu', p0', c1', c0', i1', z0', b8_nat]
        refine sext ?_
        simp only [pu', p0', c1', c0', i1', z0', b8_nat]
        refine sassign ?_
        simp only [pu', p0', c1', c0', i1', z0', b8_nat]
        refine sassign ?_
        simp only [pu', p0', c1', c0', i1', z0', b8_nat]
        with_reducible refine s_end ?_
        with_reducible refine s_then ?_
        with_reducible refine s_seq ?_
        with_reducible refine s_reg ?_
        refine smove ?_
        simp only [pu', p0', c1', c0', i1', z0', b8_nat]
        refine snotF ?_
        simp only [pu', p0', c1', c0', i1', z0', b8_nat]
        with_reducible refine s_end ?_
        with_reducible refine s_then ?_
        refine sCT ?_
        with_reducible refine s_reg ?_
        refine smove ?_
        simp only [pu', p0', c1', c0', i1', z0', b8_nat]
        refine smove ?_
        simp only [pu', p0', c1', c0', i1', z0', b8_nat]
        refine smove ?_
        simp only [pu', p0', c1', c0', i1', z0', b8_nat]
        refine smove ?_
        simp only [pu', p0', c1', c0', i1', z0', b8_nat]
        refine sM (hx := rfl) (d32 _ inferInstance inferInstance) ?_
        simp only [pu', p0', c1', c0', i1', z0', b8_nat]
        (refine s_msetP (m := m) 1 (fun Y5 S5 => ?_) cmp_66 inferInstance rfl; simp only [a1', c1', c0'] at S5; simp only [Fr.put, List.set_cons_succ, List.set_cons_zero, Int.toNat_natCast, Nat.zero_add])
        with_reducible refine s_end ?_
        with_reducible refine s_then ?_
        with_reducible refine s_seq ?_
        with_reducible refine s_reg ?_
        refine smove ?_
        simp only [pu', p0', c1', c0', i1', z0', b8_nat]
        refine smove ?_
        simp only [pu', p0', c1', c0', i1', z0', b8_nat]
        (refine s_lkp1 (m := imSet m (l.getD i 0) (I (numA ps l i))) cmp_66 inferInstance hg1 ?_; simp only [Fr.put, List.set_cons_succ, List.set_cons_zero, Int.toNat_natCast, Nat.zero_add])
        refine sassign ?_
        simp only [pu', p0', c1', c0', i1', z0', b8_nat]
        with_reducible refine s_end ?_
        with_reducible refine s_then ?_
        with_reducible refine s_seq ?_
        with_reducible refine s_reg ?_
        refine smove ?_
        simp only [pu', p0', c1', c0', i1', z0', b8_nat]
        refine smove ?_
        simp only [pu', p0', c1', c0', i1', z0', b8_nat]
        (refine s_lkp1 (m := imSet m (l.getD i 0) (I (numA ps l i))) cmp_66 inferInstance hg1 ?_; simp only [Fr.put, List.set_cons_succ, List.set_cons_zero, Int.toNat_natCast, Nat.zero_add])
        refine sadd ?_
        simp only [pu', p0', c1', c0', i1', z0', b8_nat]
        (refine s_msetP (m := imSet m (l.getD i 0) (I (numA ps l i))) 1 (fun Y6 S6 => ?_) cmp_66 inferInstance rfl; simp only [a1', c1', c0'] at S6; simp only [Fr.put, List.set_cons_succ, List.set_cons_zero, Int.toNat_natCast, Nat.zero_add])
        with_reducible refine s_end ?_
        with_reducible refine s_then ?_
        with_reducible refine s_seq ?_
        with_reducible refine s_reg ?_
        refine smove ?_
        simp only [pu', p0', c1', c0', i1', z0', b8_nat]
        refine smove ?_
        simp only [pu', p0', c1', c0', i1', z0', b8_nat]
        refine sK (hx := rfl) (c36) ?_
        simp only [pu', p0', c1', c0', i1', z0', b8_nat]
        refine ssub ?_
        simp only [pu', p0', c1', c0', i1', z0', b8_nat]
        refine sassign ?_
        simp only [pu', p0', c1', c0', i1', z0', b8_nat]
        with_reducible refine s_end ?_
        with_reducible refine s_then ?_
        with_reducible refine s_reg ?_
        refine smove ?_
        simp only [pu', p0', c1', c0', i1', z0', b8_nat]
        refine smove ?_
        simp only [pu', p0', c1', c0', i1', z0', b8_nat]
        refine smove ?_
        simp only [pu', p0', c1', c0', i1', z0', b8_nat]
        refine smove ?_
        simp only [pu', p0', c1', c0', i1', z0', b8_nat]
        refine smove ?_
        simp only [pu', p0', c1', c0', i1', z0', b8_nat]
        refine sconv ?_
        simp only [pu', p0', c1', c0', i1', z0', b8_nat]
        refine sshl ?_
        simp only [pu', p0', c1', c0', i1', z0', b8_nat]
        refine smove ?_
        simp only [pu', p0', c1', c0', i1', z0', b8_nat]
        refine sconv ?_
        simp only [pu', p0', c1', c0', i1', z0', b8_nat]
        refine sshl1 ?_
        simp only [pu', p0', c1', c0', i1', z0', b8_nat]
        refine ssub ?_
        simp only [pu', p0', c1', c0', i1', z0', b8_nat]
        refine sbuild ?_
        simp only [pu', p0', c1', c0', i1', z0', b8_nat]
        refine sbsl ?_
        simp only [pu', p0', c1', c0', i1', n0', n3', n1', n2', a2', a1', a0', n4', Nat.reduceAdd, z0', n5', sa0, sa1, sa2, sa3, sa4, sa5, sa6, sa7, sa8, sa9, sa10, sa11]
        (refine s_appR 0 (l2 := [⟨l.getD i 0, (n : Int) - hiF (numA ps l i), numA ps l i * 2 ^ ((n : Int) - hiF (numA ps l i)).toNat - 2 ^ n⟩]) (fun z1 Y1 pz1 T1 => ?_) inferInstance rfl encC_ok (elts_at (l := [(⟨l.getD i 0, (n : Int) - hiF (numA ps l i), numA ps l i * 2 ^ ((n : Int) - hiF (numA ps l i)).toNat - 2 ^ n⟩ : Ce)]) encC_ok inferInstance rfl) (by simp only [List.length_cons, List.length_nil]; omega) (by simp) inferInstance inferInstance; simp only [Fr.put, List.set_cons_succ, List.set_cons_zero, Int.toNat_natCast, Nat.zero_add])
        refine sassign ?_
        simp only [pu', p0', c1', c0', i1', z0', b8_nat]
        with_reducible refine s_end ?_
        with_reducible refine s_blkN ?_
        with_reducible refine s_then ?_
        with_reducible refine s_reg ?_
        refine sadd ?_
        simp only [pu', p0', c1', c0', i1', z0', b8_nat]
        refine smove ?_
        simp only [pu', p0', c1', c0', i1', z0', b8_nat]
        with_reducible refine s_end ?_
        rotate_left 1
        replace hb := dF' hb
        (exfalso; omega)
      rw [← htk] at T1
      refine l_next ⟨i + 1, z1, _, _⟩ ⟨by simp only []; omega, pz1, hm2, Sep.sub T1 (by repeat' first | exact List.Sublist.refl _ | exact List.sublist_append_left _ _ | exact List.nil_sublist _ | refine List.Sublist.cons_cons _ ?_ | refine List.Sublist.cons _ ?_ | refine List.Sublist.trans ?_ (List.sublist_append_left _ _))⟩ (by simp only []; omega) (by rfl) rfl
    · rw [if_neg h0] at hmk
      have hS : imGet m (l.getD i 0) = some (I (numA ps l i)) := by rw [c2, hmk, show baseN (ps.getD k 0) + ctI (l.take i) k = numA ps l i by omega]
      have hm2 : ∀ s : Int, imGet (imSet m (l.getD i 0) (I (numA ps l i + 1))) s = if ctI (l.take (i + 1)) s = 0 then none else some (I (baseN (ps.getD s.toNat 0) + ctI (l.take (i + 1)) s)) := fun s => by
        have hn := ctI_nn (l.take i) s
        rw [imGet_set, hct s]
        by_cases hs : s = l.getD i 0
        · have hsk : s = k := by omega
          subst hsk
          rw [if_pos hs, if_pos hs.symm, if_neg (by omega), Int.toNat_natCast]
          rw [show numA ps l i + 1 = baseN (ps.getD k 0) + (ctI (l.take i) k + 1) by omega]
        · rw [if_neg hs, hm1 s, show (if l.getD i 0 = s then (1 : Int) else 0) = 0 from if_neg (fun e => hs e.symm), Int.add_zero]
      focus
        with_reducible refine s_seq ?_
        with_reducible refine s_reg ?_
        refine sLt (fun hb => ?_) (fun hb => ?_)
        replace hb := dT' hb
        simp only [pu', p0', c1', c0', i1', z0', b8_nat]
        with_reducible refine s_end ?_
        with_reducible refine s_then ?_
        with_reducible refine s_seq ?_
        refine sCT ?_
        with_reducible refine s_skip ?_
        with_reducible refine s_then ?_
        with_reducible refine s_seq ?_
        with_reducible refine s_block ?_
        with_reducible refine s_seq ?_
        with_reducible refine s_reg ?_
        refine sidxE ?_
        simp only [pu', p0', c1', c0', i1', z0', b8_nat]
        refine sloadE1 ?_
        simp only [pu', p0', c1', c0', i1', z0', b8_nat]
        refine sassign ?_
        simp only [pu', p0', c1', c0', i1', z0', b8_nat]
        with_reducible refine s_end ?_
        with_reducible refine s_then ?_
        with_reducible refine s_seq ?_
        with_reducible refine s_seq ?_
        with_reducible refine s_reg ?_
        refine smove ?_
        simp only [pu', p0', c1', c0', i1', z0', b8_nat]
        refine smove ?_
        simp only [pu', p0', c1', c0', i1', z0', b8_nat]
        (refine s_lkpS cmp_66 inferInstance hS ?_; simp only [Fr.put, List.set_cons_succ, List.set_cons_zero, Int.toNat_natCast, Nat.zero_add])
        refine smove ?_
        simp only [pu', p0', c1', c0', i1', z0', b8_nat]
        refine sext ?_
        simp only [pu', p0', c1', c0', i1', z0', b8_nat]
        refine sext ?_
        simp only [pu', p0', c1', c0', i1', z0', b8_nat]
        refine sassign ?_
        simp only [pu', p0', c1', c0', i1', z0', b8_nat]
        refine sassign ?_
        simp only [pu', p0', c1', c0', i1', z0', b8_nat]
        with_reducible refine s_end ?_
        with_reducible refine s_then ?_
        with_reducible refine s_seq ?_
        with_reducible refine s_reg ?_
        refine smove ?_
        simp only [pu', p0', c1', c0', i1', z0', b8_nat]
        refine snotT ?_
        simp only [pu', p0', c1', c0', i1', z0', b8_nat]
        with_reducible refine s_end ?_
        with_reducible refine s_then ?_
        refine sCF ?_
        with_reducible refine s_skip ?_
        with_reducible refine s_then ?_
        with_reducible refine s_seq ?_
        with_reducible refine s_reg ?_
        refine smove ?_
        simp only [pu', p0', c1', c0', i1', z0', b8_nat]
        refine smove ?_
        simp only [pu', p0', c1', c0', i1', z0', b8_nat]
        (refine s_lkp1 (m := m) cmp_66 inferInstance hS ?_; simp only [Fr.put, List.set_cons_succ, List.set_cons_zero, Int.toNat_natCast, Nat.zero_add])
        refine sassign ?_
        simp only [pu', p0', c1', c0', i1', z0', b8_nat]
        with_reducible refine s_end ?_
        with_reducible refine s_then ?_
        with_reducible refine s_seq ?_
        with_reducible refine s_reg ?_
        refine smove ?_
        simp only [pu', p0', c1', c0', i1', z0', b8_nat]
        refine smove ?_
        simp only [pu', p0', c1', c0', i1', z0', b8_nat]
        (refine s_lkp1 (m := m) cmp_66 inferInstance hS ?_; simp only [Fr.put, List.set_cons_succ, List.set_cons_zero, Int.toNat_natCast, Nat.zero_add])
        refine sadd ?_
        simp only [pu', p0', c1', c0', i1', z0', b8_nat]
        (refine s_msetP (m := m) 1 (fun Y5 S5 => ?_) cmp_66 inferInstance rfl; simp only [a1', c1', c0'] at S5; simp only [Fr.put, List.set_cons_succ, List.set_cons_zero, Int.toNat_natCast, Nat.zero_add])
        with_reducible refine s_end ?_
        with_reducible refine s_then ?_
        with_reducible refine s_seq ?_
        with_reducible refine s_reg ?_
        refine smove ?_
        simp only [pu', p0', c1', c0', i1', z0', b8_nat]
        refine smove ?_
        simp only [pu', p0', c1', c0', i1', z0', b8_nat]
        refine sK (hx := rfl) (c36) ?_
        simp only [pu', p0', c1', c0', i1', z0', b8_nat]
        refine ssub ?_
        simp only [pu', p0', c1', c0', i1', z0', b8_nat]
        refine sassign ?_
        simp only [pu', p0', c1', c0', i1', z0', b8_nat]
        with_reducible refine s_end ?_
        with_reducible refine s_then ?_
        with_reducible refine s_reg ?_
        refine smove ?_
        simp only [pu', p0', c1', c0', i1', z0', b8_nat]
        refine smove ?_
        simp only [pu', p0', c1', c0', i1', z0', b8_nat]
        refine smove ?_
        simp only [pu', p0', c1', c0', i1', z0', b8_nat]
        refine smove ?_
        simp only [pu', p0', c1', c0', i1', z0', b8_nat]
        refine smove ?_
        simp only [pu', p0', c1', c0', i1', z0', b8_nat]
        refine sconv ?_
        simp only [pu', p0', c1', c0', i1', z0', b8_nat]
        refine sshl ?_
        simp only [pu', p0', c1', c0', i1', z0', b8_nat]
        refine smove ?_
        simp only [pu', p0', c1', c0', i1', z0', b8_nat]
        refine sconv ?_
        simp only [pu', p0', c1', c0', i1', z0', b8_nat]
        refine sshl1 ?_
        simp only [pu', p0', c1', c0', i1', z0', b8_nat]
        refine ssub ?_
        simp only [pu', p0', c1', c0', i1', z0', b8_nat]
        refine sbuild ?_
        simp only [pu', p0', c1', c0', i1', z0', b8_nat]
        refine sbsl ?_
        simp only [pu', p0', c1', c0', i1', n0', n3', n1', n2', a2', a1', a0', n4', Nat.reduceAdd, z0', n5', sa0, sa1, sa2, sa3, sa4, sa5, sa6, sa7, sa8, sa9, sa10, sa11]
        (refine s_appR 0 (l2 := [⟨l.getD i 0, (n : Int) - hiF (numA ps l i), numA ps l i * 2 ^ ((n : Int) - hiF (numA ps l i)).toNat - 2 ^ n⟩]) (fun z1 Y1 pz1 T1 => ?_) inferInstance rfl encC_ok (elts_at (l := [(⟨l.getD i 0, (n : Int) - hiF (numA ps l i), numA ps l i * 2 ^ ((n : Int) - hiF (numA ps l i)).toNat - 2 ^ n⟩ : Ce)]) encC_ok inferInstance rfl) (by simp only [List.length_cons, List.length_nil]; omega) (by simp) inferInstance inferInstance; simp only [Fr.put, List.set_cons_succ, List.set_cons_zero, Int.toNat_natCast, Nat.zero_add])
        refine sassign ?_
        simp only [pu', p0', c1', c0', i1', z0', b8_nat]
        with_reducible refine s_end ?_
        with_reducible refine s_blkN ?_
        with_reducible refine s_then ?_
        with_reducible refine s_reg ?_
        refine sadd ?_
        simp only [pu', p0', c1', c0', i1', z0', b8_nat]
        refine smove ?_
        simp only [pu', p0', c1', c0', i1', z0', b8_nat]
        with_reducible refine s_end ?_
        rotate_left 1
        replace hb := dF' hb
        (exfalso; omega)
      rw [← htk] at T1
      refine l_next ⟨i + 1, z1, _, _⟩ ⟨by simp only []; omega, pz1, hm2, Sep.sub T1 (by repeat' first | exact List.Sublist.refl _ | exact List.sublist_append_left _ _ | exact List.nil_sublist _ | refine List.Sublist.cons_cons _ ?_ | refine List.Sublist.cons _ ?_ | refine List.Sublist.trans ?_ (List.sublist_append_left _ _))⟩ (by simp only []; omega) (by rfl) rfl
  · rw [List.take_of_length_le (by omega)] at S1
    with_reducible refine s_seq ?_
    with_reducible refine s_reg ?_
    refine sLt (fun hb => ?_) (fun hb => ?_)
    replace hb := dT' hb
    (exfalso; omega)
    replace hb := dF' hb
    simp only [pu', p0', c1', c0', i1', z0', b8_nat]
    with_reducible refine s_end ?_
    with_reducible refine s_then ?_
    with_reducible refine s_seq ?_
    refine sCF ?_
    with_reducible refine s_exit ?_
    with_reducible refine s_thenE ?_
    with_reducible refine l_exit ?_
    with_reducible refine s_blkE ?_
    with_reducible refine s_then ?_
    with_reducible refine s_seq ?_
    with_reducible refine s_reg ?_
    refine smove ?_
    simp only [pu', p0', c1', c0', i1', z0', b8_nat]
    refine sassign ?_
    simp only [pu', p0', c1', c0', i1', z0', b8_nat]
    with_reducible refine s_end ?_
    with_reducible refine s_then ?_
    with_reducible refine s_ret ?_
    all_goals try with_reducible refine w_n ?_
    all_goals refine w_1 rfl (by first | exact v_t (by rfl) | exact v_c1 (C1.p) (by rfl) (HA.p) (by rfl) | exact v_cF (CA.p) (by rfl) (HA.p) (by rfl)) ?_
    exact ⟨z, rfl, pz, Sep.sub S1 (by repeat' first | exact List.Sublist.refl _ | exact List.sublist_append_left _ _ | exact List.nil_sublist _ | refine List.Sublist.cons_cons _ ?_ | refine List.Sublist.cons _ ?_ | refine List.Sublist.trans ?_ (List.sublist_append_left _ _))⟩
end Go.Proofs.Ytgbddbiimffplaa
