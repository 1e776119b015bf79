/-
  A part of the proof of a statement of a chapter's seat; conditions: stated at each theorem.
-/
import Derived.Test.YtckljanplahbkaaM37
import Derived.Test.YtckljanplahbkaaM35
set_option linter.unusedVariables false
set_option linter.unusedSectionVars false
set_option linter.unusedSimpArgs false
set_option linter.unusedVariables false
set_option maxRecDepth 100000
set_option maxHeartbeats 8000000
namespace Go.Proofs.Ytckljanplahbkaa
open Go.Az Go
/-! ### Another order -/
theorem part22 {i n k : Nat} (hk : k ≤ n) : (∃ z', SlC z' ∧ (∀ (f : Fr) (h : Hp) (a b : Operand), ev f a = .sl i 0 n n false → ev f b = I k → exL Try.prog f h (.slice 22 a (some b) none none) = some z') ∧ ∀ Y l, l.length = n → EI Y (.sl i 0 n n false) l → EI Y z' (l.drop k)) ∧
    (∃ z', SlC z' ∧ (∀ (f : Fr) (h : Hp) (a b : Operand), ev f a = .sl i 0 n n false → ev f b = I k → exL Try.prog f h (.slice 22 a none (some b) none) = some z') ∧ ∀ Y l, l.length = n → EI Y (.sl i 0 n n false) l → EI Y z' (l.take k)) := by
  obtain ⟨hu, inf, hinf, h1⟩ := sliOf_spec sl_22
  have hkn : ((k : Nat) : Int) ≤ n := by omega
  refine ⟨⟨.sl i (if n = k then 0 else k) (n - k) (n - k) false, inferInstance, fun f h a b ha hb => ?_, fun Y l hl a => ?_⟩, ⟨.sl i 0 k n false, inferInstance, fun f h a b ha hb => ?_, fun Y l hl a => ?_⟩⟩
  · simp [exL, ha, hb, slc, hu, hinf, bnds, bnd, intOf?, cutAt, hkn, h1]
  · have ap := a.p
    rcases ap with ⟨h1, _⟩ | ⟨i', o, c, u, cs, t, ow, h1, h2, h3, h4⟩
    · cases h1
    · injection h1 with e1 e2 e3 e4 e5
      subst e1 e2
      refine mkEL iok 0 (.inr ⟨i, if n = k then 0 else k, n - k, false, cs, t, ow, by rw [List.length_drop, hl], h2, by rw [List.length_drop]; split <;> omega, ?_⟩)
      rw [List.drop_zero] at h4
      have hd := flat_drop iok k l
      rw [← hd, ← h4, List.length_drop, List.drop_take, Nat.mul_one, Nat.mul_one]
      by_cases e : n = k
      · rw [if_pos e]
        have e0 : l.length - k = 0 := by omega
        simp [e0]
      · rw [if_neg e]
        simp
  · have hc : cutAt 0 0 n inf.size = 0 := by unfold cutAt; split <;> simp
    simp [exL, ha, hb, slc, hu, hinf, bnds, bnd, intOf?, hc, hkn]
  · have ap := a.p
    rcases ap with ⟨h1, _⟩ | ⟨i', o, c, u, cs, t, ow, h1, h2, h3, h4⟩
    · cases h1
    · injection h1 with e1 e2 e3 e4 e5
      subst e1 e2
      have hl2 : (l.take k).length = k := by rw [List.length_take]; omega
      refine mkEL iok 0 (.inr ⟨i, 0, n, false, cs, t, ow, by rw [hl2], h2, by rw [hl2]; omega, ?_⟩)
      have ht := flat_take iok k l
      rw [← ht, ← h4, hl2, List.take_take, Nat.mul_one, Nat.mul_one, Nat.min_eq_left (by omega)]
structure MtD where
  z : AV
  G : Hp
theorem law9 (at0 : Int) (h : Hp) (sl : AV) (nums : List Int) (hN : Elts (encI .i64) 1 h sl nums) : ACalls Try.prog 9 [sl, I at0] h (fun r _ => r = B true) := by
  have a : EI h sl nums := mkEL iok 0 hN
  have pss := a.p.sl
  have S0 := Sep.nil h
  have c30 : ∀ Y L', Sep h Y L' → ACalls Try.prog 30 [sl] Y (fun r h' => ∃ z o, r = .tup [z, B true] ∧ SlC z ∧ Sep h h' (L' ++ [WI z o]) ∧ chkW o = 0 ∧ o.length ≤ 60) := fun Y L' S =>
    (made30 Y sl nums).mono fun r h' _ ⟨z, o, h1, h2, h3, h4⟩ => ⟨z, o, h1, h2, S.join h3, h4⟩
  refine acalls_of_wk hm Try.func9 rfl ?_
  simp only [Try.ntmps9, List.length_cons, List.length_nil, Nat.reduceAdd, Nat.reduceSub, List.reduceReplicate, List.cons_append, List.nil_append]
  show wk _ _ none _ _ ⟨_, []⟩ _
  with_reducible refine s_seq ?_
  with_reducible refine s_reg ?_
  refine sassign ?_
  simp only [pu', p0', c1', c0', i1', z0', b8_nat]
  with_reducible refine s_end ?_
  with_reducible refine s_then ?_
  with_reducible refine s_seq ?_
  with_reducible refine s_reg ?_
  refine sK (hx := rfl) (known_any) ?_
  simp only [pu', p0', c1', c0', i1', z0', b8_nat]
  refine sassign ?_
  simp only [pu', p0', c1', c0', i1', z0', b8_nat]
  with_reducible refine s_end ?_
  with_reducible refine s_then ?_
  with_reducible refine s_seq ?_
  with_reducible refine s_reg ?_
  refine smove ?_
  simp only [pu', p0', c1', c0', i1', z0', b8_nat]
  refine sC (hx := rfl) ((c30 _ _ inferInstance).mono ?_)
  rintro _ m30 _ ⟨z, l, rfl, pz, S1, hc, hl60⟩
  simp only [pu', p0', c1', c0', i1', n0', n3', n1', n2', a2', a1', a0', n4', Nat.reduceAdd, z0', n5', sa0, sa1, sa2, sa3, sa4, sa5, sa6, sa7, sa8, sa9, sa10, sa11]
  refine smove ?_
  simp only [pu', p0', c1', c0', i1', z0', b8_nat]
  refine sext ?_
  simp only [pu', p0', c1', c0', i1', z0', b8_nat]
  refine sext ?_
  simp only [pu', p0', c1', c0', i1', z0', b8_nat]
  refine sassign ?_
  simp only [pu', p0', c1', c0', i1', z0', b8_nat]
  refine sassign ?_
  simp only [pu', p0', c1', c0', i1', z0', b8_nat]
  with_reducible refine s_end ?_
  with_reducible refine s_then ?_
  with_reducible refine s_seq ?_
  with_reducible refine s_seq ?_
  with_reducible refine s_reg ?_
  refine smove ?_
  simp only [pu', p0', c1', c0', i1', z0', b8_nat]
  refine snotT ?_
  simp only [pu', p0', c1', c0', i1', z0', b8_nat]
  with_reducible refine s_end ?_
  with_reducible refine s_then ?_
  refine sCF ?_
  with_reducible refine s_skip ?_
  with_reducible refine s_then ?_
  with_reducible refine s_seq ?_
  with_reducible refine s_reg ?_
  refine smove ?_
  simp only [pu', p0', c1', c0', i1', z0', b8_nat]
  refine sC (hx := rfl) ((listed14 inferInstance z l inferInstance hc).mono ?_)
  rintro _ m14 _ ⟨i2, rfl, S2⟩
  simp only [pu', p0', c1', c0', i1', n0', n3', n1', n2', a2', a1', a0', n4', Nat.reduceAdd, z0', n5', sa0, sa1, sa2, sa3, sa4, sa5, sa6, sa7, sa8, sa9, sa10, sa11]
  refine smove ?_
  simp only [pu', p0', c1', c0', i1', z0', b8_nat]
  refine sext ?_
  simp only [pu', p0', c1', c0', i1', z0', b8_nat]
  refine sext ?_
  simp only [pu', p0', c1', c0', i1', z0', b8_nat]
  refine sassign ?_
  simp only [pu', p0', c1', c0', i1', z0', b8_nat]
  refine sassign ?_
  simp only [pu', p0', c1', c0', i1', z0', b8_nat]
  with_reducible refine s_end ?_
  with_reducible refine s_then ?_
  with_reducible refine s_seq ?_
  with_reducible refine s_reg ?_
  refine smove ?_
  simp only [pu', p0', c1', c0', i1', z0', b8_nat]
  refine sC (hx := rfl) ((weights12 inferInstance z l inferInstance hc).mono ?_)
  rintro _ m12 _ ⟨i1, rfl, S3⟩
  simp only [pu', p0', c1', c0', i1', n0', n3', n1', n2', a2', a1', a0', n4', Nat.reduceAdd, z0', n5', sa0, sa1, sa2, sa3, sa4, sa5, sa6, sa7, sa8, sa9, sa10, sa11]
  refine smove ?_
  simp only [pu', p0', c1', c0', i1', z0', b8_nat]
  refine sext ?_
  simp only [pu', p0', c1', c0', i1', z0', b8_nat]
  refine sext ?_
  simp only [pu', p0', c1', c0', i1', z0', b8_nat]
  refine sassign ?_
  simp only [pu', p0', c1', c0', i1', z0', b8_nat]
  refine sassign ?_
  simp only [pu', p0', c1', c0', i1', z0', b8_nat]
  with_reducible refine s_end ?_
  with_reducible refine s_then ?_
  with_reducible refine s_seq ?_
  have iW : ∀ (Y : Hp) [HA Y i1 (.cells (rowC (grt l) l l.length) 63 true)], EI Y (.sl i1 0 l.length l.length false) (wtL l) := fun Y a => rowW hc a
  have iL : ∀ (Y : Hp) [HA Y i2 (.cells (rowC (grt l) l l.length) 63 true)], EI Y (.sl i2 0 (l.length - 1) (l.length - 1) false) (lsL l) := fun Y a => rowL hc a
  have kl := ln_of hc
  obtain ⟨k1, k2⟩ := kl.len
  obtain ⟨k3, k4⟩ := kl.m0
  obtain ⟨k5, k6⟩ := kl.la
  have hll := ls_len hc
  have f := imp_ls hc
  have hal := imp_all hc (by omega)
  have hm0 := Int.emod_nonneg at0 (show ((lsL l).length : Int) ≠ 0 by omega)
  have hm1 := Int.emod_lt_of_pos at0 (show (0 : Int) < ((lsL l).length : Int) by omega)
  have d31 := mod_any at0 ((lsL l).length : Int) (by omega) (by omega)
  obtain ⟨k, hk⟩ : ∃ k : Nat, at0 % ((lsL l).length : Int) = k := ⟨(at0 % ((lsL l).length : Int)).toNat, by omega⟩
  rw [hk] at hm0 hm1 d31
  obtain ⟨⟨z1, pz1, x1, e1⟩, ⟨z2, pz2, x2, e2⟩⟩ := part22 (i := i2) (n := l.length - 1) (k := k) (by omega)
  have iL1 : ∀ (Y : Hp) [HA Y i2 (.cells (rowC (grt l) l l.length) 63 true)], EI Y z1 ((lsL l).drop k) := fun Y a => e1 Y _ hll (iL Y)
  have iL2 : ∀ (Y : Hp) [HA Y i2 (.cells (rowC (grt l) l l.length) 63 true)], EI Y z2 ((lsL l).take k) := fun Y a => e2 Y _ hll (iL Y)
  clear e1 e2
  obtain ⟨t1, t2, t3⟩ := imp_turn (lsL l) k
  have c19a := fun (Y : Hp) (z : AV) (a : EI Y z (lsL l)) => Implied_any Y z (lsL l) a.p
  have c19b := fun (Y : Hp) (z : AV) (a : EI Y z ((lsL l).drop k ++ (lsL l).take k)) => Implied_any Y z ((lsL l).drop k ++ (lsL l).take k) a.p
  have c19c := fun (Y : Hp) (z : AV) (a : EI Y z (wtL l)) => Implied_any Y z (wtL l) a.p
  rw [t1, t2, t3] at c19b
  rw [f.e, f.w, f.m] at c19a c19b
  have hd1 : ((lsL l).drop k).length ≤ 60 := by rw [List.length_drop]; omega
  have ht1 : ((lsL l).take k).length ≤ 60 := by rw [List.length_take]; omega
  generalize hzA : AV.sl i1 0 l.length l.length false = zA at *
  generalize hzB : AV.sl i2 0 (l.length - 1) (l.length - 1) false = zB at *
  have pzA : SlC zA := by rw [← hzA]; infer_instance
  have pzB : SlC zB := by rw [← hzB]; infer_instance
  have hzl : ∀ Y, EI Y zB (lsL l) → True := fun _ _ => trivial
  clear f t1 t2 t3
  generalize lsL l = ls at *
  generalize wtL l = A at *
  generalize grt l = g at *
  with_reducible refine s_reg ?_
  refine smove ?_
  simp only [pu', p0', c1', c0', i1', z0', b8_nat]
  refine sM (hx := rfl) (c19a _ zB inferInstance) ?_
  simp only [pu', p0', c1', c0', i1', z0', b8_nat]
  refine smove ?_
  simp only [pu', p0', c1', c0', i1', z0', b8_nat]
  refine sext ?_
  simp only [pu', p0', c1', c0', i1', z0', b8_nat]
  refine sext ?_
  simp only [pu', p0', c1', c0', i1', z0', b8_nat]
  refine sext ?_
  simp only [pu', p0', c1', c0', i1', z0', b8_nat]
  refine sassign ?_
  simp only [pu', p0', c1', c0', i1', z0', b8_nat]
  refine sassign ?_
  simp only [pu', p0', c1', c0', i1', z0', b8_nat]
  refine sassign ?_
  simp only [pu', p0', c1', c0', i1', z0', b8_nat]
  with_reducible refine s_end ?_
  with_reducible refine s_then ?_
  with_reducible refine s_seq ?_
  with_reducible refine s_seq ?_
  with_reducible refine s_reg ?_
  refine smove ?_
  simp only [pu', p0', c1', c0', i1', z0', b8_nat]
  refine sNe (fun hb => ?_) (fun hb => ?_)
  replace hb := dT' hb
  (exfalso; omega)
  replace hb := dF' hb
  simp only [pu', p0', c1', c0', i1', z0', b8_nat]
  refine smove ?_
  simp only [pu', p0', c1', c0', i1', z0', b8_nat]
  refine smove ?_
  simp only [pu', p0', c1', c0', i1', z0', b8_nat]
  refine sNe (fun hb => ?_) (fun hb => ?_)
  replace hb := dT' hb
  (exfalso; omega)
  replace hb := dF' hb
  simp only [pu', p0', c1', c0', i1', z0', b8_nat]
  refine spickF ?_
  simp only [pu', p0', c1', c0', i1', z0', b8_nat]
  refine smove ?_
  simp only [pu', p0', c1', c0', i1', z0', b8_nat]
  refine smove ?_
  simp only [pu', p0', c1', c0', i1', z0', b8_nat]
  refine sNe (fun hb => ?_) (fun hb => ?_)
  replace hb := dT' hb
  (exfalso; omega)
  replace hb := dF' hb
  simp only [pu', p0', c1', c0', i1', z0', b8_nat]
  refine spickF ?_
  simp only [pu', p0', c1', c0', i1', z0', b8_nat]
  refine smove ?_
  simp only [pu', p0', c1', c0', i1', z0', b8_nat]
  refine smove ?_
  simp only [pu', p0', c1', c0', i1', z0', b8_nat]
  refine slenE ?_
  simp only [pu', p0', c1', c0', i1', z0', b8_nat]
  refine sEq (fun hb => ?_) (fun hb => ?_)
  replace hb := dT' hb
  (exfalso; omega)
  replace hb := dF' hb
  simp only [pu', p0', c1', c0', i1', z0', b8_nat]
  refine spickF ?_
  simp only [pu', p0', c1', c0', i1', z0', b8_nat]
  with_reducible refine s_end ?_
  with_reducible refine s_then ?_
  refine sCF ?_
  with_reducible refine s_skip ?_
  with_reducible refine s_then ?_
  with_reducible refine s_seq ?_
  with_reducible refine s_reg ?_
  refine smove ?_
  simp only [pu', p0', c1', c0', i1', z0', b8_nat]
  refine smove ?_
  simp only [pu', p0', c1', c0', i1', z0', b8_nat]
  refine slenE ?_
  simp only [pu', p0', c1', c0', i1', z0', b8_nat]
  refine sK (hx := rfl) (d31) ?_
  simp only [pu', p0', c1', c0', i1', z0', b8_nat]
  refine sassign ?_
  simp only [pu', p0', c1', c0', i1', z0', b8_nat]
  with_reducible refine s_end ?_
  with_reducible refine s_then ?_
  with_reducible refine s_seq ?_
  refine s_cut (fun (b : MtD) s' => [s' 0, s' 1, s' 2, s' 3, s' 4, B true, s' 6, s' 7, s' 8, s' 9, zA, s' 11, I (g + 1 - l.getD (l.length - 1) 0), I g, s' 14, b.z, s' 16, s' 17, s' 18, s' 19, s' 20, s' 21, s' 22, s' 23, s' 24, s' 25, s' 26, s' 27, s' 28, s' 29, s' 30, s' 31, s' 32, s' 33, s' 34, s' 35, s' 36, s' 37, s' 38, s' 39, s' 40, s' 41, s' 42, s' 43, s' 44, s' 45, s' 46, s' 47, s' 48, s' 49, s' 50, s' 51, s' 52, s' 53, s' 54, s' 55, s' 56, s' 57, s' 58, s' 59, s' 60, s' 61, s' 62, s' 63, s' 64, s' 65, s' 66, s' 67, s' 68, s' 69, s' 70, s' 71, s' 72, s' 73, s' 74, s' 75, s' 76, s' 77, s' 78, s' 79, s' 80, s' 81, s' 82, s' 83, s' 84, s' 85, s' 86, s' 87, s' 88, s' 89, s' 90, s' 91, s' 92, s' 93, s' 94, s' 95, s' 96, s' 97, s' 98, s' 99, s' 100, s' 101, s' 102, s' 103, s' 104, s' 105, s' 106, s' 107, s' 108, s' 109, s' 110, s' 111, s' 112, s' 113, s' 114, s' 115, s' 116, s' 117, s' 118, s' 119, s' 120, s' 121, s' 122, s' 123, s' 124, s' 125, s' 126, s' 127, s' 128, s' 129, s' 130, s' 131, s' 132, s' 133, s' 134, s' 135, s' 136, s' 137, s' 138]) (fun b => b.G) (fun b => SlC b.z ∧ Sep h b.G [WI b.z (ls.drop k ++ ls.take k), pcR0 i1 g l]) ?_ ?_
  · (refine s_regT (id := 11) (.light 1 (.light 2 (.light 5 (.light 6 (.alt 0 [] (.alt 3 [1, 2] (.alt 4 [1, 2] (.alt 7 [1, 2, 5, 6] (.alt 8 [1, 2, 5, 6] (.light 9 (.done)) (.no)) (.no)) (.alt 7 [1, 2, 5, 6] (.alt 4 [1, 2, 5, 6] (.alt 8 [1, 2, 5, 6] (.light 9 (.done)) (.no)) (.no)) (.no))) (.alt 7 [5, 6] (.alt 3 [1, 2, 5, 6] (.alt 4 [1, 2, 5, 6] (.alt 8 [1, 2, 5, 6] (.light 9 (.done)) (.no)) (.no)) (.no)) (.no))) (.alt 3 [1, 2] (.alt 0 [1, 2] (.alt 4 [1, 2] (.alt 7 [1, 2, 5, 6] (.alt 8 [1, 2, 5, 6] (.light 9 (.done)) (.no)) (.no)) (.alt 7 [1, 2, 5, 6] (.alt 4 [1, 2, 5, 6] (.alt 8 [1, 2, 5, 6] (.light 9 (.done)) (.no)) (.no)) (.no))) (.alt 7 [1, 2, 5, 6] (.alt 0 [1, 2, 5, 6] (.alt 4 [1, 2, 5, 6] (.alt 8 [1, 2, 5, 6] (.light 9 (.done)) (.no)) (.no)) (.no)) (.no))) (.alt 7 [5, 6] (.alt 0 [5, 6] (.alt 3 [1, 2, 5, 6] (.alt 4 [1, 2, 5, 6] (.alt 8 [1, 2, 5, 6] (.light 9 (.done)) (.no)) (.no)) (.no)) (.alt 3 [1, 2, 5, 6] (.alt 0 [1, 2, 5, 6] (.alt 4 [1, 2, 5, 6] (.alt 8 [1, 2, 5, 6] (.light 9 (.done)) (.no)) (.no)) (.no)) (.no))) (.no)))))))) [0, 3, 4, 7, 8] (by kernel_rfl) (by conv => lhs; simp only [pickT, List.getElem?_cons_succ, List.getElem?_cons_zero]) ?_)
    refine tmove ?_
    simp only [pu', p0', c1', c0', i1', z0', b8_nat]
    refine tmove ?_
    simp only [pu', p0', c1', c0', i1', z0', b8_nat]
    refine tmove ?_
    simp only [pu', p0', c1', c0', i1', z0', b8_nat]
    refine tmove ?_
    simp only [pu', p0', c1', c0', i1', z0', b8_nat]
    with_reducible refine u_both ?_ ?_
    refine ubsl ?_
    simp only [pu', p0', c1', c0', i1', n0', n3', n1', n2', a2', a1', a0', n4', Nat.reduceAdd, z0', n5', sa0, sa1, sa2, sa3, sa4, sa5, sa6, sa7, sa8, sa9, sa10, sa11]
    with_reducible refine u_both ?_ ?_
    (refine u_gL (by rfl) (x1 _ _ _ _ (by exact e_any (by rfl)) (by exact e_any (by rfl))) ?_; simp only [Fr.put, List.set_cons_succ, List.set_cons_zero, Int.toNat_natCast, Nat.zero_add])
    with_reducible refine u_both ?_ ?_
    (refine u_app0 h (fun z3 Y3 pz3 T3 => ?_); refine ⟨(by repeat' first | exact trivial | refine ⟨.inl rfl, ?_⟩ | refine ⟨.inr (ha_eq inferInstance inferInstance), ?_⟩), ?_⟩; simp only [Fr.put, List.set_cons_succ, List.set_cons_zero, Int.toNat_natCast, Nat.zero_add])
    (refine u_gL (by rfl) (x2 _ _ _ _ (by exact e_any (by rfl)) (by exact e_any (by rfl))) ?_; simp only [Fr.put, List.set_cons_succ, List.set_cons_zero, Int.toNat_natCast, Nat.zero_add])
    (refine u_app 0 (l2 := ls.take k) (fun z4 Y4 T4 x4 => ?_) inferInstance rfl iok (EL.p (d := (0 : Int))) (by omega) inferInstance inferInstance; simp only [a1', c1', c0', List.append_nil, List.nil_append] at T4; have pz4 := T4.sl 0 rfl; refine ⟨(by repeat' first | exact trivial | refine ⟨.inl rfl, ?_⟩ | refine ⟨.inr (ha_eq inferInstance inferInstance), ?_⟩), ?_⟩; simp only [Fr.put, List.set_cons_succ, List.set_cons_zero, Int.toNat_natCast, Nat.zero_add])
    refine tassign ?_
    simp only [pu', p0', c1', c0', i1', z0', b8_nat]
    with_reducible refine t_end ?_
    with_reducible refine s_then ?_
    rotate_left 1
    (refine u_gL (by rfl) (x2 _ _ _ _ (by exact e_any (by rfl)) (by exact e_any (by rfl))) ?_; simp only [Fr.put, List.set_cons_succ, List.set_cons_zero, Int.toNat_natCast, Nat.zero_add])
    (refine u_app0 h (fun z3 Y3 pz3 T3 => ?_); refine ⟨(by repeat' first | exact trivial | refine ⟨.inl rfl, ?_⟩ | refine ⟨.inr (ha_eq inferInstance inferInstance), ?_⟩), ?_⟩; simp only [Fr.put, List.set_cons_succ, List.set_cons_zero, Int.toNat_natCast, Nat.zero_add])
    (refine u_app 0 (l2 := ls.take k) (fun z4 Y4 T4 x4 => ?_) inferInstance rfl iok (EL.p (d := (0 : Int))) (by omega) inferInstance inferInstance; simp only [a1', c1', c0', List.append_nil, List.nil_append] at T4; have pz4 := T4.sl 0 rfl; refine ⟨(by repeat' first | exact trivial | refine ⟨.inl rfl, ?_⟩ | refine ⟨.inr (ha_eq inferInstance inferInstance), ?_⟩), ?_⟩; simp only [Fr.put, List.set_cons_succ, List.set_cons_zero, Int.toNat_natCast, Nat.zero_add])
    refine tassign ?_
    simp only [pu', p0', c1', c0', i1', z0', b8_nat]
    with_reducible refine t_end ?_
    with_reducible refine s_then ?_
    rotate_left 1
    (refine u_gL (by rfl) (x2 _ _ _ _ (by exact e_any (by rfl)) (by exact e_any (by rfl))) ?_; simp only [Fr.put, List.set_cons_succ, List.set_cons_zero, Int.toNat_natCast, Nat.zero_add])
    (refine u_gL (by rfl) (x1 _ _ _ _ (by exact e_any (by rfl)) (by exact e_any (by rfl))) ?_; simp only [Fr.put, List.set_cons_succ, List.set_cons_zero, Int.toNat_natCast, Nat.zero_add])
    (refine u_app0 h (fun z3 Y3 pz3 T3 => ?_); refine ⟨(by repeat' first | exact trivial | refine ⟨.inl rfl, ?_⟩ | refine ⟨.inr (ha_eq inferInstance inferInstance), ?_⟩), ?_⟩; simp only [Fr.put, List.set_cons_succ, List.set_cons_zero, Int.toNat_natCast, Nat.zero_add])
    (refine u_app 0 (l2 := ls.take k) (fun z4 Y4 T4 x4 => ?_) inferInstance rfl iok (EL.p (d := (0 : Int))) (by omega) inferInstance inferInstance; simp only [a1', c1', c0', List.append_nil, List.nil_append] at T4; have pz4 := T4.sl 0 rfl; refine ⟨(by repeat' first | exact trivial | refine ⟨.inl rfl, ?_⟩ | refine ⟨.inr (ha_eq inferInstance inferInstance), ?_⟩), ?_⟩; simp only [Fr.put, List.set_cons_succ, List.set_cons_zero, Int.toNat_natCast, Nat.zero_add])
    refine tassign ?_
    simp only [pu', p0', c1', c0', i1', z0', b8_nat]
    with_reducible refine t_end ?_
    with_reducible refine s_then ?_
    rotate_left 1
    with_reducible refine u_both ?_ ?_
    (refine u_gL (by rfl) (x1 _ _ _ _ (by exact e_any (by rfl)) (by exact e_any (by rfl))) ?_; simp only [Fr.put, List.set_cons_succ, List.set_cons_zero, Int.toNat_natCast, Nat.zero_add])
    with_reducible refine u_both ?_ ?_
    refine ubsl ?_
    simp only [pu', p0', c1', c0', i1', n0', n3', n1', n2', a2', a1', a0', n4', Nat.reduceAdd, z0', n5', sa0, sa1, sa2, sa3, sa4, sa5, sa6, sa7, sa8, sa9, sa10, sa11]
    with_reducible refine u_both ?_ ?_
    (refine u_app0 h (fun z3 Y3 pz3 T3 => ?_); refine ⟨(by repeat' first | exact trivial | refine ⟨.inl rfl, ?_⟩ | refine ⟨.inr (ha_eq inferInstance inferInstance), ?_⟩), ?_⟩; simp only [Fr.put, List.set_cons_succ, List.set_cons_zero, Int.toNat_natCast, Nat.zero_add])
    (refine u_gL (by rfl) (x2 _ _ _ _ (by exact e_any (by rfl)) (by exact e_any (by rfl))) ?_; simp only [Fr.put, List.set_cons_succ, List.set_cons_zero, Int.toNat_natCast, Nat.zero_add])
    (refine u_app 0 (l2 := ls.take k) (fun z4 Y4 T4 x4 => ?_) inferInstance rfl iok (EL.p (d := (0 : Int))) (by omega) inferInstance inferInstance; simp only [a1', c1', c0', List.append_nil, List.nil_append] at T4; have pz4 := T4.sl 0 rfl; refine ⟨(by repeat' first | exact trivial | refine ⟨.inl rfl, ?_⟩ | refine ⟨.inr (ha_eq inferInstance inferInstance), ?_⟩), ?_⟩; simp only [Fr.put, List.set_cons_succ, List.set_cons_zero, Int.toNat_natCast, Nat.zero_add])
    refine tassign ?_
    simp only [pu', p0', c1', c0', i1', z0', b8_nat]
    with_reducible refine t_end ?_
    with_reducible refine s_then ?_
    rotate_left 1
    (refine u_gL (by rfl) (x2 _ _ _ _ (by exact e_any (by rfl)) (by exact e_any (by rfl))) ?_; simp only [Fr.put, List.set_cons_succ, List.set_cons_zero, Int.toNat_natCast, Nat.zero_add])
    (refine u_app0 h (fun z3 Y3 pz3 T3 => ?_); refine ⟨(by repeat' first | exact trivial | refine ⟨.inl rfl, ?_⟩ | refine ⟨.inr (ha_eq inferInstance inferInstance), ?_⟩), ?_⟩; simp only [Fr.put, List.set_cons_succ, List.set_cons_zero, Int.toNat_natCast, Nat.zero_add])
    (refine u_app 0 (l2 := ls.take k) (fun z4 Y4 T4 x4 => ?_) inferInstance rfl iok (EL.p (d := (0 : Int))) (by omega) inferInstance inferInstance; simp only [a1', c1', c0', List.append_nil, List.nil_append] at T4; have pz4 := T4.sl 0 rfl; refine ⟨(by repeat' first | exact trivial | refine ⟨.inl rfl, ?_⟩ | refine ⟨.inr (ha_eq inferInstance inferInstance), ?_⟩), ?_⟩; simp only [Fr.put, List.set_cons_succ, List.set_cons_zero, Int.toNat_natCast, Nat.zero_add])
    refine tassign ?_
    simp only [pu', p0', c1', c0', i1', z0', b8_nat]
    with_reducible refine t_end ?_
    with_reducible refine s_then ?_
    rotate_left 1
    (refine u_gL (by rfl) (x2 _ _ _ _ (by exact e_any (by rfl)) (by exact e_any (by rfl))) ?_; simp only [Fr.put, List.set_cons_succ, List.set_cons_zero, Int.toNat_natCast, Nat.zero_add])
    refine ubsl ?_
    simp only [pu', p0', c1', c0', i1', n0', n3', n1', n2', a2', a1', a0', n4', Nat.reduceAdd, z0', n5', sa0, sa1, sa2, sa3, sa4, sa5, sa6, sa7, sa8, sa9, sa10, sa11]
    (refine u_app0 h (fun z3 Y3 pz3 T3 => ?_); refine ⟨(by repeat' first | exact trivial | refine ⟨.inl rfl, ?_⟩ | refine ⟨.inr (ha_eq inferInstance inferInstance), ?_⟩), ?_⟩; simp only [Fr.put, List.set_cons_succ, List.set_cons_zero, Int.toNat_natCast, Nat.zero_add])
    (refine u_app 0 (l2 := ls.take k) (fun z4 Y4 T4 x4 => ?_) inferInstance rfl iok (EL.p (d := (0 : Int))) (by omega) inferInstance inferInstance; simp only [a1', c1', c0', List.append_nil, List.nil_append] at T4; have pz4 := T4.sl 0 rfl; refine ⟨(by repeat' first | exact trivial | refine ⟨.inl rfl, ?_⟩ | refine ⟨.inr (ha_eq inferInstance inferInstance), ?_⟩), ?_⟩; simp only [Fr.put, List.set_cons_succ, List.set_cons_zero, Int.toNat_natCast, Nat.zero_add])
    refine tassign ?_
    simp only [pu', p0', c1', c0', i1', z0', b8_nat]
    with_reducible refine t_end ?_
    with_reducible refine s_then ?_
    rotate_left 1
    (refine u_gL (by rfl) (x2 _ _ _ _ (by exact e_any (by rfl)) (by exact e_any (by rfl))) ?_; simp only [Fr.put, List.set_cons_succ, List.set_cons_zero, Int.toNat_natCast, Nat.zero_add])
    with_reducible refine u_both ?_ ?_
    refine ubsl ?_
    simp only [pu', p0', c1', c0', i1', n0', n3', n1', n2', a2', a1', a0', n4', Nat.reduceAdd, z0', n5', sa0, sa1, sa2, sa3, sa4, sa5, sa6, sa7, sa8, sa9, sa10, sa11]
    (refine u_gL (by rfl) (x1 _ _ _ _ (by exact e_any (by rfl)) (by exact e_any (by rfl))) ?_; simp only [Fr.put, List.set_cons_succ, List.set_cons_zero, Int.toNat_natCast, Nat.zero_add])
    (refine u_app0 h (fun z3 Y3 pz3 T3 => ?_); refine ⟨(by repeat' first | exact trivial | refine ⟨.inl rfl, ?_⟩ | refine ⟨.inr (ha_eq inferInstance inferInstance), ?_⟩), ?_⟩; simp only [Fr.put, List.set_cons_succ, List.set_cons_zero, Int.toNat_natCast, Nat.zero_add])
    (refine u_app 0 (l2 := ls.take k) (fun z4 Y4 T4 x4 => ?_) inferInstance rfl iok (EL.p (d := (0 : Int))) (by omega) inferInstance inferInstance; simp only [a1', c1', c0', List.append_nil, List.nil_append] at T4; have pz4 := T4.sl 0 rfl; refine ⟨(by repeat' first | exact trivial | refine ⟨.inl rfl, ?_⟩ | refine ⟨.inr (ha_eq inferInstance inferInstance), ?_⟩), ?_⟩; simp only [Fr.put, List.set_cons_succ, List.set_cons_zero, Int.toNat_natCast, Nat.zero_add])
    refine tassign ?_
    simp only [pu', p0', c1', c0', i1', z0', b8_nat]
    with_reducible refine t_end ?_
    with_reducible refine s_then ?_
    rotate_left 1
    (refine u_gL (by rfl) (x1 _ _ _ _ (by exact e_any (by rfl)) (by exact e_any (by rfl))) ?_; simp only [Fr.put, List.set_cons_succ, List.set_cons_zero, Int.toNat_natCast, Nat.zero_add])
    refine ubsl ?_
    simp only [pu', p0', c1', c0', i1', n0', n3', n1', n2', a2', a1', a0', n4', Nat.reduceAdd, z0', n5', sa0, sa1, sa2, sa3, sa4, sa5, sa6, sa7, sa8, sa9, sa10, sa11]
    (refine u_app0 h (fun z3 Y3 pz3 T3 => ?_); refine ⟨(by repeat' first | exact trivial | refine ⟨.inl rfl, ?_⟩ | refine ⟨.inr (ha_eq inferInstance inferInstance), ?_⟩), ?_⟩; simp only [Fr.put, List.set_cons_succ, List.set_cons_zero, Int.toNat_natCast, Nat.zero_add])
    (refine u_app 0 (l2 := ls.take k) (fun z4 Y4 T4 x4 => ?_) inferInstance rfl iok (EL.p (d := (0 : Int))) (by omega) inferInstance inferInstance; simp only [a1', c1', c0', List.append_nil, List.nil_append] at T4; have pz4 := T4.sl 0 rfl; refine ⟨(by repeat' first | exact trivial | refine ⟨.inl rfl, ?_⟩ | refine ⟨.inr (ha_eq inferInstance inferInstance), ?_⟩), ?_⟩; simp only [Fr.put, List.set_cons_succ, List.set_cons_zero, Int.toNat_natCast, Nat.zero_add])
    refine tassign ?_
    simp only [pu', p0', c1', c0', i1', z0', b8_nat]
    with_reducible refine t_end ?_
    with_reducible refine s_then ?_
    rotate_left 1
    all_goals
      refine at_in ⟨z4, _⟩ ⟨pz4, Sep.sub T4 (by repeat' first | exact List.Sublist.refl _ | exact List.sublist_append_left _ _ | exact List.nil_sublist _ | refine List.Sublist.cons_cons _ ?_ | refine List.Sublist.cons _ ?_ | refine List.Sublist.trans ?_ (List.sublist_append_left _ _))⟩ (by rfl) rfl
  clear iL iL1 iL2 c19a d31 S1 S2 S3
  rintro ⟨z4, G4⟩ s' ⟨pz4, S4⟩
  simp only [] at pz4 S4 ⊢
  by_cases hg : g = 11
  · have he := hal.1 hg
    generalize impE A = ea at *
    focus
      with_reducible refine s_seq ?_
      with_reducible refine s_reg ?_
      refine smove ?_
      simp only [pu', p0', c1', c0', i1', z0', b8_nat]
      refine sM (hx := rfl) (c19b _ z4 inferInstance) ?_
      simp only [pu', p0', c1', c0', i1', z0', b8_nat]
      refine smove ?_
      simp only [pu', p0', c1', c0', i1', z0', b8_nat]
      refine sext ?_
      simp only [pu', p0', c1', c0', i1', z0', b8_nat]
      refine sext ?_
      simp only [pu', p0', c1', c0', i1', z0', b8_nat]
      refine sext ?_
      simp only [pu', p0', c1', c0', i1', z0', b8_nat]
      refine sassign ?_
      simp only [pu', p0', c1', c0', i1', z0', b8_nat]
      refine sassign ?_
      simp only [pu', p0', c1', c0', i1', z0', b8_nat]
      refine sassign ?_
      simp only [pu', p0', c1', c0', i1', z0', b8_nat]
      with_reducible refine s_end ?_
      with_reducible refine s_then ?_
      with_reducible refine s_seq ?_
      with_reducible refine s_reg ?_
      refine smove ?_
      simp only [pu', p0', c1', c0', i1', z0', b8_nat]
      refine sM (hx := rfl) (c19c _ zA inferInstance) ?_
      simp only [pu', p0', c1', c0', i1', z0', b8_nat]
      refine smove ?_
      simp only [pu', p0', c1', c0', i1', z0', b8_nat]
      refine sext ?_
      simp only [pu', p0', c1', c0', i1', z0', b8_nat]
      refine sext ?_
      simp only [pu', p0', c1', c0', i1', z0', b8_nat]
      refine sext ?_
      simp only [pu', p0', c1', c0', i1', z0', b8_nat]
      refine sassign ?_
      simp only [pu', p0', c1', c0', i1', z0', b8_nat]
      refine sassign ?_
      simp only [pu', p0', c1', c0', i1', z0', b8_nat]
      refine sassign ?_
      simp only [pu', p0', c1', c0', i1', z0', b8_nat]
      with_reducible refine s_end ?_
      with_reducible refine s_then ?_
      with_reducible refine s_seq ?_
      with_reducible refine s_seq ?_
      with_reducible refine s_reg ?_
      refine smove ?_
      simp only [pu', p0', c1', c0', i1', z0', b8_nat]
      refine sEq (fun hb => ?_) (fun hb => ?_)
      replace hb := dT' hb
      simp only [pu', p0', c1', c0', i1', z0', b8_nat]
      with_reducible refine s_end ?_
      with_reducible refine s_then ?_
      refine sCT ?_
      with_reducible refine s_seq ?_
      with_reducible refine s_reg ?_
      refine smove ?_
      simp only [pu', p0', c1', c0', i1', z0', b8_nat]
      refine smove ?_
      simp only [pu', p0', c1', c0', i1', z0', b8_nat]
      refine smove ?_
      simp only [pu', p0', c1', c0', i1', z0', b8_nat]
      refine sEq (fun hb => ?_) (fun hb => ?_)
      replace hb := dT' hb
      simp only [pu', p0', c1', c0', i1', z0', b8_nat]
      refine spickT ?_
      simp only [pu', p0', c1', c0', i1', z0', b8_nat]
      refine smove ?_
      simp only [pu', p0', c1', c0', i1', z0', b8_nat]
      refine smove ?_
      simp only [pu', p0', c1', c0', i1', z0', b8_nat]
      refine smove ?_
      simp only [pu', p0', c1', c0', i1', z0', b8_nat]
      refine sEq (fun hb => ?_) (fun hb => ?_)
      replace hb := dT' hb
      simp only [pu', p0', c1', c0', i1', z0', b8_nat]
      refine spickT ?_
      simp only [pu', p0', c1', c0', i1', z0', b8_nat]
      refine smove ?_
      simp only [pu', p0', c1', c0', i1', z0', b8_nat]
      refine smove ?_
      simp only [pu', p0', c1', c0', i1', z0', b8_nat]
      refine smove ?_
      simp only [pu', p0', c1', c0', i1', z0', b8_nat]
      refine sEq (fun hb => ?_) (fun hb => ?_)
      replace hb := dT' hb
      simp only [pu', p0', c1', c0', i1', z0', b8_nat]
      refine spickT ?_
      simp only [pu', p0', c1', c0', i1', z0', b8_nat]
      refine smove ?_
      simp only [pu', p0', c1', c0', i1', z0', b8_nat]
      refine smove ?_
      simp only [pu', p0', c1', c0', i1', z0', b8_nat]
      refine sNe (fun hb => ?_) (fun hb => ?_)
      replace hb := dT' hb
      simp only [pu', p0', c1', c0', i1', z0', b8_nat]
      refine spickT ?_
      simp only [pu', p0', c1', c0', i1', z0', b8_nat]
      refine sassign ?_
      simp only [pu', p0', c1', c0', i1', z0', b8_nat]
      with_reducible refine s_end ?_
      with_reducible refine s_then ?_
      with_reducible refine s_ret ?_
      with_reducible refine s_thenR ?_
      rotate_left 1
      replace hb := dF' hb
      exact absurd (by with_reducible assumption) hb
      replace hb := dF' hb
      exact absurd rfl hb
      replace hb := dF' hb
      exact absurd rfl hb
      replace hb := dF' hb
      exact absurd rfl hb
      replace hb := dF' hb
      exact absurd (by with_reducible assumption) hb
    all_goals
      all_goals try with_reducible refine w_n ?_
      all_goals refine w_1 rfl (by first | exact v_t (by rfl) | exact v_c1 (C1.p) (by rfl) (HA.p) (by rfl) | exact v_cF (CA.p) (by rfl) (HA.p) (by rfl)) ?_
      exact rfl
  · obtain ⟨he, hw, hmm⟩ := hal.2 hg
    rw [he, hw, hmm] at c19c
    focus
      with_reducible refine s_seq ?_
      with_reducible refine s_reg ?_
      refine smove ?_
      simp only [pu', p0', c1', c0', i1', z0', b8_nat]
      refine sM (hx := rfl) (c19b _ z4 inferInstance) ?_
      simp only [pu', p0', c1', c0', i1', z0', b8_nat]
      refine smove ?_
      simp only [pu', p0', c1', c0', i1', z0', b8_nat]
      refine sext ?_
      simp only [pu', p0', c1', c0', i1', z0', b8_nat]
      refine sext ?_
      simp only [pu', p0', c1', c0', i1', z0', b8_nat]
      refine sext ?_
      simp only [pu', p0', c1', c0', i1', z0', b8_nat]
      refine sassign ?_
      simp only [pu', p0', c1', c0', i1', z0', b8_nat]
      refine sassign ?_
      simp only [pu', p0', c1', c0', i1', z0', b8_nat]
      refine sassign ?_
      simp only [pu', p0', c1', c0', i1', z0', b8_nat]
      with_reducible refine s_end ?_
      with_reducible refine s_then ?_
      with_reducible refine s_seq ?_
      with_reducible refine s_reg ?_
      refine smove ?_
      simp only [pu', p0', c1', c0', i1', z0', b8_nat]
      refine sM (hx := rfl) (c19c _ zA inferInstance) ?_
      simp only [pu', p0', c1', c0', i1', z0', b8_nat]
      refine smove ?_
      simp only [pu', p0', c1', c0', i1', z0', b8_nat]
      refine sext ?_
      simp only [pu', p0', c1', c0', i1', z0', b8_nat]
      refine sext ?_
      simp only [pu', p0', c1', c0', i1', z0', b8_nat]
      refine sext ?_
      simp only [pu', p0', c1', c0', i1', z0', b8_nat]
      refine sassign ?_
      simp only [pu', p0', c1', c0', i1', z0', b8_nat]
      refine sassign ?_
      simp only [pu', p0', c1', c0', i1', z0', b8_nat]
      refine sassign ?_
      simp only [pu', p0', c1', c0', i1', z0', b8_nat]
      with_reducible refine s_end ?_
      with_reducible refine s_then ?_
      with_reducible refine s_seq ?_
      with_reducible refine s_seq ?_
      with_reducible refine s_reg ?_
      refine smove ?_
      simp only [pu', p0', c1', c0', i1', z0', b8_nat]
      refine sEq (fun hb => ?_) (fun hb => ?_)
      replace hb := dT' hb
      (exfalso; omega)
      replace hb := dF' hb
      simp only [pu', p0', c1', c0', i1', z0', b8_nat]
      with_reducible refine s_end ?_
      with_reducible refine s_then ?_
      refine sCF ?_
      with_reducible refine s_skip ?_
      with_reducible refine s_then ?_
      with_reducible refine s_seq ?_
      with_reducible refine s_reg ?_
      refine smove ?_
      simp only [pu', p0', c1', c0', i1', z0', b8_nat]
      refine smove ?_
      simp only [pu', p0', c1', c0', i1', z0', b8_nat]
      refine smove ?_
      simp only [pu', p0', c1', c0', i1', z0', b8_nat]
      refine sEq (fun hb => ?_) (fun hb => ?_)
      replace hb := dT' hb
      simp only [pu', p0', c1', c0', i1', z0', b8_nat]
      refine spickT ?_
      simp only [pu', p0', c1', c0', i1', z0', b8_nat]
      refine smove ?_
      simp only [pu', p0', c1', c0', i1', z0', b8_nat]
      refine smove ?_
      simp only [pu', p0', c1', c0', i1', z0', b8_nat]
      refine smove ?_
      simp only [pu', p0', c1', c0', i1', z0', b8_nat]
      refine sEq (fun hb => ?_) (fun hb => ?_)
      replace hb := dT' hb
      simp only [pu', p0', c1', c0', i1', z0', b8_nat]
      refine spickT ?_
      simp only [pu', p0', c1', c0', i1', z0', b8_nat]
      refine smove ?_
      simp only [pu', p0', c1', c0', i1', z0', b8_nat]
      refine smove ?_
      simp only [pu', p0', c1', c0', i1', z0', b8_nat]
      refine smove ?_
      simp only [pu', p0', c1', c0', i1', z0', b8_nat]
      refine sEq (fun hb => ?_) (fun hb => ?_)
      replace hb := dT' hb
      simp only [pu', p0', c1', c0', i1', z0', b8_nat]
      refine spickT ?_
      simp only [pu', p0', c1', c0', i1', z0', b8_nat]
      refine smove ?_
      simp only [pu', p0', c1', c0', i1', z0', b8_nat]
      refine smove ?_
      simp only [pu', p0', c1', c0', i1', z0', b8_nat]
      refine sEq (fun hb => ?_) (fun hb => ?_)
      replace hb := dT' hb
      simp only [pu', p0', c1', c0', i1', z0', b8_nat]
      refine spickT ?_
      simp only [pu', p0', c1', c0', i1', z0', b8_nat]
      refine smove ?_
      simp only [pu', p0', c1', c0', i1', z0', b8_nat]
      refine smove ?_
      simp only [pu', p0', c1', c0', i1', z0', b8_nat]
      refine smove ?_
      simp only [pu', p0', c1', c0', i1', z0', b8_nat]
      refine sadd ?_
      simp only [pu', p0', c1', c0', i1', z0', b8_nat]
      refine sEq (fun hb => ?_) (fun hb => ?_)
      replace hb := dT' hb
      simp only [pu', p0', c1', c0', i1', z0', b8_nat]
      refine spickT ?_
      simp only [pu', p0', c1', c0', i1', z0', b8_nat]
      refine smove ?_
      simp only [pu', p0', c1', c0', i1', z0', b8_nat]
      refine smove ?_
      simp only [pu', p0', c1', c0', i1', z0', b8_nat]
      refine smove ?_
      simp only [pu', p0', c1', c0', i1', z0', b8_nat]
      refine sadd ?_
      simp only [pu', p0', c1', c0', i1', z0', b8_nat]
      refine sEq (fun hb => ?_) (fun hb => ?_)
      replace hb := dT' hb
      simp only [pu', p0', c1', c0', i1', z0', b8_nat]
      refine spickT ?_
      simp only [pu', p0', c1', c0', i1', z0', b8_nat]
      refine sassign ?_
      simp only [pu', p0', c1', c0', i1', z0', b8_nat]
      with_reducible refine s_end ?_
      with_reducible refine s_then ?_
      with_reducible refine s_ret ?_
      rotate_left 1
      replace hb := dF' hb
      exact absurd rfl hb
      replace hb := dF' hb
      exact absurd rfl hb
      replace hb := dF' hb
      exact absurd rfl hb
      replace hb := dF' hb
      exact absurd rfl hb
      replace hb := dF' hb
      exact absurd rfl hb
      replace hb := dF' hb
      exact absurd rfl hb
    all_goals
      all_goals try with_reducible refine w_n ?_
      all_goals refine w_1 rfl (by first | exact v_t (by rfl) | exact v_c1 (C1.p) (by rfl) (HA.p) (by rfl) | exact v_cF (CA.p) (by rfl) (HA.p) (by rfl)) ?_
      exact rfl
end Go.Proofs.Ytckljanplahbkaa
