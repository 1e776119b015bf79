/-
  A part of the proof of a statement of a chapter's seat; conditions: stated at each theorem.
-/
import Derived.Test.YtckljanplahbkaaM35
set_option linter.unusedVariables false
set_option linter.unusedSectionVars false
set_option linter.unusedSimpArgs false
set_option linter.unusedVariables false
set_option maxRecDepth 100000
set_option maxHeartbeats 8000000
namespace Go.Proofs.Ytckljanplahbkaa
open Go.Az Go
/-! ### Lengths and weights turn into each other -/
theorem sumW_step {l : List Int} {i : Nat} (h : i < l.length) : sumW (l.take (i + 1)) = sumW (l.take i) + (if l.getD i 0 = 0 then 0 else 2 ^ (l.getD i 0 - 1).toNat) := by
  unfold sumW
  rw [takeI h, tot_snoc]
  split
  · omega
  · rfl
theorem grt_step {l : List Int} {i : Nat} (h : i < l.length) : grt (l.take (i + 1)) = if l.getD i 0 > grt (l.take i) then l.getD i 0 else grt (l.take i) := by
  rw [takeI h, grt_snoc]
theorem law7 (h : Hp) (s : AV) (nums : List Int) (hN : Elts (encI .i64) 1 h s nums) : ACalls Try.prog 7 [s] h (fun r _ => r = B true) := by
  have a : EI h s nums := mkEL iok 0 hN
  have pss := a.p.sl
  have S0 := Sep.nil h
  have c30 : ∀ Y L', Sep h Y L' → ACalls Try.prog 30 [s] Y (fun r h' => ∃ z o, r = .tup [z, B true] ∧ SlC z ∧ Sep h h' (L' ++ [WI z o]) ∧ chkW o = 0 ∧ o.length ≤ 60) := fun Y L' S =>
    (made30 Y s nums).mono fun r h' _ ⟨z, o, h1, h2, h3, h4⟩ => ⟨z, o, h1, h2, S.join h3, h4⟩
  refine acalls_of_wk hm Try.func7 rfl ?_
  simp only [Try.ntmps7, List.length_cons, List.length_nil, Nat.reduceAdd, Nat.reduceSub, List.reduceReplicate, List.cons_append, List.nil_append]
  show wk _ _ none _ _ ⟨_, []⟩ _
  with_reducible refine s_seq ?_
  with_reducible refine s_reg ?_
  refine sassign ?_
  simp only [pu', p0', c1', c0', i1', z0', b8_nat]
  with_reducible refine s_end ?_
  with_reducible refine s_then ?_
  with_reducible refine s_seq ?_
  with_reducible refine s_reg ?_
  refine sK (hx := rfl) (known_any) ?_
  simp only [pu', p0', c1', c0', i1', z0', b8_nat]
  refine sassign ?_
  simp only [pu', p0', c1', c0', i1', z0', b8_nat]
  with_reducible refine s_end ?_
  with_reducible refine s_then ?_
  with_reducible refine s_seq ?_
  with_reducible refine s_reg ?_
  refine smove ?_
  simp only [pu', p0', c1', c0', i1', z0', b8_nat]
  refine sC (hx := rfl) ((c30 _ _ inferInstance).mono ?_)
  rintro _ m30 _ ⟨z, l, rfl, pz, S1, hc, hl60⟩
  simp only [pu', p0', c1', c0', i1', n0', n3', n1', n2', a2', a1', a0', n4', Nat.reduceAdd, z0', n5', sa0, sa1, sa2, sa3, sa4, sa5, sa6, sa7, sa8, sa9, sa10, sa11]
  refine smove ?_
  simp only [pu', p0', c1', c0', i1', z0', b8_nat]
  refine sext ?_
  simp only [pu', p0', c1', c0', i1', z0', b8_nat]
  refine sext ?_
  simp only [pu', p0', c1', c0', i1', z0', b8_nat]
  refine sassign ?_
  simp only [pu', p0', c1', c0', i1', z0', b8_nat]
  refine sassign ?_
  simp only [pu', p0', c1', c0', i1', z0', b8_nat]
  with_reducible refine s_end ?_
  with_reducible refine s_then ?_
  with_reducible refine s_seq ?_
  with_reducible refine s_seq ?_
  with_reducible refine s_reg ?_
  refine smove ?_
  simp only [pu', p0', c1', c0', i1', z0', b8_nat]
  refine snotT ?_
  simp only [pu', p0', c1', c0', i1', z0', b8_nat]
  with_reducible refine s_end ?_
  with_reducible refine s_then ?_
  refine sCF ?_
  with_reducible refine s_skip ?_
  with_reducible refine s_then ?_
  with_reducible refine s_seq ?_
  with_reducible refine s_reg ?_
  refine smove ?_
  simp only [pu', p0', c1', c0', i1', z0', b8_nat]
  refine sC (hx := rfl) ((weights12 inferInstance z l inferInstance hc).mono ?_)
  rintro _ m12 _ ⟨i1, rfl, S2⟩
  simp only [pu', p0', c1', c0', i1', n0', n3', n1', n2', a2', a1', a0', n4', Nat.reduceAdd, z0', n5', sa0, sa1, sa2, sa3, sa4, sa5, sa6, sa7, sa8, sa9, sa10, sa11]
  refine smove ?_
  simp only [pu', p0', c1', c0', i1', z0', b8_nat]
  refine sext ?_
  simp only [pu', p0', c1', c0', i1', z0', b8_nat]
  refine sext ?_
  simp only [pu', p0', c1', c0', i1', z0', b8_nat]
  refine sassign ?_
  simp only [pu', p0', c1', c0', i1', z0', b8_nat]
  refine sassign ?_
  simp only [pu', p0', c1', c0', i1', z0', b8_nat]
  with_reducible refine s_end ?_
  with_reducible refine s_then ?_
  with_reducible refine s_seq ?_
  with_reducible refine s_reg ?_
  refine smove ?_
  simp only [pu', p0', c1', c0', i1', z0', b8_nat]
  refine sC (hx := rfl) ((listed14 inferInstance z l inferInstance hc).mono ?_)
  rintro _ m14 _ ⟨i2, rfl, S3⟩
  simp only [pu', p0', c1', c0', i1', n0', n3', n1', n2', a2', a1', a0', n4', Nat.reduceAdd, z0', n5', sa0, sa1, sa2, sa3, sa4, sa5, sa6, sa7, sa8, sa9, sa10, sa11]
  refine smove ?_
  simp only [pu', p0', c1', c0', i1', z0', b8_nat]
  refine sext ?_
  simp only [pu', p0', c1', c0', i1', z0', b8_nat]
  refine sext ?_
  simp only [pu', p0', c1', c0', i1', z0', b8_nat]
  refine sassign ?_
  simp only [pu', p0', c1', c0', i1', z0', b8_nat]
  refine sassign ?_
  simp only [pu', p0', c1', c0', i1', z0', b8_nat]
  with_reducible refine s_end ?_
  with_reducible refine s_then ?_
  with_reducible refine s_seq ?_
  have iW : ∀ (Y : Hp) [HA Y i1 (.cells (rowC (grt l) l l.length) 63 true)], EI Y (.sl i1 0 l.length l.length false) (wtL l) := fun Y a => rowW hc a
  have iL : ∀ (Y : Hp) [HA Y i2 (.cells (rowC (grt l) l l.length) 63 true)], EI Y (.sl i2 0 (l.length - 1) (l.length - 1) false) (lsL l) := fun Y a => rowL hc a
  have iN : ∀ (Y : Hp) (j : Nat) [HA Y j (.cells (rowC (grt l) (wtL l) (wtL l).length) 63 true)], EI Y (.sl j 0 (wtL l).length (wtL l).length false) l := fun Y j a => rowN hc a
  have kl := ln_of hc
  obtain ⟨k1, k2⟩ := kl.len
  obtain ⟨k3, k4⟩ := kl.m0
  obtain ⟨k5, k6⟩ := kl.la
  have c18 := fun (Y : Hp) (z1 z2 : AV) (a : EI Y z1 l) (b : EI Y z2 l) => same_yes Y z1 z2 l a.p b.p (by omega)
  have c23 := fun (Y : Hp) (L' : List Pc) (S : Sep h Y L') (a : EI Y (.sl i2 0 (l.length - 1) (l.length - 1) false) (lsL l)) => lengths23 S i2 l a hc
  have c19 := fun (Y : Hp) (a : EI Y (.sl i2 0 (l.length - 1) (l.length - 1) false) (lsL l)) => implied19 (.sl i2 0 (l.length - 1) (l.length - 1) false) l a hc
  have hwl : (wtL l).length = l.length := by rw [wtL, if_pos hc, trn_len]
  have hll := ls_len hc
  have hws := wt_is hc
  have hwi : ∀ i, i < l.length → 0 ≤ (wtL l).getD i 0 ∧ (wtL l).getD i 0 ≤ 11 := fun i hi => by
    have := trn_in kl _ (getD_mem (l := trn (grt l) l) (n := i) (by rw [trn_len]; exact hi))
    rw [wtL, if_pos hc]; omega
  have hwl1 : ∀ i, i < l.length - 1 → (wtL l).getD i 0 = (lsL l).getD i 0 := fun i hi => by rw [hws, getD_app (by omega)]
  have hwe : (wtL l).getD (l.length - 1) 0 = grt l + 1 - l.getD (l.length - 1) 0 := by rw [hws, ← hll, getD_snoc]
  have hsum := sum_all hc
  have hst := fun i (hi : i < (wtL l).length) => sumW_step hi
  have hgs := fun i (hi : i < l.length) => grt_step hi
  have hbl : ∀ i, i < l.length → 0 ≤ l.getD i 0 ∧ l.getD i 0 ≤ 11 := fun i hi => by have := kl.bd _ (getD_mem hi); omega
  have hsb : ∀ i, i ≤ l.length → 0 ≤ sumW ((wtL l).take i) ∧ sumW ((wtL l).take i) ≤ 261120 := fun i hi => sumW_bd (by rw [List.length_take]; omega) fun x hx => by
    obtain ⟨j, h1, h2⟩ := mem_getD (List.mem_of_mem_take hx)
    have := hwi j (by omega)
    unfold inr; omega
  have hgb : ∀ i, 0 ≤ grt (l.take i) ∧ grt (l.take i) ≤ 11 := fun i => grt_bd _ 11 (by omega) fun x hx => by
    have := kl.bd _ (List.mem_of_mem_take hx); omega
  have hgt : grt l = grt (l.take l.length) := by rw [List.take_length]
  generalize hG : grt l = g at *
  generalize hA : wtL l = A at *
  generalize hLs : lsL l = Ls at *
  generalize hla : l.getD (l.length - 1) 0 = la at *
  with_reducible refine s_reg ?_
  refine smove ?_
  simp only [pu', p0', c1', c0', i1', z0', b8_nat]
  refine sC (hx := rfl) ((c23 _ _ inferInstance inferInstance).mono ?_)
  rintro _ m23 _ ⟨i3, rfl, S4⟩
  simp only [pu', p0', c1', c0', i1', n0', n3', n1', n2', a2', a1', a0', n4', Nat.reduceAdd, z0', n5', sa0, sa1, sa2, sa3, sa4, sa5, sa6, sa7, sa8, sa9, sa10, sa11]
  refine smove ?_
  simp only [pu', p0', c1', c0', i1', z0', b8_nat]
  refine sext ?_
  simp only [pu', p0', c1', c0', i1', z0', b8_nat]
  refine sext ?_
  simp only [pu', p0', c1', c0', i1', z0', b8_nat]
  refine sassign ?_
  simp only [pu', p0', c1', c0', i1', z0', b8_nat]
  refine sassign ?_
  simp only [pu', p0', c1', c0', i1', z0', b8_nat]
  with_reducible refine s_end ?_
  with_reducible refine s_then ?_
  with_reducible refine s_seq ?_
  with_reducible refine s_reg ?_
  refine smove ?_
  simp only [pu', p0', c1', c0', i1', z0', b8_nat]
  refine sM (hx := rfl) (c19 _ inferInstance) ?_
  simp only [pu', p0', c1', c0', i1', z0', b8_nat]
  refine smove ?_
  simp only [pu', p0', c1', c0', i1', z0', b8_nat]
  refine sext ?_
  simp only [pu', p0', c1', c0', i1', z0', b8_nat]
  refine sext ?_
  simp only [pu', p0', c1', c0', i1', z0', b8_nat]
  refine sext ?_
  simp only [pu', p0', c1', c0', i1', z0', b8_nat]
  refine sassign ?_
  simp only [pu', p0', c1', c0', i1', z0', b8_nat]
  refine sassign ?_
  simp only [pu', p0', c1', c0', i1', z0', b8_nat]
  refine sassign ?_
  simp only [pu', p0', c1', c0', i1', z0', b8_nat]
  with_reducible refine s_end ?_
  with_reducible refine s_then ?_
  with_reducible refine s_seq ?_
  with_reducible refine s_seq ?_
  with_reducible refine s_reg ?_
  refine smove ?_
  simp only [pu', p0', c1', c0', i1', z0', b8_nat]
  refine sNe (fun hb => ?_) (fun hb => ?_)
  replace hb := dT' hb
  (exfalso; omega)
  replace hb := dF' hb
  simp only [pu', p0', c1', c0', i1', z0', b8_nat]
  refine smove ?_
  simp only [pu', p0', c1', c0', i1', z0', b8_nat]
  refine smove ?_
  simp only [pu', p0', c1', c0', i1', z0', b8_nat]
  refine sNe (fun hb => ?_) (fun hb => ?_)
  replace hb := dT' hb
  (exfalso; omega)
  replace hb := dF' hb
  simp only [pu', p0', c1', c0', i1', z0', b8_nat]
  refine spickF ?_
  simp only [pu', p0', c1', c0', i1', z0', b8_nat]
  refine smove ?_
  simp only [pu', p0', c1', c0', i1', z0', b8_nat]
  refine smove ?_
  simp only [pu', p0', c1', c0', i1', z0', b8_nat]
  refine sNe (fun hb => ?_) (fun hb => ?_)
  replace hb := dT' hb
  (exfalso; omega)
  replace hb := dF' hb
  simp only [pu', p0', c1', c0', i1', z0', b8_nat]
  refine spickF ?_
  simp only [pu', p0', c1', c0', i1', z0', b8_nat]
  refine smove ?_
  simp only [pu', p0', c1', c0', i1', z0', b8_nat]
  refine smove ?_
  simp only [pu', p0', c1', c0', i1', z0', b8_nat]
  refine sNe (fun hb => ?_) (fun hb => ?_)
  replace hb := dT' hb
  (exfalso; omega)
  replace hb := dF' hb
  simp only [pu', p0', c1', c0', i1', z0', b8_nat]
  refine spickF ?_
  simp only [pu', p0', c1', c0', i1', z0', b8_nat]
  refine smove ?_
  simp only [pu', p0', c1', c0', i1', z0', b8_nat]
  refine smove ?_
  simp only [pu', p0', c1', c0', i1', z0', b8_nat]
  refine slenX ?_
  simp only [pu', p0', c1', c0', i1', z0', b8_nat]
  refine smove ?_
  simp only [pu', p0', c1', c0', i1', z0', b8_nat]
  refine slenE ?_
  simp only [pu', p0', c1', c0', i1', z0', b8_nat]
  refine sNe (fun hb => ?_) (fun hb => ?_)
  replace hb := dT' hb
  (exfalso; omega)
  replace hb := dF' hb
  simp only [pu', p0', c1', c0', i1', z0', b8_nat]
  refine spickF ?_
  simp only [pu', p0', c1', c0', i1', z0', b8_nat]
  refine smove ?_
  simp only [pu', p0', c1', c0', i1', z0', b8_nat]
  refine smove ?_
  simp only [pu', p0', c1', c0', i1', z0', b8_nat]
  refine slenX ?_
  simp only [pu', p0', c1', c0', i1', z0', b8_nat]
  refine smove ?_
  simp only [pu', p0', c1', c0', i1', z0', b8_nat]
  refine slenE ?_
  simp only [pu', p0', c1', c0', i1', z0', b8_nat]
  refine ssub ?_
  simp only [pu', p0', c1', c0', i1', z0', b8_nat]
  refine sNe (fun hb => ?_) (fun hb => ?_)
  replace hb := dT' hb
  (exfalso; omega)
  replace hb := dF' hb
  simp only [pu', p0', c1', c0', i1', z0', b8_nat]
  refine spickF ?_
  simp only [pu', p0', c1', c0', i1', z0', b8_nat]
  refine smove ?_
  simp only [pu', p0', c1', c0', i1', z0', b8_nat]
  refine smove ?_
  simp only [pu', p0', c1', c0', i1', z0', b8_nat]
  refine smove ?_
  simp only [pu', p0', c1', c0', i1', z0', b8_nat]
  refine sM (hx := rfl) (c18 _ (.sl i3 0 A.length A.length false) z inferInstance inferInstance) ?_
  simp only [pu', p0', c1', c0', i1', z0', b8_nat]
  refine snotT ?_
  simp only [pu', p0', c1', c0', i1', z0', b8_nat]
  refine spickF ?_
  simp only [pu', p0', c1', c0', i1', z0', b8_nat]
  refine smove ?_
  simp only [pu', p0', c1', c0', i1', z0', b8_nat]
  refine smove ?_
  simp only [pu', p0', c1', c0', i1', z0', b8_nat]
  refine sLt (fun hb => ?_) (fun hb => ?_)
  replace hb := dT' hb
  (exfalso; omega)
  replace hb := dF' hb
  simp only [pu', p0', c1', c0', i1', z0', b8_nat]
  refine spickF ?_
  simp only [pu', p0', c1', c0', i1', z0', b8_nat]
  refine smove ?_
  simp only [pu', p0', c1', c0', i1', z0', b8_nat]
  refine smove ?_
  simp only [pu', p0', c1', c0', i1', z0', b8_nat]
  refine smove ?_
  simp only [pu', p0', c1', c0', i1', z0', b8_nat]
  refine sGt (fun hb => ?_) (fun hb => ?_)
  replace hb := dT' hb
  (exfalso; omega)
  replace hb := dF' hb
  simp only [pu', p0', c1', c0', i1', z0', b8_nat]
  refine spickF ?_
  simp only [pu', p0', c1', c0', i1', z0', b8_nat]
  refine smove ?_
  simp only [pu', p0', c1', c0', i1', z0', b8_nat]
  refine smove ?_
  simp only [pu', p0', c1', c0', i1', z0', b8_nat]
  refine sGt (fun hb => ?_) (fun hb => ?_)
  replace hb := dT' hb
  (exfalso; omega)
  replace hb := dF' hb
  simp only [pu', p0', c1', c0', i1', z0', b8_nat]
  refine spickF ?_
  simp only [pu', p0', c1', c0', i1', z0', b8_nat]
  with_reducible refine s_end ?_
  with_reducible refine s_then ?_
  refine sCF ?_
  with_reducible refine s_skip ?_
  with_reducible refine s_then ?_
  with_reducible refine s_seq ?_
  with_reducible refine s_reg ?_
  refine sassign ?_
  simp only [pu', p0', c1', c0', i1', z0', b8_nat]
  refine sassign ?_
  simp only [pu', p0', c1', c0', i1', z0', b8_nat]
  with_reducible refine s_end ?_
  with_reducible refine s_then ?_
  with_reducible refine s_seq ?_
  with_reducible refine s_seq ?_
  with_reducible refine s_reg ?_
  refine sassign ?_
  simp only [pu', p0', c1', c0', i1', z0', b8_nat]
  with_reducible refine s_end ?_
  with_reducible refine s_then ?_
  with_reducible refine s_block ?_
  obtain ⟨zA, hzA⟩ : ∃ zA, zA = AV.sl i1 0 l.length l.length false := ⟨_, rfl⟩
  obtain ⟨zB, hzB⟩ : ∃ zB, zB = AV.sl i2 0 (l.length - 1) (l.length - 1) false := ⟨_, rfl⟩
  have pzA : SlC zA := by rw [hzA]; infer_instance
  have pzB : SlC zB := by rw [hzB]; infer_instance
  rw [← hzA] at iW
  rw [← hzB] at iL
  refine s_loop hm (fun (b : Nat) s' => [s' 0, s' 1, s' 2, B true, z, s' 5, zA, s' 7, zB, s' 9, s' 10, s' 11, I (g + 1 - la), I g, s' 14, I (sumW (A.take b)), I (grt (l.take b)), I b, s' 18, s' 19, s' 20, s' 21, s' 22, s' 23, s' 24, s' 25, s' 26, s' 27, s' 28, s' 29, s' 30, s' 31, s' 32, s' 33, s' 34, s' 35, s' 36, s' 37, s' 38, s' 39, s' 40, s' 41, s' 42, s' 43, s' 44, s' 45, s' 46, s' 47, s' 48, s' 49, s' 50, s' 51, s' 52, s' 53, s' 54, s' 55, s' 56, s' 57, s' 58, s' 59, s' 60, s' 61, s' 62, s' 63, s' 64, s' 65, s' 66, s' 67, s' 68, s' 69, s' 70, s' 71, s' 72, s' 73, s' 74, s' 75, s' 76, s' 77, s' 78, s' 79, s' 80, s' 81, s' 82, s' 83, s' 84, s' 85, s' 86, s' 87, s' 88, s' 89, s' 90, s' 91, s' 92, s' 93, s' 94, s' 95, s' 96, s' 97, s' 98, s' 99, s' 100, s' 101, s' 102, s' 103, s' 104, s' 105, s' 106, s' 107, s' 108, s' 109, s' 110, s' 111, s' 112, s' 113, s' 114, s' 115, s' 116, s' 117, s' 118, s' 119, s' 120, s' 121, s' 122, s' 123, s' 124, s' 125, s' 126, s' 127, s' 128, s' 129, s' 130, s' 131, s' 132, s' 133, s' 134, s' 135, s' 136, s' 137, s' 138, s' 139, s' 140, s' 141, s' 142, s' 143, s' 144, s' 145, s' 146, s' 147, s' 148, s' 149, s' 150, s' 151, s' 152, s' 153, s' 154, s' 155, s' 156, s' 157, s' 158, s' 159, s' 160, s' 161, s' 162, s' 163, s' 164, s' 165, s' 166, s' 167, s' 168, s' 169, s' 170, s' 171, s' 172, s' 173]) (fun _ => m23) (fun b => b ≤ l.length) (fun b => l.length - b) 0 (by rw [hzA, hzB]; rfl) rfl (Nat.zero_le _) ?_
  clear iN c23 c19 c18
  intro i s' hi
  have hsbi := hsb i hi
  have hgbi := hgb i
  by_cases hil : i < l.length
  · have hst := hst i (by omega)
    have hgs := hgs i hil
    have hwi := hwi i hil
    have hbi := hbl i hil
    have hw1 : i < l.length - 1 → A.getD i 0 = Ls.getD i 0 := hwl1 i
    have hpw := pow2_le (a := (A.getD i 0 - 1).toNat) (b := 11) (by omega)
    have hpw1 := two_pos (A.getD i 0 - 1).toNat
    generalize sumW (A.take i) = sm at *
    generalize grt (l.take i) = gm at *
    by_cases hz : A.getD i 0 = 0
    · rw [if_pos hz] at hst
      rw [Int.add_zero] at hst
      focus
        with_reducible refine s_seq ?_
        with_reducible refine s_seq ?_
        with_reducible refine s_reg ?_
        refine smove ?_
        simp only [pu', p0', c1', c0', i1', z0', b8_nat]
        refine smove ?_
        simp only [pu', p0', c1', c0', i1', z0', b8_nat]
        refine slenE ?_
        simp only [pu', p0', c1', c0', i1', z0', b8_nat]
        refine sLt (fun hb => ?_) (fun hb => ?_)
        replace hb := dT' hb
        simp only [pu', p0', c1', c0', i1', z0', b8_nat]
        with_reducible refine s_end ?_
        with_reducible refine s_then ?_
        refine sCT ?_
        with_reducible refine s_skip ?_
        with_reducible refine s_then ?_
        with_reducible refine s_seq ?_
        with_reducible refine s_block ?_
        with_reducible refine s_seq ?_
        with_reducible refine s_seq ?_
        (refine s_regQ (id := 15) [(0, true), (1, true), (2, true), (3, true), (4, true), (5, true), (6, true), (7, true), (8, true), (9, true), (10, true), (11, true), (12, true), (13, true), (14, true), (15, true), (16, true), (17, true), (18, true), (19, true), (20, true), (21, true), (22, true), (23, true), (24, true), (25, true), (26, true), (27, true), (28, true)] (by kernel_rfl) (by conv => lhs; simp only [pickO, List.getElem?_cons_succ, List.getElem?_cons_zero]) ?_)
        refine qmove ?_
        simp only [pu', p0', c1', c0', i1', z0', b8_nat]
        refine qmove ?_
        simp only [pu', p0', c1', c0', i1', z0', b8_nat]
        refine qidxE ?_
        simp only [pu', p0', c1', c0', i1', z0', b8_nat]
        refine qloadE1 ?_
        simp only [pu', p0', c1', c0', i1', z0', b8_nat]
        refine qLt (fun hb => ?_) (fun hb => ?_)
        replace hb := dT' hb
        (exfalso; omega)
        replace hb := dF' hb
        simp only [pu', p0', c1', c0', i1', z0', b8_nat]
        refine qmove ?_
        simp only [pu', p0', c1', c0', i1', z0', b8_nat]
        refine qmove ?_
        simp only [pu', p0', c1', c0', i1', z0', b8_nat]
        refine qmove ?_
        simp only [pu', p0', c1', c0', i1', z0', b8_nat]
        refine qidxE ?_
        simp only [pu', p0', c1', c0', i1', z0', b8_nat]
        refine qloadE1 ?_
        simp only [pu', p0', c1', c0', i1', z0', b8_nat]
        refine qGt (fun hb => ?_) (fun hb => ?_)
        replace hb := dT' hb
        (exfalso; omega)
        replace hb := dF' hb
        simp only [pu', p0', c1', c0', i1', z0', b8_nat]
        refine qpickF ?_
        simp only [pu', p0', c1', c0', i1', z0', b8_nat]
        refine qmove ?_
        simp only [pu', p0', c1', c0', i1', z0', b8_nat]
        refine qmove ?_
        simp only [pu', p0', c1', c0', i1', z0', b8_nat]
        refine qmove ?_
        simp only [pu', p0', c1', c0', i1', z0', b8_nat]
        refine qlenE ?_
        simp only [pu', p0', c1', c0', i1', z0', b8_nat]
        refine qLt (fun hb => ?_) (fun hb => ?_)
        replace hb := dT' hb
        simp only [pu', p0', c1', c0', i1', z0', b8_nat]
        refine qmove ?_
        simp only [pu', p0', c1', c0', i1', z0', b8_nat]
        refine qmove ?_
        simp only [pu', p0', c1', c0', i1', z0', b8_nat]
        refine qmove ?_
        simp only [pu', p0', c1', c0', i1', z0', b8_nat]
        refine qidxE ?_
        simp only [pu', p0', c1', c0', i1', z0', b8_nat]
        refine qloadE1 ?_
        simp only [pu', p0', c1', c0', i1', z0', b8_nat]
        refine qmove ?_
        simp only [pu', p0', c1', c0', i1', z0', b8_nat]
        refine qmove ?_
        simp only [pu', p0', c1', c0', i1', z0', b8_nat]
        refine qidxE ?_
        simp only [pu', p0', c1', c0', i1', z0', b8_nat]
        refine qloadE1 ?_
        simp only [pu', p0', c1', c0', i1', z0', b8_nat]
        refine qNe (fun hb => ?_) (fun hb => ?_)
        replace hb := dT' hb
        (exfalso; omega)
        replace hb := dF' hb
        simp only [pu', p0', c1', c0', i1', z0', b8_nat]
        refine qpickT ?_
        simp only [pu', p0', c1', c0', i1', z0', b8_nat]
        refine qpickF ?_
        simp only [pu', p0', c1', c0', i1', z0', b8_nat]
        with_reducible refine q_end ?_
        with_reducible refine s_then ?_
        refine sCF ?_
        with_reducible refine s_skip ?_
        with_reducible refine s_then ?_
        with_reducible refine s_seq ?_
        with_reducible refine s_reg ?_
        refine smove ?_
        simp only [pu', p0', c1', c0', i1', z0', b8_nat]
        refine smove ?_
        simp only [pu', p0', c1', c0', i1', z0', b8_nat]
        refine smove ?_
        simp only [pu', p0', c1', c0', i1', z0', b8_nat]
        refine sidxE ?_
        simp only [pu', p0', c1', c0', i1', z0', b8_nat]
        refine sloadE1 ?_
        simp only [pu', p0', c1', c0', i1', z0', b8_nat]
        refine smax ?_
        simp only [pu', p0', c1', c0', i1', z0', b8_nat]
        refine sassign ?_
        simp only [pu', p0', c1', c0', i1', z0', b8_nat]
        with_reducible refine s_end ?_
        with_reducible refine s_then ?_
        with_reducible refine s_seq ?_
        with_reducible refine s_reg ?_
        refine smove ?_
        simp only [pu', p0', c1', c0', i1', z0', b8_nat]
        refine smove ?_
        simp only [pu', p0', c1', c0', i1', z0', b8_nat]
        refine sidxE ?_
        simp only [pu', p0', c1', c0', i1', z0', b8_nat]
        refine sloadE1 ?_
        simp only [pu', p0', c1', c0', i1', z0', b8_nat]
        refine sGt (fun hb => ?_) (fun hb => ?_)
        replace hb := dT' hb
        (exfalso; omega)
        replace hb := dF' hb
        simp only [pu', p0', c1', c0', i1', z0', b8_nat]
        with_reducible refine s_end ?_
        with_reducible refine s_then ?_
        refine sCF ?_
        with_reducible refine s_skip ?_
        with_reducible refine s_blkN ?_
        with_reducible refine s_then ?_
        with_reducible refine s_reg ?_
        refine smove ?_
        simp only [pu', p0', c1', c0', i1', z0', b8_nat]
        refine sadd ?_
        simp only [pu', p0', c1', c0', i1', z0', b8_nat]
        refine sassign ?_
        simp only [pu', p0', c1', c0', i1', z0', b8_nat]
        with_reducible refine s_end ?_
        rotate_left 1
        replace hb := dF' hb
        simp only [pu', p0', c1', c0', i1', z0', b8_nat]
        refine qmove ?_
        simp only [pu', p0', c1', c0', i1', z0', b8_nat]
        (with_reducible refine q_gN ?_ ?_; exact wG rfl rfl rfl rfl rfl)
        simp only [pu', p0', c1', c0', i1', z0', b8_nat]
        (with_reducible refine q_gN ?_ ?_; exact wG rfl rfl rfl rfl rfl)
        simp only [pu', p0', c1', c0', i1', z0', b8_nat]
        (with_reducible refine q_gN ?_ ?_; exact wG rfl rfl rfl rfl rfl)
        simp only [pu', p0', c1', c0', i1', z0', b8_nat]
        (with_reducible refine q_gN ?_ ?_; exact wG rfl rfl rfl rfl rfl)
        simp only [pu', p0', c1', c0', i1', z0', b8_nat]
        (with_reducible refine q_gN ?_ ?_; exact wG rfl rfl rfl rfl rfl)
        simp only [pu', p0', c1', c0', i1', z0', b8_nat]
        (with_reducible refine q_gN ?_ ?_; exact wG rfl rfl rfl rfl rfl)
        simp only [pu', p0', c1', c0', i1', z0', b8_nat]
        (with_reducible refine q_gN ?_ ?_; exact wG rfl rfl rfl rfl rfl)
        simp only [pu', p0', c1', c0', i1', z0', b8_nat]
        (with_reducible refine q_gN ?_ ?_; exact wG rfl rfl rfl rfl rfl)
        simp only [pu', p0', c1', c0', i1', z0', b8_nat]
        (with_reducible refine q_gN ?_ ?_; exact wG rfl rfl rfl rfl rfl)
        simp only [pu', p0', c1', c0', i1', z0', b8_nat]
        refine qpickF ?_
        simp only [pu', p0', c1', c0', i1', z0', b8_nat]
        refine qpickF ?_
        simp only [pu', p0', c1', c0', i1', z0', b8_nat]
        with_reducible refine q_end ?_
        with_reducible refine s_then ?_
        refine sCF ?_
        with_reducible refine s_skip ?_
        with_reducible refine s_then ?_
        with_reducible refine s_seq ?_
        with_reducible refine s_reg ?_
        refine smove ?_
        simp only [pu', p0', c1', c0', i1', z0', b8_nat]
        refine smove ?_
        simp only [pu', p0', c1', c0', i1', z0', b8_nat]
        refine smove ?_
        simp only [pu', p0', c1', c0', i1', z0', b8_nat]
        refine sidxE ?_
        simp only [pu', p0', c1', c0', i1', z0', b8_nat]
        refine sloadE1 ?_
        simp only [pu', p0', c1', c0', i1', z0', b8_nat]
        refine smax ?_
        simp only [pu', p0', c1', c0', i1', z0', b8_nat]
        refine sassign ?_
        simp only [pu', p0', c1', c0', i1', z0', b8_nat]
        with_reducible refine s_end ?_
        with_reducible refine s_then ?_
        with_reducible refine s_seq ?_
        with_reducible refine s_reg ?_
        refine smove ?_
        simp only [pu', p0', c1', c0', i1', z0', b8_nat]
        refine smove ?_
        simp only [pu', p0', c1', c0', i1', z0', b8_nat]
        refine sidxE ?_
        simp only [pu', p0', c1', c0', i1', z0', b8_nat]
        refine sloadE1 ?_
        simp only [pu', p0', c1', c0', i1', z0', b8_nat]
        refine sGt (fun hb => ?_) (fun hb => ?_)
        replace hb := dT' hb
        (exfalso; omega)
        replace hb := dF' hb
        simp only [pu', p0', c1', c0', i1', z0', b8_nat]
        with_reducible refine s_end ?_
        with_reducible refine s_then ?_
        refine sCF ?_
        with_reducible refine s_skip ?_
        with_reducible refine s_blkN ?_
        with_reducible refine s_then ?_
        with_reducible refine s_reg ?_
        refine smove ?_
        simp only [pu', p0', c1', c0', i1', z0', b8_nat]
        refine sadd ?_
        simp only [pu', p0', c1', c0', i1', z0', b8_nat]
        refine sassign ?_
        simp only [pu', p0', c1', c0', i1', z0', b8_nat]
        with_reducible refine s_end ?_
        rotate_left 1
        replace hb := dF' hb
        (exfalso; omega)
      all_goals
        refine l_next (i + 1) (by omega) (by omega) (by rw [hst, hgs]; rfl) rfl
    · rw [if_neg hz] at hst
      focus
        with_reducible refine s_seq ?_
        with_reducible refine s_seq ?_
        with_reducible refine s_reg ?_
        refine smove ?_
        simp only [pu', p0', c1', c0', i1', z0', b8_nat]
        refine smove ?_
        simp only [pu', p0', c1', c0', i1', z0', b8_nat]
        refine slenE ?_
        simp only [pu', p0', c1', c0', i1', z0', b8_nat]
        refine sLt (fun hb => ?_) (fun hb => ?_)
        replace hb := dT' hb
        simp only [pu', p0', c1', c0', i1', z0', b8_nat]
        with_reducible refine s_end ?_
        with_reducible refine s_then ?_
        refine sCT ?_
        with_reducible refine s_skip ?_
        with_reducible refine s_then ?_
        with_reducible refine s_seq ?_
        with_reducible refine s_block ?_
        with_reducible refine s_seq ?_
        with_reducible refine s_seq ?_
        (refine s_regQ (id := 15) [(0, true), (1, true), (2, true), (3, true), (4, true), (5, true), (6, true), (7, true), (8, true), (9, true), (10, true), (11, true), (12, true), (13, true), (14, true), (15, true), (16, true), (17, true), (18, true), (19, true), (20, true), (21, true), (22, true), (23, true), (24, true), (25, true), (26, true), (27, true), (28, true)] (by kernel_rfl) (by conv => lhs; simp only [pickO, List.getElem?_cons_succ, List.getElem?_cons_zero]) ?_)
        refine qmove ?_
        simp only [pu', p0', c1', c0', i1', z0', b8_nat]
        refine qmove ?_
        simp only [pu', p0', c1', c0', i1', z0', b8_nat]
        refine qidxE ?_
        simp only [pu', p0', c1', c0', i1', z0', b8_nat]
        refine qloadE1 ?_
        simp only [pu', p0', c1', c0', i1', z0', b8_nat]
        refine qLt (fun hb => ?_) (fun hb => ?_)
        replace hb := dT' hb
        (exfalso; omega)
        replace hb := dF' hb
        simp only [pu', p0', c1', c0', i1', z0', b8_nat]
        refine qmove ?_
        simp only [pu', p0', c1', c0', i1', z0', b8_nat]
        refine qmove ?_
        simp only [pu', p0', c1', c0', i1', z0', b8_nat]
        refine qmove ?_
        simp only [pu', p0', c1', c0', i1', z0', b8_nat]
        refine qidxE ?_
        simp only [pu', p0', c1', c0', i1', z0', b8_nat]
        refine qloadE1 ?_
        simp only [pu', p0', c1', c0', i1', z0', b8_nat]
        refine qGt (fun hb => ?_) (fun hb => ?_)
        replace hb := dT' hb
        (exfalso; omega)
        replace hb := dF' hb
        simp only [pu', p0', c1', c0', i1', z0', b8_nat]
        refine qpickF ?_
        simp only [pu', p0', c1', c0', i1', z0', b8_nat]
        refine qmove ?_
        simp only [pu', p0', c1', c0', i1', z0', b8_nat]
        refine qmove ?_
        simp only [pu', p0', c1', c0', i1', z0', b8_nat]
        refine qmove ?_
        simp only [pu', p0', c1', c0', i1', z0', b8_nat]
        refine qlenE ?_
        simp only [pu', p0', c1', c0', i1', z0', b8_nat]
        refine qLt (fun hb => ?_) (fun hb => ?_)
        replace hb := dT' hb
        simp only [pu', p0', c1', c0', i1', z0', b8_nat]
        refine qmove ?_
        simp only [pu', p0', c1', c0', i1', z0', b8_nat]
        refine qmove ?_
        simp only [pu', p0', c1', c0', i1', z0', b8_nat]
        refine qmove ?_
        simp only [pu', p0', c1', c0', i1', z0', b8_nat]
        refine qidxE ?_
        simp only [pu', p0', c1', c0', i1', z0', b8_nat]
        refine qloadE1 ?_
        simp only [pu', p0', c1', c0', i1', z0', b8_nat]
        refine qmove ?_
        simp only [pu', p0', c1', c0', i1', z0', b8_nat]
        refine qmove ?_
        simp only [pu', p0', c1', c0', i1', z0', b8_nat]
        refine qidxE ?_
        simp only [pu', p0', c1', c0', i1', z0', b8_nat]
        refine qloadE1 ?_
        simp only [pu', p0', c1', c0', i1', z0', b8_nat]
        refine qNe (fun hb => ?_) (fun hb => ?_)
        replace hb := dT' hb
        (exfalso; omega)
        replace hb := dF' hb
        simp only [pu', p0', c1', c0', i1', z0', b8_nat]
        refine qpickT ?_
        simp only [pu', p0', c1', c0', i1', z0', b8_nat]
        refine qpickF ?_
        simp only [pu', p0', c1', c0', i1', z0', b8_nat]
        with_reducible refine q_end ?_
        with_reducible refine s_then ?_
        refine sCF ?_
        with_reducible refine s_skip ?_
        with_reducible refine s_then ?_
        with_reducible refine s_seq ?_
        with_reducible refine s_reg ?_
        refine smove ?_
        simp only [pu', p0', c1', c0', i1', z0', b8_nat]
        refine smove ?_
        simp only [pu', p0', c1', c0', i1', z0', b8_nat]
        refine smove ?_
        simp only [pu', p0', c1', c0', i1', z0', b8_nat]
        refine sidxE ?_
        simp only [pu', p0', c1', c0', i1', z0', b8_nat]
        refine sloadE1 ?_
        simp only [pu', p0', c1', c0', i1', z0', b8_nat]
        refine smax ?_
        simp only [pu', p0', c1', c0', i1', z0', b8_nat]
        refine sassign ?_
        simp only [pu', p0', c1', c0', i1', z0', b8_nat]
        with_reducible refine s_end ?_
        with_reducible refine s_then ?_
        with_reducible refine s_seq ?_
        with_reducible refine s_reg ?_
        refine smove ?_
        simp only [pu', p0', c1', c0', i1', z0', b8_nat]
        refine smove ?_
        simp only [pu', p0', c1', c0', i1', z0', b8_nat]
        refine sidxE ?_
        simp only [pu', p0', c1', c0', i1', z0', b8_nat]
        refine sloadE1 ?_
        simp only [pu', p0', c1', c0', i1', z0', b8_nat]
        refine sGt (fun hb => ?_) (fun hb => ?_)
        replace hb := dT' hb
        simp only [pu', p0', c1', c0', i1', z0', b8_nat]
        with_reducible refine s_end ?_
        with_reducible refine s_then ?_
        refine sCT ?_
        with_reducible refine s_reg ?_
        refine smove ?_
        simp only [pu', p0', c1', c0', i1', z0', b8_nat]
        refine smove ?_
        simp only [pu', p0', c1', c0', i1', z0', b8_nat]
        refine smove ?_
        simp only [pu', p0', c1', c0', i1', z0', b8_nat]
        refine sidxE ?_
        simp only [pu', p0', c1', c0', i1', z0', b8_nat]
        refine sloadE1 ?_
        simp only [pu', p0', c1', c0', i1', z0', b8_nat]
        refine ssub ?_
        simp only [pu', p0', c1', c0', i1', z0', b8_nat]
        refine sconv ?_
        simp only [pu', p0', c1', c0', i1', z0', b8_nat]
        refine sshl1 ?_
        simp only [pu', p0', c1', c0', i1', z0', b8_nat]
        refine sadd ?_
        simp only [pu', p0', c1', c0', i1', z0', b8_nat]
        refine sassign ?_
        simp only [pu', p0', c1', c0', i1', z0', b8_nat]
        with_reducible refine s_end ?_
        with_reducible refine s_blkN ?_
        with_reducible refine s_then ?_
        with_reducible refine s_reg ?_
        refine smove ?_
        simp only [pu', p0', c1', c0', i1', z0', b8_nat]
        refine sadd ?_
        simp only [pu', p0', c1', c0', i1', z0', b8_nat]
        refine sassign ?_
        simp only [pu', p0', c1', c0', i1', z0', b8_nat]
        with_reducible refine s_end ?_
        rotate_left 1
        replace hb := dF' hb
        (exfalso; omega)
        replace hb := dF' hb
        simp only [pu', p0', c1', c0', i1', z0', b8_nat]
        refine qmove ?_
        simp only [pu', p0', c1', c0', i1', z0', b8_nat]
        (with_reducible refine q_gN ?_ ?_; exact wG rfl rfl rfl rfl rfl)
        simp only [pu', p0', c1', c0', i1', z0', b8_nat]
        (with_reducible refine q_gN ?_ ?_; exact wG rfl rfl rfl rfl rfl)
        simp only [pu', p0', c1', c0', i1', z0', b8_nat]
        (with_reducible refine q_gN ?_ ?_; exact wG rfl rfl rfl rfl rfl)
        simp only [pu', p0', c1', c0', i1', z0', b8_nat]
        (with_reducible refine q_gN ?_ ?_; exact wG rfl rfl rfl rfl rfl)
        simp only [pu', p0', c1', c0', i1', z0', b8_nat]
        (with_reducible refine q_gN ?_ ?_; exact wG rfl rfl rfl rfl rfl)
        simp only [pu', p0', c1', c0', i1', z0', b8_nat]
        (with_reducible refine q_gN ?_ ?_; exact wG rfl rfl rfl rfl rfl)
        simp only [pu', p0', c1', c0', i1', z0', b8_nat]
        (with_reducible refine q_gN ?_ ?_; exact wG rfl rfl rfl rfl rfl)
        simp only [pu', p0', c1', c0', i1', z0', b8_nat]
        (with_reducible refine q_gN ?_ ?_; exact wG rfl rfl rfl rfl rfl)
        simp only [pu', p0', c1', c0', i1', z0', b8_nat]
        (with_reducible refine q_gN ?_ ?_; exact wG rfl rfl rfl rfl rfl)
        simp only [pu', p0', c1', c0', i1', z0', b8_nat]
        refine qpickF ?_
        simp only [pu', p0', c1', c0', i1', z0', b8_nat]
        refine qpickF ?_
        simp only [pu', p0', c1', c0', i1', z0', b8_nat]
        with_reducible refine q_end ?_
        with_reducible refine s_then ?_
        refine sCF ?_
        with_reducible refine s_skip ?_
        with_reducible refine s_then ?_
        with_reducible refine s_seq ?_
        with_reducible refine s_reg ?_
        refine smove ?_
        simp only [pu', p0', c1', c0', i1', z0', b8_nat]
        refine smove ?_
        simp only [pu', p0', c1', c0', i1', z0', b8_nat]
        refine smove ?_
        simp only [pu', p0', c1', c0', i1', z0', b8_nat]
        refine sidxE ?_
        simp only [pu', p0', c1', c0', i1', z0', b8_nat]
        refine sloadE1 ?_
        simp only [pu', p0', c1', c0', i1', z0', b8_nat]
        refine smax ?_
        simp only [pu', p0', c1', c0', i1', z0', b8_nat]
        refine sassign ?_
        simp only [pu', p0', c1', c0', i1', z0', b8_nat]
        with_reducible refine s_end ?_
        with_reducible refine s_then ?_
        with_reducible refine s_seq ?_
        with_reducible refine s_reg ?_
        refine smove ?_
        simp only [pu', p0', c1', c0', i1', z0', b8_nat]
        refine smove ?_
        simp only [pu', p0', c1', c0', i1', z0', b8_nat]
        refine sidxE ?_
        simp only [pu', p0', c1', c0', i1', z0', b8_nat]
        refine sloadE1 ?_
        simp only [pu', p0', c1', c0', i1', z0', b8_nat]
        refine sGt (fun hb => ?_) (fun hb => ?_)
        replace hb := dT' hb
        simp only [pu', p0', c1', c0', i1', z0', b8_nat]
        with_reducible refine s_end ?_
        with_reducible refine s_then ?_
        refine sCT ?_
        with_reducible refine s_reg ?_
        refine smove ?_
        simp only [pu', p0', c1', c0', i1', z0', b8_nat]
        refine smove ?_
        simp only [pu', p0', c1', c0', i1', z0', b8_nat]
        refine smove ?_
        simp only [pu', p0', c1', c0', i1', z0', b8_nat]
        refine sidxE ?_
        simp only [pu', p0', c1', c0', i1', z0', b8_nat]
        refine sloadE1 ?_
        simp only [pu', p0', c1', c0', i1', z0', b8_nat]
        refine ssub ?_
        simp only [pu', p0', c1', c0', i1', z0', b8_nat]
        refine sconv ?_
        simp only [pu', p0', c1', c0', i1', z0', b8_nat]
        refine sshl1 ?_
        simp only [pu', p0', c1', c0', i1', z0', b8_nat]
        refine sadd ?_
        simp only [pu', p0', c1', c0', i1', z0', b8_nat]
        refine sassign ?_
        simp only [pu', p0', c1', c0', i1', z0', b8_nat]
        with_reducible refine s_end ?_
        with_reducible refine s_blkN ?_
        with_reducible refine s_then ?_
        with_reducible refine s_reg ?_
        refine smove ?_
        simp only [pu', p0', c1', c0', i1', z0', b8_nat]
        refine sadd ?_
        simp only [pu', p0', c1', c0', i1', z0', b8_nat]
        refine sassign ?_
        simp only [pu', p0', c1', c0', i1', z0', b8_nat]
        with_reducible refine s_end ?_
        rotate_left 1
        replace hb := dF' hb
        (exfalso; omega)
        replace hb := dF' hb
        (exfalso; omega)
      all_goals
        refine l_next (i + 1) (by omega) (by omega) (by rw [hst, hgs]; rfl) rfl
  · have hie : i = l.length := by omega
    subst hie
    rw [← hgt, List.take_of_length_le (by omega), hsum]
    have hpe : pw g = 2 ^ g.toNat := rfl
    have hwe2 : A.getD ((A.length : Int) - 1).toNat 0 = g + 1 - la := by rw [show ((A.length : Int) - 1).toNat = l.length - 1 by omega]; exact hwe
    have hwe' : A.getD ((l.length : Int) - 1).toNat 0 = g + 1 - la := by rw [show ((l.length : Int) - 1).toNat = l.length - 1 by omega]; exact hwe
    focus
      with_reducible refine s_seq ?_
      with_reducible refine s_seq ?_
      with_reducible refine s_reg ?_
      refine smove ?_
      simp only [pu', p0', c1', c0', i1', z0', b8_nat]
      refine smove ?_
      simp only [pu', p0', c1', c0', i1', z0', b8_nat]
      refine slenE ?_
      simp only [pu', p0', c1', c0', i1', z0', b8_nat]
      refine sLt (fun hb => ?_) (fun hb => ?_)
      replace hb := dT' hb
      (exfalso; omega)
      replace hb := dF' hb
      simp only [pu', p0', c1', c0', i1', z0', b8_nat]
      with_reducible refine s_end ?_
      with_reducible refine s_then ?_
      refine sCF ?_
      with_reducible refine s_exit ?_
      with_reducible refine s_thenE ?_
      with_reducible refine l_exit ?_
      with_reducible refine s_blkE ?_
      with_reducible refine s_then ?_
      with_reducible refine s_seq ?_
      with_reducible refine s_reg ?_
      refine smove ?_
      simp only [pu', p0', c1', c0', i1', z0', b8_nat]
      refine smove ?_
      simp only [pu', p0', c1', c0', i1', z0', b8_nat]
      refine smove ?_
      simp only [pu', p0', c1', c0', i1', z0', b8_nat]
      refine smove ?_
      simp only [pu', p0', c1', c0', i1', z0', b8_nat]
      refine sEq (fun hb => ?_) (fun hb => ?_)
      replace hb := dT' hb
      simp only [pu', p0', c1', c0', i1', z0', b8_nat]
      refine spickT ?_
      simp only [pu', p0', c1', c0', i1', z0', b8_nat]
      refine smove ?_
      simp only [pu', p0', c1', c0', i1', z0', b8_nat]
      refine smove ?_
      simp only [pu', p0', c1', c0', i1', z0', b8_nat]
      refine smove ?_
      simp only [pu', p0', c1', c0', i1', z0', b8_nat]
      refine sconv ?_
      simp only [pu', p0', c1', c0', i1', z0', b8_nat]
      refine sshl1 ?_
      simp only [pu', p0', c1', c0', i1', z0', b8_nat]
      refine sEq (fun hb => ?_) (fun hb => ?_)
      replace hb := dT' hb
      simp only [pu', p0', c1', c0', i1', z0', b8_nat]
      refine spickT ?_
      simp only [pu', p0', c1', c0', i1', z0', b8_nat]
      refine smove ?_
      simp only [pu', p0', c1', c0', i1', z0', b8_nat]
      refine smove ?_
      simp only [pu', p0', c1', c0', i1', z0', b8_nat]
      refine smove ?_
      simp only [pu', p0', c1', c0', i1', z0', b8_nat]
      refine slenE ?_
      simp only [pu', p0', c1', c0', i1', z0', b8_nat]
      refine ssub ?_
      simp only [pu', p0', c1', c0', i1', z0', b8_nat]
      refine sidxE ?_
      simp only [pu', p0', c1', c0', i1', z0', b8_nat]
      refine sloadE1 ?_
      simp only [pu', p0', c1', c0', i1', z0', b8_nat]
      refine smove ?_
      simp only [pu', p0', c1', c0', i1', z0', b8_nat]
      refine sEq (fun hb => ?_) (fun hb => ?_)
      replace hb := dT' hb
      simp only [pu', p0', c1', c0', i1', z0', b8_nat]
      refine spickT ?_
      simp only [pu', p0', c1', c0', i1', z0', b8_nat]
      refine sassign ?_
      simp only [pu', p0', c1', c0', i1', z0', b8_nat]
      with_reducible refine s_end ?_
      with_reducible refine s_then ?_
      with_reducible refine s_ret ?_
      rotate_left 1
      replace hb := dF' hb
      exact absurd (by with_reducible assumption) hb
      replace hb := dF' hb
      exact absurd rfl hb
      replace hb := dF' hb
      exact absurd rfl hb
    all_goals
      all_goals try with_reducible refine w_n ?_
      all_goals refine w_1 rfl (by first | exact v_t (by rfl) | exact v_c1 (C1.p) (by rfl) (HA.p) (by rfl) | exact v_cF (CA.p) (by rfl) (HA.p) (by rfl)) ?_
      exact rfl
end Go.Proofs.Ytckljanplahbkaa
