/-
  A part of the proof of a statement of a chapter's seat; conditions: stated at each theorem.
-/
import Derived.Test.YtfcgmkpihmiadaaP51
set_option linter.unusedVariables false
set_option linter.unusedSectionVars false
set_option linter.unusedSimpArgs false
set_option linter.unusedVariables false
set_option maxRecDepth 100000
set_option maxHeartbeats 8000000
namespace Go.Proofs.Ytfcgmkpihmiadaa
open Go.Az Go
theorem fd_53 (a b : Int) : fld Try.prog 53 (.agg [I a, I b]) 0 = some (I a) := by kernel_rfl
structure EnB where
  i : Nat
  q : Pl
  zu : AV
  zw : AV
  zt : AV
  M : List Pc
  G : Hp
/-- A worker that has something to do is picked. -/
theorem end_step {q : Pl} (h : Inv q) {k : Nat} (hk : k < (busyL q).length) : ∃ w : Nat, (busyL q).getD k 0 = w ∧ Inv (pickQ q w false).p ∧ (pickQ q w false).e = 0 ∧ leftN (pickQ q w false).p = leftN q - 1 := by
  obtain ⟨w, h1, h2, h3⟩ := (busyL_mem _).1 (List.getElem_mem hk)
  have s := pickQ_spec h h1 false
  refine ⟨w, by rw [List.getD_eq_getElem?_getD, List.getElem?_eq_getElem hk]; exact h2, s.inv, s.e0, ?_⟩
  have hl := s.left
  rcases s.cs with ⟨g1, g2, g3⟩ | ⟨g1, g2, g3, g4⟩ | ⟨g1, g2, g3, g4⟩
  · rw [h3] at g2; cases g2
  · cases g2
  · rw [if_pos ⟨g1, g2⟩, if_neg (by omega)] at hl; omega
theorem law6 (n : Int) (h : Hp) (sn : AV) (nums : List Int) (sp : AV) (picks : List Int) (sc : AV) (ch : List Int) (hN : Elts (encI .i64) 1 h sn nums) (hP : Elts (encI .i64) 1 h sp picks) (hC : Elts (encI .i64) 1 h sc ch) : ACalls Try.prog 6 [I n, sn, sp, sc] h (fun r _ => r = B true) := by
  have a : EI h sn nums := mkEL iok 0 hN
  have b : EI h sp picks := mkEL iok 0 hP
  have c : EI h sc ch := mkEL iok 0 hC
  have psn := a.p.sl
  have psp := b.p.sl
  have psc := c.p.sl
  have S0 := Sep.nil h
  obtain ⟨p, q, ol, hp, hq, ho, hol, hus, hws, hat, hp0, hlu, hbu, c21, c22⟩ := mk_pool h n sn nums picks sp a b
  have hlq := left_small hq (by rw [hus]; exact hlu) (by rw [hus]; exact hbu)
  obtain ⟨lf, hlf⟩ : ∃ lf : Nat, leftN q = lf := ⟨(leftN q).toNat, by omega⟩
  have c25 : ∀ Y su sw st, EI Y su q.us → EK Y sw q.ws → ET Y st q.ts → ACalls Try.prog 25 [PA su sw st q.out] Y (fun r h' => r = .tup [I lf, I 0] ∧ h' = Y) := fun Y su sw st a b c => by
    have := left25 Y q su sw st a b c (inv_fits hq)
    rw [leftQ, if_pos ((inv_iff q).2 hq), (inv_iff q).2 hq, show min (leftN q) 1099511627776 = lf by omega] at this
    exact this
  have c26 : ∀ (q : Pl) Y L su sw st, Inv q → Sep h Y L → EI Y su q.us → EK Y sw q.ws → ET Y st q.ts → ACalls Try.prog 26 [PA su sw st q.out] Y (fun r h' => ∃ z, r = .tup [z, I 0] ∧ SlC z ∧ Sep h h' (L ++ [WI z (busyL q)])) := fun q Y L su sw st hq S a b c => by
    have := busy26 Y q su sw st a b c (inv_fits hq)
    rw [busyQ, if_pos ((inv_iff q).2 hq), (inv_iff q).2 hq] at this
    exact this.mono fun r h' _ ⟨z, h1, h2, h3⟩ => ⟨z, h1, h2, S.join h3⟩
  have c24 : ∀ (q : Pl) Y su sw st, Inv q → q.out = q.us.length → EI Y su q.us → EK Y sw q.ws → ET Y st q.ts → ACalls Try.prog 24 [PA su sw st q.out] Y (fun r h' => r = .tup [B true, I 0] ∧ h' = Y) := fun q Y su sw st hq ho a b c => by
    have := over24 Y q su sw st a b c (inv_fits hq)
    rwa [overQ, if_pos ((inv_iff q).2 hq), (inv_iff q).2 hq, decide_eq_true ho] at this
  have c13 : ∀ (q : Pl) (w : Nat) Y L su sw st, Inv q → (pickQ q w false).e = 0 → Sep h Y L → EI Y su q.us → EK Y sw q.ws → ET Y st q.ts → ACalls Try.prog 13 [PA su sw st q.out, I w, B false] Y (fun r h' => ∃ yu yw yt yl, r = .tup [PA yu yw yt (pickQ q w false).p.out, I (pickQ q w false).w, yl, I 0] ∧ SlC yu ∧ SlC yw ∧ SlC yt ∧ SlC yl ∧ Sep h h' (L ++ [WI yu (pickQ q w false).p.us, WK yw (pickQ q w false).p.ws, WT yt (pickQ q w false).p.ts, WI yl (pickQ q w false).l])) := fun q w Y L su sw st hq he S a b c =>
    (pick13 Y q su sw st a b c (inv_fits hq) w false).mono fun r h' _ ⟨yu, yw, yt, yl, h1, h2, h3, h4, h5, h6⟩ => ⟨yu, yw, yt, yl, by rw [h1, he], h2, h3, h4, h5, S.join h6⟩
  clear hp hbu hat hol hlu hus ho hws
  obtain ⟨us0, ws0, ts0, out0⟩ := p
  obtain ⟨us1, ws1, ts1, out1⟩ := q
  simp only [] at c21 c22 c25
  have hlf2 : lf ≤ 32 := by omega
  refine ACalls.mono (N := fun r h' => r = B true ∧ h' = h) ?_ fun r h' _ hh => hh.1
  refine acalls_back ?_
  refine acalls_of_wk hm Try.func6 rfl ?_
  simp only [Try.ntmps6, List.length_cons, List.length_nil, Nat.reduceAdd, Nat.reduceSub, List.reduceReplicate, List.cons_append, List.nil_append]
  show wk _ _ none _ _ ⟨_, []⟩ _
  with_reducible refine s_seq ?_
  with_reducible refine s_reg ?_
  refine sassign ?_
  simp only [pu', p0', c1', c0', i1', z0', b8_nat]
  with_reducible refine s_end ?_
  with_reducible refine s_then ?_
  with_reducible refine s_seq ?_
  with_reducible refine s_reg ?_
  refine smove ?_
  simp only [pu', p0', c1', c0', i1', z0', b8_nat]
  refine smove ?_
  simp only [pu', p0', c1', c0', i1', z0', b8_nat]
  refine sC (hx := rfl) ((c21 _ _ inferInstance).mono ?_)
  rintro _ m21 _ ⟨zu, zw, zt, rfl, pzu, pzw, pzt, S1⟩
  simp only [pu', p0', c1', c0', i1', n0', n3', n1', n2', a2', a1', a0', n4', Nat.reduceAdd, z0', n5', sa0, sa1, sa2, sa3, sa4, sa5, sa6, sa7, sa8, sa9, sa10, sa11]
  refine smove ?_
  simp only [pu', p0', c1', c0', i1', z0', b8_nat]
  refine sext ?_
  simp only [pu', p0', c1', c0', i1', z0', b8_nat]
  refine sext ?_
  simp only [pu', p0', c1', c0', i1', z0', b8_nat]
  refine salloc ?_
  simp only [pu', p0', c1', c0', i1', n0', n3', n1', n2', a2', a1', a0', n4', Nat.reduceAdd, z0', n5', sa0, sa1, sa2, sa3, sa4, sa5, sa6, sa7, sa8, sa9, sa10, sa11]
  refine sstoreF ?_
  simp only [pu', p0', c1', c0', i1', n0', n3', n1', n2', a2', a1', a0', n4', Nat.reduceAdd, z0', n5', sa0, sa1, sa2, sa3, sa4, sa5, sa6, sa7, sa8, sa9, sa10, sa11]
  refine sassign ?_
  simp only [pu', p0', c1', c0', i1', z0', b8_nat]
  with_reducible refine s_end ?_
  with_reducible refine s_then ?_
  with_reducible refine s_seq ?_
  with_reducible refine s_reg ?_
  refine sloadW ?_
  simp only [pu', p0', c1', c0', i1', z0', b8_nat]
  refine smove ?_
  simp only [pu', p0', c1', c0', i1', z0', b8_nat]
  refine sC (hx := rfl) ((c22 _ [_] [WI zu us0, WK zw ws0, WT zt ts0] zu zw zt (Sep.perm inferInstance (List.perm_append_comm (l₁ := [_, _, _]) (l₂ := [_]))) inferInstance inferInstance inferInstance).mono ?_)
  rintro _ m22 _ ⟨yu, yw, yt, yl, M, rfl, pyu, pyw, pyt, pyl, S2, qa, qb, qc⟩
  simp only [pu', p0', c1', c0', i1', n0', n3', n1', n2', a2', a1', a0', n4', Nat.reduceAdd, z0', n5', sa0, sa1, sa2, sa3, sa4, sa5, sa6, sa7, sa8, sa9, sa10, sa11]
  refine smove ?_
  simp only [pu', p0', c1', c0', i1', z0', b8_nat]
  refine sext ?_
  simp only [pu', p0', c1', c0', i1', z0', b8_nat]
  refine sext ?_
  simp only [pu', p0', c1', c0', i1', z0', b8_nat]
  refine sext ?_
  simp only [pu', p0', c1', c0', i1', z0', b8_nat]
  refine sstoreF ?_
  simp only [pu', p0', c1', c0', i1', n0', n3', n1', n2', a2', a1', a0', n4', Nat.reduceAdd, z0', n5', sa0, sa1, sa2, sa3, sa4, sa5, sa6, sa7, sa8, sa9, sa10, sa11]
  refine sassign ?_
  simp only [pu', p0', c1', c0', i1', z0', b8_nat]
  refine sassign ?_
  simp only [pu', p0', c1', c0', i1', z0', b8_nat]
  with_reducible refine s_end ?_
  with_reducible refine s_then ?_
  with_reducible refine s_seq ?_
  with_reducible refine s_reg ?_
  refine sloadW ?_
  simp only [pu', p0', c1', c0', i1', z0', b8_nat]
  refine sM (hx := rfl) (c25 _ _ _ _ inferInstance inferInstance inferInstance) ?_
  simp only [pu', p0', c1', c0', i1', z0', b8_nat]
  refine smove ?_
  simp only [pu', p0', c1', c0', i1', z0', b8_nat]
  refine sext ?_
  simp only [pu', p0', c1', c0', i1', z0', b8_nat]
  refine sext ?_
  simp only [pu', p0', c1', c0', i1', z0', b8_nat]
  refine sassign ?_
  simp only [pu', p0', c1', c0', i1', z0', b8_nat]
  refine sassign ?_
  simp only [pu', p0', c1', c0', i1', z0', b8_nat]
  with_reducible refine s_end ?_
  with_reducible refine s_then ?_
  with_reducible refine s_seq ?_
  with_reducible refine s_seq ?_
  with_reducible refine s_reg ?_
  refine smove ?_
  simp only [pu', p0', c1', c0', i1', z0', b8_nat]
  refine snotT ?_
  simp only [pu', p0', c1', c0', i1', z0', b8_nat]
  refine smove ?_
  simp only [pu', p0', c1', c0', i1', z0', b8_nat]
  refine smove ?_
  simp only [pu', p0', c1', c0', i1', z0', b8_nat]
  refine snotT ?_
  simp only [pu', p0', c1', c0', i1', z0', b8_nat]
  refine spickF ?_
  simp only [pu', p0', c1', c0', i1', z0', b8_nat]
  refine smove ?_
  simp only [pu', p0', c1', c0', i1', z0', b8_nat]
  refine smove ?_
  simp only [pu', p0', c1', c0', i1', z0', b8_nat]
  refine sNe (fun hb => ?_) (fun hb => ?_)
  replace hb := dT' hb
  (exfalso; omega)
  replace hb := dF' hb
  simp only [pu', p0', c1', c0', i1', z0', b8_nat]
  refine spickF ?_
  simp only [pu', p0', c1', c0', i1', z0', b8_nat]
  refine smove ?_
  simp only [pu', p0', c1', c0', i1', z0', b8_nat]
  refine smove ?_
  simp only [pu', p0', c1', c0', i1', z0', b8_nat]
  refine sLt (fun hb => ?_) (fun hb => ?_)
  replace hb := dT' hb
  (exfalso; omega)
  replace hb := dF' hb
  simp only [pu', p0', c1', c0', i1', z0', b8_nat]
  refine spickF ?_
  simp only [pu', p0', c1', c0', i1', z0', b8_nat]
  refine smove ?_
  simp only [pu', p0', c1', c0', i1', z0', b8_nat]
  refine smove ?_
  simp only [pu', p0', c1', c0', i1', z0', b8_nat]
  refine sGt (fun hb => ?_) (fun hb => ?_)
  replace hb := dT' hb
  (exfalso; omega)
  replace hb := dF' hb
  simp only [pu', p0', c1', c0', i1', z0', b8_nat]
  refine spickF ?_
  simp only [pu', p0', c1', c0', i1', z0', b8_nat]
  with_reducible refine s_end ?_
  with_reducible refine s_then ?_
  refine sCF ?_
  with_reducible refine s_skip ?_
  with_reducible refine s_then ?_
  with_reducible refine s_seq ?_
  with_reducible refine s_seq ?_
  with_reducible refine s_reg ?_
  refine sassign ?_
  simp only [pu', p0', c1', c0', i1', z0', b8_nat]
  with_reducible refine s_end ?_
  with_reducible refine s_then ?_
  with_reducible refine s_block ?_
  have hm21 : h.length ≤ m21.length := S1.ext.1
  refine s_loop hm (fun (b : EnB) s' => [s' 0, s' 1, s' 2, sc, s' 4, s' 5, s' 6, s' 7, s' 8, .ptr m21.length 0, s' 10, s' 11, s' 12, I lf, s' 14, I b.i, s' 16, s' 17, s' 18, s' 19, s' 20, s' 21, s' 22, s' 23, s' 24, s' 25, s' 26, s' 27, s' 28, s' 29, s' 30, s' 31, s' 32, s' 33, s' 34, s' 35, s' 36, s' 37, s' 38, s' 39, s' 40, s' 41, s' 42, s' 43, s' 44, s' 45, s' 46, s' 47, s' 48, s' 49, s' 50, s' 51, s' 52, s' 53, s' 54, s' 55, s' 56, s' 57, s' 58, s' 59, s' 60, s' 61, s' 62, s' 63, s' 64, s' 65, s' 66, s' 67, s' 68, s' 69, s' 70, s' 71, s' 72, s' 73, s' 74, s' 75, s' 76, s' 77, s' 78, s' 79, s' 80, s' 81, s' 82, s' 83, s' 84, s' 85, s' 86, s' 87, s' 88, s' 89, s' 90, s' 91, s' 92, s' 93, s' 94, s' 95, s' 96, s' 97, s' 98, s' 99, s' 100, s' 101, s' 102, s' 103, s' 104, s' 105, s' 106, s' 107, s' 108, s' 109, s' 110, s' 111, s' 112, s' 113, s' 114, s' 115, s' 116, s' 117, s' 118, s' 119, s' 120]) (fun b => b.G) (fun b => b.i ≤ lf ∧ Inv b.q ∧ leftN b.q = lf - b.i ∧ SlC b.zu ∧ SlC b.zw ∧ SlC b.zt ∧ QI h b.M b.zu b.q.us ∧ QK h b.M b.zw b.q.ws ∧ QT h b.M b.zt b.q.ts ∧ Sep h b.G (pcC m21.length (.cells [b.zu, b.zw, b.zt, I b.q.out] 26 true) :: b.M)) (fun b => lf - b.i) ⟨0, ⟨us1, ws1, ts1, out1⟩, yu, yw, yt, M, _⟩ (by rfl) rfl ⟨Nat.zero_le _, hq, by rw [hlf]; show (lf : Int) = lf - ((0 : Nat) : Int); omega, pyu, pyw, pyt, qa, qb, qc, Sep.sub inferInstance (by repeat' first | exact List.Sublist.refl _ | exact List.sublist_append_left _ _ | exact List.nil_sublist _ | refine List.Sublist.cons_cons _ ?_ | refine List.Sublist.cons _ ?_ | refine List.Sublist.trans ?_ (List.sublist_append_left _ _))⟩ ?_
  clear S1 S2 qa qb qc pyu pyw pyt pzu pzw pzt hq hlf hlq c25 c21 c22
  rintro ⟨i, q, zu, zw, zt, M, G⟩ s' ⟨hi, hq, hlq, pzu, pzw, pzt, am, bm, cm, S1⟩
  simp only [] at hi hq hlq pzu pzw pzt am bm cm S1 ⊢
  by_cases hil : i < lf
  · have hil' : (i : Int) < lf := by omega
    have hno : q.out ≠ q.us.length := fun e => by have := (left_over hq).2 e; omega
    have hb0 : 0 < (busyL q).length := by
      obtain ⟨k, h1, h2⟩ := busy_some hq hno
      have : ((k : Nat) : Int) ∈ busyL q := (busyL_mem _).2 ⟨k, h1, rfl, h2⟩
      exact List.length_pos_of_mem this
    have hbl := idx_len (busyB q) q.ws 0
    rw [show idx (busyB q) q.ws 0 = busyL q from rfl] at hbl
    have hfw := (inv_fits hq).w
    have hst := fun (k : Nat) hk => end_step hq (k := k) hk
    have d26 := fun Y L su sw st => c26 q Y L su sw st hq
    have d13 := fun w Y L su sw st => c13 q w Y L su sw st hq
    generalize busyL q = bl at *
    by_cases hc0 : ch.length = 0
    · obtain ⟨w, hw, hi2, he2, hl2⟩ := hst 0 hb0
      have d13 := fun Y L su sw st => d13 w Y L su sw st he2
      generalize pickQ q w false = r at *
      rw [← hw] at d13
      clear c24 c26 c13 hst
      obtain ⟨⟨us', ws', ts', out'⟩, w', l', e'⟩ := r
      obtain ⟨us, ws, ts, out⟩ := q
      simp only [] at *
      focus
        with_reducible refine s_seq ?_
        with_reducible refine s_seq ?_
        with_reducible refine s_reg ?_
        refine smove ?_
        simp only [pu', p0', c1', c0', i1', z0', b8_nat]
        refine smove ?_
        simp only [pu', p0', c1', c0', i1', z0', b8_nat]
        refine sLt (fun hb => ?_) (fun hb => ?_)
        replace hb := dT' hb
        simp only [pu', p0', c1', c0', i1', z0', b8_nat]
        with_reducible refine s_end ?_
        with_reducible refine s_then ?_
        refine sCT ?_
        with_reducible refine s_skip ?_
        with_reducible refine s_then ?_
        with_reducible refine s_seq ?_
        with_reducible refine s_block ?_
        with_reducible refine s_seq ?_
        with_reducible refine s_reg ?_
        refine sloadW ?_
        simp only [pu', p0', c1', c0', i1', z0', b8_nat]
        refine sC (hx := rfl) ((d26 _ _ zu zw zt inferInstance inferInstance inferInstance inferInstance).mono ?_)
        rintro _ m26 _ ⟨zb, rfl, pzb, S3⟩
        simp only [pu', p0', c1', c0', i1', n0', n3', n1', n2', a2', a1', a0', n4', Nat.reduceAdd, z0', n5', sa0, sa1, sa2, sa3, sa4, sa5, sa6, sa7, sa8, sa9, sa10, sa11]
        refine smove ?_
        simp only [pu', p0', c1', c0', i1', z0', b8_nat]
        refine sext ?_
        simp only [pu', p0', c1', c0', i1', z0', b8_nat]
        refine sext ?_
        simp only [pu', p0', c1', c0', i1', z0', b8_nat]
        refine sassign ?_
        simp only [pu', p0', c1', c0', i1', z0', b8_nat]
        refine sassign ?_
        simp only [pu', p0', c1', c0', i1', z0', b8_nat]
        with_reducible refine s_end ?_
        with_reducible refine s_then ?_
        with_reducible refine s_seq ?_
        with_reducible refine s_seq ?_
        with_reducible refine s_reg ?_
        refine smove ?_
        simp only [pu', p0', c1', c0', i1', z0', b8_nat]
        refine sNe (fun hb => ?_) (fun hb => ?_)
        replace hb := dT' hb
        (exfalso; omega)
        replace hb := dF' hb
        simp only [pu', p0', c1', c0', i1', z0', b8_nat]
        refine smove ?_
        simp only [pu', p0', c1', c0', i1', z0', b8_nat]
        refine smove ?_
        simp only [pu', p0', c1', c0', i1', z0', b8_nat]
        refine slenE ?_
        simp only [pu', p0', c1', c0', i1', z0', b8_nat]
        refine sEq (fun hb => ?_) (fun hb => ?_)
        replace hb := dT' hb
        (exfalso; omega)
        replace hb := dF' hb
        simp only [pu', p0', c1', c0', i1', z0', b8_nat]
        refine spickF ?_
        simp only [pu', p0', c1', c0', i1', z0', b8_nat]
        with_reducible refine s_end ?_
        with_reducible refine s_then ?_
        refine sCF ?_
        with_reducible refine s_skip ?_
        with_reducible refine s_then ?_
        with_reducible refine s_seq ?_
        with_reducible refine s_reg ?_
        refine sassign ?_
        simp only [pu', p0', c1', c0', i1', z0', b8_nat]
        with_reducible refine s_end ?_
        with_reducible refine s_then ?_
        with_reducible refine s_seq ?_
        with_reducible refine s_seq ?_
        with_reducible refine s_reg ?_
        refine smove ?_
        simp only [pu', p0', c1', c0', i1', z0', b8_nat]
        refine slenE ?_
        simp only [pu', p0', c1', c0', i1', z0', b8_nat]
        refine sGt (fun hb => ?_) (fun hb => ?_)
        replace hb := dT' hb
        (exfalso; omega)
        replace hb := dF' hb
        simp only [pu', p0', c1', c0', i1', z0', b8_nat]
        with_reducible refine s_end ?_
        with_reducible refine s_then ?_
        refine sCF ?_
        with_reducible refine s_skip ?_
        with_reducible refine s_then ?_
        with_reducible refine s_seq ?_
        (refine s_regT (id := 15) (.light 0 (.light 1 (.light 2 (.light 3 (.alt 4 [3] (.alt 5 [0, 3] (.light 6 (.light 7 (.light 8 (.light 9 (.light 10 (.alt 11 [0, 3] (.alt 12 [0, 1, 2, 3, 6, 7] (.light 13 (.light 14 (.light 15 (.done)))) (.no)) (.no))))))) (.alt 11 [3] (.alt 5 [0, 3] (.light 6 (.light 7 (.light 8 (.light 9 (.light 10 (.alt 12 [0, 1, 2, 3, 6, 7] (.light 13 (.light 14 (.light 15 (.done)))) (.no))))))) (.no)) (.no))) (.alt 11 [] (.alt 4 [3] (.alt 5 [0, 3] (.light 6 (.light 7 (.light 8 (.light 9 (.light 10 (.alt 12 [0, 1, 2, 3, 6, 7] (.light 13 (.light 14 (.light 15 (.done)))) (.no))))))) (.no)) (.no)) (.no))))))) [4, 5, 11, 12] (by kernel_rfl) (by conv => lhs; simp only [pickT, List.getElem?_cons_succ, List.getElem?_cons_zero]) ?_)
        refine tloadW ?_
        simp only [pu', p0', c1', c0', i1', z0', b8_nat]
        refine tmove ?_
        simp only [pu', p0', c1', c0', i1', z0', b8_nat]
        refine tmove ?_
        simp only [pu', p0', c1', c0', i1', z0', b8_nat]
        refine tidxE ?_
        simp only [pu', p0', c1', c0', i1', z0', b8_nat]
        with_reducible refine u_both ?_ ?_
        refine uloadE1 ?_
        simp only [pu', p0', c1', c0', i1', z0', b8_nat]
        with_reducible refine u_both ?_ ?_
        refine uC (hx := rfl) ((d13 _ _ zu zw zt inferInstance inferInstance inferInstance inferInstance).mono ?_)
        rintro _ m13 _ ⟨xu, xw, xt, xl, rfl, pxu, pxw, pxt, pxl, S4⟩
        refine ⟨(by repeat' first | exact trivial | refine ⟨.inl rfl, ?_⟩ | refine ⟨.inr (ha_same inferInstance inferInstance), ?_⟩), ?_⟩
        simp only [pu', p0', c1', c0', i1', n0', n3', n1', n2', a2', a1', a0', n4', Nat.reduceAdd, z0', n5', sa0, sa1, sa2, sa3, sa4, sa5, sa6, sa7, sa8, sa9, sa10, sa11]
        refine tmove ?_
        simp only [pu', p0', c1', c0', i1', z0', b8_nat]
        refine text ?_
        simp only [pu', p0', c1', c0', i1', z0', b8_nat]
        refine text ?_
        simp only [pu', p0', c1', c0', i1', z0', b8_nat]
        refine text ?_
        simp only [pu', p0', c1', c0', i1', z0', b8_nat]
        refine text ?_
        simp only [pu', p0', c1', c0', i1', z0', b8_nat]
        refine ualloc ?_
        simp only [pu', p0', c1', c0', i1', n0', n3', n1', n2', a2', a1', a0', n4', Nat.reduceAdd, z0', n5', sa0, sa1, sa2, sa3, sa4, sa5, sa6, sa7, sa8, sa9, sa10, sa11]
        refine ustoreF ?_
        simp only [pu', p0', c1', c0', i1', n0', n3', n1', n2', a2', a1', a0', n4', Nat.reduceAdd, z0', n5', sa0, sa1, sa2, sa3, sa4, sa5, sa6, sa7, sa8, sa9, sa10, sa11]
        refine tassign ?_
        simp only [pu', p0', c1', c0', i1', z0', b8_nat]
        refine tassign ?_
        simp only [pu', p0', c1', c0', i1', z0', b8_nat]
        refine tassign ?_
        simp only [pu', p0', c1', c0', i1', z0', b8_nat]
        with_reducible refine t_end ?_
        with_reducible refine s_then ?_
        with_reducible refine s_seq ?_
        with_reducible refine s_seq ?_
        with_reducible refine s_reg ?_
        refine smove ?_
        simp only [pu', p0', c1', c0', i1', z0', b8_nat]
        refine sNe (fun hb => ?_) (fun hb => ?_)
        replace hb := dT' hb
        (exfalso; omega)
        replace hb := dF' hb
        simp only [pu', p0', c1', c0', i1', z0', b8_nat]
        with_reducible refine s_end ?_
        with_reducible refine s_then ?_
        refine sCF ?_
        with_reducible refine s_skip ?_
        with_reducible refine s_then ?_
        with_reducible refine s_reg ?_
        refine sloadW ?_
        simp only [pu', p0', c1', c0', i1', z0', b8_nat]
        refine sstoreF ?_
        simp only [pu', p0', c1', c0', i1', n0', n3', n1', n2', a2', a1', a0', n4', Nat.reduceAdd, z0', n5', sa0, sa1, sa2, sa3, sa4, sa5, sa6, sa7, sa8, sa9, sa10, sa11]
        with_reducible refine s_end ?_
        with_reducible refine s_blkN ?_
        with_reducible refine s_then ?_
        with_reducible refine s_reg ?_
        refine smove ?_
        simp only [pu', p0', c1', c0', i1', z0', b8_nat]
        refine sadd ?_
        simp only [pu', p0', c1', c0', i1', z0', b8_nat]
        refine sassign ?_
        simp only [pu', p0', c1', c0', i1', z0', b8_nat]
        with_reducible refine s_end ?_
        rotate_left 1
        refine ualloc ?_
        simp only [pu', p0', c1', c0', i1', n0', n3', n1', n2', a2', a1', a0', n4', Nat.reduceAdd, z0', n5', sa0, sa1, sa2, sa3, sa4, sa5, sa6, sa7, sa8, sa9, sa10, sa11]
        refine uC (hx := rfl) ((d13 _ _ zu zw zt inferInstance inferInstance inferInstance inferInstance).mono ?_)
        rintro _ m13 _ ⟨xu, xw, xt, xl, rfl, pxu, pxw, pxt, pxl, S4⟩
        refine ⟨(by repeat' first | exact trivial | refine ⟨.inl rfl, ?_⟩ | refine ⟨.inr (ha_same inferInstance inferInstance), ?_⟩), ?_⟩
        simp only [pu', p0', c1', c0', i1', n0', n3', n1', n2', a2', a1', a0', n4', Nat.reduceAdd, z0', n5', sa0, sa1, sa2, sa3, sa4, sa5, sa6, sa7, sa8, sa9, sa10, sa11]
        refine tmove ?_
        simp only [pu', p0', c1', c0', i1', z0', b8_nat]
        refine text ?_
        simp only [pu', p0', c1', c0', i1', z0', b8_nat]
        refine text ?_
        simp only [pu', p0', c1', c0', i1', z0', b8_nat]
        refine text ?_
        simp only [pu', p0', c1', c0', i1', z0', b8_nat]
        refine text ?_
        simp only [pu', p0', c1', c0', i1', z0', b8_nat]
        refine ustoreF ?_
        simp only [pu', p0', c1', c0', i1', n0', n3', n1', n2', a2', a1', a0', n4', Nat.reduceAdd, z0', n5', sa0, sa1, sa2, sa3, sa4, sa5, sa6, sa7, sa8, sa9, sa10, sa11]
        refine tassign ?_
        simp only [pu', p0', c1', c0', i1', z0', b8_nat]
        refine tassign ?_
        simp only [pu', p0', c1', c0', i1', z0', b8_nat]
        refine tassign ?_
        simp only [pu', p0', c1', c0', i1', z0', b8_nat]
        with_reducible refine t_end ?_
        with_reducible refine s_then ?_
        with_reducible refine s_seq ?_
        with_reducible refine s_seq ?_
        with_reducible refine s_reg ?_
        refine smove ?_
        simp only [pu', p0', c1', c0', i1', z0', b8_nat]
        refine sNe (fun hb => ?_) (fun hb => ?_)
        replace hb := dT' hb
        (exfalso; omega)
        replace hb := dF' hb
        simp only [pu', p0', c1', c0', i1', z0', b8_nat]
        with_reducible refine s_end ?_
        with_reducible refine s_then ?_
        refine sCF ?_
        with_reducible refine s_skip ?_
        with_reducible refine s_then ?_
        with_reducible refine s_reg ?_
        refine sloadW ?_
        simp only [pu', p0', c1', c0', i1', z0', b8_nat]
        refine sstoreF ?_
        simp only [pu', p0', c1', c0', i1', n0', n3', n1', n2', a2', a1', a0', n4', Nat.reduceAdd, z0', n5', sa0, sa1, sa2, sa3, sa4, sa5, sa6, sa7, sa8, sa9, sa10, sa11]
        with_reducible refine s_end ?_
        with_reducible refine s_blkN ?_
        with_reducible refine s_then ?_
        with_reducible refine s_reg ?_
        refine smove ?_
        simp only [pu', p0', c1', c0', i1', z0', b8_nat]
        refine sadd ?_
        simp only [pu', p0', c1', c0', i1', z0', b8_nat]
        refine sassign ?_
        simp only [pu', p0', c1', c0', i1', z0', b8_nat]
        with_reducible refine s_end ?_
        rotate_left 1
        refine ualloc ?_
        simp only [pu', p0', c1', c0', i1', n0', n3', n1', n2', a2', a1', a0', n4', Nat.reduceAdd, z0', n5', sa0, sa1, sa2, sa3, sa4, sa5, sa6, sa7, sa8, sa9, sa10, sa11]
        refine uloadE1 ?_
        simp only [pu', p0', c1', c0', i1', z0', b8_nat]
        refine uC (hx := rfl) ((d13 _ _ zu zw zt inferInstance inferInstance inferInstance inferInstance).mono ?_)
        rintro _ m13 _ ⟨xu, xw, xt, xl, rfl, pxu, pxw, pxt, pxl, S4⟩
        refine ⟨(by repeat' first | exact trivial | refine ⟨.inl rfl, ?_⟩ | refine ⟨.inr (ha_same inferInstance inferInstance), ?_⟩), ?_⟩
        simp only [pu', p0', c1', c0', i1', n0', n3', n1', n2', a2', a1', a0', n4', Nat.reduceAdd, z0', n5', sa0, sa1, sa2, sa3, sa4, sa5, sa6, sa7, sa8, sa9, sa10, sa11]
        refine tmove ?_
        simp only [pu', p0', c1', c0', i1', z0', b8_nat]
        refine text ?_
        simp only [pu', p0', c1', c0', i1', z0', b8_nat]
        refine text ?_
        simp only [pu', p0', c1', c0', i1', z0', b8_nat]
        refine text ?_
        simp only [pu', p0', c1', c0', i1', z0', b8_nat]
        refine text ?_
        simp only [pu', p0', c1', c0', i1', z0', b8_nat]
        refine ustoreF ?_
        simp only [pu', p0', c1', c0', i1', n0', n3', n1', n2', a2', a1', a0', n4', Nat.reduceAdd, z0', n5', sa0, sa1, sa2, sa3, sa4, sa5, sa6, sa7, sa8, sa9, sa10, sa11]
        refine tassign ?_
        simp only [pu', p0', c1', c0', i1', z0', b8_nat]
        refine tassign ?_
        simp only [pu', p0', c1', c0', i1', z0', b8_nat]
        refine tassign ?_
        simp only [pu', p0', c1', c0', i1', z0', b8_nat]
        with_reducible refine t_end ?_
        with_reducible refine s_then ?_
        with_reducible refine s_seq ?_
        with_reducible refine s_seq ?_
        with_reducible refine s_reg ?_
        refine smove ?_
        simp only [pu', p0', c1', c0', i1', z0', b8_nat]
        refine sNe (fun hb => ?_) (fun hb => ?_)
        replace hb := dT' hb
        (exfalso; omega)
        replace hb := dF' hb
        simp only [pu', p0', c1', c0', i1', z0', b8_nat]
        with_reducible refine s_end ?_
        with_reducible refine s_then ?_
        refine sCF ?_
        with_reducible refine s_skip ?_
        with_reducible refine s_then ?_
        with_reducible refine s_reg ?_
        refine sloadW ?_
        simp only [pu', p0', c1', c0', i1', z0', b8_nat]
        refine sstoreF ?_
        simp only [pu', p0', c1', c0', i1', n0', n3', n1', n2', a2', a1', a0', n4', Nat.reduceAdd, z0', n5', sa0, sa1, sa2, sa3, sa4, sa5, sa6, sa7, sa8, sa9, sa10, sa11]
        with_reducible refine s_end ?_
        with_reducible refine s_blkN ?_
        with_reducible refine s_then ?_
        with_reducible refine s_reg ?_
        refine smove ?_
        simp only [pu', p0', c1', c0', i1', z0', b8_nat]
        refine sadd ?_
        simp only [pu', p0', c1', c0', i1', z0', b8_nat]
        refine sassign ?_
        simp only [pu', p0', c1', c0', i1', z0', b8_nat]
        with_reducible refine s_end ?_
        rotate_left 1
        replace hb := dF' hb
        exact absurd (by with_reducible assumption) hb
      all_goals
        refine l_next (⟨i + 1, ⟨us', ws', ts', out'⟩, xu, xw, xt, M ++ [WI xu us', WK xw ws', WT xt ts'], _⟩ : EnB) ⟨by simp only []; omega, hi2, by simp only []; push_cast; omega, pxu, pxw, pxt, (by show QI h (M ++ _) xu us'; infer_instance), (by show QK h (M ++ _) xw ws'; infer_instance), (by show QT h (M ++ _) xt ts'; infer_instance), by simp only []; exact Sep.sub inferInstance (by simp only [List.cons_append, List.append_assoc, List.nil_append]; repeat' first | exact List.Sublist.refl _ | exact List.nil_sublist _ | refine List.Sublist.cons_cons _ ?_ | refine List.Sublist.append_left ?_ _ | refine List.Sublist.cons _ ?_)⟩ (by simp only []; omega) (by rfl) rfl
    · have hcl : 0 < ch.length := by omega
      have hm0 := Int.emod_nonneg (i : Int) (show (ch.length : Int) ≠ 0 by omega)
      have hm1 := Int.emod_lt_of_pos (i : Int) (show (0 : Int) < ch.length by omega)
      have hk0 := Int.emod_nonneg (ch.getD ((i : Int) % ch.length).toNat 0) (show (bl.length : Int) ≠ 0 by omega)
      have hk1 := Int.emod_lt_of_pos (ch.getD ((i : Int) % ch.length).toNat 0) (show (0 : Int) < bl.length by omega)
      have c27 := mod27 (ch.getD ((i : Int) % ch.length).toNat 0) bl.length (by omega) (by omega)
      generalize ch.getD ((i : Int) % ch.length).toNat 0 % (bl.length : Int) = kk at *
      obtain ⟨k, rfl⟩ : ∃ k : Nat, kk = k := ⟨kk.toNat, by omega⟩
      obtain ⟨w, hw, hi2, he2, hl2⟩ := hst k (by omega)
      have d13 := fun Y L su sw st => d13 w Y L su sw st he2
      generalize pickQ q w false = r at *
      rw [← hw] at d13
      clear c24 c26 c13 hst
      obtain ⟨⟨us', ws', ts', out'⟩, w', l', e'⟩ := r
      obtain ⟨us, ws, ts, out⟩ := q
      simp only [] at *
      focus
        with_reducible refine s_seq ?_
        with_reducible refine s_seq ?_
        with_reducible refine s_reg ?_
        refine smove ?_
        simp only [pu', p0', c1', c0', i1', z0', b8_nat]
        refine smove ?_
        simp only [pu', p0', c1', c0', i1', z0', b8_nat]
        refine sLt (fun hb => ?_) (fun hb => ?_)
        replace hb := dT' hb
        simp only [pu', p0', c1', c0', i1', z0', b8_nat]
        with_reducible refine s_end ?_
        with_reducible refine s_then ?_
        refine sCT ?_
        with_reducible refine s_skip ?_
        with_reducible refine s_then ?_
        with_reducible refine s_seq ?_
        with_reducible refine s_block ?_
        with_reducible refine s_seq ?_
        with_reducible refine s_reg ?_
        refine sloadW ?_
        simp only [pu', p0', c1', c0', i1', z0', b8_nat]
        refine sC (hx := rfl) ((d26 _ _ zu zw zt inferInstance inferInstance inferInstance inferInstance).mono ?_)
        rintro _ m26 _ ⟨zb, rfl, pzb, S3⟩
        simp only [pu', p0', c1', c0', i1', n0', n3', n1', n2', a2', a1', a0', n4', Nat.reduceAdd, z0', n5', sa0, sa1, sa2, sa3, sa4, sa5, sa6, sa7, sa8, sa9, sa10, sa11]
        refine smove ?_
        simp only [pu', p0', c1', c0', i1', z0', b8_nat]
        refine sext ?_
        simp only [pu', p0', c1', c0', i1', z0', b8_nat]
        refine sext ?_
        simp only [pu', p0', c1', c0', i1', z0', b8_nat]
        refine sassign ?_
        simp only [pu', p0', c1', c0', i1', z0', b8_nat]
        refine sassign ?_
        simp only [pu', p0', c1', c0', i1', z0', b8_nat]
        with_reducible refine s_end ?_
        with_reducible refine s_then ?_
        with_reducible refine s_seq ?_
        with_reducible refine s_seq ?_
        with_reducible refine s_reg ?_
        refine smove ?_
        simp only [pu', p0', c1', c0', i1', z0', b8_nat]
        refine sNe (fun hb => ?_) (fun hb => ?_)
        replace hb := dT' hb
        (exfalso; omega)
        replace hb := dF' hb
        simp only [pu', p0', c1', c0', i1', z0', b8_nat]
        refine smove ?_
        simp only [pu', p0', c1', c0', i1', z0', b8_nat]
        refine smove ?_
        simp only [pu', p0', c1', c0', i1', z0', b8_nat]
        refine slenE ?_
        simp only [pu', p0', c1', c0', i1', z0', b8_nat]
        refine sEq (fun hb => ?_) (fun hb => ?_)
        replace hb := dT' hb
        (exfalso; omega)
        replace hb := dF' hb
        simp only [pu', p0', c1', c0', i1', z0', b8_nat]
        refine spickF ?_
        simp only [pu', p0', c1', c0', i1', z0', b8_nat]
        with_reducible refine s_end ?_
        with_reducible refine s_then ?_
        refine sCF ?_
        with_reducible refine s_skip ?_
        with_reducible refine s_then ?_
        with_reducible refine s_seq ?_
        with_reducible refine s_reg ?_
        refine sassign ?_
        simp only [pu', p0', c1', c0', i1', z0', b8_nat]
        with_reducible refine s_end ?_
        with_reducible refine s_then ?_
        with_reducible refine s_seq ?_
        with_reducible refine s_seq ?_
        with_reducible refine s_reg ?_
        refine smove ?_
        simp only [pu', p0', c1', c0', i1', z0', b8_nat]
        refine slenE ?_
        simp only [pu', p0', c1', c0', i1', z0', b8_nat]
        refine sGt (fun hb => ?_) (fun hb => ?_)
        replace hb := dT' hb
        simp only [pu', p0', c1', c0', i1', z0', b8_nat]
        with_reducible refine s_end ?_
        with_reducible refine s_then ?_
        refine sCT ?_
        with_reducible refine s_reg ?_
        refine smove ?_
        simp only [pu', p0', c1', c0', i1', z0', b8_nat]
        refine smove ?_
        simp only [pu', p0', c1', c0', i1', z0', b8_nat]
        refine smove ?_
        simp only [pu', p0', c1', c0', i1', z0', b8_nat]
        refine slenE ?_
        simp only [pu', p0', c1', c0', i1', z0', b8_nat]
        refine srem ?_
        simp only [pu', p0', c1', c0', i1', z0', b8_nat]
        refine sidxE ?_
        simp only [pu', p0', c1', c0', i1', z0', b8_nat]
        refine sloadE1 ?_
        simp only [pu', p0', c1', c0', i1', z0', b8_nat]
        refine smove ?_
        simp only [pu', p0', c1', c0', i1', z0', b8_nat]
        refine slenE ?_
        simp only [pu', p0', c1', c0', i1', z0', b8_nat]
        refine sK (hx := rfl) (c27) ?_
        simp only [pu', p0', c1', c0', i1', z0', b8_nat]
        refine sassign ?_
        simp only [pu', p0', c1', c0', i1', z0', b8_nat]
        with_reducible refine s_end ?_
        with_reducible refine s_then ?_
        with_reducible refine s_seq ?_
        (refine s_regT (id := 15) (.light 0 (.light 1 (.light 2 (.light 3 (.alt 4 [3] (.alt 5 [0, 3] (.light 6 (.light 7 (.light 8 (.light 9 (.light 10 (.alt 11 [0, 3] (.alt 12 [0, 1, 2, 3, 6, 7] (.light 13 (.light 14 (.light 15 (.done)))) (.no)) (.no))))))) (.alt 11 [3] (.alt 5 [0, 3] (.light 6 (.light 7 (.light 8 (.light 9 (.light 10 (.alt 12 [0, 1, 2, 3, 6, 7] (.light 13 (.light 14 (.light 15 (.done)))) (.no))))))) (.no)) (.no))) (.alt 11 [] (.alt 4 [3] (.alt 5 [0, 3] (.light 6 (.light 7 (.light 8 (.light 9 (.light 10 (.alt 12 [0, 1, 2, 3, 6, 7] (.light 13 (.light 14 (.light 15 (.done)))) (.no))))))) (.no)) (.no)) (.no))))))) [4, 5, 11, 12] (by kernel_rfl) (by conv => lhs; simp only [pickT, List.getElem?_cons_succ, List.getElem?_cons_zero]) ?_)
        refine tloadW ?_
        simp only [pu', p0', c1', c0', i1', z0', b8_nat]
        refine tmove ?_
        simp only [pu', p0', c1', c0', i1', z0', b8_nat]
        refine tmove ?_
        simp only [pu', p0', c1', c0', i1', z0', b8_nat]
        refine tidxE ?_
        simp only [pu', p0', c1', c0', i1', z0', b8_nat]
        with_reducible refine u_both ?_ ?_
        refine uloadE1 ?_
        simp only [pu', p0', c1', c0', i1', z0', b8_nat]
        with_reducible refine u_both ?_ ?_
        refine uC (hx := rfl) ((d13 _ _ zu zw zt inferInstance inferInstance inferInstance inferInstance).mono ?_)
        rintro _ m13 _ ⟨xu, xw, xt, xl, rfl, pxu, pxw, pxt, pxl, S4⟩
        refine ⟨(by repeat' first | exact trivial | refine ⟨.inl rfl, ?_⟩ | refine ⟨.inr (ha_same inferInstance inferInstance), ?_⟩), ?_⟩
        simp only [pu', p0', c1', c0', i1', n0', n3', n1', n2', a2', a1', a0', n4', Nat.reduceAdd, z0', n5', sa0, sa1, sa2, sa3, sa4, sa5, sa6, sa7, sa8, sa9, sa10, sa11]
        refine tmove ?_
        simp only [pu', p0', c1', c0', i1', z0', b8_nat]
        refine text ?_
        simp only [pu', p0', c1', c0', i1', z0', b8_nat]
        refine text ?_
        simp only [pu', p0', c1', c0', i1', z0', b8_nat]
        refine text ?_
        simp only [pu', p0', c1', c0', i1', z0', b8_nat]
        refine text ?_
        simp only [pu', p0', c1', c0', i1', z0', b8_nat]
        refine ualloc ?_
        simp only [pu', p0', c1', c0', i1', n0', n3', n1', n2', a2', a1', a0', n4', Nat.reduceAdd, z0', n5', sa0, sa1, sa2, sa3, sa4, sa5, sa6, sa7, sa8, sa9, sa10, sa11]
        refine ustoreF ?_
        simp only [pu', p0', c1', c0', i1', n0', n3', n1', n2', a2', a1', a0', n4', Nat.reduceAdd, z0', n5', sa0, sa1, sa2, sa3, sa4, sa5, sa6, sa7, sa8, sa9, sa10, sa11]
        refine tassign ?_
        simp only [pu', p0', c1', c0', i1', z0', b8_nat]
        refine tassign ?_
        simp only [pu', p0', c1', c0', i1', z0', b8_nat]
        refine tassign ?_
        simp only [pu', p0', c1', c0', i1', z0', b8_nat]
        with_reducible refine t_end ?_
        with_reducible refine s_then ?_
        with_reducible refine s_seq ?_
        with_reducible refine s_seq ?_
        with_reducible refine s_reg ?_
        refine smove ?_
        simp only [pu', p0', c1', c0', i1', z0', b8_nat]
        refine sNe (fun hb => ?_) (fun hb => ?_)
        replace hb := dT' hb
        (exfalso; omega)
        replace hb := dF' hb
        simp only [pu', p0', c1', c0', i1', z0', b8_nat]
        with_reducible refine s_end ?_
        with_reducible refine s_then ?_
        refine sCF ?_
        with_reducible refine s_skip ?_
        with_reducible refine s_then ?_
        with_reducible refine s_reg ?_
        refine sloadW ?_
        simp only [pu', p0', c1', c0', i1', z0', b8_nat]
        refine sstoreF ?_
        simp only [pu', p0', c1', c0', i1', n0', n3', n1', n2', a2', a1', a0', n4', Nat.reduceAdd, z0', n5', sa0, sa1, sa2, sa3, sa4, sa5, sa6, sa7, sa8, sa9, sa10, sa11]
        with_reducible refine s_end ?_
        with_reducible refine s_blkN ?_
        with_reducible refine s_then ?_
        with_reducible refine s_reg ?_
        refine smove ?_
        simp only [pu', p0', c1', c0', i1', z0', b8_nat]
        refine sadd ?_
        simp only [pu', p0', c1', c0', i1', z0', b8_nat]
        refine sassign ?_
        simp only [pu', p0', c1', c0', i1', z0', b8_nat]
        with_reducible refine s_end ?_
        rotate_left 1
        refine ualloc ?_
        simp only [pu', p0', c1', c0', i1', n0', n3', n1', n2', a2', a1', a0', n4', Nat.reduceAdd, z0', n5', sa0, sa1, sa2, sa3, sa4, sa5, sa6, sa7, sa8, sa9, sa10, sa11]
        refine uC (hx := rfl) ((d13 _ _ zu zw zt inferInstance inferInstance inferInstance inferInstance).mono ?_)
        rintro _ m13 _ ⟨xu, xw, xt, xl, rfl, pxu, pxw, pxt, pxl, S4⟩
        refine ⟨(by repeat' first | exact trivial | refine ⟨.inl rfl, ?_⟩ | refine ⟨.inr (ha_same inferInstance inferInstance), ?_⟩), ?_⟩
        simp only [pu', p0', c1', c0', i1', n0', n3', n1', n2', a2', a1', a0', n4', Nat.reduceAdd, z0', n5', sa0, sa1, sa2, sa3, sa4, sa5, sa6, sa7, sa8, sa9, sa10, sa11]
        refine tmove ?_
        simp only [pu', p0', c1', c0', i1', z0', b8_nat]
        refine text ?_
        simp only [pu', p0', c1', c0', i1', z0', b8_nat]
        refine text ?_
        simp only [pu', p0', c1', c0', i1', z0', b8_nat]
        refine text ?_
        simp only [pu', p0', c1', c0', i1', z0', b8_nat]
        refine text ?_
        simp only [pu', p0', c1', c0', i1', z0', b8_nat]
        refine ustoreF ?_
        simp only [pu', p0', c1', c0', i1', n0', n3', n1', n2', a2', a1', a0', n4', Nat.reduceAdd, z0', n5', sa0, sa1, sa2, sa3, sa4, sa5, sa6, sa7, sa8, sa9, sa10, sa11]
        refine tassign ?_
        simp only [pu', p0', c1', c0', i1', z0', b8_nat]
        refine tassign ?_
        simp only [pu', p0', c1', c0', i1', z0', b8_nat]
        refine tassign ?_
        simp only [pu', p0', c1', c0', i1', z0', b8_nat]
        with_reducible refine t_end ?_
        with_reducible refine s_then ?_
        with_reducible refine s_seq ?_
        with_reducible refine s_seq ?_
        with_reducible refine s_reg ?_
        refine smove ?_
        simp only [pu', p0', c1', c0', i1', z0', b8_nat]
        refine sNe (fun hb => ?_) (fun hb => ?_)
        replace hb := dT' hb
        (exfalso; omega)
        replace hb := dF' hb
        simp only [pu', p0', c1', c0', i1', z0', b8_nat]
        with_reducible refine s_end ?_
        with_reducible refine s_then ?_
        refine sCF ?_
        with_reducible refine s_skip ?_
        with_reducible refine s_then ?_
        with_reducible refine s_reg ?_
        refine sloadW ?_
        simp only [pu', p0', c1', c0', i1', z0', b8_nat]
        refine sstoreF ?_
        simp only [pu', p0', c1', c0', i1', n0', n3', n1', n2', a2', a1', a0', n4', Nat.reduceAdd, z0', n5', sa0, sa1, sa2, sa3, sa4, sa5, sa6, sa7, sa8, sa9, sa10, sa11]
        with_reducible refine s_end ?_
        with_reducible refine s_blkN ?_
        with_reducible refine s_then ?_
        with_reducible refine s_reg ?_
        refine smove ?_
        simp only [pu', p0', c1', c0', i1', z0', b8_nat]
        refine sadd ?_
        simp only [pu', p0', c1', c0', i1', z0', b8_nat]
        refine sassign ?_
        simp only [pu', p0', c1', c0', i1', z0', b8_nat]
        with_reducible refine s_end ?_
        rotate_left 1
        refine ualloc ?_
        simp only [pu', p0', c1', c0', i1', n0', n3', n1', n2', a2', a1', a0', n4', Nat.reduceAdd, z0', n5', sa0, sa1, sa2, sa3, sa4, sa5, sa6, sa7, sa8, sa9, sa10, sa11]
        refine uloadE1 ?_
        simp only [pu', p0', c1', c0', i1', z0', b8_nat]
        refine uC (hx := rfl) ((d13 _ _ zu zw zt inferInstance inferInstance inferInstance inferInstance).mono ?_)
        rintro _ m13 _ ⟨xu, xw, xt, xl, rfl, pxu, pxw, pxt, pxl, S4⟩
        refine ⟨(by repeat' first | exact trivial | refine ⟨.inl rfl, ?_⟩ | refine ⟨.inr (ha_same inferInstance inferInstance), ?_⟩), ?_⟩
        simp only [pu', p0', c1', c0', i1', n0', n3', n1', n2', a2', a1', a0', n4', Nat.reduceAdd, z0', n5', sa0, sa1, sa2, sa3, sa4, sa5, sa6, sa7, sa8, sa9, sa10, sa11]
        refine tmove ?_
        simp only [pu', p0', c1', c0', i1', z0', b8_nat]
        refine text ?_
        simp only [pu', p0', c1', c0', i1', z0', b8_nat]
        refine text ?_
        simp only [pu', p0', c1', c0', i1', z0', b8_nat]
        refine text ?_
        simp only [pu', p0', c1', c0', i1', z0', b8_nat]
        refine text ?_
        simp only [pu', p0', c1', c0', i1', z0', b8_nat]
        refine ustoreF ?_
        simp only [pu', p0', c1', c0', i1', n0', n3', n1', n2', a2', a1', a0', n4', Nat.reduceAdd, z0', n5', sa0, sa1, sa2, sa3, sa4, sa5, sa6, sa7, sa8, sa9, sa10, sa11]
        refine tassign ?_
        simp only [pu', p0', c1', c0', i1', z0', b8_nat]
        refine tassign ?_
        simp only [pu', p0', c1', c0', i1', z0', b8_nat]
        refine tassign ?_
        simp only [pu', p0', c1', c0', i1', z0', b8_nat]
        with_reducible refine t_end ?_
        with_reducible refine s_then ?_
        with_reducible refine s_seq ?_
        with_reducible refine s_seq ?_
        with_reducible refine s_reg ?_
        refine smove ?_
        simp only [pu', p0', c1', c0', i1', z0', b8_nat]
        refine sNe (fun hb => ?_) (fun hb => ?_)
        replace hb := dT' hb
        (exfalso; omega)
        replace hb := dF' hb
        simp only [pu', p0', c1', c0', i1', z0', b8_nat]
        with_reducible refine s_end ?_
        with_reducible refine s_then ?_
        refine sCF ?_
        with_reducible refine s_skip ?_
        with_reducible refine s_then ?_
        with_reducible refine s_reg ?_
        refine sloadW ?_
        simp only [pu', p0', c1', c0', i1', z0', b8_nat]
        refine sstoreF ?_
        simp only [pu', p0', c1', c0', i1', n0', n3', n1', n2', a2', a1', a0', n4', Nat.reduceAdd, z0', n5', sa0, sa1, sa2, sa3, sa4, sa5, sa6, sa7, sa8, sa9, sa10, sa11]
        with_reducible refine s_end ?_
        with_reducible refine s_blkN ?_
        with_reducible refine s_then ?_
        with_reducible refine s_reg ?_
        refine smove ?_
        simp only [pu', p0', c1', c0', i1', z0', b8_nat]
        refine sadd ?_
        simp only [pu', p0', c1', c0', i1', z0', b8_nat]
        refine sassign ?_
        simp only [pu', p0', c1', c0', i1', z0', b8_nat]
        with_reducible refine s_end ?_
        rotate_left 1
        replace hb := dF' hb
        (exfalso; omega)
        replace hb := dF' hb
        exact absurd (by with_reducible assumption) hb
      all_goals
        refine l_next (⟨i + 1, ⟨us', ws', ts', out'⟩, xu, xw, xt, M ++ [WI xu us', WK xw ws', WT xt ts'], _⟩ : EnB) ⟨by simp only []; omega, hi2, by simp only []; push_cast; omega, pxu, pxw, pxt, (by show QI h (M ++ _) xu us'; infer_instance), (by show QK h (M ++ _) xw ws'; infer_instance), (by show QT h (M ++ _) xt ts'; infer_instance), by simp only []; exact Sep.sub inferInstance (by simp only [List.cons_append, List.append_assoc, List.nil_append]; repeat' first | exact List.Sublist.refl _ | exact List.nil_sublist _ | refine List.Sublist.cons_cons _ ?_ | refine List.Sublist.append_left ?_ _ | refine List.Sublist.cons _ ?_)⟩ (by simp only []; omega) (by rfl) rfl
  · have hov : q.out = q.us.length := (left_over hq).1 (by omega)
    have d24 := fun Y su sw st => c24 q Y su sw st hq hov
    obtain ⟨us, ws, ts, out⟩ := q
    simp only [] at *
    focus
      with_reducible refine s_seq ?_
      with_reducible refine s_seq ?_
      with_reducible refine s_reg ?_
      refine smove ?_
      simp only [pu', p0', c1', c0', i1', z0', b8_nat]
      refine smove ?_
      simp only [pu', p0', c1', c0', i1', z0', b8_nat]
      refine sLt (fun hb => ?_) (fun hb => ?_)
      replace hb := dT' hb
      (exfalso; omega)
      replace hb := dF' hb
      simp only [pu', p0', c1', c0', i1', z0', b8_nat]
      with_reducible refine s_end ?_
      with_reducible refine s_then ?_
      refine sCF ?_
      with_reducible refine s_exit ?_
      with_reducible refine s_thenE ?_
      with_reducible refine l_exit ?_
      with_reducible refine s_blkE ?_
      with_reducible refine s_then ?_
      with_reducible refine s_seq ?_
      with_reducible refine s_reg ?_
      refine sloadW ?_
      simp only [pu', p0', c1', c0', i1', z0', b8_nat]
      refine sM (hx := rfl) (d24 _ _ _ _ inferInstance inferInstance inferInstance) ?_
      simp only [pu', p0', c1', c0', i1', z0', b8_nat]
      refine smove ?_
      simp only [pu', p0', c1', c0', i1', z0', b8_nat]
      refine sext ?_
      simp only [pu', p0', c1', c0', i1', z0', b8_nat]
      refine sext ?_
      simp only [pu', p0', c1', c0', i1', z0', b8_nat]
      refine sassign ?_
      simp only [pu', p0', c1', c0', i1', z0', b8_nat]
      refine sassign ?_
      simp only [pu', p0', c1', c0', i1', z0', b8_nat]
      with_reducible refine s_end ?_
      with_reducible refine s_then ?_
      with_reducible refine s_seq ?_
      with_reducible refine s_reg ?_
      refine smove ?_
      simp only [pu', p0', c1', c0', i1', z0', b8_nat]
      refine smove ?_
      simp only [pu', p0', c1', c0', i1', z0', b8_nat]
      refine smove ?_
      simp only [pu', p0', c1', c0', i1', z0', b8_nat]
      refine sEq (fun hb => ?_) (fun hb => ?_)
      replace hb := dT' hb
      simp only [pu', p0', c1', c0', i1', z0', b8_nat]
      refine spickT ?_
      simp only [pu', p0', c1', c0', i1', z0', b8_nat]
      refine smove ?_
      simp only [pu', p0', c1', c0', i1', z0', b8_nat]
      refine sK (hx := rfl) (idle_w) ?_
      simp only [pu', p0', c1', c0', i1', z0', b8_nat]
      (refine s_gL (by rfl) (x_fldG (by exact e_any (by rfl)) (fd_53 _ _)) ?_; simp only [Fr.put, List.set_cons_succ, List.set_cons_zero, Int.toNat_natCast, Nat.zero_add])
      refine sEq (fun hb => ?_) (fun hb => ?_)
      replace hb := dT' hb
      simp only [pu', p0', c1', c0', i1', z0', b8_nat]
      refine spickT ?_
      simp only [pu', p0', c1', c0', i1', z0', b8_nat]
      refine smove ?_
      simp only [pu', p0', c1', c0', i1', z0', b8_nat]
      refine sM (hx := rfl) (awake11 _) ?_
      simp only [pu', p0', c1', c0', i1', z0', b8_nat]
      refine spickT ?_
      simp only [pu', p0', c1', c0', i1', z0', b8_nat]
      refine sassign ?_
      simp only [pu', p0', c1', c0', i1', z0', b8_nat]
      with_reducible refine s_end ?_
      with_reducible refine s_then ?_
      with_reducible refine s_ret ?_
      rotate_left 1
      replace hb := dF' hb
      exact absurd rfl hb
      replace hb := dF' hb
      exact absurd rfl hb
    all_goals
      all_goals try with_reducible refine w_n ?_
      all_goals refine w_1 rfl (by first | exact v_t (by rfl) | exact v_c1 (C1.p) (by rfl) (HA.p) (by rfl) | exact v_cF (CA.p) (by rfl) (HA.p) (by rfl)) ?_
      exact ⟨rfl, Sep.ext, rfl, trivial⟩
end Go.Proofs.Ytfcgmkpihmiadaa
