/-
  A part of the proof of a statement of a chapter's seat; conditions: stated at each theorem.
-/
import Derived.Test.YtfcgmkpihmiadaaP44
set_option linter.unusedVariables false
set_option linter.unusedSectionVars false
set_option linter.unusedSimpArgs false
set_option linter.unusedVariables false
set_option maxRecDepth 100000
set_option maxHeartbeats 8000000
namespace Go.Proofs.Ytfcgmkpihmiadaa
open Go.Az Go
/-! ### Picks made of numbers -/
abbrev QT (h : Hp) (L : List Pc) (s : AV) (l : List Tk) : Prop := EP Tk encT 4 tk0 h L s l
structure PiB where
  k : Nat
  z : AV
  zu : AV
  zw : AV
  zt : AV
  M : List Pc
  G : Hp
theorem pks_at (picks : List Int) (p : Pl) (k : Nat) (h : k < picks.length) : pks (picks.take (k + 1)) p [] = ⟨(pickQ (pks (picks.take k) p []).p (pkW (pks (picks.take k) p []).p (picks.getD k 0)) (pkF (picks.getD k 0))).p, (pks (picks.take k) p []).l ++ (pickQ (pks (picks.take k) p []).p (pkW (pks (picks.take k) p []).p (picks.getD k 0)) (pkF (picks.getD k 0))).l⟩ := by
  rw [takeT (d := 0) h, pks_snoc]
theorem picked22 {h X : Hp} (L P : List Pc) (p : Pl) (su sw st s : AV) (picks : List Int) (S : Sep h X (L ++ P)) (a : QI h P su p.us) (b : QK h P sw p.ws) (c : QT h P st p.ts) (d : EI h s picks) (hi : Inv p) (ho : p.out = 0) (ha : ∀ i, (p.ts.getD i tk0).a = 0) :
    ACalls Try.prog 22 [PA su sw st p.out, s] X (fun r h' => ∃ zu zw zt zl M, r = .tup [PA zu zw zt (pks (picks.take 40) p []).p.out, zl, B true] ∧ SlC zu ∧ SlC zw ∧ SlC zt ∧ SlC zl ∧ Sep h h' (WI zl (pks (picks.take 40) p []).l :: (L ++ M)) ∧ QI h M zu (pks (picks.take 40) p []).p.us ∧ QK h M zw (pks (picks.take 40) p []).p.ws ∧ QT h M zt (pks (picks.take 40) p []).p.ts) := by
  have a0 : EI X su p.us := inferInstance
  have b0 : EK X sw p.ws := inferInstance
  have c0 : ET X st p.ts := inferInstance
  have d0 : EI X s picks := inferInstance
  have pu := a0.p.sl
  have pw := b0.p.sl
  have pt := c0.p.sl
  have ps := d0.p.sl
  have hK := fun k => pks_spec p hi ho ha k picks
  have hend : ∀ k, picks.length ≤ k → k ≤ 40 → picks.take k = picks.take 40 := fun k h1 h2 => by rw [List.take_of_length_le h1, List.take_of_length_le (by omega)]
  refine acalls_of_wk hm Try.func22 rfl ?_
  simp only [Try.ntmps22, List.length_cons, List.length_nil, Nat.reduceAdd, Nat.reduceSub, List.reduceReplicate, List.cons_append, List.nil_append]
  show wk _ _ none _ _ ⟨_, []⟩ _
  with_reducible refine s_seq ?_
  with_reducible refine s_reg ?_
  refine sboxA ?_
  simp only [pu', p0', c1', c0', i1', n0', n3', n1', n2', a2', a1', a0', n4', Nat.reduceAdd, z0', n5', sa0, sa1, sa2, sa3, sa4, sa5, sa6, sa7, sa8, sa9, sa10, sa11]
  refine salloc ?_
  simp only [pu', p0', c1', c0', i1', n0', n3', n1', n2', a2', a1', a0', n4', Nat.reduceAdd, z0', n5', sa0, sa1, sa2, sa3, sa4, sa5, sa6, sa7, sa8, sa9, sa10, sa11]
  refine sassign ?_
  simp only [pu', p0', c1', c0', i1', z0', b8_nat]
  refine sassign ?_
  simp only [pu', p0', c1', c0', i1', z0', b8_nat]
  with_reducible refine s_end ?_
  with_reducible refine s_then ?_
  with_reducible refine s_seq ?_
  with_reducible refine s_reg ?_
  refine sassign ?_
  simp only [pu', p0', c1', c0', i1', z0', b8_nat]
  with_reducible refine s_end ?_
  with_reducible refine s_then ?_
  with_reducible refine s_seq ?_
  with_reducible refine s_seq ?_
  with_reducible refine s_reg ?_
  refine sassign ?_
  simp only [pu', p0', c1', c0', i1', z0', b8_nat]
  with_reducible refine s_end ?_
  with_reducible refine s_then ?_
  with_reducible refine s_block ?_
  refine s_loop hm (fun (b : PiB) s' => [s' 0, s, .ptr X.length 0, s' 3, .ptr (X.length + 1) 0, s' 5, s' 6, b.z, I b.k, s' 9, s' 10, s' 11, s' 12, s' 13, s' 14, s' 15, s' 16, s' 17, s' 18, s' 19, s' 20, s' 21, s' 22, s' 23, s' 24, s' 25, s' 26, s' 27, s' 28, s' 29, s' 30, s' 31, s' 32, s' 33, s' 34, s' 35, s' 36, s' 37, s' 38, s' 39, s' 40, s' 41, s' 42, s' 43, s' 44, s' 45, s' 46, s' 47, s' 48, s' 49, s' 50, s' 51, s' 52, s' 53, s' 54, s' 55]) (fun b => b.G) (fun b => b.k ≤ picks.length ∧ b.k ≤ 40 ∧ SlC b.z ∧ SlC b.zu ∧ SlC b.zw ∧ SlC b.zt ∧ QI h b.M b.zu (pks (picks.take b.k) p []).p.us ∧ QK h b.M b.zw (pks (picks.take b.k) p []).p.ws ∧ QT h b.M b.zt (pks (picks.take b.k) p []).p.ts ∧ Sep h b.G (WI b.z (pks (picks.take b.k) p []).l :: pcC X.length (.cells [b.zu, b.zw, b.zt, I (pks (picks.take b.k) p []).p.out] 26 true) :: pcC (X.length + 1) (.cells [nilS, nilS, nilS, I 0] 26 true) :: (L ++ b.M))) (fun b => picks.length - b.k) ⟨0, nilS, su, sw, st, P, _⟩ (by rfl) rfl ⟨Nat.zero_le _, Nat.zero_le _, inferInstance, pu, pw, pt, a, b, c, ?_⟩ ?_
  · exact Sep.perm (Sep.addNil (S.pushL [_, _]) _ _ _) ((List.perm_append_comm (l₁ := _ ++ _) (l₂ := [_])).trans (List.Perm.cons _ (List.perm_append_comm (l₁ := L ++ P) (l₂ := [_, _]))))
  rintro ⟨k, z, zu, zw, zt, M, G⟩ s' ⟨hk, hk40, pz, pzu, pzw, pzt, am, bm, cm, S1⟩
  simp only [] at hk hk40 pz pzu pzw pzt am bm cm S1 ⊢
  have hp := hK k
  have hN := pks_at picks p k
  have hE := hend k
  clear hK hend
  by_cases hc : k < picks.length ∧ k < 40
  · obtain ⟨hc1, hc2⟩ := hc
    rw [← Int.ofNat_lt] at hc1
    have hNk := hN (by omega)
    clear hN hE
    generalize hQ : pks (picks.take k) p [] = q at *
    have hw := pkW_rng q.p (by have := hp.inv.gn; omega) (picks.getD k 0)
    have hs := pickN hp.inv hw.1 hw.2 (pkF (picks.getD k 0))
    have hf := inv_fits hp.inv
    have hf2 := (pickQ_fits (p := q.p) (n := pkW q.p (picks.getD k 0)) (f := pkF (picks.getD k 0))).2
    have hx0 := Int.emod_nonneg (picks.getD k 0) (show (1048576 : Int) ≠ 0 by omega)
    have hx1 := Int.emod_lt_of_pos (picks.getD k 0) (show (0 : Int) < 1048576 by omega)
    have hll : q.l.length ≤ 1000000 := by
      have h1 := hp.o; have h2 := hp.inv.o1; have h3 := hf.t; omega
    have hgn := hp.inv.gn
    have c13 : ∀ Y L zu zw zt, Sep h Y L → EI Y zu q.p.us → EK Y zw q.p.ws → ET Y zt q.p.ts → ACalls Try.prog 13 [PA zu zw zt q.p.out, I (pkW q.p (picks.getD k 0)), B (pkF (picks.getD k 0))] Y (fun r h' => ∃ yu yw yt yl, r = .tup [PA yu yw yt (pickQ q.p (pkW q.p (picks.getD k 0)) (pkF (picks.getD k 0))).p.out, I (pickQ q.p (pkW q.p (picks.getD k 0)) (pkF (picks.getD k 0))).w, yl, I 0] ∧ SlC yu ∧ SlC yw ∧ SlC yt ∧ SlC yl ∧ Sep h h' (L ++ [WI yu (pickQ q.p (pkW q.p (picks.getD k 0)) (pkF (picks.getD k 0))).p.us, WK yw (pickQ q.p (pkW q.p (picks.getD k 0)) (pkF (picks.getD k 0))).p.ws, WT yt (pickQ q.p (pkW q.p (picks.getD k 0)) (pkF (picks.getD k 0))).p.ts, WI yl (pickQ q.p (pkW q.p (picks.getD k 0)) (pkF (picks.getD k 0))).l])) := fun Y L zu zw zt S a b c =>
      (pick13 Y q.p zu zw zt a b c hf _ _).mono fun r h' _ ⟨yu, yw, yt, yl, h1, h2, h3, h4, h5, h6⟩ => ⟨yu, yw, yt, yl, by rw [h1, hs.e0], h2, h3, h4, h5, S.join h6⟩
    have hpw : pkW q.p (picks.getD k 0) = (picks.getD k 0) % 1048576 / 4 % (if (q.p.ws.length : Int) < 1 then 1 else (q.p.ws.length : Int)) := by
      unfold pkW
      rw [if_neg (by omega), show max q.p.ws.length 1 = q.p.ws.length by omega]
    clear hs hp hi hQ ha
    have hF : pkF (picks.getD k 0) = decide ((picks.getD k 0) % 1048576 % 4 = 0) := rfl
    generalize pickQ q.p (pkW q.p (picks.getD k 0)) (pkF (picks.getD k 0)) = r at *
    rw [hpw] at c13
    clear hpw
    obtain ⟨⟨us, ws, ts, out⟩, l⟩ := q
    obtain ⟨⟨us', ws', ts', out'⟩, w', l', e'⟩ := r
    simp only [] at *
    by_cases hF1 : (picks.getD k 0) % 1048576 % 4 = 0
    · rw [hF, decide_eq_true hF1] at c13
      clear hF
      focus
        with_reducible refine s_seq ?_
        with_reducible refine s_seq ?_
        with_reducible refine s_reg ?_
        refine smove ?_
        simp only [pu', p0', c1', c0', i1', z0', b8_nat]
        refine smove ?_
        simp only [pu', p0', c1', c0', i1', z0', b8_nat]
        refine slenE ?_
        simp only [pu', p0', c1', c0', i1', z0', b8_nat]
        refine sLt (fun hb => ?_) (fun hb => ?_)
        replace hb := dT' hb
        simp only [pu', p0', c1', c0', i1', z0', b8_nat]
        refine smove ?_
        simp only [pu', p0', c1', c0', i1', z0', b8_nat]
        refine smove ?_
        simp only [pu', p0', c1', c0', i1', z0', b8_nat]
        refine sLt (fun hb => ?_) (fun hb => ?_)
        replace hb := dT' hb
        simp only [pu', p0', c1', c0', i1', z0', b8_nat]
        refine spickT ?_
        simp only [pu', p0', c1', c0', i1', z0', b8_nat]
        with_reducible refine s_end ?_
        with_reducible refine s_then ?_
        refine sCT ?_
        with_reducible refine s_skip ?_
        with_reducible refine s_then ?_
        with_reducible refine s_seq ?_
        with_reducible refine s_block ?_
        with_reducible refine s_seq ?_
        with_reducible refine s_reg ?_
        refine smove ?_
        simp only [pu', p0', c1', c0', i1', z0', b8_nat]
        refine smove ?_
        simp only [pu', p0', c1', c0', i1', z0', b8_nat]
        refine sidxE ?_
        simp only [pu', p0', c1', c0', i1', z0', b8_nat]
        refine sloadE1 ?_
        simp only [pu', p0', c1', c0', i1', z0', b8_nat]
        refine sK (hx := rfl) (mod27 _ _ (by omega) (by omega)) ?_
        simp only [pu', p0', c1', c0', i1', z0', b8_nat]
        refine sassign ?_
        simp only [pu', p0', c1', c0', i1', z0', b8_nat]
        with_reducible refine s_end ?_
        with_reducible refine s_then ?_
        with_reducible refine s_seq ?_
        (refine s_regT (id := 6) (.light 0 (.light 1 (.light 2 (.light 3 (.light 4 (.light 5 (.light 6 (.light 7 (.light 8 (.light 9 (.light 10 (.alt 11 [0, 7, 10] (.light 12 (.light 13 (.light 14 (.light 15 (.light 16 (.alt 17 [0, 7, 10] (.alt 18 [0, 1, 2, 3, 4, 5, 6, 7, 8, 9, 10, 12, 13] (.light 19 (.light 20 (.light 21 (.done)))) (.no)) (.no))))))) (.alt 17 [] (.alt 11 [0, 7, 10] (.light 12 (.light 13 (.light 14 (.light 15 (.light 16 (.alt 18 [0, 1, 2, 3, 4, 5, 6, 7, 8, 9, 10, 12, 13] (.light 19 (.light 20 (.light 21 (.done)))) (.no))))))) (.no)) (.no)))))))))))))) [11, 17, 18] (by kernel_rfl) (by conv => lhs; simp only [pickT, List.getElem?_cons_succ, List.getElem?_cons_zero]) ?_)
        refine tloadW ?_
        simp only [pu', p0', c1', c0', i1', z0', b8_nat]
        refine tmove ?_
        simp only [pu', p0', c1', c0', i1', z0', b8_nat]
        refine tquo ?_
        simp only [pu', p0', c1', c0', i1', z0', b8_nat]
        refine tfad ?_
        simp only [pu', p0', c1', c0', i1', z0', b8_nat]
        refine tload1 ?_
        simp only [pu', p0', c1', c0', i1', z0', b8_nat]
        refine tlenE ?_
        simp only [pu', p0', c1', c0', i1', z0', b8_nat]
        refine tmax ?_
        simp only [pu', p0', c1', c0', i1', z0', b8_nat]
        refine trem ?_
        simp only [pu', p0', c1', c0', i1', z0', b8_nat]
        refine tmove ?_
        simp only [pu', p0', c1', c0', i1', z0', b8_nat]
        refine trem ?_
        simp only [pu', p0', c1', c0', i1', z0', b8_nat]
        refine tEq (fun hb => ?_) (fun hb => ?_)
        replace hb := dT' hb
        simp only [pu', p0', c1', c0', i1', z0', b8_nat]
        with_reducible refine u_both ?_ ?_
        refine uC (hx := rfl) ((c13 _ _ zu zw zt inferInstance inferInstance inferInstance inferInstance).mono ?_)
        rintro _ m13 _ ⟨yu, yw, yt, yl, rfl, pyu, pyw, pyt, pyl, S2⟩
        refine ⟨(by repeat' first | exact trivial | refine ⟨.inl rfl, ?_⟩ | refine ⟨.inr (ha_same inferInstance inferInstance), ?_⟩), ?_⟩
        simp only [pu', p0', c1', c0', i1', n0', n3', n1', n2', a2', a1', a0', n4', Nat.reduceAdd, z0', n5', sa0, sa1, sa2, sa3, sa4, sa5, sa6, sa7, sa8, sa9, sa10, sa11]
        refine tmove ?_
        simp only [pu', p0', c1', c0', i1', z0', b8_nat]
        refine text ?_
        simp only [pu', p0', c1', c0', i1', z0', b8_nat]
        refine text ?_
        simp only [pu', p0', c1', c0', i1', z0', b8_nat]
        refine text ?_
        simp only [pu', p0', c1', c0', i1', z0', b8_nat]
        refine text ?_
        simp only [pu', p0', c1', c0', i1', z0', b8_nat]
        refine ualloc ?_
        simp only [pu', p0', c1', c0', i1', n0', n3', n1', n2', a2', a1', a0', n4', Nat.reduceAdd, z0', n5', sa0, sa1, sa2, sa3, sa4, sa5, sa6, sa7, sa8, sa9, sa10, sa11]
        refine ustoreF ?_
        simp only [pu', p0', c1', c0', i1', n0', n3', n1', n2', a2', a1', a0', n4', Nat.reduceAdd, z0', n5', sa0, sa1, sa2, sa3, sa4, sa5, sa6, sa7, sa8, sa9, sa10, sa11]
        refine tassign ?_
        simp only [pu', p0', c1', c0', i1', z0', b8_nat]
        refine tassign ?_
        simp only [pu', p0', c1', c0', i1', z0', b8_nat]
        refine tassign ?_
        simp only [pu', p0', c1', c0', i1', z0', b8_nat]
        with_reducible refine t_end ?_
        with_reducible refine s_then ?_
        with_reducible refine s_seq ?_
        with_reducible refine s_seq ?_
        with_reducible refine s_reg ?_
        refine smove ?_
        simp only [pu', p0', c1', c0', i1', z0', b8_nat]
        refine sNe (fun hb => ?_) (fun hb => ?_)
        replace hb := dT' hb
        (exfalso; omega)
        replace hb := dF' hb
        simp only [pu', p0', c1', c0', i1', z0', b8_nat]
        with_reducible refine s_end ?_
        with_reducible refine s_then ?_
        refine sCF ?_
        with_reducible refine s_skip ?_
        with_reducible refine s_then ?_
        (refine s_regT (id := 9) (.light 0 (.light 1 (.light 2 (.alt 3 [1, 2] (.alt 4 [0, 1, 2] (.light 5 (.done)) (.no)) (.no))))) [3, 4] (by kernel_rfl) (by conv => lhs; simp only [pickT, List.getElem?_cons_succ, List.getElem?_cons_zero]) ?_)
        refine tloadW ?_
        simp only [pu', p0', c1', c0', i1', z0', b8_nat]
        refine tmove ?_
        simp only [pu', p0', c1', c0', i1', z0', b8_nat]
        refine tmove ?_
        simp only [pu', p0', c1', c0', i1', z0', b8_nat]
        (refine u_app 0 (l2 := l') (fun z1 Y1 T1 x1 => ?_) inferInstance rfl iok (inferInstance : EI _ yl l').p (by omega) inferInstance inferInstance; simp only [a1', c1', c0'] at T1; have pz1 := T1.sl 0 rfl; refine ⟨(by repeat' first | exact trivial | refine ⟨.inl rfl, ?_⟩ | refine ⟨.inr (ha_eq inferInstance inferInstance), ?_⟩), ?_⟩; simp only [Fr.put, List.set_cons_succ, List.set_cons_zero, Int.toNat_natCast, Nat.zero_add])
        refine ustoreF ?_
        simp only [pu', p0', c1', c0', i1', n0', n3', n1', n2', a2', a1', a0', n4', Nat.reduceAdd, z0', n5', sa0, sa1, sa2, sa3, sa4, sa5, sa6, sa7, sa8, sa9, sa10, sa11]
        refine tassign ?_
        simp only [pu', p0', c1', c0', i1', z0', b8_nat]
        with_reducible refine t_end ?_
        with_reducible refine s_blkN ?_
        with_reducible refine s_then ?_
        with_reducible refine s_reg ?_
        refine smove ?_
        simp only [pu', p0', c1', c0', i1', z0', b8_nat]
        refine sadd ?_
        simp only [pu', p0', c1', c0', i1', z0', b8_nat]
        refine sassign ?_
        simp only [pu', p0', c1', c0', i1', z0', b8_nat]
        with_reducible refine s_end ?_
        rotate_left 1
        refine ualloc ?_
        simp only [pu', p0', c1', c0', i1', n0', n3', n1', n2', a2', a1', a0', n4', Nat.reduceAdd, z0', n5', sa0, sa1, sa2, sa3, sa4, sa5, sa6, sa7, sa8, sa9, sa10, sa11]
        refine uC (hx := rfl) ((c13 _ _ zu zw zt inferInstance inferInstance inferInstance inferInstance).mono ?_)
        rintro _ m13 _ ⟨yu, yw, yt, yl, rfl, pyu, pyw, pyt, pyl, S2⟩
        refine ⟨(by repeat' first | exact trivial | refine ⟨.inl rfl, ?_⟩ | refine ⟨.inr (ha_same inferInstance inferInstance), ?_⟩), ?_⟩
        simp only [pu', p0', c1', c0', i1', n0', n3', n1', n2', a2', a1', a0', n4', Nat.reduceAdd, z0', n5', sa0, sa1, sa2, sa3, sa4, sa5, sa6, sa7, sa8, sa9, sa10, sa11]
        refine tmove ?_
        simp only [pu', p0', c1', c0', i1', z0', b8_nat]
        refine text ?_
        simp only [pu', p0', c1', c0', i1', z0', b8_nat]
        refine text ?_
        simp only [pu', p0', c1', c0', i1', z0', b8_nat]
        refine text ?_
        simp only [pu', p0', c1', c0', i1', z0', b8_nat]
        refine text ?_
        simp only [pu', p0', c1', c0', i1', z0', b8_nat]
        refine ustoreF ?_
        simp only [pu', p0', c1', c0', i1', n0', n3', n1', n2', a2', a1', a0', n4', Nat.reduceAdd, z0', n5', sa0, sa1, sa2, sa3, sa4, sa5, sa6, sa7, sa8, sa9, sa10, sa11]
        refine tassign ?_
        simp only [pu', p0', c1', c0', i1', z0', b8_nat]
        refine tassign ?_
        simp only [pu', p0', c1', c0', i1', z0', b8_nat]
        refine tassign ?_
        simp only [pu', p0', c1', c0', i1', z0', b8_nat]
        with_reducible refine t_end ?_
        with_reducible refine s_then ?_
        with_reducible refine s_seq ?_
        with_reducible refine s_seq ?_
        with_reducible refine s_reg ?_
        refine smove ?_
        simp only [pu', p0', c1', c0', i1', z0', b8_nat]
        refine sNe (fun hb => ?_) (fun hb => ?_)
        replace hb := dT' hb
        (exfalso; omega)
        replace hb := dF' hb
        simp only [pu', p0', c1', c0', i1', z0', b8_nat]
        with_reducible refine s_end ?_
        with_reducible refine s_then ?_
        refine sCF ?_
        with_reducible refine s_skip ?_
        with_reducible refine s_then ?_
        (refine s_regT (id := 9) (.light 0 (.light 1 (.light 2 (.alt 3 [1, 2] (.alt 4 [0, 1, 2] (.light 5 (.done)) (.no)) (.no))))) [3, 4] (by kernel_rfl) (by conv => lhs; simp only [pickT, List.getElem?_cons_succ, List.getElem?_cons_zero]) ?_)
        refine tloadW ?_
        simp only [pu', p0', c1', c0', i1', z0', b8_nat]
        refine tmove ?_
        simp only [pu', p0', c1', c0', i1', z0', b8_nat]
        refine tmove ?_
        simp only [pu', p0', c1', c0', i1', z0', b8_nat]
        (refine u_app 0 (l2 := l') (fun z1 Y1 T1 x1 => ?_) inferInstance rfl iok (inferInstance : EI _ yl l').p (by omega) inferInstance inferInstance; simp only [a1', c1', c0'] at T1; have pz1 := T1.sl 0 rfl; refine ⟨(by repeat' first | exact trivial | refine ⟨.inl rfl, ?_⟩ | refine ⟨.inr (ha_eq inferInstance inferInstance), ?_⟩), ?_⟩; simp only [Fr.put, List.set_cons_succ, List.set_cons_zero, Int.toNat_natCast, Nat.zero_add])
        refine ustoreF ?_
        simp only [pu', p0', c1', c0', i1', n0', n3', n1', n2', a2', a1', a0', n4', Nat.reduceAdd, z0', n5', sa0, sa1, sa2, sa3, sa4, sa5, sa6, sa7, sa8, sa9, sa10, sa11]
        refine tassign ?_
        simp only [pu', p0', c1', c0', i1', z0', b8_nat]
        with_reducible refine t_end ?_
        with_reducible refine s_blkN ?_
        with_reducible refine s_then ?_
        with_reducible refine s_reg ?_
        refine smove ?_
        simp only [pu', p0', c1', c0', i1', z0', b8_nat]
        refine sadd ?_
        simp only [pu', p0', c1', c0', i1', z0', b8_nat]
        refine sassign ?_
        simp only [pu', p0', c1', c0', i1', z0', b8_nat]
        with_reducible refine s_end ?_
        rotate_left 1
        replace hb := dF' hb
        exact absurd (by with_reducible assumption) hb
        replace hb := dF' hb
        (exfalso; omega)
        replace hb := dF' hb
        exact absurd (by with_reducible assumption) hb
      all_goals
        refine l_next (⟨k + 1, z1, yu, yw, yt, M ++ [WI yu us', WK yw ws', WT yt ts'], _⟩ : PiB) ⟨by simp only []; omega, by simp only []; omega, pz1, pyu, pyw, pyt, by simp only []; rw [hNk]; show QI h (M ++ _) yu us'; infer_instance, by simp only []; rw [hNk]; show QK h (M ++ _) yw ws'; infer_instance, by simp only []; rw [hNk]; show QT h (M ++ _) yt ts'; infer_instance, by simp only []; rw [hNk]; exact Sep.sub inferInstance (by simp only [List.cons_append, List.append_assoc, List.nil_append]; repeat' first | exact List.Sublist.refl _ | exact List.nil_sublist _ | refine List.Sublist.cons_cons _ ?_ | refine List.Sublist.append_left ?_ _ | refine List.Sublist.cons _ ?_)⟩ (by simp only []; omega) (by rfl) rfl
    · rw [hF, decide_eq_false hF1] at c13
      clear hF
      focus
        with_reducible refine s_seq ?_
        with_reducible refine s_seq ?_
        with_reducible refine s_reg ?_
        refine smove ?_
        simp only [pu', p0', c1', c0', i1', z0', b8_nat]
        refine smove ?_
        simp only [pu', p0', c1', c0', i1', z0', b8_nat]
        refine slenE ?_
        simp only [pu', p0', c1', c0', i1', z0', b8_nat]
        refine sLt (fun hb => ?_) (fun hb => ?_)
        replace hb := dT' hb
        simp only [pu', p0', c1', c0', i1', z0', b8_nat]
        refine smove ?_
        simp only [pu', p0', c1', c0', i1', z0', b8_nat]
        refine smove ?_
        simp only [pu', p0', c1', c0', i1', z0', b8_nat]
        refine sLt (fun hb => ?_) (fun hb => ?_)
        replace hb := dT' hb
        simp only [pu', p0', c1', c0', i1', z0', b8_nat]
        refine spickT ?_
        simp only [pu', p0', c1', c0', i1', z0', b8_nat]
        with_reducible refine s_end ?_
        with_reducible refine s_then ?_
        refine sCT ?_
        with_reducible refine s_skip ?_
        with_reducible refine s_then ?_
        with_reducible refine s_seq ?_
        with_reducible refine s_block ?_
        with_reducible refine s_seq ?_
        with_reducible refine s_reg ?_
        refine smove ?_
        simp only [pu', p0', c1', c0', i1', z0', b8_nat]
        refine smove ?_
        simp only [pu', p0', c1', c0', i1', z0', b8_nat]
        refine sidxE ?_
        simp only [pu', p0', c1', c0', i1', z0', b8_nat]
        refine sloadE1 ?_
        simp only [pu', p0', c1', c0', i1', z0', b8_nat]
        refine sK (hx := rfl) (mod27 _ _ (by omega) (by omega)) ?_
        simp only [pu', p0', c1', c0', i1', z0', b8_nat]
        refine sassign ?_
        simp only [pu', p0', c1', c0', i1', z0', b8_nat]
        with_reducible refine s_end ?_
        with_reducible refine s_then ?_
        with_reducible refine s_seq ?_
        (refine s_regT (id := 6) (.light 0 (.light 1 (.light 2 (.light 3 (.light 4 (.light 5 (.light 6 (.light 7 (.light 8 (.light 9 (.light 10 (.alt 11 [0, 7, 10] (.light 12 (.light 13 (.light 14 (.light 15 (.light 16 (.alt 17 [0, 7, 10] (.alt 18 [0, 1, 2, 3, 4, 5, 6, 7, 8, 9, 10, 12, 13] (.light 19 (.light 20 (.light 21 (.done)))) (.no)) (.no))))))) (.alt 17 [] (.alt 11 [0, 7, 10] (.light 12 (.light 13 (.light 14 (.light 15 (.light 16 (.alt 18 [0, 1, 2, 3, 4, 5, 6, 7, 8, 9, 10, 12, 13] (.light 19 (.light 20 (.light 21 (.done)))) (.no))))))) (.no)) (.no)))))))))))))) [11, 17, 18] (by kernel_rfl) (by conv => lhs; simp only [pickT, List.getElem?_cons_succ, List.getElem?_cons_zero]) ?_)
        refine tloadW ?_
        simp only [pu', p0', c1', c0', i1', z0', b8_nat]
        refine tmove ?_
        simp only [pu', p0', c1', c0', i1', z0', b8_nat]
        refine tquo ?_
        simp only [pu', p0', c1', c0', i1', z0', b8_nat]
        refine tfad ?_
        simp only [pu', p0', c1', c0', i1', z0', b8_nat]
        refine tload1 ?_
        simp only [pu', p0', c1', c0', i1', z0', b8_nat]
        refine tlenE ?_
        simp only [pu', p0', c1', c0', i1', z0', b8_nat]
        refine tmax ?_
        simp only [pu', p0', c1', c0', i1', z0', b8_nat]
        refine trem ?_
        simp only [pu', p0', c1', c0', i1', z0', b8_nat]
        refine tmove ?_
        simp only [pu', p0', c1', c0', i1', z0', b8_nat]
        refine trem ?_
        simp only [pu', p0', c1', c0', i1', z0', b8_nat]
        refine tEq (fun hb => ?_) (fun hb => ?_)
        replace hb := dT' hb
        (exfalso; omega)
        replace hb := dF' hb
        simp only [pu', p0', c1', c0', i1', z0', b8_nat]
        with_reducible refine u_both ?_ ?_
        refine uC (hx := rfl) ((c13 _ _ zu zw zt inferInstance inferInstance inferInstance inferInstance).mono ?_)
        rintro _ m13 _ ⟨yu, yw, yt, yl, rfl, pyu, pyw, pyt, pyl, S2⟩
        refine ⟨(by repeat' first | exact trivial | refine ⟨.inl rfl, ?_⟩ | refine ⟨.inr (ha_same inferInstance inferInstance), ?_⟩), ?_⟩
        simp only [pu', p0', c1', c0', i1', n0', n3', n1', n2', a2', a1', a0', n4', Nat.reduceAdd, z0', n5', sa0, sa1, sa2, sa3, sa4, sa5, sa6, sa7, sa8, sa9, sa10, sa11]
        refine tmove ?_
        simp only [pu', p0', c1', c0', i1', z0', b8_nat]
        refine text ?_
        simp only [pu', p0', c1', c0', i1', z0', b8_nat]
        refine text ?_
        simp only [pu', p0', c1', c0', i1', z0', b8_nat]
        refine text ?_
        simp only [pu', p0', c1', c0', i1', z0', b8_nat]
        refine text ?_
        simp only [pu', p0', c1', c0', i1', z0', b8_nat]
        refine ualloc ?_
        simp only [pu', p0', c1', c0', i1', n0', n3', n1', n2', a2', a1', a0', n4', Nat.reduceAdd, z0', n5', sa0, sa1, sa2, sa3, sa4, sa5, sa6, sa7, sa8, sa9, sa10, sa11]
        refine ustoreF ?_
        simp only [pu', p0', c1', c0', i1', n0', n3', n1', n2', a2', a1', a0', n4', Nat.reduceAdd, z0', n5', sa0, sa1, sa2, sa3, sa4, sa5, sa6, sa7, sa8, sa9, sa10, sa11]
        refine tassign ?_
        simp only [pu', p0', c1', c0', i1', z0', b8_nat]
        refine tassign ?_
        simp only [pu', p0', c1', c0', i1', z0', b8_nat]
        refine tassign ?_
        simp only [pu', p0', c1', c0', i1', z0', b8_nat]
        with_reducible refine t_end ?_
        with_reducible refine s_then ?_
        with_reducible refine s_seq ?_
        with_reducible refine s_seq ?_
        with_reducible refine s_reg ?_
        refine smove ?_
        simp only [pu', p0', c1', c0', i1', z0', b8_nat]
        refine sNe (fun hb => ?_) (fun hb => ?_)
        replace hb := dT' hb
        (exfalso; omega)
        replace hb := dF' hb
        simp only [pu', p0', c1', c0', i1', z0', b8_nat]
        with_reducible refine s_end ?_
        with_reducible refine s_then ?_
        refine sCF ?_
        with_reducible refine s_skip ?_
        with_reducible refine s_then ?_
        (refine s_regT (id := 9) (.light 0 (.light 1 (.light 2 (.alt 3 [1, 2] (.alt 4 [0, 1, 2] (.light 5 (.done)) (.no)) (.no))))) [3, 4] (by kernel_rfl) (by conv => lhs; simp only [pickT, List.getElem?_cons_succ, List.getElem?_cons_zero]) ?_)
        refine tloadW ?_
        simp only [pu', p0', c1', c0', i1', z0', b8_nat]
        refine tmove ?_
        simp only [pu', p0', c1', c0', i1', z0', b8_nat]
        refine tmove ?_
        simp only [pu', p0', c1', c0', i1', z0', b8_nat]
        (refine u_app 0 (l2 := l') (fun z1 Y1 T1 x1 => ?_) inferInstance rfl iok (inferInstance : EI _ yl l').p (by omega) inferInstance inferInstance; simp only [a1', c1', c0'] at T1; have pz1 := T1.sl 0 rfl; refine ⟨(by repeat' first | exact trivial | refine ⟨.inl rfl, ?_⟩ | refine ⟨.inr (ha_eq inferInstance inferInstance), ?_⟩), ?_⟩; simp only [Fr.put, List.set_cons_succ, List.set_cons_zero, Int.toNat_natCast, Nat.zero_add])
        refine ustoreF ?_
        simp only [pu', p0', c1', c0', i1', n0', n3', n1', n2', a2', a1', a0', n4', Nat.reduceAdd, z0', n5', sa0, sa1, sa2, sa3, sa4, sa5, sa6, sa7, sa8, sa9, sa10, sa11]
        refine tassign ?_
        simp only [pu', p0', c1', c0', i1', z0', b8_nat]
        with_reducible refine t_end ?_
        with_reducible refine s_blkN ?_
        with_reducible refine s_then ?_
        with_reducible refine s_reg ?_
        refine smove ?_
        simp only [pu', p0', c1', c0', i1', z0', b8_nat]
        refine sadd ?_
        simp only [pu', p0', c1', c0', i1', z0', b8_nat]
        refine sassign ?_
        simp only [pu', p0', c1', c0', i1', z0', b8_nat]
        with_reducible refine s_end ?_
        rotate_left 1
        refine ualloc ?_
        simp only [pu', p0', c1', c0', i1', n0', n3', n1', n2', a2', a1', a0', n4', Nat.reduceAdd, z0', n5', sa0, sa1, sa2, sa3, sa4, sa5, sa6, sa7, sa8, sa9, sa10, sa11]
        refine uC (hx := rfl) ((c13 _ _ zu zw zt inferInstance inferInstance inferInstance inferInstance).mono ?_)
        rintro _ m13 _ ⟨yu, yw, yt, yl, rfl, pyu, pyw, pyt, pyl, S2⟩
        refine ⟨(by repeat' first | exact trivial | refine ⟨.inl rfl, ?_⟩ | refine ⟨.inr (ha_same inferInstance inferInstance), ?_⟩), ?_⟩
        simp only [pu', p0', c1', c0', i1', n0', n3', n1', n2', a2', a1', a0', n4', Nat.reduceAdd, z0', n5', sa0, sa1, sa2, sa3, sa4, sa5, sa6, sa7, sa8, sa9, sa10, sa11]
        refine tmove ?_
        simp only [pu', p0', c1', c0', i1', z0', b8_nat]
        refine text ?_
        simp only [pu', p0', c1', c0', i1', z0', b8_nat]
        refine text ?_
        simp only [pu', p0', c1', c0', i1', z0', b8_nat]
        refine text ?_
        simp only [pu', p0', c1', c0', i1', z0', b8_nat]
        refine text ?_
        simp only [pu', p0', c1', c0', i1', z0', b8_nat]
        refine ustoreF ?_
        simp only [pu', p0', c1', c0', i1', n0', n3', n1', n2', a2', a1', a0', n4', Nat.reduceAdd, z0', n5', sa0, sa1, sa2, sa3, sa4, sa5, sa6, sa7, sa8, sa9, sa10, sa11]
        refine tassign ?_
        simp only [pu', p0', c1', c0', i1', z0', b8_nat]
        refine tassign ?_
        simp only [pu', p0', c1', c0', i1', z0', b8_nat]
        refine tassign ?_
        simp only [pu', p0', c1', c0', i1', z0', b8_nat]
        with_reducible refine t_end ?_
        with_reducible refine s_then ?_
        with_reducible refine s_seq ?_
        with_reducible refine s_seq ?_
        with_reducible refine s_reg ?_
        refine smove ?_
        simp only [pu', p0', c1', c0', i1', z0', b8_nat]
        refine sNe (fun hb => ?_) (fun hb => ?_)
        replace hb := dT' hb
        (exfalso; omega)
        replace hb := dF' hb
        simp only [pu', p0', c1', c0', i1', z0', b8_nat]
        with_reducible refine s_end ?_
        with_reducible refine s_then ?_
        refine sCF ?_
        with_reducible refine s_skip ?_
        with_reducible refine s_then ?_
        (refine s_regT (id := 9) (.light 0 (.light 1 (.light 2 (.alt 3 [1, 2] (.alt 4 [0, 1, 2] (.light 5 (.done)) (.no)) (.no))))) [3, 4] (by kernel_rfl) (by conv => lhs; simp only [pickT, List.getElem?_cons_succ, List.getElem?_cons_zero]) ?_)
        refine tloadW ?_
        simp only [pu', p0', c1', c0', i1', z0', b8_nat]
        refine tmove ?_
        simp only [pu', p0', c1', c0', i1', z0', b8_nat]
        refine tmove ?_
        simp only [pu', p0', c1', c0', i1', z0', b8_nat]
        (refine u_app 0 (l2 := l') (fun z1 Y1 T1 x1 => ?_) inferInstance rfl iok (inferInstance : EI _ yl l').p (by omega) inferInstance inferInstance; simp only [a1', c1', c0'] at T1; have pz1 := T1.sl 0 rfl; refine ⟨(by repeat' first | exact trivial | refine ⟨.inl rfl, ?_⟩ | refine ⟨.inr (ha_eq inferInstance inferInstance), ?_⟩), ?_⟩; simp only [Fr.put, List.set_cons_succ, List.set_cons_zero, Int.toNat_natCast, Nat.zero_add])
        refine ustoreF ?_
        simp only [pu', p0', c1', c0', i1', n0', n3', n1', n2', a2', a1', a0', n4', Nat.reduceAdd, z0', n5', sa0, sa1, sa2, sa3, sa4, sa5, sa6, sa7, sa8, sa9, sa10, sa11]
        refine tassign ?_
        simp only [pu', p0', c1', c0', i1', z0', b8_nat]
        with_reducible refine t_end ?_
        with_reducible refine s_blkN ?_
        with_reducible refine s_then ?_
        with_reducible refine s_reg ?_
        refine smove ?_
        simp only [pu', p0', c1', c0', i1', z0', b8_nat]
        refine sadd ?_
        simp only [pu', p0', c1', c0', i1', z0', b8_nat]
        refine sassign ?_
        simp only [pu', p0', c1', c0', i1', z0', b8_nat]
        with_reducible refine s_end ?_
        rotate_left 1
        replace hb := dF' hb
        (exfalso; omega)
        replace hb := dF' hb
        exact absurd (by with_reducible assumption) hb
      all_goals
        refine l_next (⟨k + 1, z1, yu, yw, yt, M ++ [WI yu us', WK yw ws', WT yt ts'], _⟩ : PiB) ⟨by simp only []; omega, by simp only []; omega, pz1, pyu, pyw, pyt, by simp only []; rw [hNk]; show QI h (M ++ _) yu us'; infer_instance, by simp only []; rw [hNk]; show QK h (M ++ _) yw ws'; infer_instance, by simp only []; rw [hNk]; show QT h (M ++ _) yt ts'; infer_instance, by simp only []; rw [hNk]; exact Sep.sub inferInstance (by simp only [List.cons_append, List.append_assoc, List.nil_append]; repeat' first | exact List.Sublist.refl _ | exact List.nil_sublist _ | refine List.Sublist.cons_cons _ ?_ | refine List.Sublist.append_left ?_ _ | refine List.Sublist.cons _ ?_)⟩ (by simp only []; omega) (by rfl) rfl
  · have hc' : picks.length ≤ k ∨ 40 ≤ k := by omega
    have hE' : pks (picks.take k) p [] = pks (picks.take 40) p [] := by
      rcases hc' with h1 | h1
      · rw [hE h1 hk40]
      · rw [show k = 40 by omega]
    rw [hE'] at am bm cm S1
    clear hp hN hE hE' hi ha
    generalize pks (picks.take 40) p [] = q at *
    obtain ⟨⟨us, ws, ts, out⟩, l⟩ := q
    simp only [] at *
    rcases hc' with hc' | hc'
    · with_reducible refine s_seq ?_
      with_reducible refine s_seq ?_
      with_reducible refine s_reg ?_
      refine smove ?_
      simp only [pu', p0', c1', c0', i1', z0', b8_nat]
      refine smove ?_
      simp only [pu', p0', c1', c0', i1', z0', b8_nat]
      refine slenE ?_
      simp only [pu', p0', c1', c0', i1', z0', b8_nat]
      refine sLt (fun hb => ?_) (fun hb => ?_)
      replace hb := dT' hb
      (exfalso; omega)
      replace hb := dF' hb
      simp only [pu', p0', c1', c0', i1', z0', b8_nat]
      refine smove ?_
      simp only [pu', p0', c1', c0', i1', z0', b8_nat]
      refine sN ?_
      simp only [pu', p0', c1', c0', i1', z0', b8_nat]
      refine sN ?_
      simp only [pu', p0', c1', c0', i1', z0', b8_nat]
      refine spickF ?_
      simp only [pu', p0', c1', c0', i1', z0', b8_nat]
      with_reducible refine s_end ?_
      with_reducible refine s_then ?_
      refine sCF ?_
      with_reducible refine s_exit ?_
      with_reducible refine s_thenE ?_
      with_reducible refine l_exit ?_
      with_reducible refine s_blkE ?_
      with_reducible refine s_then ?_
      with_reducible refine s_seq ?_
      with_reducible refine s_reg ?_
      refine sloadW ?_
      simp only [pu', p0', c1', c0', i1', z0', b8_nat]
      refine smove ?_
      simp only [pu', p0', c1', c0', i1', z0', b8_nat]
      refine sstoreF ?_
      simp only [pu', p0', c1', c0', i1', n0', n3', n1', n2', a2', a1', a0', n4', Nat.reduceAdd, z0', n5', sa0, sa1, sa2, sa3, sa4, sa5, sa6, sa7, sa8, sa9, sa10, sa11]
      refine sassign ?_
      simp only [pu', p0', c1', c0', i1', z0', b8_nat]
      refine sassign ?_
      simp only [pu', p0', c1', c0', i1', z0', b8_nat]
      with_reducible refine s_end ?_
      with_reducible refine s_then ?_
      with_reducible refine s_ret ?_
      all_goals try with_reducible refine w_n ?_
      all_goals refine w_3 rfl (by first | exact v_t (by rfl) | exact v_c1 (C1.p) (by rfl) (HA.p) (by rfl) | exact v_cF (CA.p) (by rfl) (HA.p) (by rfl)) (by first | exact v_t (by rfl) | exact v_c1 (C1.p) (by rfl) (HA.p) (by rfl) | exact v_cF (CA.p) (by rfl) (HA.p) (by rfl)) (by first | exact v_t (by rfl) | exact v_c1 (C1.p) (by rfl) (HA.p) (by rfl) | exact v_cF (CA.p) (by rfl) (HA.p) (by rfl)) ?_
      exact ⟨zu, zw, zt, z, M, rfl, pzu, pzw, pzt, pz, Sep.sub inferInstance (by repeat' first | exact List.Sublist.refl _ | exact List.sublist_append_left _ _ | exact List.nil_sublist _ | refine List.Sublist.cons_cons _ ?_ | refine List.Sublist.cons _ ?_ | refine List.Sublist.trans ?_ (List.sublist_append_left _ _)), am, bm, cm⟩
    · with_reducible refine s_seq ?_
      with_reducible refine s_seq ?_
      with_reducible refine s_reg ?_
      refine smove ?_
      simp only [pu', p0', c1', c0', i1', z0', b8_nat]
      refine smove ?_
      simp only [pu', p0', c1', c0', i1', z0', b8_nat]
      refine slenE ?_
      simp only [pu', p0', c1', c0', i1', z0', b8_nat]
      refine sLt (fun hb => ?_) (fun hb => ?_)
      replace hb := dT' hb
      simp only [pu', p0', c1', c0', i1', z0', b8_nat]
      refine smove ?_
      simp only [pu', p0', c1', c0', i1', z0', b8_nat]
      refine smove ?_
      simp only [pu', p0', c1', c0', i1', z0', b8_nat]
      refine sLt (fun hb => ?_) (fun hb => ?_)
      replace hb := dT' hb
      (exfalso; omega)
      replace hb := dF' hb
      simp only [pu', p0', c1', c0', i1', z0', b8_nat]
      refine spickT ?_
      simp only [pu', p0', c1', c0', i1', z0', b8_nat]
      with_reducible refine s_end ?_
      with_reducible refine s_then ?_
      refine sCF ?_
      with_reducible refine s_exit ?_
      with_reducible refine s_thenE ?_
      with_reducible refine l_exit ?_
      with_reducible refine s_blkE ?_
      with_reducible refine s_then ?_
      with_reducible refine s_seq ?_
      with_reducible refine s_reg ?_
      refine sloadW ?_
      simp only [pu', p0', c1', c0', i1', z0', b8_nat]
      refine smove ?_
      simp only [pu', p0', c1', c0', i1', z0', b8_nat]
      refine sstoreF ?_
      simp only [pu', p0', c1', c0', i1', n0', n3', n1', n2', a2', a1', a0', n4', Nat.reduceAdd, z0', n5', sa0, sa1, sa2, sa3, sa4, sa5, sa6, sa7, sa8, sa9, sa10, sa11]
      refine sassign ?_
      simp only [pu', p0', c1', c0', i1', z0', b8_nat]
      refine sassign ?_
      simp only [pu', p0', c1', c0', i1', z0', b8_nat]
      with_reducible refine s_end ?_
      with_reducible refine s_then ?_
      with_reducible refine s_ret ?_
      rotate_left 1
      replace hb := dF' hb
      simp only [pu', p0', c1', c0', i1', z0', b8_nat]
      refine smove ?_
      simp only [pu', p0', c1', c0', i1', z0', b8_nat]
      refine sN ?_
      simp only [pu', p0', c1', c0', i1', z0', b8_nat]
      refine sN ?_
      simp only [pu', p0', c1', c0', i1', z0', b8_nat]
      refine spickF ?_
      simp only [pu', p0', c1', c0', i1', z0', b8_nat]
      with_reducible refine s_end ?_
      with_reducible refine s_then ?_
      refine sCF ?_
      with_reducible refine s_exit ?_
      with_reducible refine s_thenE ?_
      with_reducible refine l_exit ?_
      with_reducible refine s_blkE ?_
      with_reducible refine s_then ?_
      with_reducible refine s_seq ?_
      with_reducible refine s_reg ?_
      refine sloadW ?_
      simp only [pu', p0', c1', c0', i1', z0', b8_nat]
      refine smove ?_
      simp only [pu', p0', c1', c0', i1', z0', b8_nat]
      refine sstoreF ?_
      simp only [pu', p0', c1', c0', i1', n0', n3', n1', n2', a2', a1', a0', n4', Nat.reduceAdd, z0', n5', sa0, sa1, sa2, sa3, sa4, sa5, sa6, sa7, sa8, sa9, sa10, sa11]
      refine sassign ?_
      simp only [pu', p0', c1', c0', i1', z0', b8_nat]
      refine sassign ?_
      simp only [pu', p0', c1', c0', i1', z0', b8_nat]
      with_reducible refine s_end ?_
      with_reducible refine s_then ?_
      with_reducible refine s_ret ?_
      rotate_left 1
      all_goals
        all_goals try with_reducible refine w_n ?_
        all_goals refine w_3 rfl (by first | exact v_t (by rfl) | exact v_c1 (C1.p) (by rfl) (HA.p) (by rfl) | exact v_cF (CA.p) (by rfl) (HA.p) (by rfl)) (by first | exact v_t (by rfl) | exact v_c1 (C1.p) (by rfl) (HA.p) (by rfl) | exact v_cF (CA.p) (by rfl) (HA.p) (by rfl)) (by first | exact v_t (by rfl) | exact v_c1 (C1.p) (by rfl) (HA.p) (by rfl) | exact v_cF (CA.p) (by rfl) (HA.p) (by rfl)) ?_
        exact ⟨zu, zw, zt, z, M, rfl, pzu, pzw, pzt, pz, Sep.sub inferInstance (by repeat' first | exact List.Sublist.refl _ | exact List.sublist_append_left _ _ | exact List.nil_sublist _ | refine List.Sublist.cons_cons _ ?_ | refine List.Sublist.cons _ ?_ | refine List.Sublist.trans ?_ (List.sublist_append_left _ _)), am, bm, cm⟩
end Go.Proofs.Ytfcgmkpihmiadaa
