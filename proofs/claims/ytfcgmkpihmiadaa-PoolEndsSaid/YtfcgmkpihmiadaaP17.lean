/-
  A part of the proof of a statement of a chapter's seat; conditions: stated at each theorem.
-/
import Derived.Test.YtfcgmkpihmiadaaP16
set_option linter.unusedVariables false
set_option linter.unusedSectionVars false
set_option linter.unusedSimpArgs false
set_option linter.unusedVariables false
set_option maxRecDepth 100000
set_option maxHeartbeats 8000000
namespace Go.Proofs.Ytfcgmkpihmiadaa
open Go.Az Go
/-! ### A worker is picked -/
theorem bs_22o (x : Int) : bslC Try.prog 22 1 [(0, I x)] = some (3, [I x]) := by kernel_rfl
instance (x : Int) : BS Try.prog 22 1 [(0, I x)] 3 [I x] := ⟨bs_22o x⟩
theorem pick_in {h X : Hp} {L : List Pc} (w : Wk) (s : AV) (l : List Tk) (b : Bool) (S : Sep h X L) (a : ET X s l) (hlen : l.length ≤ 1099511627776) : ACalls Try.prog 40 [.agg (encW w), s, B b] X (fun r h' => ∃ z, r = pkT (pickP w.j w.d l b) z ∧ SlC z ∧ Sep h h' (L ++ [WT z (pickP w.j w.d l b).l])) :=
  (pick_any w.j w.d b X s l a.p hlen).mono fun r h' _ ⟨z, h1, h2⟩ => ⟨z, h1, (RetS.sep encT_ok h2).sl 0 rfl, S.join (RetS.sep encT_ok h2)⟩
theorem emitted_in {h X : Hp} {L : List Pc} (i : Nat) (S : Sep h X L) : ACalls Try.prog 41 [.ptr i 0] X (fun r h' => ∃ ic, r = .fn (.func 63) [.ptr ic 0] ∧ Sep h h' (L ++ [pcC ic (.cells [.ptr i 0] 66 true)])) :=
  (emitted_mk X i).mono fun r h' _ ⟨h1, h2⟩ => ⟨X.length, h1, by rw [h2]; exact S.push _⟩
theorem em_all_lp {h G0 : Hp} {ip ic il io : Nat} {L L1 L2 L3 L4 E : List Pc} {tm : List AV} {ps : Array Tmp} {asg bd : Code} {d : Nat} (p0 : Pl) (su sw z0 : AV) (S : Sep h G0 L) (t1 : TakeW Tk L z0 encT 4 68 p0.ts L1) (t2 : TakeC L1 ip (.cells [su, sw, z0, I p0.out] 26 true) L2) (t3 : TakeC L2 ic (.cells [.ptr ip 0] 66 true) L3) (t4 : TakeC L3 il (.loop .ready none tm ps asg bd d) L4) (t5 : TakeC L4 io (.cells [nilS] 22 true) E) (a : QI h E su p0.us) (b : QK h E sw p0.ws) (pz0 : SlC z0) (pu : SlC su) (pw : SlC sw) (hf : Fits p0) (ho : 0 ≤ p0.out ∧ p0.out ≤ p0.ts.length) (hl : p0.ts.length ≤ p0.us.length)
    (hy : ∀ X z zo (q : Pl) (n : Int) (l : List Int), l.length ≤ 1000000 → SlC z → SlC zo → Sep h X (WT z q.ts :: CP ip su sw z q.out :: pcC ic (.cells [.ptr ip 0] 66 true) :: pcC il (.loop .ready none tm ps asg bd d) :: pcC io (.cells [zo] 22 true) :: WI zo l :: E) → AYld Try.prog il [I n] X (fun r h' => r = B true ∧ ∃ zo', SlC zo' ∧ Sep h h' (WT z q.ts :: CP ip su sw z q.out :: pcC ic (.cells [.ptr ip 0] 66 true) :: pcC il (.loop .ready none tm ps asg bd d) :: pcC io (.cells [zo'] 22 true) :: WI zo' (l ++ [n]) :: E))) :
    ACalls Try.prog 63 [.yld il, .ptr ic 0] G0 (fun _ h' => ∃ q z zo, q = emi (p0.us.length + 1) p0 [] ∧ SlC z ∧ SlC zo ∧ Sep h h' (WT z q.p.ts :: CP ip su sw z q.p.out :: pcC ic (.cells [.ptr ip 0] 66 true) :: pcC il (.loop .ready none tm ps asg bd d) :: pcC io (.cells [zo] 22 true) :: WI zo q.l :: E)) :=
  em_all p0 su sw z0 _ E (((S.take5 t1.tp t2.tp t3.tp t4.tp t5.tp).addNil (encI .i64) 1 3).perm (((((List.perm_append_comm (l₁ := E) (l₂ := [WI nilS []])).cons _).cons _).cons _).cons _ |>.cons _)) a b pz0 pu pw hf ho hl hy
theorem pick13_in (X : Hp) (p : Pl) (su sw st : AV) (a : EI X su p.us) (b : EK X sw p.ws) (c : ET X st p.ts) (hf : Fits p) (n : Nat) (f : Bool) (hi : Inv p) (hn : n < p.ws.length) : ACalls Try.prog 13 [PA su sw st p.out, I n, B f] X (fun r h' => ∃ zu zw zt zl, r = .tup [PA zu zw zt (pickQ p n f).p.out, I (pickQ p n f).w, zl, I (pickQ p n f).e] ∧ SlC zu ∧ SlC zw ∧ SlC zt ∧ SlC zl ∧ Sep X h' [WI zu (pickQ p n f).p.us, WK zw (pickQ p n f).p.ws, WT zt (pickQ p n f).p.ts, WI zl (pickQ p n f).l]) := by
  have s := pick_spec hi hn (b := f)
  rw [pickQ_at hi hn f]
  have he := (inv_iff p).2 hi
  have f1 := hf.u
  have f2 := hf.w
  have f3 := hf.t
  have h0 := hi.o0
  have h1 := hi.o1
  have c17 : ∀ Y, EI Y su p.us → EK Y sw p.ws → ET Y st p.ts → ACalls Try.prog 17 [PA su sw st p.out] Y (fun r h' => r = I 0 ∧ h' = Y) := fun Y a b c => by
    have := check39 Y p su sw st a b c hf
    rwa [he] at this
  have c40 : ∀ Y L, Sep X Y L → ET Y st p.ts → ACalls Try.prog 40 [.agg (encW (p.ws.getD n wk0)), st, B f] Y (fun r h' => ∃ z, r = .tup [.agg (encW ⟨(pickK p n f).j, (pickK p n f).d⟩), z, I (pickK p n f).w, I 0] ∧ SlC z ∧ Sep X h' (L ++ [WT z (pickK p n f).l])) := fun Y L S a => by
    have := pick_in (p.ws.getD n wk0) st p.ts f S a (by omega)
    rw [show pickP (p.ws.getD n wk0).j (p.ws.getD n wk0).d p.ts f = pickK p n f from rfl] at this
    unfold pkT at this
    rwa [s.e0] at this
  have hl := pick1_len hi s
  have hst := pick1_stop hi s
  have hmid := s.mid
  have hkl := s.len
  clear s
  generalize pickK p n f = k at *
  obtain ⟨us, ws, ts, out⟩ := p
  simp only [pick1, Int.toNat_natCast] at a b c f1 f2 f3 h0 h1 c17 c40 hl hst hmid hkl hn ⊢
  have pu := a.p.sl
  have pw := b.p.sl
  have pt := c.p.sl
  have S0 := Sep.nil X
  have c39 : ∀ Y L, Sep X Y L → EI Y su us → EK Y sw ws → ET Y st ts → ACalls Try.prog 39 [PA su sw st out] Y (fun r h' => ∃ zu zw zt, r = PA zu zw zt out ∧ SlC zu ∧ SlC zw ∧ SlC zt ∧ Sep X h' (L ++ [WI zu us, WK zw ws, WT zt ts])) := fun Y L S a b c => own_in ⟨us, ws, ts, out⟩ su sw st S a b c hf
  have hu := hmid.gu.2
  have hu1 := hmid.o1
  have hwl : (ws.set n ⟨k.j, k.d⟩).length = ws.length := List.length_set
  have hna := adm_no (n := us.length) (show ¬ (((⟨us, ws.set n ⟨k.j, k.d⟩, k.l, out⟩ : Pl).ts.length : Int) < admN ⟨us, ws.set n ⟨k.j, k.d⟩, k.l, out⟩) by rw [hl]; omega)
  by_cases hw : k.w = 3
  · have hE := emi_spec (us.length + 1) ⟨us, ws.set n ⟨k.j, k.d⟩, k.l, out⟩ [] hmid hl (by simp only []; omega)
    generalize hEq : emi (us.length + 1) ⟨us, ws.set n ⟨k.j, k.d⟩, k.l, out⟩ [] = E at hE ⊢
    obtain ⟨⟨us', ws', ts', out'⟩, l'⟩ := E
    simp only [] at hE ⊢
    obtain ⟨a1, rfl, rfl, a4, -, a6, -⟩ := hE
    have b1 := a1.le
    have b2 := admN_le ⟨us', ws.set n ⟨k.j, k.d⟩, ts', out'⟩
    have b3 := a1.o0
    have b4 := a1.o1
    have b5 := admN_le ⟨us', ws.set n ⟨k.j, k.d⟩, k.l, out⟩
    have hna2 := adm_no (n := us'.length) (show ¬ (((⟨us', ws.set n ⟨k.j, k.d⟩, ts', out'⟩ : Pl).ts.length : Int) < admN ⟨us', ws.set n ⟨k.j, k.d⟩, ts', out'⟩) by rw [b1]; omega)
    have e : (adQ ⟨us', ws.set n ⟨k.j, k.d⟩, ts', out'⟩).ts = ts' := congrArg Pl.ts hna2
    simp only [] at b1 b2 b3 b4 b5 hl
    refine acalls_of_wk hm Try.func13 rfl ?_
    simp only [Try.ntmps13, List.length_cons, List.length_nil, Nat.reduceAdd, Nat.reduceSub, List.reduceReplicate, List.cons_append, List.nil_append]
    show wk _ _ none _ _ ⟨_, []⟩ _
    focus
      with_reducible refine s_seq ?_
      with_reducible refine s_reg ?_
      refine sboxA ?_
      simp only [pu', p0', c1', c0', i1', n0', n3', n1', n2', a2', a1', a0', n4', Nat.reduceAdd, z0', n5', sa0, sa1, sa2, sa3, sa4, sa5, sa6, sa7, sa8, sa9, sa10, sa11]
      refine salloc ?_
      simp only [pu', p0', c1', c0', i1', n0', n3', n1', n2', a2', a1', a0', n4', Nat.reduceAdd, z0', n5', sa0, sa1, sa2, sa3, sa4, sa5, sa6, sa7, sa8, sa9, sa10, sa11]
      refine sassign ?_
      simp only [pu', p0', c1', c0', i1', z0', b8_nat]
      refine salloc ?_
      simp only [pu', p0', c1', c0', i1', n0', n3', n1', n2', a2', a1', a0', n4', Nat.reduceAdd, z0', n5', sa0, sa1, sa2, sa3, sa4, sa5, sa6, sa7, sa8, sa9, sa10, sa11]
      refine sassign ?_
      simp only [pu', p0', c1', c0', i1', z0', b8_nat]
      with_reducible refine s_end ?_
      with_reducible refine s_then ?_
      with_reducible refine s_seq ?_
      with_reducible refine s_seq ?_
      with_reducible refine s_reg ?_
      refine sloadW ?_
      simp only [pu', p0', c1', c0', i1', z0', b8_nat]
      refine sM (hx := rfl) (c17 _ inferInstance inferInstance inferInstance) ?_
      simp only [pu', p0', c1', c0', i1', z0', b8_nat]
      refine sassign ?_
      simp only [pu', p0', c1', c0', i1', z0', b8_nat]
      with_reducible refine s_end ?_
      with_reducible refine s_then ?_
      with_reducible refine s_seq ?_
      with_reducible refine s_reg ?_
      refine smove ?_
      simp only [pu', p0', c1', c0', i1', z0', b8_nat]
      refine sNe (fun hb => ?_) (fun hb => ?_)
      replace hb := dT' hb
      (exfalso; omega)
      replace hb := dF' hb
      simp only [pu', p0', c1', c0', i1', z0', b8_nat]
      with_reducible refine s_end ?_
      with_reducible refine s_then ?_
      refine sCF ?_
      with_reducible refine s_skip ?_
      with_reducible refine s_then ?_
      with_reducible refine s_seq ?_
      with_reducible refine s_seq ?_
      with_reducible refine s_reg ?_
      refine smove ?_
      simp only [pu', p0', c1', c0', i1', z0', b8_nat]
      refine sLt (fun hb => ?_) (fun hb => ?_)
      replace hb := dT' hb
      (exfalso; omega)
      replace hb := dF' hb
      simp only [pu', p0', c1', c0', i1', z0', b8_nat]
      refine smove ?_
      simp only [pu', p0', c1', c0', i1', z0', b8_nat]
      refine smove ?_
      simp only [pu', p0', c1', c0', i1', z0', b8_nat]
      refine sfad ?_
      simp only [pu', p0', c1', c0', i1', z0', b8_nat]
      refine sload1 ?_
      simp only [pu', p0', c1', c0', i1', z0', b8_nat]
      refine slenE ?_
      simp only [pu', p0', c1', c0', i1', z0', b8_nat]
      refine sGe (fun hb => ?_) (fun hb => ?_)
      replace hb := dT' hb
      (exfalso; omega)
      replace hb := dF' hb
      simp only [pu', p0', c1', c0', i1', z0', b8_nat]
      refine spickF ?_
      simp only [pu', p0', c1', c0', i1', z0', b8_nat]
      with_reducible refine s_end ?_
      with_reducible refine s_then ?_
      refine sCF ?_
      with_reducible refine s_skip ?_
      with_reducible refine s_then ?_
      with_reducible refine s_seq ?_
      with_reducible refine s_reg ?_
      refine sloadW ?_
      simp only [pu', p0', c1', c0', i1', z0', b8_nat]
      refine sC (hx := rfl) ((c39 _ _ inferInstance inferInstance inferInstance inferInstance).mono ?_)
      rintro _ m39 _ ⟨zu, zw, zs, rfl, pzu, pzw, pzs, S1⟩
      simp only [pu', p0', c1', c0', i1', n0', n3', n1', n2', a2', a1', a0', n4', Nat.reduceAdd, z0', n5', sa0, sa1, sa2, sa3, sa4, sa5, sa6, sa7, sa8, sa9, sa10, sa11]
      refine sstoreF ?_
      simp only [pu', p0', c1', c0', i1', n0', n3', n1', n2', a2', a1', a0', n4', Nat.reduceAdd, z0', n5', sa0, sa1, sa2, sa3, sa4, sa5, sa6, sa7, sa8, sa9, sa10, sa11]
      with_reducible refine s_end ?_
      with_reducible refine s_then ?_
      with_reducible refine s_seq ?_
      (refine s_regT (id := 7) (.light 0 (.light 1 (.light 2 (.light 3 (.light 4 (.light 5 (.light 6 (.light 8 (.light 9 (.light 10 (.alt 7 [6] (.alt 11 [6, 9, 10] (.light 12 (.light 13 (.light 14 (.light 15 (.light 16 (.light 17 (.alt 18 [0, 1, 2, 3, 4, 5, 6, 8, 9, 10, 12, 13, 17] (.light 19 (.alt 20 [0, 1, 2, 3, 4, 5, 6, 8, 9, 10, 12, 13, 14, 17, 19] (.light 21 (.light 22 (.done))) (.no))) (.no)))))))) (.no)) (.no)))))))))))) [7, 11, 18, 20] (by kernel_rfl) (by conv => lhs; simp only [pickT, List.getElem?_cons_succ, List.getElem?_cons_zero]) ?_)
      refine tfad ?_
      simp only [pu', p0', c1', c0', i1', z0', b8_nat]
      refine tload1 ?_
      simp only [pu', p0', c1', c0', i1', z0', b8_nat]
      refine tmove ?_
      simp only [pu', p0', c1', c0', i1', z0', b8_nat]
      refine tfad ?_
      simp only [pu', p0', c1', c0', i1', z0', b8_nat]
      refine tload1 ?_
      simp only [pu', p0', c1', c0', i1', z0', b8_nat]
      refine tmove ?_
      simp only [pu', p0', c1', c0', i1', z0', b8_nat]
      refine tidxE ?_
      simp only [pu', p0', c1', c0', i1', z0', b8_nat]
      refine tfad ?_
      simp only [pu', p0', c1', c0', i1', z0', b8_nat]
      refine tload1 ?_
      simp only [pu', p0', c1', c0', i1', z0', b8_nat]
      refine tmove ?_
      simp only [pu', p0', c1', c0', i1', z0', b8_nat]
      refine uloadE ?_
      simp only [pu', p0', c1', c0', i1', z0', b8_nat]
      refine uC (hx := rfl) ((c40 _ _ inferInstance inferInstance).mono ?_)
      rintro _ m40 _ ⟨z, rfl, pz, S2⟩
      refine ⟨(by repeat' first | exact trivial | refine ⟨.inl rfl, ?_⟩ | refine ⟨.inr (ha_same inferInstance inferInstance), ?_⟩), ?_⟩
      simp only [pu', p0', c1', c0', i1', n0', n3', n1', n2', a2', a1', a0', n4', Nat.reduceAdd, z0', n5', sa0, sa1, sa2, sa3, sa4, sa5, sa6, sa7, sa8, sa9, sa10, sa11]
      refine tmove ?_
      simp only [pu', p0', c1', c0', i1', z0', b8_nat]
      refine text ?_
      simp only [pu', p0', c1', c0', i1', z0', b8_nat]
      refine text ?_
      simp only [pu', p0', c1', c0', i1', z0', b8_nat]
      refine text ?_
      simp only [pu', p0', c1', c0', i1', z0', b8_nat]
      refine text ?_
      simp only [pu', p0', c1', c0', i1', z0', b8_nat]
      refine tidxE ?_
      simp only [pu', p0', c1', c0', i1', z0', b8_nat]
      (refine u_stA (x := (n : Int)) 4 ⟨k.j, k.d⟩ wk0 (fun Y1 T1 => ?_) inferInstance rfl encW_ok inferInstance (by omega) (by omega) (by rfl) (inferInstance : AllP [I k.j, I k.d]); simp only [List.nil_append, List.cons_append, List.set_cons_succ, List.set_cons_zero] at T1; refine ⟨(by repeat' first | exact trivial | refine ⟨.inl rfl, ?_⟩ | refine ⟨.inr (ha_eq inferInstance inferInstance), ?_⟩), ?_⟩; simp only [Fr.put, List.set_cons_succ, List.set_cons_zero, Int.toNat_natCast, Nat.zero_add])
      refine tfad ?_
      simp only [pu', p0', c1', c0', i1', z0', b8_nat]
      refine ustore1 ?_
      simp only [pu', p0', c1', c0', i1', n0', n3', n1', n2', a2', a1', a0', n4', Nat.reduceAdd, z0', n5', sa0, sa1, sa2, sa3, sa4, sa5, sa6, sa7, sa8, sa9, sa10, sa11]
      refine tassign ?_
      simp only [pu', p0', c1', c0', i1', z0', b8_nat]
      refine tassign ?_
      simp only [pu', p0', c1', c0', i1', z0', b8_nat]
      with_reducible refine t_end ?_
      with_reducible refine s_then ?_
      with_reducible refine s_seq ?_
      with_reducible refine s_seq ?_
      with_reducible refine s_reg ?_
      refine smove ?_
      simp only [pu', p0', c1', c0', i1', z0', b8_nat]
      with_reducible refine s_end ?_
      with_reducible refine s_then ?_
      with_reducible refine s_block ?_
      with_reducible refine s_seq ?_
      with_reducible refine s_block ?_
      with_reducible refine s_seq ?_
      with_reducible refine s_block ?_
      with_reducible refine s_seq ?_
      with_reducible refine s_seq ?_
      with_reducible refine s_reg ?_
      refine sEq (fun hb => ?_) (fun hb => ?_)
      replace hb := dT' hb
      simp only [pu', p0', c1', c0', i1', z0', b8_nat]
      refine sassign ?_
      simp only [pu', p0', c1', c0', i1', z0', b8_nat]
      with_reducible refine s_end ?_
      with_reducible refine s_then ?_
      refine sCT ?_
      with_reducible refine s_exit ?_
      with_reducible refine s_thenE ?_
      with_reducible refine s_blkE ?_
      with_reducible refine s_then ?_
      with_reducible refine s_seq ?_
      with_reducible refine s_reg ?_
      refine sC (hx := rfl) ((emitted_in _ inferInstance).mono ?_)
      rintro _ m41 _ ⟨ic, rfl, S3⟩
      simp only [pu', p0', c1', c0', i1', n0', n3', n1', n2', a2', a1', a0', n4', Nat.reduceAdd, z0', n5', sa0, sa1, sa2, sa3, sa4, sa5, sa6, sa7, sa8, sa9, sa10, sa11]
      with_reducible refine s_end ?_
      with_reducible refine s_then ?_
      with_reducible refine s_block ?_
      rotate_left 1
      replace hb := dF' hb
      exact absurd (by with_reducible assumption) hb
    refine s_range ?_
    refine (em_all_lp (h := X) (ip := X.length + 1) (io := X.length + 2) ⟨us', ws.set n ⟨k.j, k.d⟩, k.l, out⟩ zu zw z inferInstance inferInstance inferInstance inferInstance inferInstance inferInstance inferInstance inferInstance pz pzu pzw ⟨f1, by simp only [hwl]; exact f2, by simp only [hkl]; exact f3⟩ ⟨h0, hu1⟩ (by simp only []; omega) ?_).mono ?_
    · intro Y z' zo q nn l hl2 pz' pzo S5
      refine ayld_at1 hm inferInstance ?_
      simp only [Fr.put, List.set_cons_succ, List.set_cons_zero, Int.toNat_natCast, Nat.zero_add]
      with_reducible refine s_reg ?_
      refine sassign ?_
      simp only [pu', p0', c1', c0', i1', z0', b8_nat]
      with_reducible refine s_end ?_
      refine asg_n hm inferInstance ?_
      refine wk_gen inferInstance (fun G S6 => ?_)
      with_reducible refine s_block ?_
      with_reducible refine s_reg ?_
      refine sload1 ?_
      simp only [pu', p0', c1', c0', i1', z0', b8_nat]
      refine smove ?_
      simp only [pu', p0', c1', c0', i1', z0', b8_nat]
      refine sbsl ?_
      simp only [pu', p0', c1', c0', i1', n0', n3', n1', n2', a2', a1', a0', n4', Nat.reduceAdd, z0', n5', sa0, sa1, sa2, sa3, sa4, sa5, sa6, sa7, sa8, sa9, sa10, sa11]
      (refine s_app 5 (l2 := [nn]) (fun zo' Y1 T1 x1 => ?_) inferInstance rfl iok (elts_at (l := [nn]) iok inferInstance rfl) (by simp only [List.length_cons, List.length_nil]; omega) inferInstance inferInstance; simp only [a1', c1', c0'] at T1; have pzo' := T1.sl 5 rfl; simp only [Fr.put, List.set_cons_succ, List.set_cons_zero, Int.toNat_natCast, Nat.zero_add])
      refine sstore1 ?_
      simp only [pu', p0', c1', c0', i1', n0', n3', n1', n2', a2', a1', a0', n4', Nat.reduceAdd, z0', n5', sa0, sa1, sa2, sa3, sa4, sa5, sa6, sa7, sa8, sa9, sa10, sa11]
      with_reducible refine s_end ?_
      with_reducible refine s_blkN ?_
      refine rnd_n inferInstance ⟨rfl, zo', pzo', Sep.sub inferInstance (by repeat' first | exact List.Sublist.refl _ | exact List.sublist_append_left _ _ | exact List.nil_sublist _ | refine List.Sublist.cons_cons _ ?_ | refine List.Sublist.cons _ ?_ | refine List.Sublist.trans ?_ (List.sublist_append_left _ _))⟩
    · rintro _ Y _ ⟨q, z', zo, hq, pz', pzo, S5⟩
      have hq := hq.trans hEq
      subst hq
      simp only [] at S5
      refine beh_n ?_ inferInstance rfl
      with_reducible refine s_blkN ?_
      with_reducible refine s_blkN ?_
      with_reducible refine s_then ?_
      with_reducible refine s_seq ?_
      with_reducible refine s_reg ?_
      refine sloadW ?_
      simp only [pu', p0', c1', c0', i1', z0', b8_nat]
      refine sC (hx := rfl) ((admit_in ⟨us', ws.set n ⟨k.j, k.d⟩, ts', out'⟩ zu zw z' inferInstance inferInstance inferInstance inferInstance pz' pzu pzw ⟨f1, by simp only [hwl]; exact f2, by simp only []; omega⟩ (by simp only []; omega)).mono ?_)
      rintro _ m42 _ ⟨z1, rfl, pz1, S4⟩
      simp only [pu', p0', c1', c0', i1', n0', n3', n1', n2', a2', a1', a0', n4', Nat.reduceAdd, z0', n5', sa0, sa1, sa2, sa3, sa4, sa5, sa6, sa7, sa8, sa9, sa10, sa11]
      refine sstoreF ?_
      simp only [pu', p0', c1', c0', i1', n0', n3', n1', n2', a2', a1', a0', n4', Nat.reduceAdd, z0', n5', sa0, sa1, sa2, sa3, sa4, sa5, sa6, sa7, sa8, sa9, sa10, sa11]
      with_reducible refine s_end ?_
      with_reducible refine s_then ?_
      with_reducible refine s_exit ?_
      with_reducible refine s_blkE ?_
      with_reducible refine s_then ?_
      with_reducible refine s_seq ?_
      (refine s_regT (id := 14) (.light 0 (.light 1 (.light 2 (.light 3 (.alt 4 [0] (.light 5 (.alt 6 [0, 1, 2, 5] (.light 7 (.done)) (.no))) (.no)))))) [4, 6] (by kernel_rfl) (by conv => lhs; simp only [pickT, List.getElem?_cons_succ, List.getElem?_cons_zero]) ?_)
      refine tloadW ?_
      simp only [pu', p0', c1', c0', i1', z0', b8_nat]
      refine tmove ?_
      simp only [pu', p0', c1', c0', i1', z0', b8_nat]
      refine tload1 ?_
      simp only [pu', p0', c1', c0', i1', z0', b8_nat]
      refine tmove ?_
      simp only [pu', p0', c1', c0', i1', z0', b8_nat]
      refine ustoreF ?_
      simp only [pu', p0', c1', c0', i1', n0', n3', n1', n2', a2', a1', a0', n4', Nat.reduceAdd, z0', n5', sa0, sa1, sa2, sa3, sa4, sa5, sa6, sa7, sa8, sa9, sa10, sa11]
      refine tassign ?_
      simp only [pu', p0', c1', c0', i1', z0', b8_nat]
      refine ustore1 ?_
      simp only [pu', p0', c1', c0', i1', n0', n3', n1', n2', a2', a1', a0', n4', Nat.reduceAdd, z0', n5', sa0, sa1, sa2, sa3, sa4, sa5, sa6, sa7, sa8, sa9, sa10, sa11]
      refine tassign ?_
      simp only [pu', p0', c1', c0', i1', z0', b8_nat]
      with_reducible refine t_end ?_
      with_reducible refine s_then ?_
      with_reducible refine s_ret ?_
      rw [e] at S4
      refine rk_dfr ?_ inferInstance
      all_goals try with_reducible refine w_n ?_
      all_goals refine w_4 rfl (by first | exact v_t (by rfl) | exact v_c1 (C1.p) (by rfl) (HA.p) (by rfl) | exact v_cF (CA.p) (by rfl) (HA.p) (by rfl)) (by first | exact v_t (by rfl) | exact v_c1 (C1.p) (by rfl) (HA.p) (by rfl) | exact v_cF (CA.p) (by rfl) (HA.p) (by rfl)) (by first | exact v_t (by rfl) | exact v_c1 (C1.p) (by rfl) (HA.p) (by rfl) | exact v_cF (CA.p) (by rfl) (HA.p) (by rfl)) (by first | exact v_t (by rfl) | exact v_c1 (C1.p) (by rfl) (HA.p) (by rfl) | exact v_cF (CA.p) (by rfl) (HA.p) (by rfl)) ?_
      exact ⟨zu, zw, z1, zo, rfl, pzu, pzw, pz1, pzo, Sep.sub (Sep.take4 inferInstance (TakeW.tp (z := zu) inferInstance) (TakeW.tp (z := zw) inferInstance) (TakeW.tp (z := z1) inferInstance) (TakeW.tp (z := zo) inferInstance)) (by repeat' first | exact List.Sublist.refl _ | exact List.sublist_append_left _ _ | exact List.nil_sublist _ | refine List.Sublist.cons_cons _ ?_ | refine List.Sublist.cons _ ?_ | refine List.Sublist.trans ?_ (List.sublist_append_left _ _))⟩
  · rw [show emi (us.length + 1) ⟨us, ws.set n ⟨k.j, k.d⟩, k.l, out⟩ [] = ⟨⟨us, ws.set n ⟨k.j, k.d⟩, k.l, out⟩, []⟩ from emi_no (hst hw)]
    simp only []
    refine acalls_of_wk hm Try.func13 rfl ?_
    simp only [Try.ntmps13, List.length_cons, List.length_nil, Nat.reduceAdd, Nat.reduceSub, List.reduceReplicate, List.cons_append, List.nil_append]
    show wk _ _ none _ _ ⟨_, []⟩ _
    with_reducible refine s_seq ?_
    with_reducible refine s_reg ?_
    refine sboxA ?_
    simp only [pu', p0', c1', c0', i1', n0', n3', n1', n2', a2', a1', a0', n4', Nat.reduceAdd, z0', n5', sa0, sa1, sa2, sa3, sa4, sa5, sa6, sa7, sa8, sa9, sa10, sa11]
    refine salloc ?_
    simp only [pu', p0', c1', c0', i1', n0', n3', n1', n2', a2', a1', a0', n4', Nat.reduceAdd, z0', n5', sa0, sa1, sa2, sa3, sa4, sa5, sa6, sa7, sa8, sa9, sa10, sa11]
    refine sassign ?_
    simp only [pu', p0', c1', c0', i1', z0', b8_nat]
    refine salloc ?_
    simp only [pu', p0', c1', c0', i1', n0', n3', n1', n2', a2', a1', a0', n4', Nat.reduceAdd, z0', n5', sa0, sa1, sa2, sa3, sa4, sa5, sa6, sa7, sa8, sa9, sa10, sa11]
    refine sassign ?_
    simp only [pu', p0', c1', c0', i1', z0', b8_nat]
    with_reducible refine s_end ?_
    with_reducible refine s_then ?_
    with_reducible refine s_seq ?_
    with_reducible refine s_seq ?_
    with_reducible refine s_reg ?_
    refine sloadW ?_
    simp only [pu', p0', c1', c0', i1', z0', b8_nat]
    refine sM (hx := rfl) (c17 _ inferInstance inferInstance inferInstance) ?_
    simp only [pu', p0', c1', c0', i1', z0', b8_nat]
    refine sassign ?_
    simp only [pu', p0', c1', c0', i1', z0', b8_nat]
    with_reducible refine s_end ?_
    with_reducible refine s_then ?_
    with_reducible refine s_seq ?_
    with_reducible refine s_reg ?_
    refine smove ?_
    simp only [pu', p0', c1', c0', i1', z0', b8_nat]
    refine sNe (fun hb => ?_) (fun hb => ?_)
    replace hb := dT' hb
    (exfalso; omega)
    replace hb := dF' hb
    simp only [pu', p0', c1', c0', i1', z0', b8_nat]
    with_reducible refine s_end ?_
    with_reducible refine s_then ?_
    refine sCF ?_
    with_reducible refine s_skip ?_
    with_reducible refine s_then ?_
    with_reducible refine s_seq ?_
    with_reducible refine s_seq ?_
    with_reducible refine s_reg ?_
    refine smove ?_
    simp only [pu', p0', c1', c0', i1', z0', b8_nat]
    refine sLt (fun hb => ?_) (fun hb => ?_)
    replace hb := dT' hb
    (exfalso; omega)
    replace hb := dF' hb
    simp only [pu', p0', c1', c0', i1', z0', b8_nat]
    refine smove ?_
    simp only [pu', p0', c1', c0', i1', z0', b8_nat]
    refine smove ?_
    simp only [pu', p0', c1', c0', i1', z0', b8_nat]
    refine sfad ?_
    simp only [pu', p0', c1', c0', i1', z0', b8_nat]
    refine sload1 ?_
    simp only [pu', p0', c1', c0', i1', z0', b8_nat]
    refine slenE ?_
    simp only [pu', p0', c1', c0', i1', z0', b8_nat]
    refine sGe (fun hb => ?_) (fun hb => ?_)
    replace hb := dT' hb
    (exfalso; omega)
    replace hb := dF' hb
    simp only [pu', p0', c1', c0', i1', z0', b8_nat]
    refine spickF ?_
    simp only [pu', p0', c1', c0', i1', z0', b8_nat]
    with_reducible refine s_end ?_
    with_reducible refine s_then ?_
    refine sCF ?_
    with_reducible refine s_skip ?_
    with_reducible refine s_then ?_
    with_reducible refine s_seq ?_
    with_reducible refine s_reg ?_
    refine sloadW ?_
    simp only [pu', p0', c1', c0', i1', z0', b8_nat]
    refine sC (hx := rfl) ((c39 _ _ inferInstance inferInstance inferInstance inferInstance).mono ?_)
    rintro _ m39 _ ⟨zu, zw, zs, rfl, pzu, pzw, pzs, S1⟩
    simp only [pu', p0', c1', c0', i1', n0', n3', n1', n2', a2', a1', a0', n4', Nat.reduceAdd, z0', n5', sa0, sa1, sa2, sa3, sa4, sa5, sa6, sa7, sa8, sa9, sa10, sa11]
    refine sstoreF ?_
    simp only [pu', p0', c1', c0', i1', n0', n3', n1', n2', a2', a1', a0', n4', Nat.reduceAdd, z0', n5', sa0, sa1, sa2, sa3, sa4, sa5, sa6, sa7, sa8, sa9, sa10, sa11]
    with_reducible refine s_end ?_
    with_reducible refine s_then ?_
    with_reducible refine s_seq ?_
    (refine s_regT (id := 7) (.light 0 (.light 1 (.light 2 (.light 3 (.light 4 (.light 5 (.light 6 (.light 8 (.light 9 (.light 10 (.alt 7 [6] (.alt 11 [6, 9, 10] (.light 12 (.light 13 (.light 14 (.light 15 (.light 16 (.light 17 (.alt 18 [0, 1, 2, 3, 4, 5, 6, 8, 9, 10, 12, 13, 17] (.light 19 (.alt 20 [0, 1, 2, 3, 4, 5, 6, 8, 9, 10, 12, 13, 14, 17, 19] (.light 21 (.light 22 (.done))) (.no))) (.no)))))))) (.no)) (.no)))))))))))) [7, 11, 18, 20] (by kernel_rfl) (by conv => lhs; simp only [pickT, List.getElem?_cons_succ, List.getElem?_cons_zero]) ?_)
    refine tfad ?_
    simp only [pu', p0', c1', c0', i1', z0', b8_nat]
    refine tload1 ?_
    simp only [pu', p0', c1', c0', i1', z0', b8_nat]
    refine tmove ?_
    simp only [pu', p0', c1', c0', i1', z0', b8_nat]
    refine tfad ?_
    simp only [pu', p0', c1', c0', i1', z0', b8_nat]
    refine tload1 ?_
    simp only [pu', p0', c1', c0', i1', z0', b8_nat]
    refine tmove ?_
    simp only [pu', p0', c1', c0', i1', z0', b8_nat]
    refine tidxE ?_
    simp only [pu', p0', c1', c0', i1', z0', b8_nat]
    refine tfad ?_
    simp only [pu', p0', c1', c0', i1', z0', b8_nat]
    refine tload1 ?_
    simp only [pu', p0', c1', c0', i1', z0', b8_nat]
    refine tmove ?_
    simp only [pu', p0', c1', c0', i1', z0', b8_nat]
    refine uloadE ?_
    simp only [pu', p0', c1', c0', i1', z0', b8_nat]
    refine uC (hx := rfl) ((c40 _ _ inferInstance inferInstance).mono ?_)
    rintro _ m40 _ ⟨z, rfl, pz, S2⟩
    refine ⟨(by repeat' first | exact trivial | refine ⟨.inl rfl, ?_⟩ | refine ⟨.inr (ha_same inferInstance inferInstance), ?_⟩), ?_⟩
    simp only [pu', p0', c1', c0', i1', n0', n3', n1', n2', a2', a1', a0', n4', Nat.reduceAdd, z0', n5', sa0, sa1, sa2, sa3, sa4, sa5, sa6, sa7, sa8, sa9, sa10, sa11]
    refine tmove ?_
    simp only [pu', p0', c1', c0', i1', z0', b8_nat]
    refine text ?_
    simp only [pu', p0', c1', c0', i1', z0', b8_nat]
    refine text ?_
    simp only [pu', p0', c1', c0', i1', z0', b8_nat]
    refine text ?_
    simp only [pu', p0', c1', c0', i1', z0', b8_nat]
    refine text ?_
    simp only [pu', p0', c1', c0', i1', z0', b8_nat]
    refine tidxE ?_
    simp only [pu', p0', c1', c0', i1', z0', b8_nat]
    (refine u_stA (x := (n : Int)) 4 ⟨k.j, k.d⟩ wk0 (fun Y1 T1 => ?_) inferInstance rfl encW_ok inferInstance (by omega) (by omega) (by rfl) (inferInstance : AllP [I k.j, I k.d]); simp only [List.nil_append, List.cons_append, List.set_cons_succ, List.set_cons_zero] at T1; refine ⟨(by repeat' first | exact trivial | refine ⟨.inl rfl, ?_⟩ | refine ⟨.inr (ha_eq inferInstance inferInstance), ?_⟩), ?_⟩; simp only [Fr.put, List.set_cons_succ, List.set_cons_zero, Int.toNat_natCast, Nat.zero_add])
    refine tfad ?_
    simp only [pu', p0', c1', c0', i1', z0', b8_nat]
    refine ustore1 ?_
    simp only [pu', p0', c1', c0', i1', n0', n3', n1', n2', a2', a1', a0', n4', Nat.reduceAdd, z0', n5', sa0, sa1, sa2, sa3, sa4, sa5, sa6, sa7, sa8, sa9, sa10, sa11]
    refine tassign ?_
    simp only [pu', p0', c1', c0', i1', z0', b8_nat]
    refine tassign ?_
    simp only [pu', p0', c1', c0', i1', z0', b8_nat]
    with_reducible refine t_end ?_
    with_reducible refine s_then ?_
    with_reducible refine s_seq ?_
    with_reducible refine s_seq ?_
    with_reducible refine s_reg ?_
    refine smove ?_
    simp only [pu', p0', c1', c0', i1', z0', b8_nat]
    with_reducible refine s_end ?_
    with_reducible refine s_then ?_
    with_reducible refine s_block ?_
    with_reducible refine s_seq ?_
    with_reducible refine s_block ?_
    with_reducible refine s_seq ?_
    with_reducible refine s_block ?_
    with_reducible refine s_seq ?_
    with_reducible refine s_seq ?_
    with_reducible refine s_reg ?_
    refine sEq (fun hb => ?_) (fun hb => ?_)
    replace hb := dT' hb
    (exfalso; omega)
    replace hb := dF' hb
    simp only [pu', p0', c1', c0', i1', z0', b8_nat]
    refine sassign ?_
    simp only [pu', p0', c1', c0', i1', z0', b8_nat]
    with_reducible refine s_end ?_
    with_reducible refine s_then ?_
    refine sCF ?_
    with_reducible refine s_skip ?_
    with_reducible refine s_then ?_
    with_reducible refine s_exit ?_
    with_reducible refine s_blkX (by decide) ?_
    with_reducible refine s_thenE ?_
    with_reducible refine s_blkE ?_
    with_reducible refine s_then ?_
    with_reducible refine s_seq ?_
    with_reducible refine s_reg ?_
    refine sloadW ?_
    simp only [pu', p0', c1', c0', i1', z0', b8_nat]
    refine sC (hx := rfl) ((admit_in ⟨us, ws.set n ⟨k.j, k.d⟩, k.l, out⟩ zu zw z inferInstance inferInstance inferInstance inferInstance pz pzu pzw ⟨f1, by simp only [hwl]; exact f2, by simp only [hkl]; exact f3⟩ (by simp only []; omega)).mono ?_)
    rintro _ m42 _ ⟨z1, rfl, pz1, S4⟩
    simp only [pu', p0', c1', c0', i1', n0', n3', n1', n2', a2', a1', a0', n4', Nat.reduceAdd, z0', n5', sa0, sa1, sa2, sa3, sa4, sa5, sa6, sa7, sa8, sa9, sa10, sa11]
    refine sstoreF ?_
    simp only [pu', p0', c1', c0', i1', n0', n3', n1', n2', a2', a1', a0', n4', Nat.reduceAdd, z0', n5', sa0, sa1, sa2, sa3, sa4, sa5, sa6, sa7, sa8, sa9, sa10, sa11]
    with_reducible refine s_end ?_
    with_reducible refine s_then ?_
    with_reducible refine s_exit ?_
    with_reducible refine s_blkE ?_
    with_reducible refine s_then ?_
    with_reducible refine s_seq ?_
    (refine s_regT (id := 14) (.light 0 (.light 1 (.light 2 (.light 3 (.alt 4 [0] (.light 5 (.alt 6 [0, 1, 2, 5] (.light 7 (.done)) (.no))) (.no)))))) [4, 6] (by kernel_rfl) (by conv => lhs; simp only [pickT, List.getElem?_cons_succ, List.getElem?_cons_zero]) ?_)
    refine tloadW ?_
    simp only [pu', p0', c1', c0', i1', z0', b8_nat]
    refine tmove ?_
    simp only [pu', p0', c1', c0', i1', z0', b8_nat]
    refine tload1 ?_
    simp only [pu', p0', c1', c0', i1', z0', b8_nat]
    refine tmove ?_
    simp only [pu', p0', c1', c0', i1', z0', b8_nat]
    refine ustoreF ?_
    simp only [pu', p0', c1', c0', i1', n0', n3', n1', n2', a2', a1', a0', n4', Nat.reduceAdd, z0', n5', sa0, sa1, sa2, sa3, sa4, sa5, sa6, sa7, sa8, sa9, sa10, sa11]
    refine tassign ?_
    simp only [pu', p0', c1', c0', i1', z0', b8_nat]
    refine ustore1 ?_
    simp only [pu', p0', c1', c0', i1', n0', n3', n1', n2', a2', a1', a0', n4', Nat.reduceAdd, z0', n5', sa0, sa1, sa2, sa3, sa4, sa5, sa6, sa7, sa8, sa9, sa10, sa11]
    refine tassign ?_
    simp only [pu', p0', c1', c0', i1', z0', b8_nat]
    with_reducible refine t_end ?_
    with_reducible refine s_then ?_
    with_reducible refine s_ret ?_
    have e : (adQ ⟨us, ws.set n ⟨k.j, k.d⟩, k.l, out⟩).ts = k.l := congrArg Pl.ts hna
    rw [e] at S4
    all_goals try with_reducible refine w_n ?_
    all_goals refine w_4 rfl (by first | exact v_t (by rfl) | exact v_c1 (C1.p) (by rfl) (HA.p) (by rfl) | exact v_cF (CA.p) (by rfl) (HA.p) (by rfl)) (by first | exact v_t (by rfl) | exact v_c1 (C1.p) (by rfl) (HA.p) (by rfl) | exact v_cF (CA.p) (by rfl) (HA.p) (by rfl)) (by first | exact v_t (by rfl) | exact v_c1 (C1.p) (by rfl) (HA.p) (by rfl) | exact v_cF (CA.p) (by rfl) (HA.p) (by rfl)) (by first | exact v_t (by rfl) | exact v_c1 (C1.p) (by rfl) (HA.p) (by rfl) | exact v_cF (CA.p) (by rfl) (HA.p) (by rfl)) ?_
    exact ⟨zu, zw, z1, nilS, rfl, pzu, pzw, pz1, inferInstance, Sep.sub (Sep.take3 (Sep.addNil inferInstance (encI .i64) 1 3) (TakeW.tp (z := zu) inferInstance) (TakeW.tp (z := zw) inferInstance) (TakeW.tp (z := z1) inferInstance)) (by repeat' first | exact List.Sublist.refl _ | exact List.sublist_append_left _ _ | exact List.nil_sublist _ | refine List.Sublist.cons_cons _ ?_ | refine List.Sublist.cons _ ?_ | refine List.Sublist.trans ?_ (List.sublist_append_left _ _))⟩
end Go.Proofs.Ytfcgmkpihmiadaa
