/-
  A part of the proof of a statement of a chapter's seat; conditions: stated at each theorem.
-/
import Derived.Test.YtfcgmkpihmiadaaP18
set_option linter.unusedVariables false
set_option linter.unusedSectionVars false
set_option linter.unusedSimpArgs false
set_option linter.unusedVariables false
set_option maxRecDepth 100000
set_option maxHeartbeats 8000000
namespace Go.Proofs.Ytfcgmkpihmiadaa
open Go.Az Go
/-! ### A pick, as the document says it -/
theorem rpick14_in (X : Hp) (p : Pl) (su sw st : AV) (a : EI X su p.us) (b : EK X sw p.ws) (c : ET X st p.ts) (hf : Fits p) (n : Nat) (f : Bool) (hi : Inv p) (hn : n < p.ws.length) : ACalls Try.prog 14 [PA su sw st p.out, I n, B f] X (PkN X (pickQ p n f)) := by
  have s := pick_spec hi hn (b := f)
  rw [pickQ_at hi hn f]
  have he := (inv_iff p).2 hi
  have f1 := hf.u
  have f2 := hf.w
  have f3 := hf.t
  have h0 := hi.o0
  have h1 := hi.o1
  have c18 : ∀ Y, EI Y su p.us → EK Y sw p.ws → ET Y st p.ts → ACalls Try.prog 18 [PA su sw st p.out] Y (fun r h' => r = I 0 ∧ h' = Y) := fun Y a b c => by
    have := rcheck39 Y p su sw st a b c hf
    rwa [he] at this
  have c44 : ∀ Y L z, Sep X Y L → ET Y z p.ts → ACalls Try.prog 44 [.agg (encW (p.ws.getD n wk0)), z, B f] Y (fun r h' => ∃ z, r = .tup [.agg (encW ⟨(pickK p n f).j, (pickK p n f).d⟩), z, I (pickK p n f).w, I 0] ∧ SlC z ∧ Sep X h' (L ++ [WT z (pickK p n f).l])) := fun Y L z S a => by
    have := rpick_in (p.ws.getD n wk0) z p.ts f S a (by omega)
    rw [show pickP (p.ws.getD n wk0).j (p.ws.getD n wk0).d p.ts f = pickK p n f from rfl] at this
    unfold pkT at this
    rwa [s.e0] at this
  have hl := pick1_len hi s
  have hmid := s.mid
  have hkl := s.len
  clear s
  generalize pickK p n f = k at *
  obtain ⟨us, ws, ts, out⟩ := p
  simp only [pick1, Int.toNat_natCast] at a b c f1 f2 f3 h0 h1 c18 c44 hl hmid hkl hn ⊢
  have pu := a.p.sl
  have pw := b.p.sl
  have pt := c.p.sl
  have S0 := Sep.nil X
  have c43 : ∀ Y L, Sep X Y L → EI Y su us → EK Y sw ws → ET Y st ts → ACalls Try.prog 43 [PA su sw st out] Y (fun r h' => ∃ zu zw zt, r = PA zu zw zt out ∧ SlC zu ∧ SlC zw ∧ SlC zt ∧ Sep X h' (L ++ [WI zu us, WK zw ws, WT zt ts])) := fun Y L S a b c => rown_in ⟨us, ws, ts, out⟩ su sw st S a b c hf
  have hu := hmid.gu.2
  have hu1 := hmid.o1
  have hwl : (ws.set n ⟨k.j, k.d⟩).length = ws.length := List.length_set
  have b5 := admN_le ⟨us, ws.set n ⟨k.j, k.d⟩, k.l, out⟩
  simp only [] at hl b5 hu1 hu
  refine acalls_of_wk hm Try.func14 rfl ?_
  simp only [Try.ntmps14, List.length_cons, List.length_nil, Nat.reduceAdd, Nat.reduceSub, List.reduceReplicate, List.cons_append, List.nil_append]
  show wk _ _ none _ _ ⟨_, []⟩ _
  focus
    with_reducible refine s_seq ?_
    with_reducible refine s_reg ?_
    refine sboxA ?_
    simp only [pu', p0', c1', c0', i1', n0', n3', n1', n2', a2', a1', a0', n4', Nat.reduceAdd, z0', n5', sa0, sa1, sa2, sa3, sa4, sa5, sa6, sa7, sa8, sa9, sa10, sa11]
    refine salloc ?_
    simp only [pu', p0', c1', c0', i1', n0', n3', n1', n2', a2', a1', a0', n4', Nat.reduceAdd, z0', n5', sa0, sa1, sa2, sa3, sa4, sa5, sa6, sa7, sa8, sa9, sa10, sa11]
    refine sassign ?_
    simp only [pu', p0', c1', c0', i1', z0', b8_nat]
    refine sassign ?_
    simp only [pu', p0', c1', c0', i1', z0', b8_nat]
    refine sassign ?_
    simp only [pu', p0', c1', c0', i1', z0', b8_nat]
    with_reducible refine s_end ?_
    with_reducible refine s_then ?_
    with_reducible refine s_seq ?_
    with_reducible refine s_reg ?_
    refine sloadW ?_
    simp only [pu', p0', c1', c0', i1', z0', b8_nat]
    refine sM (hx := rfl) (c18 _ inferInstance inferInstance inferInstance) ?_
    simp only [pu', p0', c1', c0', i1', z0', b8_nat]
    refine sassign ?_
    simp only [pu', p0', c1', c0', i1', z0', b8_nat]
    with_reducible refine s_end ?_
    with_reducible refine s_then ?_
    with_reducible refine s_seq ?_
    with_reducible refine s_seq ?_
    with_reducible refine s_reg ?_
    refine smove ?_
    simp only [pu', p0', c1', c0', i1', z0', b8_nat]
    refine sEq (fun hb => ?_) (fun hb => ?_)
    replace hb := dT' hb
    simp only [pu', p0', c1', c0', i1', z0', b8_nat]
    refine smove ?_
    simp only [pu', p0', c1', c0', i1', z0', b8_nat]
    refine smove ?_
    simp only [pu', p0', c1', c0', i1', z0', b8_nat]
    refine sLt (fun hb => ?_) (fun hb => ?_)
    replace hb := dT' hb
    (exfalso; omega)
    replace hb := dF' hb
    simp only [pu', p0', c1', c0', i1', z0', b8_nat]
    refine smove ?_
    simp only [pu', p0', c1', c0', i1', z0', b8_nat]
    refine smove ?_
    simp only [pu', p0', c1', c0', i1', z0', b8_nat]
    refine sfad ?_
    simp only [pu', p0', c1', c0', i1', z0', b8_nat]
    refine sload1 ?_
    simp only [pu', p0', c1', c0', i1', z0', b8_nat]
    refine slenE ?_
    simp only [pu', p0', c1', c0', i1', z0', b8_nat]
    refine sGe (fun hb => ?_) (fun hb => ?_)
    replace hb := dT' hb
    (exfalso; omega)
    replace hb := dF' hb
    simp only [pu', p0', c1', c0', i1', z0', b8_nat]
    refine spickF ?_
    simp only [pu', p0', c1', c0', i1', z0', b8_nat]
    refine spickT ?_
    simp only [pu', p0', c1', c0', i1', z0', b8_nat]
    with_reducible refine s_end ?_
    with_reducible refine s_then ?_
    refine sCF ?_
    with_reducible refine s_skip ?_
    with_reducible refine s_then ?_
    with_reducible refine s_seq ?_
    with_reducible refine s_seq ?_
    with_reducible refine s_reg ?_
    refine smove ?_
    simp only [pu', p0', c1', c0', i1', z0', b8_nat]
    refine sNe (fun hb => ?_) (fun hb => ?_)
    replace hb := dT' hb
    (exfalso; omega)
    replace hb := dF' hb
    simp only [pu', p0', c1', c0', i1', z0', b8_nat]
    with_reducible refine s_end ?_
    with_reducible refine s_then ?_
    refine sCF ?_
    with_reducible refine s_skip ?_
    with_reducible refine s_then ?_
    with_reducible refine s_seq ?_
    with_reducible refine s_reg ?_
    refine sloadW ?_
    simp only [pu', p0', c1', c0', i1', z0', b8_nat]
    refine sC (hx := rfl) ((c43 _ _ inferInstance inferInstance inferInstance inferInstance).mono ?_)
    rintro _ m43 _ ⟨zu, zw, zs, rfl, pzu, pzw, pzs, S1⟩
    simp only [pu', p0', c1', c0', i1', n0', n3', n1', n2', a2', a1', a0', n4', Nat.reduceAdd, z0', n5', sa0, sa1, sa2, sa3, sa4, sa5, sa6, sa7, sa8, sa9, sa10, sa11]
    refine sstoreF ?_
    simp only [pu', p0', c1', c0', i1', n0', n3', n1', n2', a2', a1', a0', n4', Nat.reduceAdd, z0', n5', sa0, sa1, sa2, sa3, sa4, sa5, sa6, sa7, sa8, sa9, sa10, sa11]
    with_reducible refine s_end ?_
    with_reducible refine s_then ?_
    with_reducible refine s_seq ?_
    rotate_left 1
    replace hb := dF' hb
    exact absurd rfl hb
  refine wk_gen inferInstance (fun G S3 => ?_)
  focus
    (refine s_regT (id := 7) (.light 0 (.light 1 (.light 2 (.light 3 (.light 5 (.light 6 (.light 7 (.alt 4 [3] (.alt 8 [3, 6, 7] (.light 9 (.light 10 (.light 11 (.light 12 (.light 13 (.alt 14 [3, 6, 7] (.alt 15 [0, 1, 2, 3, 5, 6, 7, 9, 10] (.light 16 (.light 17 (.light 18 (.done)))) (.no)) (.no))))))) (.alt 14 [3] (.alt 8 [3, 6, 7] (.light 9 (.light 10 (.light 11 (.light 12 (.light 13 (.alt 15 [0, 1, 2, 3, 5, 6, 7, 9, 10] (.light 16 (.light 17 (.light 18 (.done)))) (.no))))))) (.no)) (.no))) (.alt 14 [] (.alt 4 [3] (.alt 8 [3, 6, 7] (.light 9 (.light 10 (.light 11 (.light 12 (.light 13 (.alt 15 [0, 1, 2, 3, 5, 6, 7, 9, 10] (.light 16 (.light 17 (.light 18 (.done)))) (.no))))))) (.no)) (.no)) (.no)))))))))) [4, 8, 14, 15] (by kernel_rfl) (by conv => lhs; simp only [pickT, List.getElem?_cons_succ, List.getElem?_cons_zero]) ?_)
    refine tfad ?_
    simp only [pu', p0', c1', c0', i1', z0', b8_nat]
    refine tload1 ?_
    simp only [pu', p0', c1', c0', i1', z0', b8_nat]
    refine tmove ?_
    simp only [pu', p0', c1', c0', i1', z0', b8_nat]
    refine tidxE ?_
    simp only [pu', p0', c1', c0', i1', z0', b8_nat]
    refine tfad ?_
    simp only [pu', p0', c1', c0', i1', z0', b8_nat]
    refine tload1 ?_
    simp only [pu', p0', c1', c0', i1', z0', b8_nat]
    refine tmove ?_
    simp only [pu', p0', c1', c0', i1', z0', b8_nat]
    with_reducible refine u_both ?_ ?_
    refine uloadE ?_
    simp only [pu', p0', c1', c0', i1', z0', b8_nat]
    with_reducible refine u_both ?_ ?_
    refine uC (hx := rfl) ((c44 _ _ zs inferInstance inferInstance).mono ?_)
    rintro _ m44 _ ⟨z, rfl, pz, S2⟩
    refine ⟨(by repeat' first | exact trivial | refine ⟨.inl rfl, ?_⟩ | refine ⟨.inr (ha_same inferInstance inferInstance), ?_⟩), ?_⟩
    simp only [pu', p0', c1', c0', i1', n0', n3', n1', n2', a2', a1', a0', n4', Nat.reduceAdd, z0', n5', sa0, sa1, sa2, sa3, sa4, sa5, sa6, sa7, sa8, sa9, sa10, sa11]
    refine tmove ?_
    simp only [pu', p0', c1', c0', i1', z0', b8_nat]
    refine text ?_
    simp only [pu', p0', c1', c0', i1', z0', b8_nat]
    refine text ?_
    simp only [pu', p0', c1', c0', i1', z0', b8_nat]
    refine text ?_
    simp only [pu', p0', c1', c0', i1', z0', b8_nat]
    refine text ?_
    simp only [pu', p0', c1', c0', i1', z0', b8_nat]
    refine ualloc ?_
    simp only [pu', p0', c1', c0', i1', n0', n3', n1', n2', a2', a1', a0', n4', Nat.reduceAdd, z0', n5', sa0, sa1, sa2, sa3, sa4, sa5, sa6, sa7, sa8, sa9, sa10, sa11]
    refine ustoreF ?_
    simp only [pu', p0', c1', c0', i1', n0', n3', n1', n2', a2', a1', a0', n4', Nat.reduceAdd, z0', n5', sa0, sa1, sa2, sa3, sa4, sa5, sa6, sa7, sa8, sa9, sa10, sa11]
    refine tassign ?_
    simp only [pu', p0', c1', c0', i1', z0', b8_nat]
    refine tassign ?_
    simp only [pu', p0', c1', c0', i1', z0', b8_nat]
    refine tassign ?_
    simp only [pu', p0', c1', c0', i1', z0', b8_nat]
    with_reducible refine t_end ?_
    with_reducible refine s_then ?_
    with_reducible refine s_seq ?_
    with_reducible refine s_seq ?_
    with_reducible refine s_reg ?_
    refine smove ?_
    simp only [pu', p0', c1', c0', i1', z0', b8_nat]
    refine sNe (fun hb => ?_) (fun hb => ?_)
    replace hb := dT' hb
    (exfalso; omega)
    replace hb := dF' hb
    simp only [pu', p0', c1', c0', i1', z0', b8_nat]
    with_reducible refine s_end ?_
    with_reducible refine s_then ?_
    refine sCF ?_
    with_reducible refine s_skip ?_
    with_reducible refine s_then ?_
    with_reducible refine s_seq ?_
    with_reducible refine s_reg ?_
    refine sfad ?_
    simp only [pu', p0', c1', c0', i1', z0', b8_nat]
    refine sload1 ?_
    simp only [pu', p0', c1', c0', i1', z0', b8_nat]
    refine smove ?_
    simp only [pu', p0', c1', c0', i1', z0', b8_nat]
    refine sloadW ?_
    simp only [pu', p0', c1', c0', i1', z0', b8_nat]
    refine smove ?_
    simp only [pu', p0', c1', c0', i1', z0', b8_nat]
    refine sidxE ?_
    simp only [pu', p0', c1', c0', i1', z0', b8_nat]
    (refine s_stA (x := (n : Int)) 3 ⟨k.j, k.d⟩ wk0 (fun Y1 T1 => ?_) inferInstance rfl encW_ok inferInstance (by omega) (by omega) (by rfl) (inferInstance : AllP [I k.j, I k.d]); simp only [List.nil_append, List.cons_append, List.set_cons_succ, List.set_cons_zero] at T1; simp only [Fr.put, List.set_cons_succ, List.set_cons_zero, Int.toNat_natCast, Nat.zero_add])
    refine sfad ?_
    simp only [pu', p0', c1', c0', i1', z0', b8_nat]
    refine sstore1 ?_
    simp only [pu', p0', c1', c0', i1', n0', n3', n1', n2', a2', a1', a0', n4', Nat.reduceAdd, z0', n5', sa0, sa1, sa2, sa3, sa4, sa5, sa6, sa7, sa8, sa9, sa10, sa11]
    with_reducible refine s_end ?_
    with_reducible refine s_then ?_
    with_reducible refine s_seq ?_
    with_reducible refine s_reg ?_
    refine sassign ?_
    simp only [pu', p0', c1', c0', i1', z0', b8_nat]
    with_reducible refine s_end ?_
    with_reducible refine s_then ?_
    with_reducible refine s_seq ?_
    with_reducible refine s_block ?_
    rotate_left 1
    refine ualloc ?_
    simp only [pu', p0', c1', c0', i1', n0', n3', n1', n2', a2', a1', a0', n4', Nat.reduceAdd, z0', n5', sa0, sa1, sa2, sa3, sa4, sa5, sa6, sa7, sa8, sa9, sa10, sa11]
    refine uC (hx := rfl) ((c44 _ _ zs inferInstance inferInstance).mono ?_)
    rintro _ m44 _ ⟨z, rfl, pz, S2⟩
    refine ⟨(by repeat' first | exact trivial | refine ⟨.inl rfl, ?_⟩ | refine ⟨.inr (ha_same inferInstance inferInstance), ?_⟩), ?_⟩
    simp only [pu', p0', c1', c0', i1', n0', n3', n1', n2', a2', a1', a0', n4', Nat.reduceAdd, z0', n5', sa0, sa1, sa2, sa3, sa4, sa5, sa6, sa7, sa8, sa9, sa10, sa11]
    refine tmove ?_
    simp only [pu', p0', c1', c0', i1', z0', b8_nat]
    refine text ?_
    simp only [pu', p0', c1', c0', i1', z0', b8_nat]
    refine text ?_
    simp only [pu', p0', c1', c0', i1', z0', b8_nat]
    refine text ?_
    simp only [pu', p0', c1', c0', i1', z0', b8_nat]
    refine text ?_
    simp only [pu', p0', c1', c0', i1', z0', b8_nat]
    refine ustoreF ?_
    simp only [pu', p0', c1', c0', i1', n0', n3', n1', n2', a2', a1', a0', n4', Nat.reduceAdd, z0', n5', sa0, sa1, sa2, sa3, sa4, sa5, sa6, sa7, sa8, sa9, sa10, sa11]
    refine tassign ?_
    simp only [pu', p0', c1', c0', i1', z0', b8_nat]
    refine tassign ?_
    simp only [pu', p0', c1', c0', i1', z0', b8_nat]
    refine tassign ?_
    simp only [pu', p0', c1', c0', i1', z0', b8_nat]
    with_reducible refine t_end ?_
    with_reducible refine s_then ?_
    with_reducible refine s_seq ?_
    with_reducible refine s_seq ?_
    with_reducible refine s_reg ?_
    refine smove ?_
    simp only [pu', p0', c1', c0', i1', z0', b8_nat]
    refine sNe (fun hb => ?_) (fun hb => ?_)
    replace hb := dT' hb
    (exfalso; omega)
    replace hb := dF' hb
    simp only [pu', p0', c1', c0', i1', z0', b8_nat]
    with_reducible refine s_end ?_
    with_reducible refine s_then ?_
    refine sCF ?_
    with_reducible refine s_skip ?_
    with_reducible refine s_then ?_
    with_reducible refine s_seq ?_
    with_reducible refine s_reg ?_
    refine sfad ?_
    simp only [pu', p0', c1', c0', i1', z0', b8_nat]
    refine sload1 ?_
    simp only [pu', p0', c1', c0', i1', z0', b8_nat]
    refine smove ?_
    simp only [pu', p0', c1', c0', i1', z0', b8_nat]
    refine sloadW ?_
    simp only [pu', p0', c1', c0', i1', z0', b8_nat]
    refine smove ?_
    simp only [pu', p0', c1', c0', i1', z0', b8_nat]
    refine sidxE ?_
    simp only [pu', p0', c1', c0', i1', z0', b8_nat]
    (refine s_stA (x := (n : Int)) 3 ⟨k.j, k.d⟩ wk0 (fun Y1 T1 => ?_) inferInstance rfl encW_ok inferInstance (by omega) (by omega) (by rfl) (inferInstance : AllP [I k.j, I k.d]); simp only [List.nil_append, List.cons_append, List.set_cons_succ, List.set_cons_zero] at T1; simp only [Fr.put, List.set_cons_succ, List.set_cons_zero, Int.toNat_natCast, Nat.zero_add])
    refine sfad ?_
    simp only [pu', p0', c1', c0', i1', z0', b8_nat]
    refine sstore1 ?_
    simp only [pu', p0', c1', c0', i1', n0', n3', n1', n2', a2', a1', a0', n4', Nat.reduceAdd, z0', n5', sa0, sa1, sa2, sa3, sa4, sa5, sa6, sa7, sa8, sa9, sa10, sa11]
    with_reducible refine s_end ?_
    with_reducible refine s_then ?_
    with_reducible refine s_seq ?_
    with_reducible refine s_reg ?_
    refine sassign ?_
    simp only [pu', p0', c1', c0', i1', z0', b8_nat]
    with_reducible refine s_end ?_
    with_reducible refine s_then ?_
    with_reducible refine s_seq ?_
    with_reducible refine s_block ?_
    rotate_left 1
    refine ualloc ?_
    simp only [pu', p0', c1', c0', i1', n0', n3', n1', n2', a2', a1', a0', n4', Nat.reduceAdd, z0', n5', sa0, sa1, sa2, sa3, sa4, sa5, sa6, sa7, sa8, sa9, sa10, sa11]
    refine uloadE ?_
    simp only [pu', p0', c1', c0', i1', z0', b8_nat]
    refine uC (hx := rfl) ((c44 _ _ zs inferInstance inferInstance).mono ?_)
    rintro _ m44 _ ⟨z, rfl, pz, S2⟩
    refine ⟨(by repeat' first | exact trivial | refine ⟨.inl rfl, ?_⟩ | refine ⟨.inr (ha_same inferInstance inferInstance), ?_⟩), ?_⟩
    simp only [pu', p0', c1', c0', i1', n0', n3', n1', n2', a2', a1', a0', n4', Nat.reduceAdd, z0', n5', sa0, sa1, sa2, sa3, sa4, sa5, sa6, sa7, sa8, sa9, sa10, sa11]
    refine tmove ?_
    simp only [pu', p0', c1', c0', i1', z0', b8_nat]
    refine text ?_
    simp only [pu', p0', c1', c0', i1', z0', b8_nat]
    refine text ?_
    simp only [pu', p0', c1', c0', i1', z0', b8_nat]
    refine text ?_
    simp only [pu', p0', c1', c0', i1', z0', b8_nat]
    refine text ?_
    simp only [pu', p0', c1', c0', i1', z0', b8_nat]
    refine ustoreF ?_
    simp only [pu', p0', c1', c0', i1', n0', n3', n1', n2', a2', a1', a0', n4', Nat.reduceAdd, z0', n5', sa0, sa1, sa2, sa3, sa4, sa5, sa6, sa7, sa8, sa9, sa10, sa11]
    refine tassign ?_
    simp only [pu', p0', c1', c0', i1', z0', b8_nat]
    refine tassign ?_
    simp only [pu', p0', c1', c0', i1', z0', b8_nat]
    refine tassign ?_
    simp only [pu', p0', c1', c0', i1', z0', b8_nat]
    with_reducible refine t_end ?_
    with_reducible refine s_then ?_
    with_reducible refine s_seq ?_
    with_reducible refine s_seq ?_
    with_reducible refine s_reg ?_
    refine smove ?_
    simp only [pu', p0', c1', c0', i1', z0', b8_nat]
    refine sNe (fun hb => ?_) (fun hb => ?_)
    replace hb := dT' hb
    (exfalso; omega)
    replace hb := dF' hb
    simp only [pu', p0', c1', c0', i1', z0', b8_nat]
    with_reducible refine s_end ?_
    with_reducible refine s_then ?_
    refine sCF ?_
    with_reducible refine s_skip ?_
    with_reducible refine s_then ?_
    with_reducible refine s_seq ?_
    with_reducible refine s_reg ?_
    refine sfad ?_
    simp only [pu', p0', c1', c0', i1', z0', b8_nat]
    refine sload1 ?_
    simp only [pu', p0', c1', c0', i1', z0', b8_nat]
    refine smove ?_
    simp only [pu', p0', c1', c0', i1', z0', b8_nat]
    refine sloadW ?_
    simp only [pu', p0', c1', c0', i1', z0', b8_nat]
    refine smove ?_
    simp only [pu', p0', c1', c0', i1', z0', b8_nat]
    refine sidxE ?_
    simp only [pu', p0', c1', c0', i1', z0', b8_nat]
    (refine s_stA (x := (n : Int)) 3 ⟨k.j, k.d⟩ wk0 (fun Y1 T1 => ?_) inferInstance rfl encW_ok inferInstance (by omega) (by omega) (by rfl) (inferInstance : AllP [I k.j, I k.d]); simp only [List.nil_append, List.cons_append, List.set_cons_succ, List.set_cons_zero] at T1; simp only [Fr.put, List.set_cons_succ, List.set_cons_zero, Int.toNat_natCast, Nat.zero_add])
    refine sfad ?_
    simp only [pu', p0', c1', c0', i1', z0', b8_nat]
    refine sstore1 ?_
    simp only [pu', p0', c1', c0', i1', n0', n3', n1', n2', a2', a1', a0', n4', Nat.reduceAdd, z0', n5', sa0, sa1, sa2, sa3, sa4, sa5, sa6, sa7, sa8, sa9, sa10, sa11]
    with_reducible refine s_end ?_
    with_reducible refine s_then ?_
    with_reducible refine s_seq ?_
    with_reducible refine s_reg ?_
    refine sassign ?_
    simp only [pu', p0', c1', c0', i1', z0', b8_nat]
    with_reducible refine s_end ?_
    with_reducible refine s_then ?_
    with_reducible refine s_seq ?_
    with_reducible refine s_block ?_
    rotate_left 1
  all_goals
    refine wk_gen inferInstance (fun G2 S4 => ?_)
    have S5 : Sep X G2 [pcC X.length (.cells [zu, zw, z, I out] 26 true), pcC (X.length + 1) (.cells [nilS, nilS, nilS, I 0] 26 true), WI zu us, WK zw (ws.set n ⟨k.j, k.d⟩), WT z k.l] := Sep.sub (Sep.take5 S4 (TakeC.tp (i := X.length) inferInstance) (TakeC.tp (i := X.length + 1) inferInstance) (TakeW.tp (z := zu) inferInstance) (TakeW.tp (z := zw) inferInstance) (TakeW.tp (z := z) inferInstance)) (by repeat' first | exact List.Sublist.refl _ | exact List.sublist_append_left _ _ | exact List.nil_sublist _ | refine List.Sublist.cons_cons _ ?_ | refine List.Sublist.cons _ ?_ | refine List.Sublist.trans ?_ (List.sublist_append_left _ _))
    clear S4
    refine s_loop hm (fun (b : EmB) s' => [s' 0, s' 1, s' 2, .ptr X.length 0, s' 4, s' 5, .ptr (X.length + 1) 0, s' 7, s' 8, s' 9, s' 10, s' 11, s' 12, I k.w, b.zo, s' 15, s' 16, s' 17, s' 18, s' 19, s' 20, s' 21, s' 22, s' 23, s' 24, s' 25, s' 26, s' 27, s' 28, s' 29, s' 30, s' 31, s' 32, s' 33, s' 34, s' 35, s' 36, s' 37, s' 38, s' 39, s' 40, s' 41, s' 42, s' 43, s' 44, s' 45, s' 46, s' 47, s' 48, s' 49, s' 50, s' 51, s' 52, s' 53, s' 54, s' 55, s' 56, s' 57, s' 58, s' 59, s' 60, s' 61, s' 62, s' 63, s' 64, s' 65, s' 66, s' 67, s' 68, s' 69, s' 70, s' 71, s' 72, s' 73, s' 74, s' 75, s' 76, s' 77, s' 78, s' 79, s' 80, s' 81, s' 82, s' 83, s' 84, s' 85, s' 86, s' 87, s' 88, s' 89]) (fun b => b.G) (fun b => b.p.us = us ∧ b.p.ws = ws.set n ⟨k.j, k.d⟩ ∧ 0 ≤ b.p.out ∧ b.p.out ≤ b.p.ts.length ∧ b.p.ts.length ≤ us.length ∧ (b.l.length : Int) ≤ b.p.out ∧ SlC b.z ∧ SlC b.zo ∧ Sep X b.G [pcC X.length (.cells [zu, zw, b.z, I b.p.out] 26 true), pcC (X.length + 1) (.cells [nilS, nilS, nilS, I 0] 26 true), WI zu us, WK zw (ws.set n ⟨k.j, k.d⟩), WT b.z b.p.ts, WI b.zo b.l] ∧ (us.length : Int) < b.m + b.p.out ∧ emi b.m b.p b.l = emi (us.length + 1) ⟨us, ws.set n ⟨k.j, k.d⟩, k.l, out⟩ []) (fun b => (us.length - b.p.out).toNat) ⟨⟨us, ws.set n ⟨k.j, k.d⟩, k.l, out⟩, z, nilS, [], G2, us.length + 1⟩ (by rfl) rfl ⟨rfl, rfl, h0, hu1, by simp only []; omega, by simp only [List.length_nil]; omega, pz, inferInstance, Sep.addNil S5 _ _ _, by simp only []; omega, rfl⟩ ?_
    rintro ⟨⟨us', ws', ts', out'⟩, z', zo, l, G3, m⟩ s' ⟨e1, e2, g0, g1, g2, g3, pz', pzo, S6, g4, g5⟩
    simp only [] at e1 e2 g0 g1 g2 g3 pz' pzo S6 g4 g5 ⊢
    subst e1 e2
    have hcp : emC ⟨us', ws.set n ⟨k.j, k.d⟩, ts', out'⟩ ↔ out' < ts'.length ∧ (ts'.getD out'.toNat tk0).o = true := Iff.rfl
    have hf2 : Fits ⟨us', ws.set n ⟨k.j, k.d⟩, ts', out' + 1⟩ := ⟨f1, by simp only [hwl]; exact f2, by simp only []; omega⟩
    have hk := adm_keep us'.length ⟨us', ws.set n ⟨k.j, k.d⟩, ts', out' + 1⟩
    have hk2 := adm_le us'.length ⟨us', ws.set n ⟨k.j, k.d⟩, ts', out' + 1⟩ (by simp only []; omega)
    focus
      with_reducible refine s_seq ?_
      with_reducible refine s_seq ?_
      with_reducible refine s_reg ?_
      refine sfad ?_
      simp only [pu', p0', c1', c0', i1', z0', b8_nat]
      refine sload1 ?_
      simp only [pu', p0', c1', c0', i1', z0', b8_nat]
      refine sfad ?_
      simp only [pu', p0', c1', c0', i1', z0', b8_nat]
      refine sload1 ?_
      simp only [pu', p0', c1', c0', i1', z0', b8_nat]
      refine slenE ?_
      simp only [pu', p0', c1', c0', i1', z0', b8_nat]
      refine sLt (fun hb => ?_) (fun hb => ?_)
      replace hb := dT' hb
      simp only [pu', p0', c1', c0', i1', z0', b8_nat]
      refine smove ?_
      simp only [pu', p0', c1', c0', i1', z0', b8_nat]
      refine sfad ?_
      simp only [pu', p0', c1', c0', i1', z0', b8_nat]
      refine sload1 ?_
      simp only [pu', p0', c1', c0', i1', z0', b8_nat]
      refine sfad ?_
      simp only [pu', p0', c1', c0', i1', z0', b8_nat]
      refine sload1 ?_
      simp only [pu', p0', c1', c0', i1', z0', b8_nat]
      refine sidxE ?_
      simp only [pu', p0', c1', c0', i1', z0', b8_nat]
      refine sfadE ?_
      simp only [pu', p0', c1', c0', i1', z0', b8_nat]
      refine sloadBF (fun hb => ?_) (fun hb => ?_)
      simp only [pu', p0', c1', c0', i1', z0', b8_nat]
      refine spickT ?_
      simp only [pu', p0', c1', c0', i1', z0', b8_nat]
      with_reducible refine s_end ?_
      with_reducible refine s_then ?_
      refine sCT ?_
      with_reducible refine s_skip ?_
      with_reducible refine s_then ?_
      with_reducible refine s_block ?_
      with_reducible refine s_seq ?_
      with_reducible refine s_reg ?_
      refine smove ?_
      simp only [pu', p0', c1', c0', i1', z0', b8_nat]
      refine sfad ?_
      simp only [pu', p0', c1', c0', i1', z0', b8_nat]
      refine sload1 ?_
      simp only [pu', p0', c1', c0', i1', z0', b8_nat]
      refine sbsl ?_
      simp only [pu', p0', c1', c0', i1', n0', n3', n1', n2', a2', a1', a0', n4', Nat.reduceAdd, z0', n5', sa0, sa1, sa2, sa3, sa4, sa5, sa6, sa7, sa8, sa9, sa10, sa11]
      (refine s_app 5 (l2 := [out']) (fun zo' Y1 T1 x1 => ?_) inferInstance rfl iok (elts_at (l := [out']) iok inferInstance rfl) (by simp only [List.length_cons, List.length_nil]; omega) inferInstance inferInstance; simp only [a1', c1', c0'] at T1; have pzo' := T1.sl 5 rfl; simp only [Fr.put, List.set_cons_succ, List.set_cons_zero, Int.toNat_natCast, Nat.zero_add])
      refine sassign ?_
      simp only [pu', p0', c1', c0', i1', z0', b8_nat]
      with_reducible refine s_end ?_
      with_reducible refine s_then ?_
      with_reducible refine s_seq ?_
      with_reducible refine s_reg ?_
      refine sfad ?_
      simp only [pu', p0', c1', c0', i1', z0', b8_nat]
      refine sload1 ?_
      simp only [pu', p0', c1', c0', i1', z0', b8_nat]
      refine sadd ?_
      simp only [pu', p0', c1', c0', i1', z0', b8_nat]
      refine sfad ?_
      simp only [pu', p0', c1', c0', i1', z0', b8_nat]
      refine sstore1 ?_
      simp only [pu', p0', c1', c0', i1', n0', n3', n1', n2', a2', a1', a0', n4', Nat.reduceAdd, z0', n5', sa0, sa1, sa2, sa3, sa4, sa5, sa6, sa7, sa8, sa9, sa10, sa11]
      with_reducible refine s_end ?_
      with_reducible refine s_then ?_
      with_reducible refine s_reg ?_
      refine sloadW ?_
      simp only [pu', p0', c1', c0', i1', z0', b8_nat]
      refine sC (hx := rfl) ((radmit_in ⟨us', ws.set n ⟨k.j, k.d⟩, ts', out' + 1⟩ zu zw z' inferInstance inferInstance inferInstance inferInstance pz' pzu pzw hf2 (by simp only []; omega)).mono ?_)
      rintro _ m45 _ ⟨z1, rfl, pz1, S7⟩
      simp only [pu', p0', c1', c0', i1', n0', n3', n1', n2', a2', a1', a0', n4', Nat.reduceAdd, z0', n5', sa0, sa1, sa2, sa3, sa4, sa5, sa6, sa7, sa8, sa9, sa10, sa11]
      refine sstoreF ?_
      simp only [pu', p0', c1', c0', i1', n0', n3', n1', n2', a2', a1', a0', n4', Nat.reduceAdd, z0', n5', sa0, sa1, sa2, sa3, sa4, sa5, sa6, sa7, sa8, sa9, sa10, sa11]
      with_reducible refine s_end ?_
      with_reducible refine s_blkN ?_
      rotate_left 1
      simp only [pu', p0', c1', c0', i1', z0', b8_nat]
      refine spickT ?_
      simp only [pu', p0', c1', c0', i1', z0', b8_nat]
      with_reducible refine s_end ?_
      with_reducible refine s_then ?_
      refine sCF ?_
      with_reducible refine s_exit ?_
      with_reducible refine s_thenE ?_
      with_reducible refine l_exit ?_
      with_reducible refine s_blkE ?_
      with_reducible refine s_then ?_
      with_reducible refine s_seq ?_
      with_reducible refine s_reg ?_
      refine sloadW ?_
      simp only [pu', p0', c1', c0', i1', z0', b8_nat]
      refine smove ?_
      simp only [pu', p0', c1', c0', i1', z0', b8_nat]
      refine smove ?_
      simp only [pu', p0', c1', c0', i1', z0', b8_nat]
      refine sstoreF ?_
      simp only [pu', p0', c1', c0', i1', n0', n3', n1', n2', a2', a1', a0', n4', Nat.reduceAdd, z0', n5', sa0, sa1, sa2, sa3, sa4, sa5, sa6, sa7, sa8, sa9, sa10, sa11]
      refine sassign ?_
      simp only [pu', p0', c1', c0', i1', z0', b8_nat]
      refine sassign ?_
      simp only [pu', p0', c1', c0', i1', z0', b8_nat]
      refine sassign ?_
      simp only [pu', p0', c1', c0', i1', z0', b8_nat]
      with_reducible refine s_end ?_
      with_reducible refine s_then ?_
      with_reducible refine s_ret ?_
      rotate_left 1
      replace hb := dF' hb
      simp only [pu', p0', c1', c0', i1', z0', b8_nat]
      refine smove ?_
      simp only [pu', p0', c1', c0', i1', z0', b8_nat]
      refine sN ?_
      simp only [pu', p0', c1', c0', i1', z0', b8_nat]
      refine sN ?_
      simp only [pu', p0', c1', c0', i1', z0', b8_nat]
      refine sN ?_
      simp only [pu', p0', c1', c0', i1', z0', b8_nat]
      refine sN ?_
      simp only [pu', p0', c1', c0', i1', z0', b8_nat]
      refine sN ?_
      simp only [pu', p0', c1', c0', i1', z0', b8_nat]
      refine sN ?_
      simp only [pu', p0', c1', c0', i1', z0', b8_nat]
      refine sN ?_
      simp only [pu', p0', c1', c0', i1', z0', b8_nat]
      refine spickF ?_
      simp only [pu', p0', c1', c0', i1', z0', b8_nat]
      with_reducible refine s_end ?_
      with_reducible refine s_then ?_
      refine sCF ?_
      with_reducible refine s_exit ?_
      with_reducible refine s_thenE ?_
      with_reducible refine l_exit ?_
      with_reducible refine s_blkE ?_
      with_reducible refine s_then ?_
      with_reducible refine s_seq ?_
      with_reducible refine s_reg ?_
      refine sloadW ?_
      simp only [pu', p0', c1', c0', i1', z0', b8_nat]
      refine smove ?_
      simp only [pu', p0', c1', c0', i1', z0', b8_nat]
      refine smove ?_
      simp only [pu', p0', c1', c0', i1', z0', b8_nat]
      refine sstoreF ?_
      simp only [pu', p0', c1', c0', i1', n0', n3', n1', n2', a2', a1', a0', n4', Nat.reduceAdd, z0', n5', sa0, sa1, sa2, sa3, sa4, sa5, sa6, sa7, sa8, sa9, sa10, sa11]
      refine sassign ?_
      simp only [pu', p0', c1', c0', i1', z0', b8_nat]
      refine sassign ?_
      simp only [pu', p0', c1', c0', i1', z0', b8_nat]
      refine sassign ?_
      simp only [pu', p0', c1', c0', i1', z0', b8_nat]
      with_reducible refine s_end ?_
      with_reducible refine s_then ?_
      with_reducible refine s_ret ?_
      rotate_left 1
    · obtain ⟨m, rfl⟩ : ∃ k, m = k + 1 := ⟨m - 1, by omega⟩
      rw [emi_go (hcp.2 ⟨by omega, by assumption⟩)] at g5
      have e1 : (emN ⟨us', ws.set n ⟨k.j, k.d⟩, ts', out'⟩).us = us' := hk.1
      have e2 : (emN ⟨us', ws.set n ⟨k.j, k.d⟩, ts', out'⟩).ws = ws.set n ⟨k.j, k.d⟩ := hk.2.1
      have e3 : (emN ⟨us', ws.set n ⟨k.j, k.d⟩, ts', out'⟩).out = out' + 1 := hk.2.2.1
      have e4 : ts'.length ≤ (emN ⟨us', ws.set n ⟨k.j, k.d⟩, ts', out'⟩).ts.length := hk.2.2.2
      have e5 : (emN ⟨us', ws.set n ⟨k.j, k.d⟩, ts', out'⟩).ts.length ≤ us'.length := hk2
      refine l_next ⟨emN ⟨us', ws.set n ⟨k.j, k.d⟩, ts', out'⟩, z1, zo', l ++ [out'], _, m⟩ ⟨e1, e2, by simp only [e3]; omega, by simp only [e3]; omega, e5, by simp only [e3, List.length_append, List.length_singleton]; omega, pz1, pzo', ?_, by simp only [e3]; omega, g5⟩ (by simp only [e3]; omega) (by rfl) rfl
      simp only [e3]
      exact Sep.sub (Sep.take6 inferInstance (TakeC.tp (i := X.length) inferInstance) (TakeC.tp (i := X.length + 1) inferInstance) (TakeW.tp (z := zu) inferInstance) (TakeW.tp (z := zw) inferInstance) (TakeW.tp (z := z1) inferInstance) (TakeW.tp (z := zo') inferInstance)) (by repeat' first | exact List.Sublist.refl _ | exact List.sublist_append_left _ _ | exact List.nil_sublist _ | refine List.Sublist.cons_cons _ ?_ | refine List.Sublist.cons _ ?_ | refine List.Sublist.trans ?_ (List.sublist_append_left _ _))
    · all_goals try with_reducible refine w_n ?_
      all_goals refine w_4 rfl (by first | exact v_t (by rfl) | exact v_c1 (C1.p) (by rfl) (HA.p) (by rfl) | exact v_cF (CA.p) (by rfl) (HA.p) (by rfl)) (by first | exact v_t (by rfl) | exact v_c1 (C1.p) (by rfl) (HA.p) (by rfl) | exact v_cF (CA.p) (by rfl) (HA.p) (by rfl)) (by first | exact v_t (by rfl) | exact v_c1 (C1.p) (by rfl) (HA.p) (by rfl) | exact v_cF (CA.p) (by rfl) (HA.p) (by rfl)) (by first | exact v_t (by rfl) | exact v_c1 (C1.p) (by rfl) (HA.p) (by rfl) | exact v_cF (CA.p) (by rfl) (HA.p) (by rfl)) ?_
      rw [emi_no (fun hh => by have := hcp.1 hh; first | exact absurd this.1 (by omega) | (rw [hb] at this; cases this.2))] at g5
      rw [← g5]
      exact ⟨zu, zw, z', zo, rfl, pzu, pzw, pz', pzo, Sep.sub (Sep.take4 inferInstance (TakeW.tp (z := zu) inferInstance) (TakeW.tp (z := zw) inferInstance) (TakeW.tp (z := z') inferInstance) (TakeW.tp (z := zo) inferInstance)) (by repeat' first | exact List.Sublist.refl _ | exact List.sublist_append_left _ _ | exact List.nil_sublist _ | refine List.Sublist.cons_cons _ ?_ | refine List.Sublist.cons _ ?_ | refine List.Sublist.trans ?_ (List.sublist_append_left _ _))⟩
    · all_goals try with_reducible refine w_n ?_
      all_goals refine w_4 rfl (by first | exact v_t (by rfl) | exact v_c1 (C1.p) (by rfl) (HA.p) (by rfl) | exact v_cF (CA.p) (by rfl) (HA.p) (by rfl)) (by first | exact v_t (by rfl) | exact v_c1 (C1.p) (by rfl) (HA.p) (by rfl) | exact v_cF (CA.p) (by rfl) (HA.p) (by rfl)) (by first | exact v_t (by rfl) | exact v_c1 (C1.p) (by rfl) (HA.p) (by rfl) | exact v_cF (CA.p) (by rfl) (HA.p) (by rfl)) (by first | exact v_t (by rfl) | exact v_c1 (C1.p) (by rfl) (HA.p) (by rfl) | exact v_cF (CA.p) (by rfl) (HA.p) (by rfl)) ?_
      rw [emi_no (fun hh => by have := hcp.1 hh; first | exact absurd this.1 (by omega) | (rw [hb] at this; cases this.2))] at g5
      rw [← g5]
      exact ⟨zu, zw, z', zo, rfl, pzu, pzw, pz', pzo, Sep.sub (Sep.take4 inferInstance (TakeW.tp (z := zu) inferInstance) (TakeW.tp (z := zw) inferInstance) (TakeW.tp (z := z') inferInstance) (TakeW.tp (z := zo) inferInstance)) (by repeat' first | exact List.Sublist.refl _ | exact List.sublist_append_left _ _ | exact List.nil_sublist _ | refine List.Sublist.cons_cons _ ?_ | refine List.Sublist.cons _ ?_ | refine List.Sublist.trans ?_ (List.sublist_append_left _ _))⟩
theorem rpick14 (X : Hp) (p : Pl) (su sw st : AV) (a : EI X su p.us) (b : EK X sw p.ws) (c : ET X st p.ts) (hf : Fits p) (n : Int) (f : Bool) : ACalls Try.prog 14 [PA su sw st p.out, I n, B f] X (PkN X (pickQ p n f)) := by
  have pu := a.p.sl
  have pw := b.p.sl
  have pt := c.p.sl
  have S0 := Sep.nil X
  have f2 := hf.w
  have c18 := fun Y a b c => rcheck39 Y p su sw st a b c hf
  by_cases he : poolE p = 0
  · by_cases hn : n < 0 ∨ (p.ws.length : Int) ≤ n
    · rw [show pickQ p n f = ⟨pl0, 0, [], 2⟩ by rw [pickQ, if_neg (fun h => h he), if_pos hn]]
      simp only [PkN, pl0]
      rw [he] at c18
      obtain ⟨us, ws, ts, out⟩ := p
      simp only [] at a b c c18 hn f2 ⊢
      refine acalls_of_wk hm Try.func14 rfl ?_
      simp only [Try.ntmps14, List.length_cons, List.length_nil, Nat.reduceAdd, Nat.reduceSub, List.reduceReplicate, List.cons_append, List.nil_append]
      show wk _ _ none _ _ ⟨_, []⟩ _
      focus
        with_reducible refine s_seq ?_
        with_reducible refine s_reg ?_
        refine sboxA ?_
        simp only [pu', p0', c1', c0', i1', n0', n3', n1', n2', a2', a1', a0', n4', Nat.reduceAdd, z0', n5', sa0, sa1, sa2, sa3, sa4, sa5, sa6, sa7, sa8, sa9, sa10, sa11]
        refine salloc ?_
        simp only [pu', p0', c1', c0', i1', n0', n3', n1', n2', a2', a1', a0', n4', Nat.reduceAdd, z0', n5', sa0, sa1, sa2, sa3, sa4, sa5, sa6, sa7, sa8, sa9, sa10, sa11]
        refine sassign ?_
        simp only [pu', p0', c1', c0', i1', z0', b8_nat]
        refine sassign ?_
        simp only [pu', p0', c1', c0', i1', z0', b8_nat]
        refine sassign ?_
        simp only [pu', p0', c1', c0', i1', z0', b8_nat]
        with_reducible refine s_end ?_
        with_reducible refine s_then ?_
        with_reducible refine s_seq ?_
        with_reducible refine s_reg ?_
        refine sloadW ?_
        simp only [pu', p0', c1', c0', i1', z0', b8_nat]
        refine sM (hx := rfl) (c18 _ inferInstance inferInstance inferInstance) ?_
        simp only [pu', p0', c1', c0', i1', z0', b8_nat]
        refine sassign ?_
        simp only [pu', p0', c1', c0', i1', z0', b8_nat]
        with_reducible refine s_end ?_
        with_reducible refine s_then ?_
        with_reducible refine s_seq ?_
        with_reducible refine s_seq ?_
        with_reducible refine s_reg ?_
        refine smove ?_
        simp only [pu', p0', c1', c0', i1', z0', b8_nat]
        refine sEq (fun hb => ?_) (fun hb => ?_)
        replace hb := dT' hb
        simp only [pu', p0', c1', c0', i1', z0', b8_nat]
        refine smove ?_
        simp only [pu', p0', c1', c0', i1', z0', b8_nat]
        refine smove ?_
        simp only [pu', p0', c1', c0', i1', z0', b8_nat]
        refine sLt (fun hb => ?_) (fun hb => ?_)
        replace hb := dT' hb
        simp only [pu', p0', c1', c0', i1', z0', b8_nat]
        refine smove ?_
        simp only [pu', p0', c1', c0', i1', z0', b8_nat]
        refine sN ?_
        simp only [pu', p0', c1', c0', i1', z0', b8_nat]
        refine sN ?_
        simp only [pu', p0', c1', c0', i1', z0', b8_nat]
        refine sN ?_
        simp only [pu', p0', c1', c0', i1', z0', b8_nat]
        refine sN ?_
        simp only [pu', p0', c1', c0', i1', z0', b8_nat]
        refine sN ?_
        simp only [pu', p0', c1', c0', i1', z0', b8_nat]
        refine spickT ?_
        simp only [pu', p0', c1', c0', i1', z0', b8_nat]
        refine spickT ?_
        simp only [pu', p0', c1', c0', i1', z0', b8_nat]
        with_reducible refine s_end ?_
        with_reducible refine s_then ?_
        refine sCT ?_
        with_reducible refine s_reg ?_
        refine sassign ?_
        simp only [pu', p0', c1', c0', i1', z0', b8_nat]
        with_reducible refine s_end ?_
        with_reducible refine s_then ?_
        with_reducible refine s_seq ?_
        with_reducible refine s_seq ?_
        with_reducible refine s_reg ?_
        refine smove ?_
        simp only [pu', p0', c1', c0', i1', z0', b8_nat]
        refine sNe (fun hb => ?_) (fun hb => ?_)
        replace hb := dT' hb
        simp only [pu', p0', c1', c0', i1', z0', b8_nat]
        with_reducible refine s_end ?_
        with_reducible refine s_then ?_
        refine sCT ?_
        with_reducible refine s_seq ?_
        with_reducible refine s_reg ?_
        refine sbuild ?_
        simp only [pu', p0', c1', c0', i1', z0', b8_nat]
        refine smove ?_
        simp only [pu', p0', c1', c0', i1', z0', b8_nat]
        refine sstoreF ?_
        simp only [pu', p0', c1', c0', i1', n0', n3', n1', n2', a2', a1', a0', n4', Nat.reduceAdd, z0', n5', sa0, sa1, sa2, sa3, sa4, sa5, sa6, sa7, sa8, sa9, sa10, sa11]
        refine sassign ?_
        simp only [pu', p0', c1', c0', i1', z0', b8_nat]
        refine sassign ?_
        simp only [pu', p0', c1', c0', i1', z0', b8_nat]
        refine sassign ?_
        simp only [pu', p0', c1', c0', i1', z0', b8_nat]
        with_reducible refine s_end ?_
        with_reducible refine s_then ?_
        with_reducible refine s_ret ?_
        with_reducible refine s_thenR ?_
        rotate_left 1
        replace hb := dF' hb
        (exfalso; omega)
        replace hb := dF' hb
        simp only [pu', p0', c1', c0', i1', z0', b8_nat]
        refine smove ?_
        simp only [pu', p0', c1', c0', i1', z0', b8_nat]
        refine smove ?_
        simp only [pu', p0', c1', c0', i1', z0', b8_nat]
        refine sfad ?_
        simp only [pu', p0', c1', c0', i1', z0', b8_nat]
        refine sload1 ?_
        simp only [pu', p0', c1', c0', i1', z0', b8_nat]
        refine slenE ?_
        simp only [pu', p0', c1', c0', i1', z0', b8_nat]
        refine sGe (fun hb => ?_) (fun hb => ?_)
        replace hb := dT' hb
        simp only [pu', p0', c1', c0', i1', z0', b8_nat]
        refine spickF ?_
        simp only [pu', p0', c1', c0', i1', z0', b8_nat]
        refine spickT ?_
        simp only [pu', p0', c1', c0', i1', z0', b8_nat]
        with_reducible refine s_end ?_
        with_reducible refine s_then ?_
        refine sCT ?_
        with_reducible refine s_reg ?_
        refine sassign ?_
        simp only [pu', p0', c1', c0', i1', z0', b8_nat]
        with_reducible refine s_end ?_
        with_reducible refine s_then ?_
        with_reducible refine s_seq ?_
        with_reducible refine s_seq ?_
        with_reducible refine s_reg ?_
        refine smove ?_
        simp only [pu', p0', c1', c0', i1', z0', b8_nat]
        refine sNe (fun hb => ?_) (fun hb => ?_)
        replace hb := dT' hb
        simp only [pu', p0', c1', c0', i1', z0', b8_nat]
        with_reducible refine s_end ?_
        with_reducible refine s_then ?_
        refine sCT ?_
        with_reducible refine s_seq ?_
        with_reducible refine s_reg ?_
        refine sbuild ?_
        simp only [pu', p0', c1', c0', i1', z0', b8_nat]
        refine smove ?_
        simp only [pu', p0', c1', c0', i1', z0', b8_nat]
        refine sstoreF ?_
        simp only [pu', p0', c1', c0', i1', n0', n3', n1', n2', a2', a1', a0', n4', Nat.reduceAdd, z0', n5', sa0, sa1, sa2, sa3, sa4, sa5, sa6, sa7, sa8, sa9, sa10, sa11]
        refine sassign ?_
        simp only [pu', p0', c1', c0', i1', z0', b8_nat]
        refine sassign ?_
        simp only [pu', p0', c1', c0', i1', z0', b8_nat]
        refine sassign ?_
        simp only [pu', p0', c1', c0', i1', z0', b8_nat]
        with_reducible refine s_end ?_
        with_reducible refine s_then ?_
        with_reducible refine s_ret ?_
        with_reducible refine s_thenR ?_
        rotate_left 1
        replace hb := dF' hb
        (exfalso; omega)
        replace hb := dF' hb
        (exfalso; omega)
        replace hb := dF' hb
        exact absurd rfl hb
      all_goals
        all_goals try with_reducible refine w_n ?_
        all_goals refine w_4 rfl (by first | exact v_t (by rfl) | exact v_c1 (C1.p) (by rfl) (HA.p) (by rfl) | exact v_cF (CA.p) (by rfl) (HA.p) (by rfl)) (by first | exact v_t (by rfl) | exact v_c1 (C1.p) (by rfl) (HA.p) (by rfl) | exact v_cF (CA.p) (by rfl) (HA.p) (by rfl)) (by first | exact v_t (by rfl) | exact v_c1 (C1.p) (by rfl) (HA.p) (by rfl) | exact v_cF (CA.p) (by rfl) (HA.p) (by rfl)) (by first | exact v_t (by rfl) | exact v_c1 (C1.p) (by rfl) (HA.p) (by rfl) | exact v_cF (CA.p) (by rfl) (HA.p) (by rfl)) ?_
        exact ⟨nilS, nilS, nilS, nilS, rfl, inferInstance, inferInstance, inferInstance, inferInstance, Sep.sub (Sep.addNil (Sep.addNil (Sep.addNil (Sep.addNil inferInstance _ _ _) _ _ _) _ _ _) _ _ _) (by repeat' first | exact List.Sublist.refl _ | exact List.sublist_append_left _ _ | exact List.nil_sublist _ | refine List.Sublist.cons_cons _ ?_ | refine List.Sublist.cons _ ?_ | refine List.Sublist.trans ?_ (List.sublist_append_left _ _))⟩
    · obtain ⟨k, rfl⟩ : ∃ k : Nat, n = k := ⟨n.toNat, by omega⟩
      exact rpick14_in X p su sw st a b c hf k f ((inv_iff p).1 he) (by omega)
  · rw [show pickQ p n f = ⟨pl0, 0, [], poolE p⟩ by rw [pickQ, if_pos he]]
    simp only [PkN, pl0]
    generalize poolE p = e at *
    obtain ⟨us, ws, ts, out⟩ := p
    simp only [] at a b c c18 f2 ⊢
    refine acalls_of_wk hm Try.func14 rfl ?_
    simp only [Try.ntmps14, List.length_cons, List.length_nil, Nat.reduceAdd, Nat.reduceSub, List.reduceReplicate, List.cons_append, List.nil_append]
    show wk _ _ none _ _ ⟨_, []⟩ _
    focus
      with_reducible refine s_seq ?_
      with_reducible refine s_reg ?_
      refine sboxA ?_
      simp only [pu', p0', c1', c0', i1', n0', n3', n1', n2', a2', a1', a0', n4', Nat.reduceAdd, z0', n5', sa0, sa1, sa2, sa3, sa4, sa5, sa6, sa7, sa8, sa9, sa10, sa11]
      refine salloc ?_
      simp only [pu', p0', c1', c0', i1', n0', n3', n1', n2', a2', a1', a0', n4', Nat.reduceAdd, z0', n5', sa0, sa1, sa2, sa3, sa4, sa5, sa6, sa7, sa8, sa9, sa10, sa11]
      refine sassign ?_
      simp only [pu', p0', c1', c0', i1', z0', b8_nat]
      refine sassign ?_
      simp only [pu', p0', c1', c0', i1', z0', b8_nat]
      refine sassign ?_
      simp only [pu', p0', c1', c0', i1', z0', b8_nat]
      with_reducible refine s_end ?_
      with_reducible refine s_then ?_
      with_reducible refine s_seq ?_
      with_reducible refine s_reg ?_
      refine sloadW ?_
      simp only [pu', p0', c1', c0', i1', z0', b8_nat]
      refine sM (hx := rfl) (c18 _ inferInstance inferInstance inferInstance) ?_
      simp only [pu', p0', c1', c0', i1', z0', b8_nat]
      refine sassign ?_
      simp only [pu', p0', c1', c0', i1', z0', b8_nat]
      with_reducible refine s_end ?_
      with_reducible refine s_then ?_
      with_reducible refine s_seq ?_
      with_reducible refine s_seq ?_
      with_reducible refine s_reg ?_
      refine smove ?_
      simp only [pu', p0', c1', c0', i1', z0', b8_nat]
      refine sEq (fun hb => ?_) (fun hb => ?_)
      replace hb := dT' hb
      (exfalso; omega)
      replace hb := dF' hb
      simp only [pu', p0', c1', c0', i1', z0', b8_nat]
      refine smove ?_
      simp only [pu', p0', c1', c0', i1', z0', b8_nat]
      refine sN ?_
      simp only [pu', p0', c1', c0', i1', z0', b8_nat]
      refine sN ?_
      simp only [pu', p0', c1', c0', i1', z0', b8_nat]
      refine sN ?_
      simp only [pu', p0', c1', c0', i1', z0', b8_nat]
      refine sN ?_
      simp only [pu', p0', c1', c0', i1', z0', b8_nat]
      refine sN ?_
      simp only [pu', p0', c1', c0', i1', z0', b8_nat]
      refine sN ?_
      simp only [pu', p0', c1', c0', i1', z0', b8_nat]
      refine sN ?_
      simp only [pu', p0', c1', c0', i1', z0', b8_nat]
      refine sN ?_
      simp only [pu', p0', c1', c0', i1', z0', b8_nat]
      refine sN ?_
      simp only [pu', p0', c1', c0', i1', z0', b8_nat]
      refine spickF ?_
      simp only [pu', p0', c1', c0', i1', z0', b8_nat]
      with_reducible refine s_end ?_
      with_reducible refine s_then ?_
      refine sCF ?_
      with_reducible refine s_skip ?_
      with_reducible refine s_then ?_
      with_reducible refine s_seq ?_
      with_reducible refine s_seq ?_
      with_reducible refine s_reg ?_
      refine smove ?_
      simp only [pu', p0', c1', c0', i1', z0', b8_nat]
      refine sNe (fun hb => ?_) (fun hb => ?_)
      replace hb := dT' hb
      simp only [pu', p0', c1', c0', i1', z0', b8_nat]
      with_reducible refine s_end ?_
      with_reducible refine s_then ?_
      refine sCT ?_
      with_reducible refine s_seq ?_
      with_reducible refine s_reg ?_
      refine sbuild ?_
      simp only [pu', p0', c1', c0', i1', z0', b8_nat]
      refine smove ?_
      simp only [pu', p0', c1', c0', i1', z0', b8_nat]
      refine sstoreF ?_
      simp only [pu', p0', c1', c0', i1', n0', n3', n1', n2', a2', a1', a0', n4', Nat.reduceAdd, z0', n5', sa0, sa1, sa2, sa3, sa4, sa5, sa6, sa7, sa8, sa9, sa10, sa11]
      refine sassign ?_
      simp only [pu', p0', c1', c0', i1', z0', b8_nat]
      refine sassign ?_
      simp only [pu', p0', c1', c0', i1', z0', b8_nat]
      refine sassign ?_
      simp only [pu', p0', c1', c0', i1', z0', b8_nat]
      with_reducible refine s_end ?_
      with_reducible refine s_then ?_
      with_reducible refine s_ret ?_
      with_reducible refine s_thenR ?_
      rotate_left 1
      replace hb := dF' hb
      exact absurd (by with_reducible assumption) hb
    all_goals
      all_goals try with_reducible refine w_n ?_
      all_goals refine w_4 rfl (by first | exact v_t (by rfl) | exact v_c1 (C1.p) (by rfl) (HA.p) (by rfl) | exact v_cF (CA.p) (by rfl) (HA.p) (by rfl)) (by first | exact v_t (by rfl) | exact v_c1 (C1.p) (by rfl) (HA.p) (by rfl) | exact v_cF (CA.p) (by rfl) (HA.p) (by rfl)) (by first | exact v_t (by rfl) | exact v_c1 (C1.p) (by rfl) (HA.p) (by rfl) | exact v_cF (CA.p) (by rfl) (HA.p) (by rfl)) (by first | exact v_t (by rfl) | exact v_c1 (C1.p) (by rfl) (HA.p) (by rfl) | exact v_cF (CA.p) (by rfl) (HA.p) (by rfl)) ?_
      exact ⟨nilS, nilS, nilS, nilS, rfl, inferInstance, inferInstance, inferInstance, inferInstance, Sep.sub (Sep.addNil (Sep.addNil (Sep.addNil (Sep.addNil inferInstance _ _ _) _ _ _) _ _ _) _ _ _) (by repeat' first | exact List.Sublist.refl _ | exact List.sublist_append_left _ _ | exact List.nil_sublist _ | refine List.Sublist.cons_cons _ ?_ | refine List.Sublist.cons _ ?_ | refine List.Sublist.trans ?_ (List.sublist_append_left _ _))⟩
end Go.Proofs.Ytfcgmkpihmiadaa
