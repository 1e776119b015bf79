/-
  A part of the proof of a statement of a chapter's seat; conditions: stated at each theorem.
-/
import Derived.Test.YtfcgmkpihmiadaaP13
set_option linter.unusedVariables false
set_option linter.unusedSectionVars false
set_option linter.unusedSimpArgs false
set_option linter.unusedVariables false
set_option maxRecDepth 100000
set_option maxHeartbeats 8000000
namespace Go.Proofs.Ytfcgmkpihmiadaa
open Go.Az Go
/-! ### The document's errors of pools -/
theorem given_el {Y : Hp} (n : Int) (s : AV) (l : List Int) [a : EI Y s l] (hlen : l.length ≤ 1099511627776) : ACalls Try.prog 49 [I n, s] Y (fun r h' => r = I (givE n l) ∧ h' = Y) := by
  refine acalls_of_wk hm Try.func49 rfl ?_
  simp only [Try.ntmps49, List.length_cons, List.length_nil, Nat.reduceAdd, Nat.reduceSub, List.reduceReplicate, List.cons_append, List.nil_append]
  show wk _ _ none _ _ ⟨_, []⟩ _
  focus
    with_reducible refine s_seq ?_
    with_reducible refine s_reg ?_
    refine sassign ?_
    simp only [pu', p0', c1', c0', i1', z0', b8_nat]
    with_reducible refine s_end ?_
    with_reducible refine s_then ?_
    with_reducible refine s_seq ?_
    with_reducible refine s_seq ?_
    with_reducible refine s_reg ?_
    refine smove ?_
    simp only [pu', p0', c1', c0', i1', z0', b8_nat]
    refine sLt (fun hb => ?_) (fun hb => ?_)
    replace hb := dT' hb
    simp only [pu', p0', c1', c0', i1', z0', b8_nat]
    refine smove ?_
    simp only [pu', p0', c1', c0', i1', z0', b8_nat]
    refine sN ?_
    simp only [pu', p0', c1', c0', i1', z0', b8_nat]
    refine sN ?_
    simp only [pu', p0', c1', c0', i1', z0', b8_nat]
    refine spickT ?_
    simp only [pu', p0', c1', c0', i1', z0', b8_nat]
    with_reducible refine s_end ?_
    with_reducible refine s_then ?_
    refine sCT ?_
    with_reducible refine s_seq ?_
    with_reducible refine s_reg ?_
    refine sassign ?_
    simp only [pu', p0', c1', c0', i1', z0', b8_nat]
    with_reducible refine s_end ?_
    with_reducible refine s_then ?_
    with_reducible refine s_ret ?_
    with_reducible refine s_thenR ?_
    rotate_left 1
    replace hb := dF' hb
    simp only [pu', p0', c1', c0', i1', z0', b8_nat]
    refine smove ?_
    simp only [pu', p0', c1', c0', i1', z0', b8_nat]
    refine smove ?_
    simp only [pu', p0', c1', c0', i1', z0', b8_nat]
    refine sGt (fun hb => ?_) (fun hb => ?_)
    replace hb := dT' hb
    simp only [pu', p0', c1', c0', i1', z0', b8_nat]
    refine spickF ?_
    simp only [pu', p0', c1', c0', i1', z0', b8_nat]
    with_reducible refine s_end ?_
    with_reducible refine s_then ?_
    refine sCT ?_
    with_reducible refine s_seq ?_
    with_reducible refine s_reg ?_
    refine sassign ?_
    simp only [pu', p0', c1', c0', i1', z0', b8_nat]
    with_reducible refine s_end ?_
    with_reducible refine s_then ?_
    with_reducible refine s_ret ?_
    with_reducible refine s_thenR ?_
    rotate_left 1
    replace hb := dF' hb
    simp only [pu', p0', c1', c0', i1', z0', b8_nat]
    refine spickF ?_
    simp only [pu', p0', c1', c0', i1', z0', b8_nat]
    with_reducible refine s_end ?_
    with_reducible refine s_then ?_
    refine sCF ?_
    with_reducible refine s_skip ?_
    with_reducible refine s_then ?_
    with_reducible refine s_seq ?_
    with_reducible refine s_seq ?_
    with_reducible refine s_reg ?_
    refine smove ?_
    simp only [pu', p0', c1', c0', i1', z0', b8_nat]
    refine slenE ?_
    simp only [pu', p0', c1', c0', i1', z0', b8_nat]
    refine sLt (fun hb => ?_) (fun hb => ?_)
    replace hb := dT' hb
    simp only [pu', p0', c1', c0', i1', z0', b8_nat]
    refine smove ?_
    simp only [pu', p0', c1', c0', i1', z0', b8_nat]
    refine sN ?_
    simp only [pu', p0', c1', c0', i1', z0', b8_nat]
    refine sN ?_
    simp only [pu', p0', c1', c0', i1', z0', b8_nat]
    refine sN ?_
    simp only [pu', p0', c1', c0', i1', z0', b8_nat]
    refine spickT ?_
    simp only [pu', p0', c1', c0', i1', z0', b8_nat]
    with_reducible refine s_end ?_
    with_reducible refine s_then ?_
    refine sCT ?_
    with_reducible refine s_seq ?_
    with_reducible refine s_reg ?_
    refine sassign ?_
    simp only [pu', p0', c1', c0', i1', z0', b8_nat]
    with_reducible refine s_end ?_
    with_reducible refine s_then ?_
    with_reducible refine s_ret ?_
    with_reducible refine s_thenR ?_
    rotate_left 1
    replace hb := dF' hb
    simp only [pu', p0', c1', c0', i1', z0', b8_nat]
    refine smove ?_
    simp only [pu', p0', c1', c0', i1', z0', b8_nat]
    refine smove ?_
    simp only [pu', p0', c1', c0', i1', z0', b8_nat]
    refine slenE ?_
    simp only [pu', p0', c1', c0', i1', z0', b8_nat]
    refine sGt (fun hb => ?_) (fun hb => ?_)
    replace hb := dT' hb
    simp only [pu', p0', c1', c0', i1', z0', b8_nat]
    refine spickF ?_
    simp only [pu', p0', c1', c0', i1', z0', b8_nat]
    with_reducible refine s_end ?_
    with_reducible refine s_then ?_
    refine sCT ?_
    with_reducible refine s_seq ?_
    with_reducible refine s_reg ?_
    refine sassign ?_
    simp only [pu', p0', c1', c0', i1', z0', b8_nat]
    with_reducible refine s_end ?_
    with_reducible refine s_then ?_
    with_reducible refine s_ret ?_
    with_reducible refine s_thenR ?_
    rotate_left 1
    replace hb := dF' hb
    simp only [pu', p0', c1', c0', i1', z0', b8_nat]
    refine spickF ?_
    simp only [pu', p0', c1', c0', i1', z0', b8_nat]
    with_reducible refine s_end ?_
    with_reducible refine s_then ?_
    refine sCF ?_
    with_reducible refine s_skip ?_
    with_reducible refine s_then ?_
    with_reducible refine s_seq ?_
    with_reducible refine s_seq ?_
    with_reducible refine s_reg ?_
    refine sassign ?_
    simp only [pu', p0', c1', c0', i1', z0', b8_nat]
    with_reducible refine s_end ?_
    with_reducible refine s_then ?_
    with_reducible refine s_block ?_
    rotate_left 1
  · all_goals try with_reducible refine w_n ?_
    all_goals refine w_1 rfl (by first | exact v_t (by rfl) | exact v_c1 (C1.p) (by rfl) (HA.p) (by rfl) | exact v_cF (CA.p) (by rfl) (HA.p) (by rfl)) ?_
    exact ⟨by rw [giv_a (by omega)], rfl⟩
  · all_goals try with_reducible refine w_n ?_
    all_goals refine w_1 rfl (by first | exact v_t (by rfl) | exact v_c1 (C1.p) (by rfl) (HA.p) (by rfl) | exact v_cF (CA.p) (by rfl) (HA.p) (by rfl)) ?_
    exact ⟨by rw [giv_a (by omega)], rfl⟩
  · all_goals try with_reducible refine w_n ?_
    all_goals refine w_1 rfl (by first | exact v_t (by rfl) | exact v_c1 (C1.p) (by rfl) (HA.p) (by rfl) | exact v_cF (CA.p) (by rfl) (HA.p) (by rfl)) ?_
    exact ⟨by rw [giv_b (by omega) (by omega)], rfl⟩
  · all_goals try with_reducible refine w_n ?_
    all_goals refine w_1 rfl (by first | exact v_t (by rfl) | exact v_c1 (C1.p) (by rfl) (HA.p) (by rfl) | exact v_cF (CA.p) (by rfl) (HA.p) (by rfl)) ?_
    exact ⟨by rw [giv_b (by omega) (by omega)], rfl⟩
  refine s_loop hm (fun (b : Nat) s' => [s' 0, s, s' 2, s' 3, s' 4, I b, s' 6, s' 7, s' 8, s' 9, s' 10, s' 11, s' 12, s' 13, s' 14, s' 15, s' 16, s' 17, s' 18, s' 19, s' 20, s' 21, s' 22, s' 23, s' 24, s' 25, s' 26, s' 27, s' 28, s' 29, s' 30, s' 31, s' 32, s' 33, s' 34, s' 35, s' 36, s' 37]) (fun _ => Y) (fun b => b ≤ l.length ∧ ∀ i, i < b → ¬ badU (l.getD i 0)) (fun b => l.length - b) 0 (by rfl) rfl ⟨Nat.zero_le _, fun i hi => absurd hi (Nat.not_lt_zero _)⟩ ?_
  rintro k s' ⟨hk, hB⟩
  have hbu : badU (l.getD k 0) ↔ l.getD k 0 < 1 ∨ 1099511627776 < l.getD k 0 := Iff.rfl
  focus
    with_reducible refine s_seq ?_
    with_reducible refine s_seq ?_
    with_reducible refine s_reg ?_
    refine smove ?_
    simp only [pu', p0', c1', c0', i1', z0', b8_nat]
    refine smove ?_
    simp only [pu', p0', c1', c0', i1', z0', b8_nat]
    refine slenE ?_
    simp only [pu', p0', c1', c0', i1', z0', b8_nat]
    refine sLt (fun hb => ?_) (fun hb => ?_)
    replace hb := dT' hb
    simp only [pu', p0', c1', c0', i1', z0', b8_nat]
    with_reducible refine s_end ?_
    with_reducible refine s_then ?_
    refine sCT ?_
    with_reducible refine s_skip ?_
    with_reducible refine s_then ?_
    with_reducible refine s_seq ?_
    with_reducible refine s_block ?_
    with_reducible refine s_seq ?_
    with_reducible refine s_reg ?_
    refine smove ?_
    simp only [pu', p0', c1', c0', i1', z0', b8_nat]
    refine smove ?_
    simp only [pu', p0', c1', c0', i1', z0', b8_nat]
    refine sidxE ?_
    simp only [pu', p0', c1', c0', i1', z0', b8_nat]
    refine sloadE1 ?_
    simp only [pu', p0', c1', c0', i1', z0', b8_nat]
    refine sLt (fun hb => ?_) (fun hb => ?_)
    replace hb := dT' hb
    simp only [pu', p0', c1', c0', i1', z0', b8_nat]
    refine smove ?_
    simp only [pu', p0', c1', c0', i1', z0', b8_nat]
    refine sN ?_
    simp only [pu', p0', c1', c0', i1', z0', b8_nat]
    refine sN ?_
    simp only [pu', p0', c1', c0', i1', z0', b8_nat]
    refine sN ?_
    simp only [pu', p0', c1', c0', i1', z0', b8_nat]
    refine sN ?_
    simp only [pu', p0', c1', c0', i1', z0', b8_nat]
    refine sN ?_
    simp only [pu', p0', c1', c0', i1', z0', b8_nat]
    refine spickT ?_
    simp only [pu', p0', c1', c0', i1', z0', b8_nat]
    with_reducible refine s_end ?_
    with_reducible refine s_then ?_
    refine sCT ?_
    with_reducible refine s_seq ?_
    with_reducible refine s_reg ?_
    refine sassign ?_
    simp only [pu', p0', c1', c0', i1', z0', b8_nat]
    with_reducible refine s_end ?_
    with_reducible refine s_then ?_
    with_reducible refine s_ret ?_
    with_reducible refine s_blkR ?_
    with_reducible refine s_thenR ?_
    with_reducible refine l_ret ?_
    with_reducible refine s_blkR ?_
    with_reducible refine s_thenR ?_
    rotate_left 1
    replace hb := dF' hb
    simp only [pu', p0', c1', c0', i1', z0', b8_nat]
    refine smove ?_
    simp only [pu', p0', c1', c0', i1', z0', b8_nat]
    refine smove ?_
    simp only [pu', p0', c1', c0', i1', z0', b8_nat]
    refine smove ?_
    simp only [pu', p0', c1', c0', i1', z0', b8_nat]
    refine sidxE ?_
    simp only [pu', p0', c1', c0', i1', z0', b8_nat]
    refine sloadE1 ?_
    simp only [pu', p0', c1', c0', i1', z0', b8_nat]
    refine sGt (fun hb => ?_) (fun hb => ?_)
    replace hb := dT' hb
    simp only [pu', p0', c1', c0', i1', z0', b8_nat]
    refine spickF ?_
    simp only [pu', p0', c1', c0', i1', z0', b8_nat]
    with_reducible refine s_end ?_
    with_reducible refine s_then ?_
    refine sCT ?_
    with_reducible refine s_seq ?_
    with_reducible refine s_reg ?_
    refine sassign ?_
    simp only [pu', p0', c1', c0', i1', z0', b8_nat]
    with_reducible refine s_end ?_
    with_reducible refine s_then ?_
    with_reducible refine s_ret ?_
    with_reducible refine s_blkR ?_
    with_reducible refine s_thenR ?_
    with_reducible refine l_ret ?_
    with_reducible refine s_blkR ?_
    with_reducible refine s_thenR ?_
    rotate_left 1
    replace hb := dF' hb
    simp only [pu', p0', c1', c0', i1', z0', b8_nat]
    refine spickF ?_
    simp only [pu', p0', c1', c0', i1', z0', b8_nat]
    with_reducible refine s_end ?_
    with_reducible refine s_then ?_
    refine sCF ?_
    with_reducible refine s_skip ?_
    with_reducible refine s_blkN ?_
    with_reducible refine s_then ?_
    with_reducible refine s_reg ?_
    refine smove ?_
    simp only [pu', p0', c1', c0', i1', z0', b8_nat]
    refine sadd ?_
    simp only [pu', p0', c1', c0', i1', z0', b8_nat]
    refine sassign ?_
    simp only [pu', p0', c1', c0', i1', z0', b8_nat]
    with_reducible refine s_end ?_
    rotate_left 1
    replace hb := dF' hb
    simp only [pu', p0', c1', c0', i1', z0', b8_nat]
    with_reducible refine s_end ?_
    with_reducible refine s_then ?_
    refine sCF ?_
    with_reducible refine s_exit ?_
    with_reducible refine s_thenE ?_
    with_reducible refine l_exit ?_
    with_reducible refine s_blkE ?_
    with_reducible refine s_then ?_
    with_reducible refine s_seq ?_
    with_reducible refine s_reg ?_
    refine sassign ?_
    simp only [pu', p0', c1', c0', i1', z0', b8_nat]
    with_reducible refine s_end ?_
    with_reducible refine s_then ?_
    with_reducible refine s_ret ?_
    rotate_left 1
  all_goals first
    | (refine l_next (k + 1) ⟨by omega, fun i hi => ?_⟩ (by omega) (by rfl) rfl
       by_cases he : i = k
       · subst he; rw [hbu]; omega
       · exact hB i (by omega))
    | (((try with_reducible refine w_n ?_); refine w_1 rfl (by first | exact v_t (by rfl) | exact v_c1 (C1.p) (by rfl) (HA.p) (by rfl) | exact v_cF (CA.p) (by rfl) (HA.p) (by rfl)) ?_)
       refine ⟨?_, rfl⟩
       first
         | (rw [giv_c (by omega) (by omega) ⟨l.getD k 0, getD_mem (by omega), hbu.2 (by omega)⟩]; done)
         | (rw [giv_d (by omega) (by omega) (by
              rintro ⟨u, hu, hb'⟩
              obtain ⟨i, hi, rfl⟩ := List.getElem_of_mem hu
              have := hB i (by omega)
              rw [List.getD_eq_getElem?_getD, List.getElem?_eq_getElem hi] at this
              exact this hb')]; done))
theorem admitted_el {Y : Hp} (p : Pl) (su sw st : AV) (o : Int) [a : EI Y su p.us] [b : EK Y sw p.ws] (pt : SlC st) (hf : Fits p) (ho : -1000000 ≤ p.out ∧ p.out ≤ 1000000) : ACalls Try.prog 52 [PA su sw st o, I p.out] Y (fun r h' => r = I (admN p) ∧ h' = Y) := by
  have f1 := hf.u
  have f2 := hf.w
  have pu := a.p.sl
  have pw := b.p.sl
  have hadm : admN p = min (p.us.length : Int) (p.out + p.ws.length + 2) := rfl
  refine acalls_back ?_
  refine acalls_of_wk hm Try.func52 rfl ?_
  simp only [Try.ntmps52, List.length_cons, List.length_nil, Nat.reduceAdd, Nat.reduceSub, List.reduceReplicate, List.cons_append, List.nil_append]
  show wk _ _ none _ _ ⟨_, []⟩ _
  with_reducible refine s_seq ?_
  with_reducible refine s_reg ?_
  refine sboxA ?_
  simp only [pu', p0', c1', c0', i1', n0', n3', n1', n2', a2', a1', a0', n4', Nat.reduceAdd, z0', n5', sa0, sa1, sa2, sa3, sa4, sa5, sa6, sa7, sa8, sa9, sa10, sa11]
  refine sassign ?_
  simp only [pu', p0', c1', c0', i1', z0', b8_nat]
  with_reducible refine s_end ?_
  with_reducible refine s_then ?_
  with_reducible refine s_seq ?_
  with_reducible refine s_reg ?_
  refine sfad ?_
  simp only [pu', p0', c1', c0', i1', z0', b8_nat]
  refine sload1 ?_
  simp only [pu', p0', c1', c0', i1', z0', b8_nat]
  refine slenE ?_
  simp only [pu', p0', c1', c0', i1', z0', b8_nat]
  refine smove ?_
  simp only [pu', p0', c1', c0', i1', z0', b8_nat]
  refine sfad ?_
  simp only [pu', p0', c1', c0', i1', z0', b8_nat]
  refine sload1 ?_
  simp only [pu', p0', c1', c0', i1', z0', b8_nat]
  refine slenE ?_
  simp only [pu', p0', c1', c0', i1', z0', b8_nat]
  refine sadd ?_
  simp only [pu', p0', c1', c0', i1', z0', b8_nat]
  refine sadd ?_
  simp only [pu', p0', c1', c0', i1', z0', b8_nat]
  refine smin ?_
  simp only [pu', p0', c1', c0', i1', z0', b8_nat]
  refine sassign ?_
  simp only [pu', p0', c1', c0', i1', z0', b8_nat]
  with_reducible refine s_end ?_
  with_reducible refine s_then ?_
  with_reducible refine s_ret ?_
  all_goals try with_reducible refine w_n ?_
  all_goals refine w_1 rfl (by first | exact v_t (by rfl) | exact v_c1 (C1.p) (by rfl) (HA.p) (by rfl) | exact v_cF (CA.p) (by rfl) (HA.p) (by rfl)) ?_
  refine ⟨rfl, ext_app _ _, ?_, trivial⟩
  congr 2
  split <;> omega
/-! ### Jobs are admitted, as the document says it -/
theorem radmit_in {h X : Hp} {L0 L : List Pc} (p : Pl) (su sw st : AV) (S : Sep h X L0) (T : TakeW Tk L0 st encT 4 68 p.ts L) (a : QI h L su p.us) (b : QK h L sw p.ws) (pt : SlC st) (pu : SlC su) (pw : SlC sw) (hf : Fits p) (ho : -1000000 ≤ p.out ∧ p.out ≤ 1000000) : ACalls Try.prog 45 [PA su sw st p.out] X (fun r h' => ∃ zt, r = PA su sw zt p.out ∧ SlC zt ∧ Sep h h' (WT zt (adQ p).ts :: L)) := by
  have f1 := hf.u
  have f2 := hf.w
  have f3 := hf.t
  have S0 := S.take T
  obtain ⟨us, ws, ts0, out⟩ := p
  simp only [] at f1 f2 f3 S0 a b ho ⊢
  refine acalls_of_wk hm Try.func45 rfl ?_
  simp only [Try.ntmps45, List.length_cons, List.length_nil, Nat.reduceAdd, Nat.reduceSub, List.reduceReplicate, List.cons_append, List.nil_append]
  show wk _ _ none _ _ ⟨_, []⟩ _
  with_reducible refine s_seq ?_
  with_reducible refine s_reg ?_
  refine sboxA ?_
  simp only [pu', p0', c1', c0', i1', n0', n3', n1', n2', a2', a1', a0', n4', Nat.reduceAdd, z0', n5', sa0, sa1, sa2, sa3, sa4, sa5, sa6, sa7, sa8, sa9, sa10, sa11]
  refine salloc ?_
  simp only [pu', p0', c1', c0', i1', n0', n3', n1', n2', a2', a1', a0', n4', Nat.reduceAdd, z0', n5', sa0, sa1, sa2, sa3, sa4, sa5, sa6, sa7, sa8, sa9, sa10, sa11]
  with_reducible refine s_end ?_
  with_reducible refine s_then ?_
  with_reducible refine s_seq ?_
  with_reducible refine s_seq ?_
  with_reducible refine s_reg ?_
  refine sfad ?_
  simp only [pu', p0', c1', c0', i1', z0', b8_nat]
  refine sload1 ?_
  simp only [pu', p0', c1', c0', i1', z0', b8_nat]
  refine slenE ?_
  simp only [pu', p0', c1', c0', i1', z0', b8_nat]
  refine sassign ?_
  simp only [pu', p0', c1', c0', i1', z0', b8_nat]
  with_reducible refine s_end ?_
  with_reducible refine s_then ?_
  with_reducible refine s_block ?_
  refine s_loop hm (fun (b : AdB) s' => [PA su sw st out, .ptr X.length 0, .ptr (X.length + 1) 0, I b.ts.length, s' 4, s' 5, s' 6, s' 7, s' 8, s' 9, s' 10, s' 11, s' 12, s' 13, s' 14, s' 15, s' 16, s' 17, s' 18, s' 19, s' 20, s' 21, s' 22, s' 23, s' 24, s' 25, s' 26, s' 27, s' 28, s' 29, s' 30, s' 31, s' 32]) (fun b => b.G) (fun b => SlC b.z ∧ b.ts.length ≤ 1000000 ∧ Sep h b.G (pcC X.length (.cells [su, sw, b.z, I out] 26 true) :: pcC (X.length + 1) (.cells [nilS, nilS, nilS, I 0] 26 true) :: WT b.z b.ts :: L) ∧ us.length ≤ b.m + b.ts.length ∧ adm b.m ⟨us, ws, b.ts, out⟩ = adQ ⟨us, ws, ts0, out⟩) (fun b => us.length - b.ts.length) ⟨ts0, st, _, us.length⟩ (by rfl) rfl ⟨pt, f3, ?_, by simp only []; omega, rfl⟩ ?_
  · exact Sep.perm (inferInstance : Sep h (X ++ [_, _]) _) (List.perm_append_comm (l₁ := WT st ts0 :: L) (l₂ := [_, _]))
  rintro ⟨ts, z, G, m⟩ s' ⟨pz, f4, S1, hm1, hm2⟩
  simp only [] at pz f4 S1 hm1 hm2 ⊢
  have hq : admN ⟨us, ws, ts, out⟩ = min (us.length : Int) (out + ws.length + 2) := rfl
  have had := fun Y (a' : EI Y su us) (b' : EK Y sw ws) => admitted_el (Y := Y) ⟨us, ws, ts, out⟩ su sw z out pz ⟨f1, f2, f4⟩ ho
  obtain ⟨e1, c1⟩ := taskR_newT (us.getD ts.length 0)
  have c2 := rtask_any (us.getD ts.length 0)
  rw [c1] at c2
  by_cases hc : (ts.length : Int) < admN ⟨us, ws, ts, out⟩
  · obtain ⟨m, rfl⟩ : ∃ k, m = k + 1 := ⟨m - 1, by omega⟩
    rw [adm_go hc] at hm2
    focus
      with_reducible refine s_seq ?_
      with_reducible refine s_seq ?_
      with_reducible refine s_reg ?_
      refine smove ?_
      simp only [pu', p0', c1', c0', i1', z0', b8_nat]
      refine sloadW ?_
      simp only [pu', p0', c1', c0', i1', z0', b8_nat]
      refine sfad ?_
      simp only [pu', p0', c1', c0', i1', z0', b8_nat]
      refine sload1 ?_
      simp only [pu', p0', c1', c0', i1', z0', b8_nat]
      refine sM (hx := rfl) (had _ inferInstance inferInstance) ?_
      simp only [pu', p0', c1', c0', i1', z0', b8_nat]
      refine sLt (fun hb => ?_) (fun hb => ?_)
      replace hb := dT' hb
      simp only [pu', p0', c1', c0', i1', z0', b8_nat]
      with_reducible refine s_end ?_
      with_reducible refine s_then ?_
      refine sCT ?_
      with_reducible refine s_skip ?_
      with_reducible refine s_then ?_
      with_reducible refine s_seq ?_
      with_reducible refine s_block ?_
      with_reducible refine s_seq ?_
      with_reducible refine s_reg ?_
      refine sfad ?_
      simp only [pu', p0', c1', c0', i1', z0', b8_nat]
      refine sload1 ?_
      simp only [pu', p0', c1', c0', i1', z0', b8_nat]
      refine smove ?_
      simp only [pu', p0', c1', c0', i1', z0', b8_nat]
      refine sidxE ?_
      simp only [pu', p0', c1', c0', i1', z0', b8_nat]
      refine sloadE1 ?_
      simp only [pu', p0', c1', c0', i1', z0', b8_nat]
      refine sK (hx := rfl) (c2) ?_
      simp only [pu', p0', c1', c0', i1', z0', b8_nat]
      refine smove ?_
      simp only [pu', p0', c1', c0', i1', z0', b8_nat]
      refine sext ?_
      simp only [pu', p0', c1', c0', i1', z0', b8_nat]
      refine sext ?_
      simp only [pu', p0', c1', c0', i1', z0', b8_nat]
      refine salloc ?_
      simp only [pu', p0', c1', c0', i1', n0', n3', n1', n2', a2', a1', a0', n4', Nat.reduceAdd, z0', n5', sa0, sa1, sa2, sa3, sa4, sa5, sa6, sa7, sa8, sa9, sa10, sa11]
      refine sstoreF ?_
      simp only [pu', p0', c1', c0', i1', n0', n3', n1', n2', a2', a1', a0', n4', Nat.reduceAdd, z0', n5', sa0, sa1, sa2, sa3, sa4, sa5, sa6, sa7, sa8, sa9, sa10, sa11]
      refine sassign ?_
      simp only [pu', p0', c1', c0', i1', z0', b8_nat]
      with_reducible refine s_end ?_
      with_reducible refine s_then ?_
      with_reducible refine s_reg ?_
      refine sfad ?_
      simp only [pu', p0', c1', c0', i1', z0', b8_nat]
      refine sload1 ?_
      simp only [pu', p0', c1', c0', i1', z0', b8_nat]
      refine sloadW ?_
      simp only [pu', p0', c1', c0', i1', z0', b8_nat]
      refine sbsl ?_
      simp only [pu', p0', c1', c0', i1', n0', n3', n1', n2', a2', a1', a0', n4', Nat.reduceAdd, z0', n5', sa0, sa1, sa2, sa3, sa4, sa5, sa6, sa7, sa8, sa9, sa10, sa11]
      (refine s_app 2 (l2 := [newT (us.getD ts.length 0)]) (fun z1 Y1 T1 x1 => ?_) inferInstance rfl encT_ok (elts_at (l := [newT (us.getD ts.length 0)]) encT_ok inferInstance rfl) (by simp only [List.length_cons, List.length_nil]; omega) inferInstance inferInstance; simp only [a1', c1', c0'] at T1; have pz1 := T1.sl 2 rfl; simp only [Fr.put, List.set_cons_succ, List.set_cons_zero, Int.toNat_natCast, Nat.zero_add])
      refine sfad ?_
      simp only [pu', p0', c1', c0', i1', z0', b8_nat]
      refine sstore1 ?_
      simp only [pu', p0', c1', c0', i1', n0', n3', n1', n2', a2', a1', a0', n4', Nat.reduceAdd, z0', n5', sa0, sa1, sa2, sa3, sa4, sa5, sa6, sa7, sa8, sa9, sa10, sa11]
      with_reducible refine s_end ?_
      with_reducible refine s_blkN ?_
      with_reducible refine s_then ?_
      with_reducible refine s_reg ?_
      refine smove ?_
      simp only [pu', p0', c1', c0', i1', z0', b8_nat]
      refine sadd ?_
      simp only [pu', p0', c1', c0', i1', z0', b8_nat]
      refine sassign ?_
      simp only [pu', p0', c1', c0', i1', z0', b8_nat]
      with_reducible refine s_end ?_
      rotate_left 1
      replace hb := dF' hb
      exact absurd (by with_reducible assumption) hb
    refine l_next ⟨ts ++ [newT (us.getD ts.length 0)], z1, _, m⟩ ⟨pz1, by simp only [List.length_append, List.length_singleton]; omega, Sep.sub inferInstance (by repeat' first | exact List.Sublist.refl _ | exact List.sublist_append_left _ _ | exact List.nil_sublist _ | refine List.Sublist.cons_cons _ ?_ | refine List.Sublist.cons _ ?_ | refine List.Sublist.trans ?_ (List.sublist_append_left _ _)), by simp only [List.length_append, List.length_singleton]; omega, hm2⟩ (by simp only [List.length_append, List.length_singleton]; omega) (by simp only [List.length_append, List.length_singleton]; rfl) rfl
  · rw [adm_no hc] at hm2
    with_reducible refine s_seq ?_
    with_reducible refine s_seq ?_
    with_reducible refine s_reg ?_
    refine smove ?_
    simp only [pu', p0', c1', c0', i1', z0', b8_nat]
    refine sloadW ?_
    simp only [pu', p0', c1', c0', i1', z0', b8_nat]
    refine sfad ?_
    simp only [pu', p0', c1', c0', i1', z0', b8_nat]
    refine sload1 ?_
    simp only [pu', p0', c1', c0', i1', z0', b8_nat]
    refine sM (hx := rfl) (had _ inferInstance inferInstance) ?_
    simp only [pu', p0', c1', c0', i1', z0', b8_nat]
    refine sLt (fun hb => ?_) (fun hb => ?_)
    replace hb := dT' hb
    (exfalso; omega)
    replace hb := dF' hb
    simp only [pu', p0', c1', c0', i1', z0', b8_nat]
    with_reducible refine s_end ?_
    with_reducible refine s_then ?_
    refine sCF ?_
    with_reducible refine s_exit ?_
    with_reducible refine s_thenE ?_
    with_reducible refine l_exit ?_
    with_reducible refine s_blkE ?_
    with_reducible refine s_then ?_
    with_reducible refine s_seq ?_
    with_reducible refine s_reg ?_
    refine sloadW ?_
    simp only [pu', p0', c1', c0', i1', z0', b8_nat]
    refine sstoreF ?_
    simp only [pu', p0', c1', c0', i1', n0', n3', n1', n2', a2', a1', a0', n4', Nat.reduceAdd, z0', n5', sa0, sa1, sa2, sa3, sa4, sa5, sa6, sa7, sa8, sa9, sa10, sa11]
    with_reducible refine s_end ?_
    with_reducible refine s_then ?_
    with_reducible refine s_ret ?_
    all_goals
      all_goals try with_reducible refine w_n ?_
      all_goals refine w_1 rfl (by first | exact v_t (by rfl) | exact v_c1 (C1.p) (by rfl) (HA.p) (by rfl) | exact v_cF (CA.p) (by rfl) (HA.p) (by rfl)) ?_
      rw [← hm2]
      exact ⟨z, rfl, pz, Sep.sub inferInstance (by repeat' first | exact List.Sublist.refl _ | exact List.sublist_append_left _ _ | exact List.nil_sublist _ | refine List.Sublist.cons_cons _ ?_ | refine List.Sublist.cons _ ?_ | refine List.Sublist.trans ?_ (List.sublist_append_left _ _))⟩
end Go.Proofs.Ytfcgmkpihmiadaa
