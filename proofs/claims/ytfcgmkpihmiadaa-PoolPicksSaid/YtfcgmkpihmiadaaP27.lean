/-
  A part of the proof of a statement of a chapter's seat; conditions: stated at each theorem.
-/
import Derived.Test.YtfcgmkpihmiadaaP26
import Derived.Test.YtfcgmkpihmiadaaAzR
set_option linter.unusedVariables false
set_option linter.unusedSectionVars false
set_option linter.unusedSimpArgs false
set_option linter.unusedVariables false
set_option maxRecDepth 100000
set_option maxHeartbeats 8000000
namespace Go.Proofs.Ytfcgmkpihmiadaa
open Go.Az Go
theorem law3 (out n : Int) (f : Bool) (h : Hp) (su : AV) (us : List Int) (sw : AV) (ws : List Wk) (st : AV) (ts : List Tk) (hU : Elts (encI .i64) 1 h su us) (hW : Elts encW 2 h sw ws) (hT : Elts encT 4 h st ts) : ACalls Try.prog 3 [PA su sw st out, I n, B f] h (fun r _ => r = B true) := by
  have a : EI h su us := mkEL iok 0 hU
  have b : EK h sw ws := mkEL encW_ok wk0 hW
  have c : ET h st ts := mkEL encT_ok tk0 hT
  by_cases hl : lightP ⟨us, ws, ts, out⟩
  · exact (law3_a h ⟨us, ws, ts, out⟩ su sw st n f a b c hl).mono fun r h' _ hh => hh.1
  · refine ACalls.mono (N := fun r h' => r = B true ∧ h' = h) ?_ fun r h' _ hh => hh.1
    have c10 : ∀ Y, EI Y su us → EK Y sw ws → ET Y st ts → ACalls Try.prog 10 [PA su sw st out] Y (fun r h' => r = B false ∧ h' = Y) := fun Y a b c => by
      have := light10 Y ⟨us, ws, ts, out⟩ su sw st a b c
      rwa [decide_eq_false hl] at this
    have pu := a.p.sl
    have pw := b.p.sl
    have pt := c.p.sl
    clear hl
    refine acalls_back ?_
    refine acalls_of_wk hm Try.func3 rfl ?_
    simp only [Try.ntmps3, List.length_cons, List.length_nil, Nat.reduceAdd, Nat.reduceSub, List.reduceReplicate, List.cons_append, List.nil_append]
    show wk _ _ none _ _ ⟨_, []⟩ _
    with_reducible refine s_seq ?_
    with_reducible refine s_reg ?_
    refine sboxA ?_
    simp only [pu', p0', c1', c0', i1', n0', n3', n1', n2', a2', a1', a0', n4', Nat.reduceAdd, z0', n5', sa0, sa1, sa2, sa3, sa4, sa5, sa6, sa7, sa8, sa9, sa10, sa11]
    refine sassign ?_
    simp only [pu', p0', c1', c0', i1', z0', b8_nat]
    with_reducible refine s_end ?_
    with_reducible refine s_then ?_
    with_reducible refine s_seq ?_
    with_reducible refine s_seq ?_
    with_reducible refine s_reg ?_
    refine sloadW ?_
    simp only [pu', p0', c1', c0', i1', z0', b8_nat]
    refine sM (hx := rfl) (c10 _ inferInstance inferInstance inferInstance) ?_
    simp only [pu', p0', c1', c0', i1', z0', b8_nat]
    refine snotF ?_
    simp only [pu', p0', c1', c0', i1', z0', b8_nat]
    with_reducible refine s_end ?_
    with_reducible refine s_then ?_
    refine sCT ?_
    with_reducible refine s_seq ?_
    with_reducible refine s_reg ?_
    refine sM (hx := rfl) (awake11 _) ?_
    simp only [pu', p0', c1', c0', i1', z0', b8_nat]
    refine sassign ?_
    simp only [pu', p0', c1', c0', i1', z0', b8_nat]
    with_reducible refine s_end ?_
    with_reducible refine s_then ?_
    with_reducible refine s_ret ?_
    with_reducible refine s_thenR ?_
    all_goals try with_reducible refine w_n ?_
    all_goals refine w_1 rfl (by first | exact v_t (by rfl) | exact v_c1 (C1.p) (by rfl) (HA.p) (by rfl) | exact v_cF (CA.p) (by rfl) (HA.p) (by rfl)) ?_
    exact ⟨rfl, ext_app _ _, rfl, trivial⟩
end Go.Proofs.Ytfcgmkpihmiadaa
