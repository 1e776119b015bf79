/-
  A part of the proof of a statement of a chapter's seat; conditions: stated at each theorem.
-/
import Derived.Test.YtfcgmkpihmiadaaP9
import Derived.Test.YtfcgmkpihmiadaaP32
import Derived.Test.YtfcgmkpihmiadaaAzR
set_option linter.unusedVariables false
set_option linter.unusedSectionVars false
set_option linter.unusedSimpArgs false
set_option linter.unusedVariables false
set_option maxRecDepth 100000
set_option maxHeartbeats 8000000
namespace Go.Proofs.Ytfcgmkpihmiadaa
open Go.Az Go
theorem iok : EncOk (encI .i64) 1 := encI_ok .i64
instance : EncC encT 4 tk0 := ⟨encT_ok⟩
instance : EncC encW 2 wk0 := ⟨encW_ok⟩
theorem encW_p : EncP encW := fun _ => rfl
theorem encI_p : EncP (encI .i64) := fun _ => rfl
abbrev WI (z : AV) (l : List Int) : Pc := pcW (encI .i64) 1 3 z l
abbrev WK (z : AV) (l : List Wk) : Pc := pcW encW 2 53 z l
abbrev WT (z : AV) (l : List Tk) : Pc := pcW encT 4 68 z l
abbrev EI (h : Hp) (s : AV) (l : List Int) : Prop := EL Int (encI .i64) 1 0 h s l
abbrev EK (h : Hp) (s : AV) (l : List Wk) : Prop := EL Wk encW 2 wk0 h s l
abbrev ET (h : Hp) (s : AV) (l : List Tk) : Prop := EL Tk encT 4 tk0 h s l
abbrev PA (su sw st : AV) (o : Int) : AV := .agg [su, sw, st, I o]
/-! ### Clones -/
theorem bs_22z : bslC Try.prog 22 0 [] = some (3, []) := by kernel_rfl
theorem bs_23z : bslC Try.prog 23 0 [] = some (53, []) := by kernel_rfl
instance : BS Try.prog 22 0 [] 3 [] := ⟨bs_22z⟩
instance : BS Try.prog 23 0 [] 53 [] := ⟨bs_23z⟩
theorem eqn_22 : bin Try.prog .eql 22 (.v (.slice none 0 0)) (.v (.slice none 0 0)) = some (B true) := by kernel_rfl
theorem eqn_22s (i o n c : Nat) (u : Bool) : bin Try.prog .eql 22 (.sl i o n c u) (.v (.slice none 0 0)) = some (B false) := by kernel_rfl
theorem eqn_23 : bin Try.prog .eql 23 (.v (.slice none 0 0)) (.v (.slice none 0 0)) = some (B true) := by kernel_rfl
theorem eqn_23s (i o n c : Nat) (u : Bool) : bin Try.prog .eql 23 (.sl i o n c u) (.v (.slice none 0 0)) = some (B false) := by kernel_rfl
instance : BN Try.prog .eql 22 (.v (.slice none 0 0)) (.v (.slice none 0 0)) true := ⟨eqn_22⟩
instance (i o n c : Nat) (u : Bool) : BN Try.prog .eql 22 (.sl i o n c u) (.v (.slice none 0 0)) false := ⟨eqn_22s i o n c u⟩
instance : BN Try.prog .eql 23 (.v (.slice none 0 0)) (.v (.slice none 0 0)) true := ⟨eqn_23⟩
instance (i o n c : Nat) (u : Bool) : BN Try.prog .eql 23 (.sl i o n c u) (.v (.slice none 0 0)) false := ⟨eqn_23s i o n c u⟩
theorem app_copyG {α : Type} {enc : α → List AV} {q : Nat} {e t : TypeId} (hE : EncOk enc q) (hu : CS Try.prog t e q) (he : CE Try.prog e q) {h : Hp} {s : AV} {l : List α} (hS : Elts enc q h s l) (hlen : l.length ≤ 1099511627776) : ∃ z H', app Try.prog (h ++ [.cells [] e true]) [t, t] (.sl h.length 0 0 0 false) s = some (z, H') ∧ Own enc q e H' z l ∧ Ext h H' ∧ (∀ i, objOf z = some i → h.length ≤ i) ∧ Tight z := by
  obtain ⟨z, H', e1, e2, e3, e4, e5⟩ := app_own' (P := Try.prog) (t := t) (l := []) (s := .sl h.length 0 0 0 false) (H := h ++ [.cells [] e true]) hE hu.p he.p (.inr ⟨h.length, 0, 0, false, [], rfl, ga0, by simp, by simp, by simp, by simp⟩) (hS.ext (ext_app _ _)) (by simp; omega)
  refine ⟨z, H', e1, e2, ⟨Nat.le_trans (by simp) e3.1, fun i hi => ?_⟩, fun i hi => ?_, e5 tight_f⟩
  · rw [e3.2 i (by simp; omega) (by simp [objOf]; omega), List.getElem?_append_left hi]
  · rcases e4 i hi with h1 | h1
    · simp [objOf] at h1; omega
    · simp at h1; omega
theorem cloneI_any (h : Hp) (s : AV) (l : List Int) (hS : Elts (encI .i64) 1 h s l) (hlen : l.length ≤ 1099511627776) : ACalls Try.prog 53 [s] h (fun r h' => RetS (encI .i64) 3 h l r h') := by
  refine ret_own (e := 3) iok encI_p id (fun _ _ => rfl) (fun _ _ h => h) ?_
  obtain ⟨z, H', e1, e2, e3, e4, e5⟩ := app_copyG (t := 22) iok inferInstance inferInstance hS hlen
  rcases hS with ⟨rfl, rfl⟩ | ⟨i, o, c, u, cs, t, ow, rfl, h1, h2, h3⟩
  · refine acalls_of_wk hm Try.func53 rfl ?_
    simp only [Try.ntmps53, List.length_cons, List.length_nil, Nat.reduceAdd, Nat.reduceSub, List.reduceReplicate, List.cons_append, List.nil_append]
    show wk _ _ none _ _ ⟨_, []⟩ _
    focus
      with_reducible refine s_seq ?_
      with_reducible refine s_reg ?_
      refine sassign ?_
      simp only [pu', p0', c1', c0', i1', z0', b8_nat]
      with_reducible refine s_end ?_
      with_reducible refine s_then ?_
      with_reducible refine s_seq ?_
      with_reducible refine s_seq ?_
      with_reducible refine s_reg ?_
      refine smove ?_
      simp only [pu', p0', c1', c0', i1', z0', b8_nat]
      refine sbn (fun hb => ?_) (fun hb => ?_)
      simp only [decide_eq_true_eq, Int.toNat_natCast, decide_eq_false_iff_not, Bool.not_eq_true', Bool.not_eq_false', not_true_eq_false, not_false_eq_true, beq_self_eq_true, Bool.and_true, Bool.true_and, Bool.and_false, Bool.false_and, Bool.and_eq_true, Bool.and_eq_false_iff, beq_iff_eq, beq_eq_false_iff_ne, ne_eq, Bool.not_true, Bool.not_false, Bool.true_eq_false, Bool.false_eq_true, Bool.not_eq_true, Bool.not_eq_false, and_true, true_and, and_false, false_and, or_false, false_or, or_true, true_or] at hb
      simp only [pu', p0', c1', c0', i1', z0', b8_nat]
      with_reducible refine s_end ?_
      with_reducible refine s_then ?_
      refine sCT ?_
      with_reducible refine s_seq ?_
      with_reducible refine s_reg ?_
      refine sassign ?_
      simp only [pu', p0', c1', c0', i1', z0', b8_nat]
      with_reducible refine s_end ?_
      with_reducible refine s_then ?_
      with_reducible refine s_ret ?_
      with_reducible refine s_thenR ?_
      rotate_left 1
      cases hb
    all_goals try with_reducible refine w_n ?_
    all_goals refine w_1 rfl (by first | exact v_t (by rfl) | exact v_c1 (C1.p) (by rfl) (HA.p) (by rfl) | exact v_cF (CA.p) (by rfl) (HA.p) (by rfl)) ?_
    exact ⟨[], nilS, Ext.refl _, rfl, .inl ⟨rfl, rfl⟩, fun i hi => (by cases hi), tight_nil, fun _ _ hh => hh⟩
  · refine acalls_of_wk hm Try.func53 rfl ?_
    simp only [Try.ntmps53, List.length_cons, List.length_nil, Nat.reduceAdd, Nat.reduceSub, List.reduceReplicate, List.cons_append, List.nil_append]
    show wk _ _ none _ _ ⟨_, []⟩ _
    with_reducible refine s_seq ?_
    with_reducible refine s_reg ?_
    refine sassign ?_
    simp only [pu', p0', c1', c0', i1', z0', b8_nat]
    with_reducible refine s_end ?_
    with_reducible refine s_then ?_
    with_reducible refine s_seq ?_
    with_reducible refine s_seq ?_
    with_reducible refine s_reg ?_
    refine smove ?_
    simp only [pu', p0', c1', c0', i1', z0', b8_nat]
    refine sbn (fun hb => ?_) (fun hb => ?_)
    cases hb
    simp only [decide_eq_true_eq, Int.toNat_natCast, decide_eq_false_iff_not, Bool.not_eq_true', Bool.not_eq_false', not_true_eq_false, not_false_eq_true, beq_self_eq_true, Bool.and_true, Bool.true_and, Bool.and_false, Bool.false_and, Bool.and_eq_true, Bool.and_eq_false_iff, beq_iff_eq, beq_eq_false_iff_ne, ne_eq, Bool.not_true, Bool.not_false, Bool.true_eq_false, Bool.false_eq_true, Bool.not_eq_true, Bool.not_eq_false, and_true, true_and, and_false, false_and, or_false, false_or, or_true, true_or] at hb
    simp only [pu', p0', c1', c0', i1', z0', b8_nat]
    with_reducible refine s_end ?_
    with_reducible refine s_then ?_
    refine sCF ?_
    with_reducible refine s_skip ?_
    with_reducible refine s_then ?_
    with_reducible refine s_seq ?_
    with_reducible refine s_reg ?_
    refine sbsl ?_
    simp only [pu', p0', c1', c0', i1', n0', n3', n1', n2', a2', a1', a0', n4', Nat.reduceAdd, z0', n5', sa0, sa1, sa2, sa3, sa4, sa5, sa6, sa7, sa8, sa9, sa10, sa11]
    refine smove ?_
    simp only [pu', p0', c1', c0', i1', z0', b8_nat]
    refine s_gH (by rfl) (x_app (by exact e_any (by rfl)) (by exact e_any (by rfl)) e1) ?_
    simp only [Fr.put, List.set_cons_succ, List.set_cons_zero, Int.toNat_natCast, Nat.zero_add]
    refine sassign ?_
    simp only [pu', p0', c1', c0', i1', z0', b8_nat]
    with_reducible refine s_end ?_
    with_reducible refine s_then ?_
    with_reducible refine s_ret ?_
    all_goals try with_reducible refine w_n ?_
    all_goals refine w_1 rfl (by first | exact v_t (by rfl) | exact v_c1 (C1.p) (by rfl) (HA.p) (by rfl) | exact v_cF (CA.p) (by rfl) (HA.p) (by rfl)) ?_
    exact ⟨l, z, e3, rfl, e2, e4, e5, fun _ _ hh => hh⟩
theorem cloneK_any (h : Hp) (s : AV) (l : List Wk) (hS : Elts encW 2 h s l) (hlen : l.length ≤ 1099511627776) : ACalls Try.prog 57 [s] h (fun r h' => RetS encW 53 h l r h') := by
  refine ret_own (e := 53) encW_ok encW_p id (fun _ _ => rfl) (fun _ _ h => h) ?_
  obtain ⟨z, H', e1, e2, e3, e4, e5⟩ := app_copyG (t := 23) encW_ok inferInstance inferInstance hS hlen
  rcases hS with ⟨rfl, rfl⟩ | ⟨i, o, c, u, cs, t, ow, rfl, h1, h2, h3⟩
  · refine acalls_of_wk hm Try.func57 rfl ?_
    simp only [Try.ntmps57, List.length_cons, List.length_nil, Nat.reduceAdd, Nat.reduceSub, List.reduceReplicate, List.cons_append, List.nil_append]
    show wk _ _ none _ _ ⟨_, []⟩ _
    focus
      with_reducible refine s_seq ?_
      with_reducible refine s_reg ?_
      refine sassign ?_
      simp only [pu', p0', c1', c0', i1', z0', b8_nat]
      with_reducible refine s_end ?_
      with_reducible refine s_then ?_
      with_reducible refine s_seq ?_
      with_reducible refine s_seq ?_
      with_reducible refine s_reg ?_
      refine smove ?_
      simp only [pu', p0', c1', c0', i1', z0', b8_nat]
      refine sbn (fun hb => ?_) (fun hb => ?_)
      simp only [decide_eq_true_eq, Int.toNat_natCast, decide_eq_false_iff_not, Bool.not_eq_true', Bool.not_eq_false', not_true_eq_false, not_false_eq_true, beq_self_eq_true, Bool.and_true, Bool.true_and, Bool.and_false, Bool.false_and, Bool.and_eq_true, Bool.and_eq_false_iff, beq_iff_eq, beq_eq_false_iff_ne, ne_eq, Bool.not_true, Bool.not_false, Bool.true_eq_false, Bool.false_eq_true, Bool.not_eq_true, Bool.not_eq_false, and_true, true_and, and_false, false_and, or_false, false_or, or_true, true_or] at hb
      simp only [pu', p0', c1', c0', i1', z0', b8_nat]
      with_reducible refine s_end ?_
      with_reducible refine s_then ?_
      refine sCT ?_
      with_reducible refine s_seq ?_
      with_reducible refine s_reg ?_
      refine sassign ?_
      simp only [pu', p0', c1', c0', i1', z0', b8_nat]
      with_reducible refine s_end ?_
      with_reducible refine s_then ?_
      with_reducible refine s_ret ?_
      with_reducible refine s_thenR ?_
      rotate_left 1
      cases hb
    all_goals try with_reducible refine w_n ?_
    all_goals refine w_1 rfl (by first | exact v_t (by rfl) | exact v_c1 (C1.p) (by rfl) (HA.p) (by rfl) | exact v_cF (CA.p) (by rfl) (HA.p) (by rfl)) ?_
    exact ⟨[], nilS, Ext.refl _, rfl, .inl ⟨rfl, rfl⟩, fun i hi => (by cases hi), tight_nil, fun _ _ hh => hh⟩
  · refine acalls_of_wk hm Try.func57 rfl ?_
    simp only [Try.ntmps57, List.length_cons, List.length_nil, Nat.reduceAdd, Nat.reduceSub, List.reduceReplicate, List.cons_append, List.nil_append]
    show wk _ _ none _ _ ⟨_, []⟩ _
    with_reducible refine s_seq ?_
    with_reducible refine s_reg ?_
    refine sassign ?_
    simp only [pu', p0', c1', c0', i1', z0', b8_nat]
    with_reducible refine s_end ?_
    with_reducible refine s_then ?_
    with_reducible refine s_seq ?_
    with_reducible refine s_seq ?_
    with_reducible refine s_reg ?_
    refine smove ?_
    simp only [pu', p0', c1', c0', i1', z0', b8_nat]
    refine sbn (fun hb => ?_) (fun hb => ?_)
    cases hb
    simp only [decide_eq_true_eq, Int.toNat_natCast, decide_eq_false_iff_not, Bool.not_eq_true', Bool.not_eq_false', not_true_eq_false, not_false_eq_true, beq_self_eq_true, Bool.and_true, Bool.true_and, Bool.and_false, Bool.false_and, Bool.and_eq_true, Bool.and_eq_false_iff, beq_iff_eq, beq_eq_false_iff_ne, ne_eq, Bool.not_true, Bool.not_false, Bool.true_eq_false, Bool.false_eq_true, Bool.not_eq_true, Bool.not_eq_false, and_true, true_and, and_false, false_and, or_false, false_or, or_true, true_or] at hb
    simp only [pu', p0', c1', c0', i1', z0', b8_nat]
    with_reducible refine s_end ?_
    with_reducible refine s_then ?_
    refine sCF ?_
    with_reducible refine s_skip ?_
    with_reducible refine s_then ?_
    with_reducible refine s_seq ?_
    with_reducible refine s_reg ?_
    refine sbsl ?_
    simp only [pu', p0', c1', c0', i1', n0', n3', n1', n2', a2', a1', a0', n4', Nat.reduceAdd, z0', n5', sa0, sa1, sa2, sa3, sa4, sa5, sa6, sa7, sa8, sa9, sa10, sa11]
    refine smove ?_
    simp only [pu', p0', c1', c0', i1', z0', b8_nat]
    refine s_gH (by rfl) (x_app (by exact e_any (by rfl)) (by exact e_any (by rfl)) e1) ?_
    simp only [Fr.put, List.set_cons_succ, List.set_cons_zero, Int.toNat_natCast, Nat.zero_add]
    refine sassign ?_
    simp only [pu', p0', c1', c0', i1', z0', b8_nat]
    with_reducible refine s_end ?_
    with_reducible refine s_then ?_
    with_reducible refine s_ret ?_
    all_goals try with_reducible refine w_n ?_
    all_goals refine w_1 rfl (by first | exact v_t (by rfl) | exact v_c1 (C1.p) (by rfl) (HA.p) (by rfl) | exact v_cF (CA.p) (by rfl) (HA.p) (by rfl)) ?_
    exact ⟨l, z, e3, rfl, e2, e4, e5, fun _ _ hh => hh⟩
/-- A clone among pieces. -/
theorem ret_in {α : Type} {enc : α → List AV} {q : Nat} {e : TypeId} (hE : EncOk enc q) {g : FuncId} {args : List AV} {h X : Hp} {L : List Pc} {l : List α} (S : Sep h X L) (c : ACalls Try.prog g args X (fun r h' => RetS enc e X l r h')) : ACalls Try.prog g args X (fun r h' => ∃ z, z = r ∧ SlC z ∧ Sep h h' (L ++ [pcW enc q e z l])) :=
  c.mono fun r h' _ hR => ⟨r, rfl, (hR.own hE).sl, S.join (hR.sep hE)⟩
theorem cloneI_in {h X : Hp} {L : List Pc} (s : AV) (l : List Int) [S : Sep h X L] [a : EI X s l] (hlen : l.length ≤ 1099511627776) : ACalls Try.prog 53 [s] X (fun r h' => ∃ z, z = r ∧ SlC z ∧ Sep h h' (L ++ [WI z l])) := ret_in iok S (cloneI_any X s l a.p hlen)
theorem cloneK_in {h X : Hp} {L : List Pc} (s : AV) (l : List Wk) [S : Sep h X L] [a : EK X s l] (hlen : l.length ≤ 1099511627776) : ACalls Try.prog 57 [s] X (fun r h' => ∃ z, z = r ∧ SlC z ∧ Sep h h' (L ++ [WK z l])) := ret_in encW_ok S (cloneK_any X s l a.p hlen)
theorem cloneT_in {h X : Hp} {L : List Pc} (s : AV) (l : List Tk) [S : Sep h X L] [a : ET X s l] (hlen : l.length ≤ 1099511627776) : ACalls Try.prog 58 [s] X (fun r h' => ∃ z, z = r ∧ SlC z ∧ Sep h h' (L ++ [WT z l])) := ret_in encT_ok S (clone_any X s l a.p hlen)
/-! ### A pool in memory of its own -/
structure Fits (p : Pl) : Prop where
  u : p.us.length ≤ 1000000
  w : p.ws.length ≤ 1000000
  t : p.ts.length ≤ 1000000
abbrev QI (h : Hp) (L : List Pc) (s : AV) (l : List Int) : Prop := EP Int (encI .i64) 1 0 h L s l
abbrev QK (h : Hp) (L : List Pc) (s : AV) (l : List Wk) : Prop := EP Wk encW 2 wk0 h L s l
theorem own_any (X : Hp) (p : Pl) (su sw st : AV) [a : EI X su p.us] [b : EK X sw p.ws] [c : ET X st p.ts] (hf : Fits p) : ACalls Try.prog 39 [PA su sw st p.out] X (fun r h' => ∃ zu zw zt, r = PA zu zw zt p.out ∧ SlC zu ∧ SlC zw ∧ SlC zt ∧ Sep X h' [WI zu p.us, WK zw p.ws, WT zt p.ts]) := by
  have f1 := hf.u
  have f2 := hf.w
  have f3 := hf.t
  have pu := a.p.sl
  have pw := b.p.sl
  have pt := c.p.sl
  have S0 := Sep.nil X
  refine acalls_of_wk hm Try.func39 rfl ?_
  simp only [Try.ntmps39, List.length_cons, List.length_nil, Nat.reduceAdd, Nat.reduceSub, List.reduceReplicate, List.cons_append, List.nil_append]
  show wk _ _ none _ _ ⟨_, []⟩ _
  with_reducible refine s_seq ?_
  with_reducible refine s_reg ?_
  refine sboxA ?_
  simp only [pu', p0', c1', c0', i1', n0', n3', n1', n2', a2', a1', a0', n4', Nat.reduceAdd, z0', n5', sa0, sa1, sa2, sa3, sa4, sa5, sa6, sa7, sa8, sa9, sa10, sa11]
  refine salloc ?_
  simp only [pu', p0', c1', c0', i1', n0', n3', n1', n2', a2', a1', a0', n4', Nat.reduceAdd, z0', n5', sa0, sa1, sa2, sa3, sa4, sa5, sa6, sa7, sa8, sa9, sa10, sa11]
  with_reducible refine s_end ?_
  with_reducible refine s_then ?_
  with_reducible refine s_seq ?_
  (refine s_regT (id := 1) (.light 0 (.light 1 (.light 3 (.light 4 (.light 6 (.light 7 (.alt 2 [1] (.light 9 (.alt 5 [1, 4] (.alt 8 [1, 4, 7] (.alt 10 [0, 1, 3, 4, 6, 7, 9] (.light 11 (.alt 12 [0, 1, 3, 4, 6, 7, 9, 11] (.light 13 (.alt 14 [0, 1, 3, 4, 6, 7, 9, 11, 13] (.done) (.no))) (.no))) (.no)) (.no)) (.no))) (.no)))))))) [2, 5, 8, 10, 12, 14] (by kernel_rfl) (by conv => lhs; simp only [pickT, List.getElem?_cons_succ, List.getElem?_cons_zero]) ?_)
  refine tfad ?_
  simp only [pu', p0', c1', c0', i1', z0', b8_nat]
  refine tload1 ?_
  simp only [pu', p0', c1', c0', i1', z0', b8_nat]
  refine tfad ?_
  simp only [pu', p0', c1', c0', i1', z0', b8_nat]
  refine tload1 ?_
  simp only [pu', p0', c1', c0', i1', z0', b8_nat]
  refine tfad ?_
  simp only [pu', p0', c1', c0', i1', z0', b8_nat]
  refine tload1 ?_
  simp only [pu', p0', c1', c0', i1', z0', b8_nat]
  refine uC (hx := rfl) ((cloneI_in su p.us (by omega)).mono ?_)
  rintro _ m53 _ ⟨zu, rfl, pzu, S1⟩
  refine ⟨(by repeat' first | exact trivial | refine ⟨.inl rfl, ?_⟩ | refine ⟨.inr (ha_same inferInstance inferInstance), ?_⟩), ?_⟩
  simp only [pu', p0', c1', c0', i1', n0', n3', n1', n2', a2', a1', a0', n4', Nat.reduceAdd, z0', n5', sa0, sa1, sa2, sa3, sa4, sa5, sa6, sa7, sa8, sa9, sa10, sa11]
  refine tfad ?_
  simp only [pu', p0', c1', c0', i1', z0', b8_nat]
  refine uC (hx := rfl) ((cloneK_in sw p.ws (by omega)).mono ?_)
  rintro _ m57 _ ⟨zw, rfl, pzw, S2⟩
  refine ⟨(by repeat' first | exact trivial | refine ⟨.inl rfl, ?_⟩ | refine ⟨.inr (ha_same inferInstance inferInstance), ?_⟩), ?_⟩
  simp only [pu', p0', c1', c0', i1', n0', n3', n1', n2', a2', a1', a0', n4', Nat.reduceAdd, z0', n5', sa0, sa1, sa2, sa3, sa4, sa5, sa6, sa7, sa8, sa9, sa10, sa11]
  refine uC (hx := rfl) ((cloneT_in st p.ts (by omega)).mono ?_)
  rintro _ m58 _ ⟨zt, rfl, pzt, S3⟩
  refine ⟨(by repeat' first | exact trivial | refine ⟨.inl rfl, ?_⟩ | refine ⟨.inr (ha_same inferInstance inferInstance), ?_⟩), ?_⟩
  simp only [pu', p0', c1', c0', i1', n0', n3', n1', n2', a2', a1', a0', n4', Nat.reduceAdd, z0', n5', sa0, sa1, sa2, sa3, sa4, sa5, sa6, sa7, sa8, sa9, sa10, sa11]
  refine ustore1 ?_
  simp only [pu', p0', c1', c0', i1', n0', n3', n1', n2', a2', a1', a0', n4', Nat.reduceAdd, z0', n5', sa0, sa1, sa2, sa3, sa4, sa5, sa6, sa7, sa8, sa9, sa10, sa11]
  refine tfad ?_
  simp only [pu', p0', c1', c0', i1', z0', b8_nat]
  refine ustore1 ?_
  simp only [pu', p0', c1', c0', i1', n0', n3', n1', n2', a2', a1', a0', n4', Nat.reduceAdd, z0', n5', sa0, sa1, sa2, sa3, sa4, sa5, sa6, sa7, sa8, sa9, sa10, sa11]
  refine tfad ?_
  simp only [pu', p0', c1', c0', i1', z0', b8_nat]
  refine ustore1 ?_
  simp only [pu', p0', c1', c0', i1', n0', n3', n1', n2', a2', a1', a0', n4', Nat.reduceAdd, z0', n5', sa0, sa1, sa2, sa3, sa4, sa5, sa6, sa7, sa8, sa9, sa10, sa11]
  with_reducible refine t_end ?_
  with_reducible refine s_then ?_
  with_reducible refine s_seq ?_
  with_reducible refine s_reg ?_
  refine sloadW ?_
  simp only [pu', p0', c1', c0', i1', z0', b8_nat]
  refine sstoreF ?_
  simp only [pu', p0', c1', c0', i1', n0', n3', n1', n2', a2', a1', a0', n4', Nat.reduceAdd, z0', n5', sa0, sa1, sa2, sa3, sa4, sa5, sa6, sa7, sa8, sa9, sa10, sa11]
  with_reducible refine s_end ?_
  with_reducible refine s_then ?_
  with_reducible refine s_ret ?_
  all_goals try with_reducible refine w_n ?_
  all_goals refine w_1 rfl (by first | exact v_t (by rfl) | exact v_c1 (C1.p) (by rfl) (HA.p) (by rfl) | exact v_cF (CA.p) (by rfl) (HA.p) (by rfl)) ?_
  refine ⟨zu, zw, zt, rfl, pzu, pzw, pzt, Sep.sub inferInstance (by repeat' first | exact List.Sublist.refl _ | exact List.sublist_append_left _ _ | exact List.nil_sublist _ | refine List.Sublist.cons_cons _ ?_ | refine List.Sublist.cons _ ?_ | refine List.Sublist.trans ?_ (List.sublist_append_left _ _))⟩
/-! ### Jobs are admitted -/
theorem bs_24o (x : Tk) : bslC Try.prog 24 1 [(0, TA x)] = some (68, encT x) := by kernel_rfl
instance (x : Tk) : BS Try.prog 24 1 [(0, TA x)] 68 (encT x) := ⟨bs_24o x⟩
theorem taskR_newT (u : Int) : ∃ e, taskR u = .tup [TA (newT u), I e] := by
  unfold taskR newT
  split <;> exact ⟨_, rfl⟩
theorem task_new (u : Int) : ∃ e, ACalls Try.prog 64 [I u] [] (fun r _ => r = .tup [TA (newT u), I e] ∧ r.sc 0 = true) := by
  obtain ⟨e, he⟩ := taskR_newT u
  exact ⟨e, by rw [← he]; exact task_any u⟩
structure AdB where
  ts : List Tk
  z : AV
  G : Hp
  m : Nat
theorem admit_in {h X : Hp} {L0 L : List Pc} (p : Pl) (su sw st : AV) (S : Sep h X L0) (T : TakeW Tk L0 st encT 4 68 p.ts L) (a : QI h L su p.us) (b : QK h L sw p.ws) (pt : SlC st) (pu : SlC su) (pw : SlC sw) (hf : Fits p) (ho : -1000000 ≤ p.out ∧ p.out ≤ 1000000) : ACalls Try.prog 42 [PA su sw st p.out] X (fun r h' => ∃ zt, r = PA su sw zt p.out ∧ SlC zt ∧ Sep h h' (WT zt (adQ p).ts :: L)) := by
  have f1 := hf.u
  have f2 := hf.w
  have f3 := hf.t
  have S0 := S.take T
  obtain ⟨us, ws, ts0, out⟩ := p
  simp only [] at f1 f2 f3 S0 a b ho ⊢
  refine acalls_of_wk hm Try.func42 rfl ?_
  simp only [Try.ntmps42, List.length_cons, List.length_nil, Nat.reduceAdd, Nat.reduceSub, List.reduceReplicate, List.cons_append, List.nil_append]
  show wk _ _ none _ _ ⟨_, []⟩ _
  with_reducible refine s_seq ?_
  with_reducible refine s_reg ?_
  refine sboxA ?_
  simp only [pu', p0', c1', c0', i1', n0', n3', n1', n2', a2', a1', a0', n4', Nat.reduceAdd, z0', n5', sa0, sa1, sa2, sa3, sa4, sa5, sa6, sa7, sa8, sa9, sa10, sa11]
  refine salloc ?_
  simp only [pu', p0', c1', c0', i1', n0', n3', n1', n2', a2', a1', a0', n4', Nat.reduceAdd, z0', n5', sa0, sa1, sa2, sa3, sa4, sa5, sa6, sa7, sa8, sa9, sa10, sa11]
  with_reducible refine s_end ?_
  with_reducible refine s_then ?_
  with_reducible refine s_seq ?_
  with_reducible refine s_block ?_
  refine s_loop hm (fun (b : AdB) s' => [PA su sw st out, .ptr X.length 0, .ptr (X.length + 1) 0, s' 3, s' 4, s' 5, s' 6, s' 7, s' 8, s' 9, s' 10, s' 11, s' 12, s' 13, s' 14, s' 15, s' 16, s' 17, s' 18, s' 19, s' 20, s' 21, s' 22, s' 23, s' 24, s' 25, s' 26, s' 27, s' 28, s' 29, s' 30, s' 31, s' 32, s' 33, s' 34, s' 35, s' 36, s' 37, s' 38, s' 39, s' 40, s' 41, s' 42]) (fun b => b.G) (fun b => SlC b.z ∧ b.ts.length ≤ 1000000 ∧ Sep h b.G (pcC X.length (.cells [su, sw, b.z, I out] 26 true) :: pcC (X.length + 1) (.cells [nilS, nilS, nilS, I 0] 26 true) :: WT b.z b.ts :: L) ∧ us.length ≤ b.m + b.ts.length ∧ adm b.m ⟨us, ws, b.ts, out⟩ = adQ ⟨us, ws, ts0, out⟩) (fun b => us.length - b.ts.length) ⟨ts0, st, _, us.length⟩ (by rfl) rfl ⟨pt, f3, ?_, by simp only []; omega, rfl⟩ ?_
  · exact Sep.perm (inferInstance : Sep h (X ++ [_, _]) _) (List.perm_append_comm (l₁ := WT st ts0 :: L) (l₂ := [_, _]))
  rintro ⟨ts, z, G, m⟩ s' ⟨pz, f4, S1, hm1, hm2⟩
  simp only [] at pz f4 S1 hm1 hm2 ⊢
  have hq : admN ⟨us, ws, ts, out⟩ = min (us.length : Int) (out + ws.length + 2) := rfl
  obtain ⟨e1, c1⟩ := task_new (us.getD ts.length 0)
  by_cases hc : (ts.length : Int) < admN ⟨us, ws, ts, out⟩
  · obtain ⟨m, rfl⟩ : ∃ k, m = k + 1 := ⟨m - 1, by omega⟩
    rw [adm_go hc] at hm2
    focus
      with_reducible refine s_seq ?_
      with_reducible refine s_seq ?_
      with_reducible refine s_reg ?_
      refine sfad ?_
      simp only [pu', p0', c1', c0', i1', z0', b8_nat]
      refine sload1 ?_
      simp only [pu', p0', c1', c0', i1', z0', b8_nat]
      refine slenE ?_
      simp only [pu', p0', c1', c0', i1', z0', b8_nat]
      refine sfad ?_
      simp only [pu', p0', c1', c0', i1', z0', b8_nat]
      refine sload1 ?_
      simp only [pu', p0', c1', c0', i1', z0', b8_nat]
      refine slenE ?_
      simp only [pu', p0', c1', c0', i1', z0', b8_nat]
      refine sLt (fun hb => ?_) (fun hb => ?_)
      replace hb := dT' hb
      simp only [pu', p0', c1', c0', i1', z0', b8_nat]
      refine smove ?_
      simp only [pu', p0', c1', c0', i1', z0', b8_nat]
      refine sfad ?_
      simp only [pu', p0', c1', c0', i1', z0', b8_nat]
      refine sload1 ?_
      simp only [pu', p0', c1', c0', i1', z0', b8_nat]
      refine slenE ?_
      simp only [pu', p0', c1', c0', i1', z0', b8_nat]
      refine sfad ?_
      simp only [pu', p0', c1', c0', i1', z0', b8_nat]
      refine sload1 ?_
      simp only [pu', p0', c1', c0', i1', z0', b8_nat]
      refine ssub ?_
      simp only [pu', p0', c1', c0', i1', z0', b8_nat]
      refine sfad ?_
      simp only [pu', p0', c1', c0', i1', z0', b8_nat]
      refine sload1 ?_
      simp only [pu', p0', c1', c0', i1', z0', b8_nat]
      refine slenE ?_
      simp only [pu', p0', c1', c0', i1', z0', b8_nat]
      refine sadd ?_
      simp only [pu', p0', c1', c0', i1', z0', b8_nat]
      refine sLt (fun hb => ?_) (fun hb => ?_)
      replace hb := dT' hb
      simp only [pu', p0', c1', c0', i1', z0', b8_nat]
      refine spickT ?_
      simp only [pu', p0', c1', c0', i1', z0', b8_nat]
      with_reducible refine s_end ?_
      with_reducible refine s_then ?_
      refine sCT ?_
      with_reducible refine s_skip ?_
      with_reducible refine s_then ?_
      with_reducible refine s_block ?_
      with_reducible refine s_seq ?_
      with_reducible refine s_reg ?_
      refine sfad ?_
      simp only [pu', p0', c1', c0', i1', z0', b8_nat]
      refine sload1 ?_
      simp only [pu', p0', c1', c0', i1', z0', b8_nat]
      refine sfad ?_
      simp only [pu', p0', c1', c0', i1', z0', b8_nat]
      refine sload1 ?_
      simp only [pu', p0', c1', c0', i1', z0', b8_nat]
      refine slenE ?_
      simp only [pu', p0', c1', c0', i1', z0', b8_nat]
      refine sidxE ?_
      simp only [pu', p0', c1', c0', i1', z0', b8_nat]
      refine sloadE1 ?_
      simp only [pu', p0', c1', c0', i1', z0', b8_nat]
      refine sK (hx := rfl) (c1) ?_
      simp only [pu', p0', c1', c0', i1', z0', b8_nat]
      refine smove ?_
      simp only [pu', p0', c1', c0', i1', z0', b8_nat]
      refine sext ?_
      simp only [pu', p0', c1', c0', i1', z0', b8_nat]
      refine sext ?_
      simp only [pu', p0', c1', c0', i1', z0', b8_nat]
      refine salloc ?_
      simp only [pu', p0', c1', c0', i1', n0', n3', n1', n2', a2', a1', a0', n4', Nat.reduceAdd, z0', n5', sa0, sa1, sa2, sa3, sa4, sa5, sa6, sa7, sa8, sa9, sa10, sa11]
      refine sstoreF ?_
      simp only [pu', p0', c1', c0', i1', n0', n3', n1', n2', a2', a1', a0', n4', Nat.reduceAdd, z0', n5', sa0, sa1, sa2, sa3, sa4, sa5, sa6, sa7, sa8, sa9, sa10, sa11]
      refine sassign ?_
      simp only [pu', p0', c1', c0', i1', z0', b8_nat]
      with_reducible refine s_end ?_
      with_reducible refine s_then ?_
      with_reducible refine s_reg ?_
      refine sfad ?_
      simp only [pu', p0', c1', c0', i1', z0', b8_nat]
      refine sload1 ?_
      simp only [pu', p0', c1', c0', i1', z0', b8_nat]
      refine sloadW ?_
      simp only [pu', p0', c1', c0', i1', z0', b8_nat]
      refine sbsl ?_
      simp only [pu', p0', c1', c0', i1', n0', n3', n1', n2', a2', a1', a0', n4', Nat.reduceAdd, z0', n5', sa0, sa1, sa2, sa3, sa4, sa5, sa6, sa7, sa8, sa9, sa10, sa11]
      (refine s_app 2 (l2 := [newT (us.getD ts.length 0)]) (fun z1 Y1 T1 x1 => ?_) inferInstance rfl encT_ok (elts_at (l := [newT (us.getD ts.length 0)]) encT_ok inferInstance rfl) (by simp only [List.length_cons, List.length_nil]; omega) inferInstance inferInstance; simp only [a1', c1', c0'] at T1; have pz1 := T1.sl 2 rfl; simp only [Fr.put, List.set_cons_succ, List.set_cons_zero, Int.toNat_natCast, Nat.zero_add])
      refine sfad ?_
      simp only [pu', p0', c1', c0', i1', z0', b8_nat]
      refine sstore1 ?_
      simp only [pu', p0', c1', c0', i1', n0', n3', n1', n2', a2', a1', a0', n4', Nat.reduceAdd, z0', n5', sa0, sa1, sa2, sa3, sa4, sa5, sa6, sa7, sa8, sa9, sa10, sa11]
      with_reducible refine s_end ?_
      with_reducible refine s_blkN ?_
      rotate_left 1
      replace hb := dF' hb
      (exfalso; omega)
      replace hb := dF' hb
      (exfalso; omega)
    refine l_next ⟨ts ++ [newT (us.getD ts.length 0)], z1, _, m⟩ ⟨pz1, by simp only [List.length_append, List.length_singleton]; omega, Sep.sub inferInstance (by repeat' first | exact List.Sublist.refl _ | exact List.sublist_append_left _ _ | exact List.nil_sublist _ | refine List.Sublist.cons_cons _ ?_ | refine List.Sublist.cons _ ?_ | refine List.Sublist.trans ?_ (List.sublist_append_left _ _)), by simp only [List.length_append, List.length_singleton]; omega, hm2⟩ (by simp only [List.length_append, List.length_singleton]; omega) (by rfl) rfl
  · rw [adm_no hc] at hm2
    focus
      with_reducible refine s_seq ?_
      with_reducible refine s_seq ?_
      with_reducible refine s_reg ?_
      refine sfad ?_
      simp only [pu', p0', c1', c0', i1', z0', b8_nat]
      refine sload1 ?_
      simp only [pu', p0', c1', c0', i1', z0', b8_nat]
      refine slenE ?_
      simp only [pu', p0', c1', c0', i1', z0', b8_nat]
      refine sfad ?_
      simp only [pu', p0', c1', c0', i1', z0', b8_nat]
      refine sload1 ?_
      simp only [pu', p0', c1', c0', i1', z0', b8_nat]
      refine slenE ?_
      simp only [pu', p0', c1', c0', i1', z0', b8_nat]
      refine sLt (fun hb => ?_) (fun hb => ?_)
      replace hb := dT' hb
      simp only [pu', p0', c1', c0', i1', z0', b8_nat]
      refine smove ?_
      simp only [pu', p0', c1', c0', i1', z0', b8_nat]
      refine sfad ?_
      simp only [pu', p0', c1', c0', i1', z0', b8_nat]
      refine sload1 ?_
      simp only [pu', p0', c1', c0', i1', z0', b8_nat]
      refine slenE ?_
      simp only [pu', p0', c1', c0', i1', z0', b8_nat]
      refine sfad ?_
      simp only [pu', p0', c1', c0', i1', z0', b8_nat]
      refine sload1 ?_
      simp only [pu', p0', c1', c0', i1', z0', b8_nat]
      refine ssub ?_
      simp only [pu', p0', c1', c0', i1', z0', b8_nat]
      refine sfad ?_
      simp only [pu', p0', c1', c0', i1', z0', b8_nat]
      refine sload1 ?_
      simp only [pu', p0', c1', c0', i1', z0', b8_nat]
      refine slenE ?_
      simp only [pu', p0', c1', c0', i1', z0', b8_nat]
      refine sadd ?_
      simp only [pu', p0', c1', c0', i1', z0', b8_nat]
      refine sLt (fun hb => ?_) (fun hb => ?_)
      replace hb := dT' hb
      (exfalso; omega)
      replace hb := dF' hb
      simp only [pu', p0', c1', c0', i1', z0', b8_nat]
      refine spickT ?_
      simp only [pu', p0', c1', c0', i1', z0', b8_nat]
      with_reducible refine s_end ?_
      with_reducible refine s_then ?_
      refine sCF ?_
      with_reducible refine s_exit ?_
      with_reducible refine s_thenE ?_
      with_reducible refine l_exit ?_
      with_reducible refine s_blkE ?_
      with_reducible refine s_then ?_
      with_reducible refine s_seq ?_
      with_reducible refine s_reg ?_
      refine sloadW ?_
      simp only [pu', p0', c1', c0', i1', z0', b8_nat]
      refine sstoreF ?_
      simp only [pu', p0', c1', c0', i1', n0', n3', n1', n2', a2', a1', a0', n4', Nat.reduceAdd, z0', n5', sa0, sa1, sa2, sa3, sa4, sa5, sa6, sa7, sa8, sa9, sa10, sa11]
      with_reducible refine s_end ?_
      with_reducible refine s_then ?_
      with_reducible refine s_ret ?_
      rotate_left 1
      replace hb := dF' hb
      simp only [pu', p0', c1', c0', i1', z0', b8_nat]
      refine smove ?_
      simp only [pu', p0', c1', c0', i1', z0', b8_nat]
      refine sN ?_
      simp only [pu', p0', c1', c0', i1', z0', b8_nat]
      refine sN ?_
      simp only [pu', p0', c1', c0', i1', z0', b8_nat]
      refine sN ?_
      simp only [pu', p0', c1', c0', i1', z0', b8_nat]
      refine sN ?_
      simp only [pu', p0', c1', c0', i1', z0', b8_nat]
      refine sN ?_
      simp only [pu', p0', c1', c0', i1', z0', b8_nat]
      refine sN ?_
      simp only [pu', p0', c1', c0', i1', z0', b8_nat]
      refine sN ?_
      simp only [pu', p0', c1', c0', i1', z0', b8_nat]
      refine sN ?_
      simp only [pu', p0', c1', c0', i1', z0', b8_nat]
      refine sN ?_
      simp only [pu', p0', c1', c0', i1', z0', b8_nat]
      refine sN ?_
      simp only [pu', p0', c1', c0', i1', z0', b8_nat]
      refine sN ?_
      simp only [pu', p0', c1', c0', i1', z0', b8_nat]
      refine spickF ?_
      simp only [pu', p0', c1', c0', i1', z0', b8_nat]
      with_reducible refine s_end ?_
      with_reducible refine s_then ?_
      refine sCF ?_
      with_reducible refine s_exit ?_
      with_reducible refine s_thenE ?_
      with_reducible refine l_exit ?_
      with_reducible refine s_blkE ?_
      with_reducible refine s_then ?_
      with_reducible refine s_seq ?_
      with_reducible refine s_reg ?_
      refine sloadW ?_
      simp only [pu', p0', c1', c0', i1', z0', b8_nat]
      refine sstoreF ?_
      simp only [pu', p0', c1', c0', i1', n0', n3', n1', n2', a2', a1', a0', n4', Nat.reduceAdd, z0', n5', sa0, sa1, sa2, sa3, sa4, sa5, sa6, sa7, sa8, sa9, sa10, sa11]
      with_reducible refine s_end ?_
      with_reducible refine s_then ?_
      with_reducible refine s_ret ?_
      rotate_left 1
    all_goals
      all_goals try with_reducible refine w_n ?_
      all_goals refine w_1 rfl (by first | exact v_t (by rfl) | exact v_c1 (C1.p) (by rfl) (HA.p) (by rfl) | exact v_cF (CA.p) (by rfl) (HA.p) (by rfl)) ?_
      rw [← hm2]
      exact ⟨z, rfl, pz, Sep.sub inferInstance (by repeat' first | exact List.Sublist.refl _ | exact List.sublist_append_left _ _ | exact List.nil_sublist _ | refine List.Sublist.cons_cons _ ?_ | refine List.Sublist.cons _ ?_ | refine List.Sublist.trans ?_ (List.sublist_append_left _ _))⟩
end Go.Proofs.Ytfcgmkpihmiadaa
