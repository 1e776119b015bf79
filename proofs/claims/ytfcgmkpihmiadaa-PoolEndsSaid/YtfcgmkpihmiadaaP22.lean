/-
  A part of the proof of a statement of a chapter's seat; conditions: stated at each theorem.
-/
import Derived.Test.YtfcgmkpihmiadaaP21
set_option linter.unusedVariables false
set_option linter.unusedSectionVars false
set_option linter.unusedSimpArgs false
set_option linter.unusedVariables false
set_option maxRecDepth 100000
set_option maxHeartbeats 8000000
namespace Go.Proofs.Ytfcgmkpihmiadaa
open Go.Az Go
def pA : Pl := ⟨[2, 1, 1, 1], [⟨-1, 0⟩], [⟨2, true, false, 0⟩, ⟨1, true, false, 0⟩, ⟨1, true, false, 0⟩], 0⟩
def pB : Pl := ⟨[2, 1, 1, 1], [⟨0, 0⟩], [⟨2, false, false, 0⟩, ⟨1, true, false, 0⟩, ⟨1, true, false, 0⟩], 0⟩
theorem nwA : newQ 1 [2, 1, 1, 1] = ⟨pA, 0⟩ := by kernel_rfl
theorem peA : poolE pA = 0 := by kernel_rfl
theorem pkA : pickQ pA 0 false = ⟨pB, 1, [], 0⟩ := by kernel_rfl
theorem peB : poolE pB = 0 := by kernel_rfl
theorem wtA : waitL pA = [0, 1, 2] := by kernel_rfl
theorem wtB : waitL pB = [1, 2] := by kernel_rfl
theorem lfA : min (leftN pA) 1099511627776 = 9 := by kernel_rfl
theorem lfB : min (leftN pB) 1099511627776 = 8 := by kernel_rfl
theorem fitA : Fits pA := ⟨by decide, by decide, by decide⟩
theorem fitB : Fits pB := ⟨by decide, by decide, by decide⟩
theorem bs_224 : bslC Try.prog 22 4 [(0, I 2), (1, I 1), (2, I 1), (3, I 1)] = some (3, [I 2, I 1, I 1, I 1]) := by kernel_rfl
instance : BS Try.prog 22 4 [(0, I 2), (1, I 1), (2, I 1), (3, I 1)] 3 [I 2, I 1, I 1, I 1] := ⟨bs_224⟩
theorem bs_223 : bslC Try.prog 22 3 [(0, I 0), (1, I 1), (2, I 2)] = some (3, [I 0, I 1, I 2]) := by kernel_rfl
instance : BS Try.prog 22 3 [(0, I 0), (1, I 1), (2, I 2)] 3 [I 0, I 1, I 2] := ⟨bs_223⟩
theorem bs_222 : bslC Try.prog 22 2 [(0, I 1), (1, I 2)] = some (3, [I 1, I 2]) := by kernel_rfl
instance : BS Try.prog 22 2 [(0, I 1), (1, I 2)] 3 [I 1, I 2] := ⟨bs_222⟩
theorem el4 {Y : Hp} {i : Nat} (a : HA Y i (.cells [I 2, I 1, I 1, I 1] 3 true)) : EI Y (.sl i 0 4 4 false) [2, 1, 1, 1] := mkEL iok 0 (elts_at (l := [2, 1, 1, 1]) iok a rfl)
theorem el3 {Y : Hp} {i : Nat} (a : HA Y i (.cells [I 0, I 1, I 2] 3 true)) : EI Y (.sl i 0 3 3 false) [0, 1, 2] := mkEL iok 0 (elts_at (l := [0, 1, 2]) iok a rfl)
theorem el2 {Y : Hp} {i : Nat} (a : HA Y i (.cells [I 1, I 2] 3 true)) : EI Y (.sl i 0 2 2 false) [1, 2] := mkEL iok 0 (elts_at (l := [1, 2]) iok a rfl)
theorem newA {h X : Hp} {L : List Pc} (i : Nat) (S : Sep h X L) (a : HA X i (.cells [I 2, I 1, I 1, I 1] 3 true)) : ACalls Try.prog 19 [I 1, .sl i 0 4 4 false] X (fun r h' => ∃ zu zw zt, r = .tup [PA zu zw zt 0, I 0] ∧ SlC zu ∧ SlC zw ∧ SlC zt ∧ Sep h h' (L ++ [WI zu pA.us, WK zw pA.ws, WT zt pA.ts])) := by
  have := new19 X 1 (.sl i 0 4 4 false) [2, 1, 1, 1] (a := el4 a) (by decide)
  rw [nwA] at this
  exact this.mono fun r h' _ ⟨zu, zw, zt, h1, h2, h3, h4, h5⟩ => ⟨zu, zw, zt, h1, h2, h3, h4, S.join h5⟩
theorem pickA {h X : Hp} {L : List Pc} (su sw st : AV) (S : Sep h X L) (a : EI X su pA.us) (b : EK X sw pA.ws) (c : ET X st pA.ts) : ACalls Try.prog 13 [PA su sw st 0, I 0, B false] X (fun r h' => ∃ zu zw zt zl, r = .tup [PA zu zw zt 0, I 1, zl, I 0] ∧ SlC zu ∧ SlC zw ∧ SlC zt ∧ SlC zl ∧ Sep h h' (L ++ [WI zu pB.us, WK zw pB.ws, WT zt pB.ts, WI zl []])) := by
  have := pick13 X pA su sw st a b c fitA 0 false
  rw [pkA] at this
  exact this.mono fun r h' _ ⟨zu, zw, zt, zl, h1, h2, h3, h4, h5, h6⟩ => ⟨zu, zw, zt, zl, h1, h2, h3, h4, h5, S.join h6⟩
theorem tellA {Y : Hp} (su sw st : AV) (i : Nat) (d : HA Y i (.cells [I 0, I 1, I 2] 3 true)) (a : EI Y su pA.us) (b : EK Y sw pA.ws) (c : ET Y st pA.ts) : ACalls Try.prog 29 [PA su sw st 0, I 9, I 3, .sl i 0 3 3 false] Y (fun r h' => r = B true ∧ h' = Y) :=
  tells29 Y pA su sw st _ 9 3 [0, 1, 2] a b c (el3 d) fitA peA wtA lfA rfl
theorem tellB {Y : Hp} (su sw st : AV) (i : Nat) (d : HA Y i (.cells [I 1, I 2] 3 true)) (a : EI Y su pB.us) (b : EK Y sw pB.ws) (c : ET Y st pB.ts) : ACalls Try.prog 29 [PA su sw st 0, I 8, I 3, .sl i 0 2 2 false] Y (fun r h' => r = B true ∧ h' = Y) :=
  tells29 Y pB su sw st _ 8 3 [1, 2] a b c (el2 d) fitB peB wtB lfB rfl
theorem awake11 (X : Hp) : ACalls Try.prog 11 [] X (fun r h' => r = B true ∧ h' = X) := by
  have S0 := Sep.nil X
  refine acalls_back ?_
  refine acalls_of_wk hm Try.func11 rfl ?_
  simp only [Try.ntmps11, List.length_cons, List.length_nil, Nat.reduceAdd, Nat.reduceSub, List.reduceReplicate, List.cons_append, List.nil_append]
  show wk _ _ none _ _ ⟨_, []⟩ _
  focus
    with_reducible refine s_seq ?_
    with_reducible refine s_reg ?_
    refine sassign ?_
    simp only [pu', p0', c1', c0', i1', z0', b8_nat]
    with_reducible refine s_end ?_
    with_reducible refine s_then ?_
    with_reducible refine s_seq ?_
    with_reducible refine s_reg ?_
    refine sbsl ?_
    simp only [pu', p0', c1', c0', i1', n0', n3', n1', n2', a2', a1', a0', n4', Nat.reduceAdd, z0', n5', sa0, sa1, sa2, sa3, sa4, sa5, sa6, sa7, sa8, sa9, sa10, sa11]
    refine sC (hx := rfl) ((newA X.length inferInstance inferInstance).mono ?_)
    rintro _ m19 _ ⟨zu, zw, zt, rfl, pzu, pzw, pzt, S1⟩
    simp only [pu', p0', c1', c0', i1', n0', n3', n1', n2', a2', a1', a0', n4', Nat.reduceAdd, z0', n5', sa0, sa1, sa2, sa3, sa4, sa5, sa6, sa7, sa8, sa9, sa10, sa11]
    refine smove ?_
    simp only [pu', p0', c1', c0', i1', z0', b8_nat]
    refine sext ?_
    simp only [pu', p0', c1', c0', i1', z0', b8_nat]
    refine sext ?_
    simp only [pu', p0', c1', c0', i1', z0', b8_nat]
    refine salloc ?_
    simp only [pu', p0', c1', c0', i1', n0', n3', n1', n2', a2', a1', a0', n4', Nat.reduceAdd, z0', n5', sa0, sa1, sa2, sa3, sa4, sa5, sa6, sa7, sa8, sa9, sa10, sa11]
    refine sstoreF ?_
    simp only [pu', p0', c1', c0', i1', n0', n3', n1', n2', a2', a1', a0', n4', Nat.reduceAdd, z0', n5', sa0, sa1, sa2, sa3, sa4, sa5, sa6, sa7, sa8, sa9, sa10, sa11]
    refine sassign ?_
    simp only [pu', p0', c1', c0', i1', z0', b8_nat]
    with_reducible refine s_end ?_
    with_reducible refine s_then ?_
    with_reducible refine s_seq ?_
    with_reducible refine s_reg ?_
    refine sloadW ?_
    simp only [pu', p0', c1', c0', i1', z0', b8_nat]
    refine sC (hx := rfl) ((pickA zu zw zt inferInstance inferInstance inferInstance inferInstance).mono ?_)
    rintro _ m13 _ ⟨yu, yw, yt, yl, rfl, pyu, pyw, pyt, pyl, S2⟩
    simp only [pu', p0', c1', c0', i1', n0', n3', n1', n2', a2', a1', a0', n4', Nat.reduceAdd, z0', n5', sa0, sa1, sa2, sa3, sa4, sa5, sa6, sa7, sa8, sa9, sa10, sa11]
    refine smove ?_
    simp only [pu', p0', c1', c0', i1', z0', b8_nat]
    refine sext ?_
    simp only [pu', p0', c1', c0', i1', z0', b8_nat]
    refine sext ?_
    simp only [pu', p0', c1', c0', i1', z0', b8_nat]
    refine sext ?_
    simp only [pu', p0', c1', c0', i1', z0', b8_nat]
    refine sext ?_
    simp only [pu', p0', c1', c0', i1', z0', b8_nat]
    refine salloc ?_
    simp only [pu', p0', c1', c0', i1', n0', n3', n1', n2', a2', a1', a0', n4', Nat.reduceAdd, z0', n5', sa0, sa1, sa2, sa3, sa4, sa5, sa6, sa7, sa8, sa9, sa10, sa11]
    refine sstoreF ?_
    simp only [pu', p0', c1', c0', i1', n0', n3', n1', n2', a2', a1', a0', n4', Nat.reduceAdd, z0', n5', sa0, sa1, sa2, sa3, sa4, sa5, sa6, sa7, sa8, sa9, sa10, sa11]
    refine sassign ?_
    simp only [pu', p0', c1', c0', i1', z0', b8_nat]
    refine sassign ?_
    simp only [pu', p0', c1', c0', i1', z0', b8_nat]
    refine sassign ?_
    simp only [pu', p0', c1', c0', i1', z0', b8_nat]
    with_reducible refine s_end ?_
    with_reducible refine s_then ?_
    with_reducible refine s_seq ?_
    with_reducible refine s_reg ?_
    refine smove ?_
    simp only [pu', p0', c1', c0', i1', z0', b8_nat]
    refine sEq (fun hb => ?_) (fun hb => ?_)
    replace hb := dT' hb
    simp only [pu', p0', c1', c0', i1', z0', b8_nat]
    refine smove ?_
    simp only [pu', p0', c1', c0', i1', z0', b8_nat]
    refine sloadW ?_
    simp only [pu', p0', c1', c0', i1', z0', b8_nat]
    refine sbsl ?_
    simp only [pu', p0', c1', c0', i1', n0', n3', n1', n2', a2', a1', a0', n4', Nat.reduceAdd, z0', n5', sa0, sa1, sa2, sa3, sa4, sa5, sa6, sa7, sa8, sa9, sa10, sa11]
    refine sM (hx := rfl) (tellA zu zw zt (m13.length + 1) inferInstance inferInstance inferInstance inferInstance) ?_
    simp only [pu', p0', c1', c0', i1', z0', b8_nat]
    refine spickT ?_
    simp only [pu', p0', c1', c0', i1', z0', b8_nat]
    refine smove ?_
    simp only [pu', p0', c1', c0', i1', z0', b8_nat]
    refine smove ?_
    simp only [pu', p0', c1', c0', i1', z0', b8_nat]
    refine sEq (fun hb => ?_) (fun hb => ?_)
    replace hb := dT' hb
    simp only [pu', p0', c1', c0', i1', z0', b8_nat]
    refine spickT ?_
    simp only [pu', p0', c1', c0', i1', z0', b8_nat]
    refine smove ?_
    simp only [pu', p0', c1', c0', i1', z0', b8_nat]
    refine smove ?_
    simp only [pu', p0', c1', c0', i1', z0', b8_nat]
    refine sEq (fun hb => ?_) (fun hb => ?_)
    replace hb := dT' hb
    simp only [pu', p0', c1', c0', i1', z0', b8_nat]
    refine spickT ?_
    simp only [pu', p0', c1', c0', i1', z0', b8_nat]
    refine smove ?_
    simp only [pu', p0', c1', c0', i1', z0', b8_nat]
    refine smove ?_
    simp only [pu', p0', c1', c0', i1', z0', b8_nat]
    refine slenE ?_
    simp only [pu', p0', c1', c0', i1', z0', b8_nat]
    refine sEq (fun hb => ?_) (fun hb => ?_)
    replace hb := dT' hb
    simp only [pu', p0', c1', c0', i1', z0', b8_nat]
    refine spickT ?_
    simp only [pu', p0', c1', c0', i1', z0', b8_nat]
    refine smove ?_
    simp only [pu', p0', c1', c0', i1', z0', b8_nat]
    refine sloadW ?_
    simp only [pu', p0', c1', c0', i1', z0', b8_nat]
    refine sbsl ?_
    simp only [pu', p0', c1', c0', i1', n0', n3', n1', n2', a2', a1', a0', n4', Nat.reduceAdd, z0', n5', sa0, sa1, sa2, sa3, sa4, sa5, sa6, sa7, sa8, sa9, sa10, sa11]
    refine sM (hx := rfl) (tellB yu yw yt (m13.length + 2) inferInstance inferInstance inferInstance inferInstance) ?_
    simp only [pu', p0', c1', c0', i1', z0', b8_nat]
    refine spickT ?_
    simp only [pu', p0', c1', c0', i1', z0', b8_nat]
    refine sassign ?_
    simp only [pu', p0', c1', c0', i1', z0', b8_nat]
    with_reducible refine s_end ?_
    with_reducible refine s_then ?_
    with_reducible refine s_ret ?_
    rotate_left 1
    replace hb := dF' hb
    exact absurd rfl hb
    replace hb := dF' hb
    exact absurd rfl hb
    replace hb := dF' hb
    exact absurd rfl hb
    replace hb := dF' hb
    exact absurd rfl hb
  all_goals try with_reducible refine w_n ?_
  all_goals refine w_1 rfl (by first | exact v_t (by rfl) | exact v_c1 (C1.p) (by rfl) (HA.p) (by rfl) | exact v_cF (CA.p) (by rfl) (HA.p) (by rfl)) ?_
  exact ⟨rfl, Sep.ext, rfl, trivial⟩
end Go.Proofs.Ytfcgmkpihmiadaa
