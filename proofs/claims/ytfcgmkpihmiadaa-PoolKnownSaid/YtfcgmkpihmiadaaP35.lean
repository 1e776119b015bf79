/-
  A part of the proof of a statement of a chapter's seat; conditions: stated at each theorem.
-/
import Derived.Test.YtfcgmkpihmiadaaP34
set_option linter.unusedVariables false
set_option linter.unusedSectionVars false
set_option linter.unusedSimpArgs false
set_option linter.unusedVariables false
set_option maxRecDepth 100000
set_option maxHeartbeats 8000000
namespace Go.Proofs.Ytfcgmkpihmiadaa
open Go.Az Go
/-! ### The chapter's examples -/
def pC : Pl := ⟨[2, 1, 1, 1], [⟨0, 1⟩], [⟨2, false, false, 0⟩, ⟨1, true, false, 0⟩, ⟨1, true, false, 0⟩], 0⟩
def pD : Pl := ⟨[2, 1, 1, 1], [⟨-1, 0⟩], [⟨2, false, true, 0⟩, ⟨1, true, false, 0⟩, ⟨1, true, false, 0⟩, ⟨1, true, false, 0⟩], 1⟩
def pE : Pl := ⟨[2, 1, 1, 1], [⟨-1, 0⟩], [⟨2, true, false, 1⟩, ⟨1, true, false, 0⟩, ⟨1, true, false, 0⟩], 0⟩
theorem pkB : pickQ pB 0 false = ⟨pC, 2, [], 0⟩ := by kernel_rfl
theorem pkC : pickQ pC 0 false = ⟨pD, 3, [0], 0⟩ := by kernel_rfl
theorem pkE : pickQ pA 0 true = ⟨pE, 4, [], 0⟩ := by kernel_rfl
theorem pkFF : pickQ pB 0 true = ⟨pE, 4, [], 0⟩ := by kernel_rfl
theorem pkR : pickQ pA 1 false = ⟨pl0, 0, [], 2⟩ := by kernel_rfl
theorem nw0 : newQ 0 [1] = ⟨pl0, 30⟩ := by kernel_rfl
theorem nwN : newQ 1 [] = ⟨pl0, 6⟩ := by kernel_rfl
theorem nwZ : newQ 1 [0] = ⟨pl0, 2⟩ := by kernel_rfl
theorem peD : poolE pD = 0 := by kernel_rfl
theorem peE : poolE pE = 0 := by kernel_rfl
theorem wtD : waitL pD = [1, 2, 3] := by kernel_rfl
theorem wtE : waitL pE = [0, 1, 2] := by kernel_rfl
theorem lfD : min (leftN pD) 1099511627776 = 6 := by kernel_rfl
theorem lfE : min (leftN pE) 1099511627776 = 9 := by kernel_rfl
theorem bsA : busyQ pA = [0] := by kernel_rfl
theorem ovA : overQ pA = false := by kernel_rfl
theorem smE : sumQ pE = 1 := by kernel_rfl
theorem msE : mostQ pE = 1 := by kernel_rfl
theorem fitC : Fits pC := ⟨by decide, by decide, by decide⟩
theorem fitD : Fits pD := ⟨by decide, by decide, by decide⟩
theorem fitE : Fits pE := ⟨by decide, by decide, by decide⟩
theorem pickB {h X : Hp} {L : List Pc} (su sw st : AV) (S : Sep h X L) (a : EI X su pB.us) (b : EK X sw pB.ws) (c : ET X st pB.ts) : ACalls Try.prog 13 [PA su sw st 0, I 0, B false] X (fun r h' => ∃ zu zw zt zl, r = .tup [PA zu zw zt 0, I 2, zl, I 0] ∧ SlC zu ∧ SlC zw ∧ SlC zt ∧ SlC zl ∧ Sep h h' (L ++ [WI zu pC.us, WK zw pC.ws, WT zt pC.ts, WI zl []])) := by
  have := pick13 X pB su sw st a b c fitB 0 false
  rw [pkB] at this
  exact this.mono fun r h' _ ⟨zu, zw, zt, zl, h1, h2, h3, h4, h5, h6⟩ => ⟨zu, zw, zt, zl, h1, h2, h3, h4, h5, S.join h6⟩
theorem pickC {h X : Hp} {L : List Pc} (su sw st : AV) (S : Sep h X L) (a : EI X su pC.us) (b : EK X sw pC.ws) (c : ET X st pC.ts) : ACalls Try.prog 13 [PA su sw st 0, I 0, B false] X (fun r h' => ∃ zu zw zt zl, r = .tup [PA zu zw zt 1, I 3, zl, I 0] ∧ SlC zu ∧ SlC zw ∧ SlC zt ∧ SlC zl ∧ Sep h h' (L ++ [WI zu pD.us, WK zw pD.ws, WT zt pD.ts, WI zl [0]])) := by
  have := pick13 X pC su sw st a b c fitC 0 false
  rw [pkC] at this
  exact this.mono fun r h' _ ⟨zu, zw, zt, zl, h1, h2, h3, h4, h5, h6⟩ => ⟨zu, zw, zt, zl, h1, h2, h3, h4, h5, S.join h6⟩
theorem pickE {h X : Hp} {L : List Pc} (su sw st : AV) (S : Sep h X L) (a : EI X su pA.us) (b : EK X sw pA.ws) (c : ET X st pA.ts) : ACalls Try.prog 13 [PA su sw st 0, I 0, B true] X (fun r h' => ∃ zu zw zt zl, r = .tup [PA zu zw zt 0, I 4, zl, I 0] ∧ SlC zu ∧ SlC zw ∧ SlC zt ∧ SlC zl ∧ Sep h h' (L ++ [WI zu pE.us, WK zw pE.ws, WT zt pE.ts, WI zl []])) := by
  have := pick13 X pA su sw st a b c fitA 0 true
  rw [pkE] at this
  exact this.mono fun r h' _ ⟨zu, zw, zt, zl, h1, h2, h3, h4, h5, h6⟩ => ⟨zu, zw, zt, zl, h1, h2, h3, h4, h5, S.join h6⟩
theorem pickF {h X : Hp} {L : List Pc} (su sw st : AV) (S : Sep h X L) (a : EI X su pB.us) (b : EK X sw pB.ws) (c : ET X st pB.ts) : ACalls Try.prog 13 [PA su sw st 0, I 0, B true] X (fun r h' => ∃ zu zw zt zl, r = .tup [PA zu zw zt 0, I 4, zl, I 0] ∧ SlC zu ∧ SlC zw ∧ SlC zt ∧ SlC zl ∧ Sep h h' (L ++ [WI zu pE.us, WK zw pE.ws, WT zt pE.ts, WI zl []])) := by
  have := pick13 X pB su sw st a b c fitB 0 true
  rw [pkFF] at this
  exact this.mono fun r h' _ ⟨zu, zw, zt, zl, h1, h2, h3, h4, h5, h6⟩ => ⟨zu, zw, zt, zl, h1, h2, h3, h4, h5, S.join h6⟩
theorem pickR {h X : Hp} {L : List Pc} (su sw st : AV) (S : Sep h X L) (a : EI X su pA.us) (b : EK X sw pA.ws) (c : ET X st pA.ts) : ACalls Try.prog 13 [PA su sw st 0, I 1, B false] X (fun r h' => ∃ zu zw zt zl, r = .tup [PA zu zw zt 0, I 0, zl, I 2] ∧ SlC zu ∧ SlC zw ∧ SlC zt ∧ SlC zl ∧ Sep h h' (L ++ [WI zu pl0.us, WK zw pl0.ws, WT zt pl0.ts, WI zl []])) := by
  have := pick13 X pA su sw st a b c fitA 1 false
  rw [pkR] at this
  exact this.mono fun r h' _ ⟨zu, zw, zt, zl, h1, h2, h3, h4, h5, h6⟩ => ⟨zu, zw, zt, zl, h1, h2, h3, h4, h5, S.join h6⟩
end Go.Proofs.Ytfcgmkpihmiadaa
