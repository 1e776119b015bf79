/-
  A part of the proof of a statement of a chapter's seat; conditions: stated at each theorem.
-/
import Derived.Test.YtfcgmkpihmiadaaP35
set_option linter.unusedVariables false
set_option linter.unusedSectionVars false
set_option linter.unusedSimpArgs false
set_option linter.unusedVariables false
set_option maxRecDepth 100000
set_option maxHeartbeats 8000000
namespace Go.Proofs.Ytfcgmkpihmiadaa
open Go.Az Go
theorem bs_223b : bslC Try.prog 22 3 [(0, I 1), (1, I 2), (2, I 3)] = some (3, [I 1, I 2, I 3]) := by kernel_rfl
instance : BS Try.prog 22 3 [(0, I 1), (1, I 2), (2, I 3)] 3 [I 1, I 2, I 3] := ⟨bs_223b⟩
theorem el3b {Y : Hp} {i : Nat} (a : HA Y i (.cells [I 1, I 2, I 3] 3 true)) : EI Y (.sl i 0 3 3 false) [1, 2, 3] := mkEL iok 0 (elts_at (l := [1, 2, 3]) iok a rfl)
theorem el1 {Y : Hp} {i : Nat} (x : Int) (a : HA Y i (.cells [I x] 3 true)) : EI Y (.sl i 0 1 1 false) [x] := mkEL iok 0 (elts_at (l := [x]) iok a rfl)
theorem el0 {Y : Hp} : EI Y nilS [] := mkEL iok 0 (.inl ⟨rfl, rfl⟩)
theorem tellD {Y : Hp} (su sw st : AV) (i : Nat) (d : HA Y i (.cells [I 1, I 2, I 3] 3 true)) (a : EI Y su pD.us) (b : EK Y sw pD.ws) (c : ET Y st pD.ts) : ACalls Try.prog 29 [PA su sw st 1, I 6, I 3, .sl i 0 3 3 false] Y (fun r h' => r = B true ∧ h' = Y) :=
  tells29 Y pD su sw st _ 6 3 [1, 2, 3] a b c (el3b d) fitD peD wtD lfD rfl
theorem tellE {Y : Hp} (su sw st : AV) (i : Nat) (d : HA Y i (.cells [I 0, I 1, I 2] 3 true)) (a : EI Y su pE.us) (b : EK Y sw pE.ws) (c : ET Y st pE.ts) : ACalls Try.prog 29 [PA su sw st 0, I 9, I 3, .sl i 0 3 3 false] Y (fun r h' => r = B true ∧ h' = Y) :=
  tells29 Y pE su sw st _ 9 3 [0, 1, 2] a b c (el3 d) fitE peE wtE lfE rfl
theorem busyA {h X : Hp} {L : List Pc} (su sw st : AV) (S : Sep h X L) (a : EI X su pA.us) (b : EK X sw pA.ws) (c : ET X st pA.ts) : ACalls Try.prog 26 [PA su sw st 0] X (fun r h' => ∃ z, r = .tup [z, I 0] ∧ SlC z ∧ Sep h h' (L ++ [WI z [0]])) := by
  have := busy26 X pA su sw st a b c fitA
  rw [bsA, peA] at this
  exact this.mono fun r h' _ ⟨z, h1, h2, h3⟩ => ⟨z, h1, h2, S.join h3⟩
theorem overA {X : Hp} (su sw st : AV) (a : EI X su pA.us) (b : EK X sw pA.ws) (c : ET X st pA.ts) : ACalls Try.prog 24 [PA su sw st 0] X (fun r h' => r = .tup [B false, I 0] ∧ h' = X) := by
  have := over24 X pA su sw st a b c fitA
  rwa [ovA, peA] at this
theorem attE {X : Hp} (su sw st : AV) (a : EI X su pE.us) (b : EK X sw pE.ws) (c : ET X st pE.ts) : ACalls Try.prog 30 [PA su sw st 0] X (fun r h' => r = .tup [I 1, I 1, I 0] ∧ h' = X) := by
  have := attempts30 X pE su sw st a b c fitE
  rwa [smE, msE, peE] at this
theorem new0 {h X : Hp} {L : List Pc} (i : Nat) (S : Sep h X L) (a : HA X i (.cells [I 1] 3 true)) : ACalls Try.prog 19 [I 0, .sl i 0 1 1 false] X (fun r h' => ∃ zu zw zt, r = .tup [PA zu zw zt 0, I 30] ∧ SlC zu ∧ SlC zw ∧ SlC zt ∧ Sep h h' L) := by
  have := new19 X 0 (.sl i 0 1 1 false) [1] (a := el1 1 a) (by decide)
  rw [nw0] at this
  exact this.mono fun r h' _ ⟨zu, zw, zt, h1, h2, h3, h4, h5⟩ => ⟨zu, zw, zt, h1, h2, h3, h4, Sep.sub (S.join h5) (List.sublist_append_left _ _)⟩
theorem newN {h X : Hp} {L : List Pc} (S : Sep h X L) : ACalls Try.prog 19 [I 1, nilS] X (fun r h' => ∃ zu zw zt, r = .tup [PA zu zw zt 0, I 6] ∧ SlC zu ∧ SlC zw ∧ SlC zt ∧ Sep h h' L) := by
  have := new19 X 1 (nilS) [] (a := el0) (by decide)
  rw [nwN] at this
  exact this.mono fun r h' _ ⟨zu, zw, zt, h1, h2, h3, h4, h5⟩ => ⟨zu, zw, zt, h1, h2, h3, h4, Sep.sub (S.join h5) (List.sublist_append_left _ _)⟩
theorem newZ {h X : Hp} {L : List Pc} (i : Nat) (S : Sep h X L) (a : HA X i (.cells [I 0] 3 true)) : ACalls Try.prog 19 [I 1, .sl i 0 1 1 false] X (fun r h' => ∃ zu zw zt, r = .tup [PA zu zw zt 0, I 2] ∧ SlC zu ∧ SlC zw ∧ SlC zt ∧ Sep h h' L) := by
  have := new19 X 1 (.sl i 0 1 1 false) [0] (a := el1 0 a) (by decide)
  rw [nwZ] at this
  exact this.mono fun r h' _ ⟨zu, zw, zt, h1, h2, h3, h4, h5⟩ => ⟨zu, zw, zt, h1, h2, h3, h4, Sep.sub (S.join h5) (List.sublist_append_left _ _)⟩
end Go.Proofs.Ytfcgmkpihmiadaa
