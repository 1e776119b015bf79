/-
  A part of the proof of a statement of a chapter's seat; conditions: stated at each theorem.
-/
import Derived.Test.YtgbddbiimffplaaN16
set_option linter.unusedVariables false
set_option linter.unusedSectionVars false
set_option linter.unusedSimpArgs false
set_option linter.unusedVariables false
set_option maxRecDepth 100000
set_option maxHeartbeats 8000000
namespace Go.Proofs.Ytgbddbiimffplaa
open Go.Az Go
/-! ### The document's Check: as many symbols with -1 as may be -/
def ybl (v : AV) : Option Bool := match v with | .v (.bool b) => some b | _ => none
theorem wG {ops : Array Oper} {f : Fr} {o oj : Oper} {j d : Nat} {w : Bool} {v : AV} (h0 : o.guard = some (j, w)) (h1 : ops[j]? = some oj) (h2 : oj.dst = some d) (h3 : f.t[d]? = some v) (h4 : (ybl v == some w) = false) : wantA ops f o = false := by
  have e : yldA ops f j = ybl v := by
    simp only [yldA, h1, h2, h3, Option.bind_some]
    cases v with
    | v x => cases x <;> rfl
    | _ => rfl
  rw [wantA, h0]
  show (yldA ops f j == some w) = false
  rw [e]; exact h4
def nec (x y : Ce) : Bool := !(eqc x y)
instance (priority := 2000) bnn41 (x y : Ce) : BN Try.prog .neq 41 (.agg (encC x)) (.agg (encC y)) (nec x y) := ⟨ne_41 x y⟩
def okL (t : List Ce) (ps : List Int) (i : Nat) : Prop := ps.getD (syA t (t.length - 1 - i)).toNat 0 = 1 ∧ (i = 0 ∨ syA t (t.length - i) < syA t (t.length - 1 - i))
structure LowF (t : List Ce) (ps : List Int) (n : Nat) : Prop where
  le : n ≤ t.length
  ok : ∀ i, i < n → okL t ps i
  no : n < t.length → ¬ okL t ps n
end Go.Proofs.Ytgbddbiimffplaa
