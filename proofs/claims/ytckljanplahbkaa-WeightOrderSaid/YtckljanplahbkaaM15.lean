/-
  A part of the proof of a statement of a chapter's seat; conditions: stated at each theorem.
-/
import Derived.Test.YtckljanplahbkaaM14
set_option linter.unusedVariables false
set_option linter.unusedSectionVars false
set_option linter.unusedSimpArgs false
set_option linter.unusedVariables false
set_option maxRecDepth 100000
set_option maxHeartbeats 4000000
namespace Go.Proofs.Ytckljanplahbkaa
open Go.Az Go
theorem eq_36 (a b c d : Int) : bin Try.prog .eql 36 (.agg [I a, I b]) (.agg [I c, I d]) = some (B (a == c && (b == d && true))) := by kernel_rfl
instance (a b c d : Int) : BN Try.prog .eql 36 (.agg [I a, I b]) (.agg [I c, I d]) (a == c && (b == d && true)) := ⟨eq_36 a b c d⟩
end Go.Proofs.Ytckljanplahbkaa
