/-
  A part of the proof of a statement of a chapter's seat; conditions: stated at each theorem.
-/
import Derived.Test.YtfcgmkpihmiadaaP22
set_option linter.unusedVariables false
set_option linter.unusedSectionVars false
set_option linter.unusedSimpArgs false
set_option linter.unusedVariables false
set_option maxRecDepth 100000
set_option maxHeartbeats 8000000
namespace Go.Proofs.Ytfcgmkpihmiadaa
open Go.Az Go
theorem inv_fits {p : Pl} (h : Inv p) : Fits p := by
  have h1 := h.gu
  have h2 := h.gn
  have h3 := h.le
  have h4 := admN_le p
  exact ⟨by omega, by omega, by omega⟩
end Go.Proofs.Ytfcgmkpihmiadaa
