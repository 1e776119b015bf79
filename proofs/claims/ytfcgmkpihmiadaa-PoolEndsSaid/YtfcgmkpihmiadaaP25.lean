/-
  A part of the proof of a statement of a chapter's seat; conditions: stated at each theorem.
-/
import Derived.Test.YtfcgmkpihmiadaaP23
set_option linter.unusedVariables false
set_option linter.unusedSectionVars false
set_option linter.unusedSimpArgs false
set_option linter.unusedVariables false
set_option maxRecDepth 100000
set_option maxHeartbeats 8000000
namespace Go.Proofs.Ytfcgmkpihmiadaa
open Go.Az Go
/-! ### Light pools -/
def lightP (p : Pl) : Prop := p.ws.length ≤ 70 ∧ (p.us.length ≤ 200 ∨ (p.us.length > 4096 ∧ p.us.length ≤ 4099)) ∧ p.ts.length ≤ 200
instance (p : Pl) : Decidable (lightP p) := by unfold lightP; infer_instance
theorem pickQ_fits {p : Pl} {n : Int} {f : Bool} : Fits (pickQ p n f).p ∧ (pickQ p n f).l.length ≤ 1000000 := by
  by_cases he : poolE p = 0
  · by_cases hn : n < 0 ∨ (p.ws.length : Int) ≤ n
    · rw [show pickQ p n f = ⟨pl0, 0, [], 2⟩ by rw [pickQ, if_neg (fun h => h he), if_pos hn]]
      exact ⟨⟨by decide, by decide, by decide⟩, by decide⟩
    · obtain ⟨k, rfl⟩ : ∃ k : Nat, n = k := ⟨n.toNat, by omega⟩
      have s := pickQ_spec ((inv_iff p).1 he) (show k < p.ws.length by omega) f
      have hi := s.inv
      refine ⟨inv_fits hi, ?_⟩
      rw [s.l, range'_len]
      have h1 := hi.o1
      have h2 := hi.le
      have h3 := admN_le (pickQ p k f).p
      have h4 := hi.gu
      have h5 := ((inv_iff p).1 he).o0
      omega
  · rw [show pickQ p n f = ⟨pl0, 0, [], poolE p⟩ by rw [pickQ, if_pos he]]
    exact ⟨⟨by show ([] : List Int).length ≤ _; decide, by show ([] : List Wk).length ≤ _; decide, by show ([] : List Tk).length ≤ _; decide⟩, by show ([] : List Int).length ≤ _; decide⟩
end Go.Proofs.Ytfcgmkpihmiadaa
