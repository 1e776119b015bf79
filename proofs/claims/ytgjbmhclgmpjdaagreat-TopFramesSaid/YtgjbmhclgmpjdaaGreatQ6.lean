/-
  A part of the proof of a statement of a chapter's seat; conditions: stated at each theorem.
-/
import Derived.Test.YtgjbmhclgmpjdaaGreatQ1
set_option linter.unusedVariables false
set_option linter.unusedSectionVars false
set_option linter.unusedSimpArgs false
set_option linter.unusedVariables false
set_option maxRecDepth 100000
namespace Go.Proofs.YtgjbmhclgmpjdaaGreat
open Go.Az Go
/-! ### The state of a decoder at first -/
abbrev nilS : AV := .v (.slice none 0 0)
def stA : AV := .agg [I 1, I 4, I 8, nilS, I (-1), I 0, I 0, nilS, I (-1), I 0, I 0, nilS, I (-1), I 0, I 0, nilS]
theorem fresh_any : ACalls Tryz.prog 55 [] [] (fun r _ => r = stA ∧ r.sc 0 = true) :=
  (run_acalls (n := 30000) (Γ := fun _ _ => none) hm (known_none _) (r := stA) (h' := []) (by kernel_rfl)).mono fun r h' _ hh => ⟨hh.1, by rw [hh.1]; rfl⟩
theorem check_any : ACalls Tryz.prog 69 [stA] [] (fun r _ => r = I 0 ∧ r.sc 0 = true) :=
  (run_acalls (n := 30000) (Γ := fun _ _ => none) hm (known_none _) (r := I 0) (h' := []) (by kernel_rfl)).mono fun r h' _ hh => ⟨hh.1, by rw [hh.1]; rfl⟩
theorem own_any : ACalls Tryz.prog 74 [stA] [] (fun r _ => r = stA ∧ r.sc 0 = true) :=
  (run_acalls (n := 30000) (Γ := fun _ _ => none) hm (known_none _) (r := stA) (h' := []) (by kernel_rfl)).mono fun r h' _ hh => ⟨hh.1, by rw [hh.1]; rfl⟩
end Go.Proofs.YtgjbmhclgmpjdaaGreat
