/-
  A part of the proof of a statement of a chapter's seat; conditions: stated at each theorem.
-/
import Derived.Test.YtckljanplahbkaaRows
import Derived.Test.YtckljanplahbkaaAzR
import Derived.WalkKit
set_option linter.unusedVariables false
set_option linter.unusedSectionVars false
set_option linter.unusedSimpArgs false
set_option linter.unusedVariables false
set_option maxRecDepth 100000
namespace Go.Proofs.Ytckljanplahbkaa
open Go.Az Go
theorem hm : Try.prog.follows .mixedOrders = true := by kernel_rfl
abbrev U : AV := .v undef
abbrev I (n : Int) : AV := .v (.int .i64 n)
abbrev W32 (n : Int) : AV := .v (.int .u32 n)
abbrev W64 (n : Int) : AV := .v (.int .u64 n)
abbrev B (b : Bool) : AV := .v (.bool b)
theorem awake_any : ACalls Try.prog 10 [] [] (fun r _ => r = B true ∧ r.sc 0 = true) :=
  (run_acalls (n := 3000) (Γ := fun _ _ => none) hm (known_none _) (r := B true) (h' := []) (by kernel_rfl)).mono fun r h' _ hh => ⟨hh.1, by rw [hh.1]; rfl⟩
end Go.Proofs.Ytckljanplahbkaa
