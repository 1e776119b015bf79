/-
  A part of the proof of a statement of a chapter's seat; conditions: stated at each theorem.
-/
import Derived.Test.YtgjbmhclgmpjdaaGreatRows
import Derived.Test.YtgjbmhclgmpjdaaGreatAzS
import Derived.WalkKit
set_option linter.unusedVariables false
set_option linter.unusedSectionVars false
set_option linter.unusedSimpArgs false
set_option linter.unusedVariables false
set_option maxRecDepth 100000
namespace Go.Proofs.YtgjbmhclgmpjdaaGreat
open Go.Az Go
theorem hm : Tryz.prog.follows .mixedOrders = true := by kernel_rfl
abbrev U : AV := .v undef
abbrev I (n : Int) : AV := .v (.int .i64 n)
abbrev W32 (n : Int) : AV := .v (.int .u32 n)
abbrev W64 (n : Int) : AV := .v (.int .u64 n)
abbrev B (b : Bool) : AV := .v (.bool b)
def ybl (v : AV) : Option Bool := match v with | .v (.bool b) => some b | _ => none
theorem wG {ops : Array Oper} {f : Fr} {o oj : Oper} {j d : Nat} {w : Bool} {v : AV} (h0 : o.guard = some (j, w)) (h1 : ops[j]? = some oj) (h2 : oj.dst = some d) (h3 : f.t[d]? = some v) (h4 : (ybl v == some w) = false) : wantA ops f o = false := by
  have e : yldA ops f j = ybl v := by
    simp only [yldA, h1, h2, h3, Option.bind_some]
    cases v with
    | v x => cases x <;> rfl
    | _ => rfl
  rw [wantA, h0]
  show (yldA ops f j == some w) = false
  rw [e]; exact h4
end Go.Proofs.YtgjbmhclgmpjdaaGreat
