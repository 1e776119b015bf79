/-
  A part of the proof of a statement of a chapter's seat; conditions: stated at each theorem.
-/
import Derived.Test.YtckljanplahbkaaM3
set_option linter.unusedVariables false
set_option linter.unusedSectionVars false
set_option linter.unusedSimpArgs false
set_option linter.unusedVariables false
set_option maxRecDepth 100000
set_option maxHeartbeats 4000000
namespace Go.Proofs.Ytckljanplahbkaa
open Go.Az Go
theorem trn_snoc (m : Int) (l : List Int) (i : Nat) (h : i < l.length) : trn m (l.take (i + 1)) = trn m (l.take i) ++ [if l.getD i 0 = 0 then 0 else m + 1 - l.getD i 0] := by
  rw [takeT (d := (0:Int)) h]; simp [trn]
structure RW where
  i : Nat
  z : AV
  H : Hp
def lsL (l : List Int) : List Int := (wtL l).dropLast
end Go.Proofs.Ytckljanplahbkaa
