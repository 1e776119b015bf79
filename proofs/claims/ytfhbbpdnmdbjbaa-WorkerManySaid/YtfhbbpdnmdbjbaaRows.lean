/-
  No cell of these rows narrows 'for every input' (looked for: loops, veiled, ifaces, maps, wideKeys, modest, calm, conditions, laid).
  DERIVED. THE GIVEN ROWS OF THIS SEAT. 5 by the template 'for every input the law returns true; each argument reads behind the call as it read before'; 0 by the template 'total and deterministic' (their statements: YtfhbbpdnmdbjbaaTotals.lean).
  GIVEN WITH THE SEED: the statements are not yours to turn. If you find one false, say at which input.
  Laid BY PROGRAM, IN A SANDBOX (cutbox-rows.mjs): the forced cells as the released guide's own fill.sh prints them over the translation 4cc925649ffa3d02… (all of the seat's roots in one cut). By AI agents, Wed Nov 11 2026. No macro, syntax, notation, axiom, sorry.
-/
import Derived.Test.YtfhbbpdnmdbjbaaChecked
import GoSem.Claim
import GoSem.ClaimJoined
import GoSem.ClaimMapViews
import Derived.JoinedTies
import Derived.KernelRfl
namespace Go.Proofs.Ytfhbbpdnmdbjbaa
/- THE CELL 'sum', in the pinned program and in every row, IS THE sha256 OF THE DUMP (.gsa) THAT YtfhbbpdnmdbjbaaProg.lean LOADS. Nothing in Lean hashes anything: it is a label: what it is worth is what the hold of that sum in a sandbox is worth. -/
noncomputable def Try.pinned : Pinned := { name := "ytfhbbpdnmdbjbaa", sum := "4cc925649ffa3d026ede0e2d457c70903ab3a9e172d77cf94914dee100867cda", checked := Try.checked }
namespace Rows
def none {H : Type} : Left H := { results := [], args := [] }

/-- 'cheesepresslaw38.WorkerNames': WHATEVER THE INPUT: true; the input reads as it did. -/
def workerNamesSpec : ChangeSpec := { name := "workerNames", fn := fun _ => fun
  | [d1, d2] => { results := [.lit (.bool true)], args := [d1, d2] }
  | _ => none }
def workerNamesRow : OpenClaim := { program := "ytfhbbpdnmdbjbaa", sum := "4cc925649ffa3d026ede0e2d457c70903ab3a9e172d77cf94914dee100867cda", func := "cheesepress/cheesepresslaw38.WorkerNames", spec := "workerNames", unfollowed := true, recurses := true, apart := false }
def WorkerNamesSaid : Prop := workerNamesRow.holds Try.pinned (OpenSpec.ofChange workerNamesSpec)

/-- ITS FALSE NEIGHBOUR: 'it returns false'. Refute it at one input. -/
def workerNamesWrong : ChangeSpec := { name := "workerNames", fn := fun _ => fun
  | [d1, d2] => { results := [.lit (.bool false)], args := [d1, d2] }
  | _ => none }
def WorkerNamesWrongFalsely : Prop := workerNamesRow.holds Try.pinned (OpenSpec.ofChange workerNamesWrong)

/-- 'cheesepresslaw38.WorkerPicks': WHATEVER THE INPUT: true; the input reads as it did. -/
def workerPicksSpec : ChangeSpec := { name := "workerPicks", fn := fun _ => fun
  | [d1, d2, d3] => { results := [.lit (.bool true)], args := [d1, d2, d3] }
  | _ => none }
def workerPicksRow : OpenClaim := { program := "ytfhbbpdnmdbjbaa", sum := "4cc925649ffa3d026ede0e2d457c70903ab3a9e172d77cf94914dee100867cda", func := "cheesepress/cheesepresslaw38.WorkerPicks", spec := "workerPicks", unfollowed := true, recurses := true, apart := false }
def WorkerPicksSaid : Prop := workerPicksRow.holds Try.pinned (OpenSpec.ofChange workerPicksSpec)

/-- ITS FALSE NEIGHBOUR: 'it returns false'. Refute it at one input. -/
def workerPicksWrong : ChangeSpec := { name := "workerPicks", fn := fun _ => fun
  | [d1, d2, d3] => { results := [.lit (.bool false)], args := [d1, d2, d3] }
  | _ => none }
def WorkerPicksWrongFalsely : Prop := workerPicksRow.holds Try.pinned (OpenSpec.ofChange workerPicksWrong)

/-- 'cheesepresslaw38.WorkerKnown': WHATEVER THE INPUT: true; the input reads as it did. -/
def workerKnownSpec : ChangeSpec := { name := "workerKnown", fn := fun _ => fun
  | [] => { results := [.lit (.bool true)], args := [] }
  | _ => none }
def workerKnownRow : OpenClaim := { program := "ytfhbbpdnmdbjbaa", sum := "4cc925649ffa3d026ede0e2d457c70903ab3a9e172d77cf94914dee100867cda", func := "cheesepress/cheesepresslaw38.WorkerKnown", spec := "workerKnown", unfollowed := true, recurses := true, apart := false }
def WorkerKnownSaid : Prop := workerKnownRow.holds Try.pinned (OpenSpec.ofChange workerKnownSpec)

/-- ITS FALSE NEIGHBOUR: 'it returns false'. Refute it at one input. -/
def workerKnownWrong : ChangeSpec := { name := "workerKnown", fn := fun _ => fun
  | [] => { results := [.lit (.bool false)], args := [] }
  | _ => none }
def WorkerKnownWrongFalsely : Prop := workerKnownRow.holds Try.pinned (OpenSpec.ofChange workerKnownWrong)

/-- 'cheesepresslaw38.WorkerMany': WHATEVER THE INPUT: true; the input reads as it did. -/
def workerManySpec : ChangeSpec := { name := "workerMany", fn := fun _ => fun
  | [d1, d2] => { results := [.lit (.bool true)], args := [d1, d2] }
  | _ => none }
def workerManyRow : OpenClaim := { program := "ytfhbbpdnmdbjbaa", sum := "4cc925649ffa3d026ede0e2d457c70903ab3a9e172d77cf94914dee100867cda", func := "cheesepress/cheesepresslaw38.WorkerMany", spec := "workerMany", unfollowed := true, recurses := true, apart := false }
def WorkerManySaid : Prop := workerManyRow.holds Try.pinned (OpenSpec.ofChange workerManySpec)

/-- ITS FALSE NEIGHBOUR: 'it returns false'. Refute it at one input. -/
def workerManyWrong : ChangeSpec := { name := "workerMany", fn := fun _ => fun
  | [d1, d2] => { results := [.lit (.bool false)], args := [d1, d2] }
  | _ => none }
def WorkerManyWrongFalsely : Prop := workerManyRow.holds Try.pinned (OpenSpec.ofChange workerManyWrong)

/-- 'cheesepresslaw38.WorkerTakes': WHATEVER THE INPUT: true; the input reads as it did. -/
def workerTakesSpec : ChangeSpec := { name := "workerTakes", fn := fun _ => fun
  | [d] => { results := [.lit (.bool true)], args := [d] }
  | _ => none }
def workerTakesRow : OpenClaim := { program := "ytfhbbpdnmdbjbaa", sum := "4cc925649ffa3d026ede0e2d457c70903ab3a9e172d77cf94914dee100867cda", func := "cheesepress/cheesepresslaw38.WorkerTakes", spec := "workerTakes", unfollowed := true, recurses := true, apart := false }
def WorkerTakesSaid : Prop := workerTakesRow.holds Try.pinned (OpenSpec.ofChange workerTakesSpec)

/-- ITS FALSE NEIGHBOUR: 'it returns false'. Refute it at one input. -/
def workerTakesWrong : ChangeSpec := { name := "workerTakes", fn := fun _ => fun
  | [d] => { results := [.lit (.bool false)], args := [d] }
  | _ => none }
def WorkerTakesWrongFalsely : Prop := workerTakesRow.holds Try.pinned (OpenSpec.ofChange workerTakesWrong)

/- THE SECOND FORM. 'bulk': how many values and letters a reading holds, each counted each time it is reached (what is shared counts as often as it is met; a slice's spare places count too). A statement '..UptoSaid' is the law's where the arguments, and the package variables that the reading takes, are together of bulk at most 1048576: NARROWER than '..Said'. Prove '..Said' where nothing that the law and all that it calls make is longer than what came in: it says more and counts as full. Else prove '..UptoSaid'. A law counts once. -/
mutual
def uptoBulk {H : Type} : DataW H → Nat
  | .lit (.string bytes) => bytes.length + 1
  | .lit _ => 1
  | .nil => 1
  | .ptr d => uptoBulk d + 1
  | .slice elems spare => uptoBulkAll elems + uptoBulkAll spare + 1
  | .agg parts => uptoBulkAll parts + 1
  | .iface _ d => uptoBulk d + 1
  | .map entries => uptoBulkEntries entries + 1
  | .held _ => 1
def uptoBulkAll {H : Type} : List (DataW H) → Nat
  | [] => 0
  | d :: r => uptoBulk d + uptoBulkAll r
def uptoBulkEntries {H : Type} : List (Lit × DataW H) → Nat
  | [] => 0
  | x :: r => uptoBulkEntry x + uptoBulkEntries r
def uptoBulkEntry {H : Type} : Lit × DataW H → Nat
  | (.string bytes, d) => bytes.length + uptoBulk d + 1
  | (_, d) => uptoBulk d + 1
 end
def uptoSmall : (H : Type) → List (DataW H) → Bool := fun _ ds => decide (uptoBulkAll ds ≤ 1048576)
def OpenSpec.upto (s : _root_.Go.ChangeSpec) : _root_.Go.OpenSpec := { _root_.Go.OpenSpec.ofChange s with cond := some uptoSmall }

/-- 'cheesepresslaw38.WorkerNames', WHERE WHAT IT READS IS OF BULK AT MOST 1048576: true; the input reads as it did. -/
def workerNamesUptoRow : OpenClaim := { program := "ytfhbbpdnmdbjbaa", sum := "4cc925649ffa3d026ede0e2d457c70903ab3a9e172d77cf94914dee100867cda", func := "cheesepress/cheesepresslaw38.WorkerNames", spec := "workerNames", unfollowed := true, recurses := true, apart := false, narrowed := true }
def WorkerNamesUptoSaid : Prop := workerNamesUptoRow.holds Try.pinned (OpenSpec.upto workerNamesSpec)

/-- 'cheesepresslaw38.WorkerPicks', WHERE WHAT IT READS IS OF BULK AT MOST 1048576: true; the input reads as it did. -/
def workerPicksUptoRow : OpenClaim := { program := "ytfhbbpdnmdbjbaa", sum := "4cc925649ffa3d026ede0e2d457c70903ab3a9e172d77cf94914dee100867cda", func := "cheesepress/cheesepresslaw38.WorkerPicks", spec := "workerPicks", unfollowed := true, recurses := true, apart := false, narrowed := true }
def WorkerPicksUptoSaid : Prop := workerPicksUptoRow.holds Try.pinned (OpenSpec.upto workerPicksSpec)

/-- 'cheesepresslaw38.WorkerKnown', WHERE WHAT IT READS IS OF BULK AT MOST 1048576: true; the input reads as it did. -/
def workerKnownUptoRow : OpenClaim := { program := "ytfhbbpdnmdbjbaa", sum := "4cc925649ffa3d026ede0e2d457c70903ab3a9e172d77cf94914dee100867cda", func := "cheesepress/cheesepresslaw38.WorkerKnown", spec := "workerKnown", unfollowed := true, recurses := true, apart := false, narrowed := true }
def WorkerKnownUptoSaid : Prop := workerKnownUptoRow.holds Try.pinned (OpenSpec.upto workerKnownSpec)

/-- 'cheesepresslaw38.WorkerMany', WHERE WHAT IT READS IS OF BULK AT MOST 1048576: true; the input reads as it did. -/
def workerManyUptoRow : OpenClaim := { program := "ytfhbbpdnmdbjbaa", sum := "4cc925649ffa3d026ede0e2d457c70903ab3a9e172d77cf94914dee100867cda", func := "cheesepress/cheesepresslaw38.WorkerMany", spec := "workerMany", unfollowed := true, recurses := true, apart := false, narrowed := true }
def WorkerManyUptoSaid : Prop := workerManyUptoRow.holds Try.pinned (OpenSpec.upto workerManySpec)

/-- 'cheesepresslaw38.WorkerTakes', WHERE WHAT IT READS IS OF BULK AT MOST 1048576: true; the input reads as it did. -/
def workerTakesUptoRow : OpenClaim := { program := "ytfhbbpdnmdbjbaa", sum := "4cc925649ffa3d026ede0e2d457c70903ab3a9e172d77cf94914dee100867cda", func := "cheesepress/cheesepresslaw38.WorkerTakes", spec := "workerTakes", unfollowed := true, recurses := true, apart := false, narrowed := true }
def WorkerTakesUptoSaid : Prop := workerTakesUptoRow.holds Try.pinned (OpenSpec.upto workerTakesSpec)

end Rows
end Go.Proofs.Ytfhbbpdnmdbjbaa
