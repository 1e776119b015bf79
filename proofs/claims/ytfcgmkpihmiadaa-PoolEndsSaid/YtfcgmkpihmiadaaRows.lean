/-
  No cell of these rows narrows 'for every input' (looked for: loops, veiled, ifaces, maps, wideKeys, modest, calm, conditions, laid).
  DERIVED. THE GIVEN ROWS OF THIS SEAT. 7 by the template 'for every input the law returns true; each argument reads behind the call as it read before'; 0 by the template 'total and deterministic' (their statements: YtfcgmkpihmiadaaTotals.lean).
  GIVEN WITH THE SEED: the statements are not yours to turn. If you find one false, say at which input.
  Laid BY PROGRAM, IN A SANDBOX (cutbox-rows.mjs): the forced cells as the released guide's own fill.sh prints them over the translation a9f2843b57b17296… (all of the seat's roots in one cut). By AI agents, Wed Nov 11 2026. No macro, syntax, notation, axiom, sorry.
-/
import Derived.Test.YtfcgmkpihmiadaaChecked
import GoSem.Claim
import GoSem.ClaimJoined
import GoSem.ClaimMapViews
import Derived.JoinedTies
import Derived.KernelRfl
namespace Go.Proofs.Ytfcgmkpihmiadaa
/- THE CELL 'sum', in the pinned program and in every row, IS THE sha256 OF THE DUMP (.gsa) THAT YtfcgmkpihmiadaaProg.lean LOADS. Nothing in Lean hashes anything: it is a label: what it is worth is what the hold of that sum in a sandbox is worth. -/
noncomputable def Try.pinned : Pinned := { name := "ytfcgmkpihmiadaa", sum := "a9f2843b57b17296d0059fe72e452963a2c254f80a2b9dfcfd24e1bb9835e8c6", checked := Try.checked }
namespace Rows
def none {H : Type} : Left H := { results := [], args := [] }

/-- 'cheesepresslaw39.PoolPicks': WHATEVER THE INPUT: true; the input reads as it did. -/
def poolPicksSpec : ChangeSpec := { name := "poolPicks", fn := fun _ => fun
  | [d1, d2, d3] => { results := [.lit (.bool true)], args := [d1, d2, d3] }
  | _ => none }
def poolPicksRow : OpenClaim := { program := "ytfcgmkpihmiadaa", sum := "a9f2843b57b17296d0059fe72e452963a2c254f80a2b9dfcfd24e1bb9835e8c6", func := "cheesepress/cheesepresslaw39.PoolPicks", spec := "poolPicks", unfollowed := true, recurses := true, apart := false }
def PoolPicksSaid : Prop := poolPicksRow.holds Try.pinned (OpenSpec.ofChange poolPicksSpec)

/-- ITS FALSE NEIGHBOUR: 'it returns false'. Refute it at one input. -/
def poolPicksWrong : ChangeSpec := { name := "poolPicks", fn := fun _ => fun
  | [d1, d2, d3] => { results := [.lit (.bool false)], args := [d1, d2, d3] }
  | _ => none }
def PoolPicksWrongFalsely : Prop := poolPicksRow.holds Try.pinned (OpenSpec.ofChange poolPicksWrong)

/-- 'cheesepresslaw39.PoolNew': WHATEVER THE INPUT: true; the input reads as it did. -/
def poolNewSpec : ChangeSpec := { name := "poolNew", fn := fun _ => fun
  | [d1, d2] => { results := [.lit (.bool true)], args := [d1, d2] }
  | _ => none }
def poolNewRow : OpenClaim := { program := "ytfcgmkpihmiadaa", sum := "a9f2843b57b17296d0059fe72e452963a2c254f80a2b9dfcfd24e1bb9835e8c6", func := "cheesepress/cheesepresslaw39.PoolNew", spec := "poolNew", unfollowed := true, recurses := true, apart := false }
def PoolNewSaid : Prop := poolNewRow.holds Try.pinned (OpenSpec.ofChange poolNewSpec)

/-- ITS FALSE NEIGHBOUR: 'it returns false'. Refute it at one input. -/
def poolNewWrong : ChangeSpec := { name := "poolNew", fn := fun _ => fun
  | [d1, d2] => { results := [.lit (.bool false)], args := [d1, d2] }
  | _ => none }
def PoolNewWrongFalsely : Prop := poolNewRow.holds Try.pinned (OpenSpec.ofChange poolNewWrong)

/-- 'cheesepresslaw39.PoolStays': WHATEVER THE INPUT: true; the input reads as it did. -/
def poolStaysSpec : ChangeSpec := { name := "poolStays", fn := fun _ => fun
  | [d1, d2, d3] => { results := [.lit (.bool true)], args := [d1, d2, d3] }
  | _ => none }
def poolStaysRow : OpenClaim := { program := "ytfcgmkpihmiadaa", sum := "a9f2843b57b17296d0059fe72e452963a2c254f80a2b9dfcfd24e1bb9835e8c6", func := "cheesepress/cheesepresslaw39.PoolStays", spec := "poolStays", unfollowed := true, recurses := true, apart := false }
def PoolStaysSaid : Prop := poolStaysRow.holds Try.pinned (OpenSpec.ofChange poolStaysSpec)

/-- ITS FALSE NEIGHBOUR: 'it returns false'. Refute it at one input. -/
def poolStaysWrong : ChangeSpec := { name := "poolStays", fn := fun _ => fun
  | [d1, d2, d3] => { results := [.lit (.bool false)], args := [d1, d2, d3] }
  | _ => none }
def PoolStaysWrongFalsely : Prop := poolStaysRow.holds Try.pinned (OpenSpec.ofChange poolStaysWrong)

/-- 'cheesepresslaw39.PoolEnds': WHATEVER THE INPUT: true; the input reads as it did. -/
def poolEndsSpec : ChangeSpec := { name := "poolEnds", fn := fun _ => fun
  | [d1, d2, d3, d4] => { results := [.lit (.bool true)], args := [d1, d2, d3, d4] }
  | _ => none }
def poolEndsRow : OpenClaim := { program := "ytfcgmkpihmiadaa", sum := "a9f2843b57b17296d0059fe72e452963a2c254f80a2b9dfcfd24e1bb9835e8c6", func := "cheesepress/cheesepresslaw39.PoolEnds", spec := "poolEnds", unfollowed := true, recurses := true, apart := false }
def PoolEndsSaid : Prop := poolEndsRow.holds Try.pinned (OpenSpec.ofChange poolEndsSpec)

/-- ITS FALSE NEIGHBOUR: 'it returns false'. Refute it at one input. -/
def poolEndsWrong : ChangeSpec := { name := "poolEnds", fn := fun _ => fun
  | [d1, d2, d3, d4] => { results := [.lit (.bool false)], args := [d1, d2, d3, d4] }
  | _ => none }
def PoolEndsWrongFalsely : Prop := poolEndsRow.holds Try.pinned (OpenSpec.ofChange poolEndsWrong)

/-- 'cheesepresslaw39.PoolKnown': WHATEVER THE INPUT: true; the input reads as it did. -/
def poolKnownSpec : ChangeSpec := { name := "poolKnown", fn := fun _ => fun
  | [] => { results := [.lit (.bool true)], args := [] }
  | _ => none }
def poolKnownRow : OpenClaim := { program := "ytfcgmkpihmiadaa", sum := "a9f2843b57b17296d0059fe72e452963a2c254f80a2b9dfcfd24e1bb9835e8c6", func := "cheesepress/cheesepresslaw39.PoolKnown", spec := "poolKnown", unfollowed := true, recurses := true, apart := false }
def PoolKnownSaid : Prop := poolKnownRow.holds Try.pinned (OpenSpec.ofChange poolKnownSpec)

/-- ITS FALSE NEIGHBOUR: 'it returns false'. Refute it at one input. -/
def poolKnownWrong : ChangeSpec := { name := "poolKnown", fn := fun _ => fun
  | [] => { results := [.lit (.bool false)], args := [] }
  | _ => none }
def PoolKnownWrongFalsely : Prop := poolKnownRow.holds Try.pinned (OpenSpec.ofChange poolKnownWrong)

/-- 'cheesepresslaw39.PoolTells': WHATEVER THE INPUT: true; the input reads as it did. -/
def poolTellsSpec : ChangeSpec := { name := "poolTells", fn := fun _ => fun
  | [d] => { results := [.lit (.bool true)], args := [d] }
  | _ => none }
def poolTellsRow : OpenClaim := { program := "ytfcgmkpihmiadaa", sum := "a9f2843b57b17296d0059fe72e452963a2c254f80a2b9dfcfd24e1bb9835e8c6", func := "cheesepress/cheesepresslaw39.PoolTells", spec := "poolTells", unfollowed := true, recurses := true, apart := false }
def PoolTellsSaid : Prop := poolTellsRow.holds Try.pinned (OpenSpec.ofChange poolTellsSpec)

/-- ITS FALSE NEIGHBOUR: 'it returns false'. Refute it at one input. -/
def poolTellsWrong : ChangeSpec := { name := "poolTells", fn := fun _ => fun
  | [d] => { results := [.lit (.bool false)], args := [d] }
  | _ => none }
def PoolTellsWrongFalsely : Prop := poolTellsRow.holds Try.pinned (OpenSpec.ofChange poolTellsWrong)

/-- 'cheesepresslaw39.PoolLeft': WHATEVER THE INPUT: true; the input reads as it did. -/
def poolLeftSpec : ChangeSpec := { name := "poolLeft", fn := fun _ => fun
  | [d1, d2, d3, d4, d5] => { results := [.lit (.bool true)], args := [d1, d2, d3, d4, d5] }
  | _ => none }
def poolLeftRow : OpenClaim := { program := "ytfcgmkpihmiadaa", sum := "a9f2843b57b17296d0059fe72e452963a2c254f80a2b9dfcfd24e1bb9835e8c6", func := "cheesepress/cheesepresslaw39.PoolLeft", spec := "poolLeft", unfollowed := true, recurses := true, apart := false }
def PoolLeftSaid : Prop := poolLeftRow.holds Try.pinned (OpenSpec.ofChange poolLeftSpec)

/-- ITS FALSE NEIGHBOUR: 'it returns false'. Refute it at one input. -/
def poolLeftWrong : ChangeSpec := { name := "poolLeft", fn := fun _ => fun
  | [d1, d2, d3, d4, d5] => { results := [.lit (.bool false)], args := [d1, d2, d3, d4, d5] }
  | _ => none }
def PoolLeftWrongFalsely : Prop := poolLeftRow.holds Try.pinned (OpenSpec.ofChange poolLeftWrong)

/- THE SECOND FORM. 'bulk': how many values and letters a reading holds, each counted each time it is reached (what is shared counts as often as it is met; a slice's spare places count too). A statement '..UptoSaid' is the law's where the arguments, and the package variables that the reading takes, are together of bulk at most 1048576: NARROWER than '..Said'. Prove '..Said' where nothing that the law and all that it calls make is longer than what came in: it says more and counts as full. Else prove '..UptoSaid'. A law counts once. -/
mutual
def uptoBulk {H : Type} : DataW H → Nat
  | .lit (.string bytes) => bytes.length + 1
  | .lit _ => 1
  | .nil => 1
  | .ptr d => uptoBulk d + 1
  | .slice elems spare => uptoBulkAll elems + uptoBulkAll spare + 1
  | .agg parts => uptoBulkAll parts + 1
  | .iface _ d => uptoBulk d + 1
  | .map entries => uptoBulkEntries entries + 1
  | .held _ => 1
def uptoBulkAll {H : Type} : List (DataW H) → Nat
  | [] => 0
  | d :: r => uptoBulk d + uptoBulkAll r
def uptoBulkEntries {H : Type} : List (Lit × DataW H) → Nat
  | [] => 0
  | x :: r => uptoBulkEntry x + uptoBulkEntries r
def uptoBulkEntry {H : Type} : Lit × DataW H → Nat
  | (.string bytes, d) => bytes.length + uptoBulk d + 1
  | (_, d) => uptoBulk d + 1
 end
def uptoSmall : (H : Type) → List (DataW H) → Bool := fun _ ds => decide (uptoBulkAll ds ≤ 1048576)
def OpenSpec.upto (s : _root_.Go.ChangeSpec) : _root_.Go.OpenSpec := { _root_.Go.OpenSpec.ofChange s with cond := some uptoSmall }

/-- 'cheesepresslaw39.PoolPicks', WHERE WHAT IT READS IS OF BULK AT MOST 1048576: true; the input reads as it did. -/
def poolPicksUptoRow : OpenClaim := { program := "ytfcgmkpihmiadaa", sum := "a9f2843b57b17296d0059fe72e452963a2c254f80a2b9dfcfd24e1bb9835e8c6", func := "cheesepress/cheesepresslaw39.PoolPicks", spec := "poolPicks", unfollowed := true, recurses := true, apart := false, narrowed := true }
def PoolPicksUptoSaid : Prop := poolPicksUptoRow.holds Try.pinned (OpenSpec.upto poolPicksSpec)

/-- 'cheesepresslaw39.PoolNew', WHERE WHAT IT READS IS OF BULK AT MOST 1048576: true; the input reads as it did. -/
def poolNewUptoRow : OpenClaim := { program := "ytfcgmkpihmiadaa", sum := "a9f2843b57b17296d0059fe72e452963a2c254f80a2b9dfcfd24e1bb9835e8c6", func := "cheesepress/cheesepresslaw39.PoolNew", spec := "poolNew", unfollowed := true, recurses := true, apart := false, narrowed := true }
def PoolNewUptoSaid : Prop := poolNewUptoRow.holds Try.pinned (OpenSpec.upto poolNewSpec)

/-- 'cheesepresslaw39.PoolStays', WHERE WHAT IT READS IS OF BULK AT MOST 1048576: true; the input reads as it did. -/
def poolStaysUptoRow : OpenClaim := { program := "ytfcgmkpihmiadaa", sum := "a9f2843b57b17296d0059fe72e452963a2c254f80a2b9dfcfd24e1bb9835e8c6", func := "cheesepress/cheesepresslaw39.PoolStays", spec := "poolStays", unfollowed := true, recurses := true, apart := false, narrowed := true }
def PoolStaysUptoSaid : Prop := poolStaysUptoRow.holds Try.pinned (OpenSpec.upto poolStaysSpec)

/-- 'cheesepresslaw39.PoolEnds', WHERE WHAT IT READS IS OF BULK AT MOST 1048576: true; the input reads as it did. -/
def poolEndsUptoRow : OpenClaim := { program := "ytfcgmkpihmiadaa", sum := "a9f2843b57b17296d0059fe72e452963a2c254f80a2b9dfcfd24e1bb9835e8c6", func := "cheesepress/cheesepresslaw39.PoolEnds", spec := "poolEnds", unfollowed := true, recurses := true, apart := false, narrowed := true }
def PoolEndsUptoSaid : Prop := poolEndsUptoRow.holds Try.pinned (OpenSpec.upto poolEndsSpec)

/-- 'cheesepresslaw39.PoolKnown', WHERE WHAT IT READS IS OF BULK AT MOST 1048576: true; the input reads as it did. -/
def poolKnownUptoRow : OpenClaim := { program := "ytfcgmkpihmiadaa", sum := "a9f2843b57b17296d0059fe72e452963a2c254f80a2b9dfcfd24e1bb9835e8c6", func := "cheesepress/cheesepresslaw39.PoolKnown", spec := "poolKnown", unfollowed := true, recurses := true, apart := false, narrowed := true }
def PoolKnownUptoSaid : Prop := poolKnownUptoRow.holds Try.pinned (OpenSpec.upto poolKnownSpec)

/-- 'cheesepresslaw39.PoolTells', WHERE WHAT IT READS IS OF BULK AT MOST 1048576: true; the input reads as it did. -/
def poolTellsUptoRow : OpenClaim := { program := "ytfcgmkpihmiadaa", sum := "a9f2843b57b17296d0059fe72e452963a2c254f80a2b9dfcfd24e1bb9835e8c6", func := "cheesepress/cheesepresslaw39.PoolTells", spec := "poolTells", unfollowed := true, recurses := true, apart := false, narrowed := true }
def PoolTellsUptoSaid : Prop := poolTellsUptoRow.holds Try.pinned (OpenSpec.upto poolTellsSpec)

/-- 'cheesepresslaw39.PoolLeft', WHERE WHAT IT READS IS OF BULK AT MOST 1048576: true; the input reads as it did. -/
def poolLeftUptoRow : OpenClaim := { program := "ytfcgmkpihmiadaa", sum := "a9f2843b57b17296d0059fe72e452963a2c254f80a2b9dfcfd24e1bb9835e8c6", func := "cheesepress/cheesepresslaw39.PoolLeft", spec := "poolLeft", unfollowed := true, recurses := true, apart := false, narrowed := true }
def PoolLeftUptoSaid : Prop := poolLeftUptoRow.holds Try.pinned (OpenSpec.upto poolLeftSpec)

end Rows
end Go.Proofs.Ytfcgmkpihmiadaa
