/-
  No cell of these rows narrows 'for every input' (looked for: loops, veiled, ifaces, maps, wideKeys, modest, calm, conditions, laid).
  DERIVED. THE GIVEN ROWS OF THIS SEAT. 5 by the template 'for every input the law returns true; each argument reads behind the call as it read before'; 0 by the template 'total and deterministic' (their statements: YtbdnmgbahigdhaaTotals.lean).
  GIVEN WITH THE SEED: the statements are not yours to turn. If you find one false, say at which input.
  Laid BY PROGRAM, IN A SANDBOX (cutbox-rows.mjs): the forced cells as the released guide's own fill.sh prints them over the translation d6c7e09caf576396… (all of the seat's roots in one cut). By AI agents, Wed Nov 11 2026. No macro, syntax, notation, axiom, sorry.
-/
import Derived.Test.YtbdnmgbahigdhaaChecked
import GoSem.Claim
import GoSem.ClaimJoined
import GoSem.ClaimMapViews
import Derived.JoinedTies
import Derived.KernelRfl
namespace Go.Proofs.Ytbdnmgbahigdhaa
/- THE CELL 'sum', in the pinned program and in every row, IS THE sha256 OF THE DUMP (.gsa) THAT YtbdnmgbahigdhaaProg.lean LOADS. Nothing in Lean hashes anything: it is a label: what it is worth is what the hold of that sum in a sandbox is worth. -/
noncomputable def Try.pinned : Pinned := { name := "ytbdnmgbahigdhaa", sum := "d6c7e09caf576396593e85b6b60b87566c42cd73d9fb3b1cecd14aaf086b90f8", checked := Try.checked }
namespace Rows
def none {H : Type} : Left H := { results := [], args := [] }

/-- 'cheesepresslaw09.SpreadSymbols': WHATEVER THE INPUT: true; the input reads as it did. -/
def spreadSymbolsSpec : ChangeSpec := { name := "spreadSymbols", fn := fun _ => fun
  | [d1, d2] => { results := [.lit (.bool true)], args := [d1, d2] }
  | _ => none }
def spreadSymbolsRow : OpenClaim := { program := "ytbdnmgbahigdhaa", sum := "d6c7e09caf576396593e85b6b60b87566c42cd73d9fb3b1cecd14aaf086b90f8", func := "cheesepress/cheesepresslaw09.SpreadSymbols", spec := "spreadSymbols", unfollowed := true, recurses := true, apart := false }
def SpreadSymbolsSaid : Prop := spreadSymbolsRow.holds Try.pinned (OpenSpec.ofChange spreadSymbolsSpec)

/-- ITS FALSE NEIGHBOUR: 'it returns false'. Refute it at one input. -/
def spreadSymbolsWrong : ChangeSpec := { name := "spreadSymbols", fn := fun _ => fun
  | [d1, d2] => { results := [.lit (.bool false)], args := [d1, d2] }
  | _ => none }
def SpreadSymbolsWrongFalsely : Prop := spreadSymbolsRow.holds Try.pinned (OpenSpec.ofChange spreadSymbolsWrong)

/-- 'cheesepresslaw09.SpreadCells': WHATEVER THE INPUT: true; the input reads as it did. -/
def spreadCellsSpec : ChangeSpec := { name := "spreadCells", fn := fun _ => fun
  | [d1, d2] => { results := [.lit (.bool true)], args := [d1, d2] }
  | _ => none }
def spreadCellsRow : OpenClaim := { program := "ytbdnmgbahigdhaa", sum := "d6c7e09caf576396593e85b6b60b87566c42cd73d9fb3b1cecd14aaf086b90f8", func := "cheesepress/cheesepresslaw09.SpreadCells", spec := "spreadCells", unfollowed := true, recurses := true, apart := false }
def SpreadCellsSaid : Prop := spreadCellsRow.holds Try.pinned (OpenSpec.ofChange spreadCellsSpec)

/-- ITS FALSE NEIGHBOUR: 'it returns false'. Refute it at one input. -/
def spreadCellsWrong : ChangeSpec := { name := "spreadCells", fn := fun _ => fun
  | [d1, d2] => { results := [.lit (.bool false)], args := [d1, d2] }
  | _ => none }
def SpreadCellsWrongFalsely : Prop := spreadCellsRow.holds Try.pinned (OpenSpec.ofChange spreadCellsWrong)

/-- 'cheesepresslaw09.SpreadKnown': WHATEVER THE INPUT: true; the input reads as it did. -/
def spreadKnownSpec : ChangeSpec := { name := "spreadKnown", fn := fun _ => fun
  | [] => { results := [.lit (.bool true)], args := [] }
  | _ => none }
def spreadKnownRow : OpenClaim := { program := "ytbdnmgbahigdhaa", sum := "d6c7e09caf576396593e85b6b60b87566c42cd73d9fb3b1cecd14aaf086b90f8", func := "cheesepress/cheesepresslaw09.SpreadKnown", spec := "spreadKnown", unfollowed := true, recurses := true, apart := false }
def SpreadKnownSaid : Prop := spreadKnownRow.holds Try.pinned (OpenSpec.ofChange spreadKnownSpec)

/-- ITS FALSE NEIGHBOUR: 'it returns false'. Refute it at one input. -/
def spreadKnownWrong : ChangeSpec := { name := "spreadKnown", fn := fun _ => fun
  | [] => { results := [.lit (.bool false)], args := [] }
  | _ => none }
def SpreadKnownWrongFalsely : Prop := spreadKnownRow.holds Try.pinned (OpenSpec.ofChange spreadKnownWrong)

/-- 'cheesepresslaw09.SpreadCounts': WHATEVER THE INPUT: true; the input reads as it did. -/
def spreadCountsSpec : ChangeSpec := { name := "spreadCounts", fn := fun _ => fun
  | [d1, d2] => { results := [.lit (.bool true)], args := [d1, d2] }
  | _ => none }
def spreadCountsRow : OpenClaim := { program := "ytbdnmgbahigdhaa", sum := "d6c7e09caf576396593e85b6b60b87566c42cd73d9fb3b1cecd14aaf086b90f8", func := "cheesepress/cheesepresslaw09.SpreadCounts", spec := "spreadCounts", unfollowed := true, recurses := true, apart := false }
def SpreadCountsSaid : Prop := spreadCountsRow.holds Try.pinned (OpenSpec.ofChange spreadCountsSpec)

/-- ITS FALSE NEIGHBOUR: 'it returns false'. Refute it at one input. -/
def spreadCountsWrong : ChangeSpec := { name := "spreadCounts", fn := fun _ => fun
  | [d1, d2] => { results := [.lit (.bool false)], args := [d1, d2] }
  | _ => none }
def SpreadCountsWrongFalsely : Prop := spreadCountsRow.holds Try.pinned (OpenSpec.ofChange spreadCountsWrong)

/-- 'cheesepresslaw09.SpreadRare': WHATEVER THE INPUT: true; the input reads as it did. -/
def spreadRareSpec : ChangeSpec := { name := "spreadRare", fn := fun _ => fun
  | [d1, d2] => { results := [.lit (.bool true)], args := [d1, d2] }
  | _ => none }
def spreadRareRow : OpenClaim := { program := "ytbdnmgbahigdhaa", sum := "d6c7e09caf576396593e85b6b60b87566c42cd73d9fb3b1cecd14aaf086b90f8", func := "cheesepress/cheesepresslaw09.SpreadRare", spec := "spreadRare", unfollowed := true, recurses := true, apart := false }
def SpreadRareSaid : Prop := spreadRareRow.holds Try.pinned (OpenSpec.ofChange spreadRareSpec)

/-- ITS FALSE NEIGHBOUR: 'it returns false'. Refute it at one input. -/
def spreadRareWrong : ChangeSpec := { name := "spreadRare", fn := fun _ => fun
  | [d1, d2] => { results := [.lit (.bool false)], args := [d1, d2] }
  | _ => none }
def SpreadRareWrongFalsely : Prop := spreadRareRow.holds Try.pinned (OpenSpec.ofChange spreadRareWrong)

/- THE SECOND FORM. 'bulk': how many values and letters a reading holds, each counted each time it is reached (what is shared counts as often as it is met; a slice's spare places count too). A statement '..UptoSaid' is the law's where the arguments, and the package variables that the reading takes, are together of bulk at most 1048576: NARROWER than '..Said'. Prove '..Said' where nothing that the law and all that it calls make is longer than what came in: it says more and counts as full. Else prove '..UptoSaid'. A law counts once. -/
mutual
def uptoBulk {H : Type} : DataW H → Nat
  | .lit (.string bytes) => bytes.length + 1
  | .lit _ => 1
  | .nil => 1
  | .ptr d => uptoBulk d + 1
  | .slice elems spare => uptoBulkAll elems + uptoBulkAll spare + 1
  | .agg parts => uptoBulkAll parts + 1
  | .iface _ d => uptoBulk d + 1
  | .map entries => uptoBulkEntries entries + 1
  | .held _ => 1
def uptoBulkAll {H : Type} : List (DataW H) → Nat
  | [] => 0
  | d :: r => uptoBulk d + uptoBulkAll r
def uptoBulkEntries {H : Type} : List (Lit × DataW H) → Nat
  | [] => 0
  | x :: r => uptoBulkEntry x + uptoBulkEntries r
def uptoBulkEntry {H : Type} : Lit × DataW H → Nat
  | (.string bytes, d) => bytes.length + uptoBulk d + 1
  | (_, d) => uptoBulk d + 1
 end
def uptoSmall : (H : Type) → List (DataW H) → Bool := fun _ ds => decide (uptoBulkAll ds ≤ 1048576)
def OpenSpec.upto (s : _root_.Go.ChangeSpec) : _root_.Go.OpenSpec := { _root_.Go.OpenSpec.ofChange s with cond := some uptoSmall }

/-- 'cheesepresslaw09.SpreadSymbols', WHERE WHAT IT READS IS OF BULK AT MOST 1048576: true; the input reads as it did. -/
def spreadSymbolsUptoRow : OpenClaim := { program := "ytbdnmgbahigdhaa", sum := "d6c7e09caf576396593e85b6b60b87566c42cd73d9fb3b1cecd14aaf086b90f8", func := "cheesepress/cheesepresslaw09.SpreadSymbols", spec := "spreadSymbols", unfollowed := true, recurses := true, apart := false, narrowed := true }
def SpreadSymbolsUptoSaid : Prop := spreadSymbolsUptoRow.holds Try.pinned (OpenSpec.upto spreadSymbolsSpec)

/-- 'cheesepresslaw09.SpreadCells', WHERE WHAT IT READS IS OF BULK AT MOST 1048576: true; the input reads as it did. -/
def spreadCellsUptoRow : OpenClaim := { program := "ytbdnmgbahigdhaa", sum := "d6c7e09caf576396593e85b6b60b87566c42cd73d9fb3b1cecd14aaf086b90f8", func := "cheesepress/cheesepresslaw09.SpreadCells", spec := "spreadCells", unfollowed := true, recurses := true, apart := false, narrowed := true }
def SpreadCellsUptoSaid : Prop := spreadCellsUptoRow.holds Try.pinned (OpenSpec.upto spreadCellsSpec)

/-- 'cheesepresslaw09.SpreadKnown', WHERE WHAT IT READS IS OF BULK AT MOST 1048576: true; the input reads as it did. -/
def spreadKnownUptoRow : OpenClaim := { program := "ytbdnmgbahigdhaa", sum := "d6c7e09caf576396593e85b6b60b87566c42cd73d9fb3b1cecd14aaf086b90f8", func := "cheesepress/cheesepresslaw09.SpreadKnown", spec := "spreadKnown", unfollowed := true, recurses := true, apart := false, narrowed := true }
def SpreadKnownUptoSaid : Prop := spreadKnownUptoRow.holds Try.pinned (OpenSpec.upto spreadKnownSpec)

/-- 'cheesepresslaw09.SpreadCounts', WHERE WHAT IT READS IS OF BULK AT MOST 1048576: true; the input reads as it did. -/
def spreadCountsUptoRow : OpenClaim := { program := "ytbdnmgbahigdhaa", sum := "d6c7e09caf576396593e85b6b60b87566c42cd73d9fb3b1cecd14aaf086b90f8", func := "cheesepress/cheesepresslaw09.SpreadCounts", spec := "spreadCounts", unfollowed := true, recurses := true, apart := false, narrowed := true }
def SpreadCountsUptoSaid : Prop := spreadCountsUptoRow.holds Try.pinned (OpenSpec.upto spreadCountsSpec)

/-- 'cheesepresslaw09.SpreadRare', WHERE WHAT IT READS IS OF BULK AT MOST 1048576: true; the input reads as it did. -/
def spreadRareUptoRow : OpenClaim := { program := "ytbdnmgbahigdhaa", sum := "d6c7e09caf576396593e85b6b60b87566c42cd73d9fb3b1cecd14aaf086b90f8", func := "cheesepress/cheesepresslaw09.SpreadRare", spec := "spreadRare", unfollowed := true, recurses := true, apart := false, narrowed := true }
def SpreadRareUptoSaid : Prop := spreadRareUptoRow.holds Try.pinned (OpenSpec.upto spreadRareSpec)

end Rows
end Go.Proofs.Ytbdnmgbahigdhaa
