/-
  No cell of these rows narrows 'for every input' (looked for: loops, veiled, ifaces, maps, wideKeys, modest, calm, conditions, laid).
  DERIVED. THE GIVEN ROWS OF THIS SEAT. 5 by the template 'for every input the law returns true; each argument reads behind the call as it read before'; 0 by the template 'total and deterministic' (their statements: YthhbhekccacmlaaTotals.lean).
  GIVEN WITH THE SEED: the statements are not yours to turn. If you find one false, say at which input.
  Laid BY PROGRAM, IN A SANDBOX (cutbox-rows.mjs): the forced cells as the released guide's own fill.sh prints them over the translation 3a725f6920e8d63e… (all of the seat's roots in one cut). By AI agents, Wed Nov 11 2026. No macro, syntax, notation, axiom, sorry.
-/
import Derived.Test.YthhbhekccacmlaaChecked
import GoSem.Claim
import GoSem.ClaimJoined
import GoSem.ClaimMapViews
import Derived.JoinedTies
import Derived.KernelRfl
namespace Go.Proofs.Ythhbhekccacmlaa
/- THE CELL 'sum', in the pinned program and in every row, IS THE sha256 OF THE DUMP (.gsa) THAT YthhbhekccacmlaaProg.lean LOADS. Nothing in Lean hashes anything: it is a label: what it is worth is what the hold of that sum in a sandbox is worth. -/
noncomputable def Try.pinned : Pinned := { name := "ythhbhekccacmlaa", sum := "3a725f6920e8d63e99dbdf242a53b38cfb09d31b81756dd171488e02cb363db6", checked := Try.checked }
namespace Rows
def none {H : Type} : Left H := { results := [], args := [] }

/-- 'cheesepresslaw31.SkipWrites': WHATEVER THE INPUT: true; the input reads as it did. -/
def skipWritesSpec : ChangeSpec := { name := "skipWrites", fn := fun _ => fun
  | [d1, d2] => { results := [.lit (.bool true)], args := [d1, d2] }
  | _ => none }
def skipWritesRow : OpenClaim := { program := "ythhbhekccacmlaa", sum := "3a725f6920e8d63e99dbdf242a53b38cfb09d31b81756dd171488e02cb363db6", func := "cheesepress/cheesepresslaw31.SkipWrites", spec := "skipWrites", apart := false }
def SkipWritesSaid : Prop := skipWritesRow.holds Try.pinned (OpenSpec.ofChange skipWritesSpec)

/-- ITS FALSE NEIGHBOUR: 'it returns false'. Refute it at one input. -/
def skipWritesWrong : ChangeSpec := { name := "skipWrites", fn := fun _ => fun
  | [d1, d2] => { results := [.lit (.bool false)], args := [d1, d2] }
  | _ => none }
def SkipWritesWrongFalsely : Prop := skipWritesRow.holds Try.pinned (OpenSpec.ofChange skipWritesWrong)

/-- 'cheesepresslaw31.SkipBack': WHATEVER THE INPUT: true; the input reads as it did. -/
def skipBackSpec : ChangeSpec := { name := "skipBack", fn := fun _ => fun
  | [d1, d2, d3, d4, d5] => { results := [.lit (.bool true)], args := [d1, d2, d3, d4, d5] }
  | _ => none }
def skipBackRow : OpenClaim := { program := "ythhbhekccacmlaa", sum := "3a725f6920e8d63e99dbdf242a53b38cfb09d31b81756dd171488e02cb363db6", func := "cheesepress/cheesepresslaw31.SkipBack", spec := "skipBack", apart := false }
def SkipBackSaid : Prop := skipBackRow.holds Try.pinned (OpenSpec.ofChange skipBackSpec)

/-- ITS FALSE NEIGHBOUR: 'it returns false'. Refute it at one input. -/
def skipBackWrong : ChangeSpec := { name := "skipBack", fn := fun _ => fun
  | [d1, d2, d3, d4, d5] => { results := [.lit (.bool false)], args := [d1, d2, d3, d4, d5] }
  | _ => none }
def SkipBackWrongFalsely : Prop := skipBackRow.holds Try.pinned (OpenSpec.ofChange skipBackWrong)

/-- 'cheesepresslaw31.SkipKnown': WHATEVER THE INPUT: true; the input reads as it did. -/
def skipKnownSpec : ChangeSpec := { name := "skipKnown", fn := fun _ => fun
  | [] => { results := [.lit (.bool true)], args := [] }
  | _ => none }
def skipKnownRow : OpenClaim := { program := "ythhbhekccacmlaa", sum := "3a725f6920e8d63e99dbdf242a53b38cfb09d31b81756dd171488e02cb363db6", func := "cheesepress/cheesepresslaw31.SkipKnown", spec := "skipKnown", unfollowed := true, recurses := true, apart := false }
def SkipKnownSaid : Prop := skipKnownRow.holds Try.pinned (OpenSpec.ofChange skipKnownSpec)

/-- ITS FALSE NEIGHBOUR: 'it returns false'. Refute it at one input. -/
def skipKnownWrong : ChangeSpec := { name := "skipKnown", fn := fun _ => fun
  | [] => { results := [.lit (.bool false)], args := [] }
  | _ => none }
def SkipKnownWrongFalsely : Prop := skipKnownRow.holds Try.pinned (OpenSpec.ofChange skipKnownWrong)

/-- 'cheesepresslaw31.SkipReads': WHATEVER THE INPUT: true; the input reads as it did. -/
def skipReadsSpec : ChangeSpec := { name := "skipReads", fn := fun _ => fun
  | [d1, d2] => { results := [.lit (.bool true)], args := [d1, d2] }
  | _ => none }
def skipReadsRow : OpenClaim := { program := "ythhbhekccacmlaa", sum := "3a725f6920e8d63e99dbdf242a53b38cfb09d31b81756dd171488e02cb363db6", func := "cheesepress/cheesepresslaw31.SkipReads", spec := "skipReads", unfollowed := true, recurses := true, apart := false }
def SkipReadsSaid : Prop := skipReadsRow.holds Try.pinned (OpenSpec.ofChange skipReadsSpec)

/-- ITS FALSE NEIGHBOUR: 'it returns false'. Refute it at one input. -/
def skipReadsWrong : ChangeSpec := { name := "skipReads", fn := fun _ => fun
  | [d1, d2] => { results := [.lit (.bool false)], args := [d1, d2] }
  | _ => none }
def SkipReadsWrongFalsely : Prop := skipReadsRow.holds Try.pinned (OpenSpec.ofChange skipReadsWrong)

/-- 'cheesepresslaw31.SkipAll': WHATEVER THE INPUT: true; the input reads as it did. -/
def skipAllSpec : ChangeSpec := { name := "skipAll", fn := fun _ => fun
  | [d1, d2, d3] => { results := [.lit (.bool true)], args := [d1, d2, d3] }
  | _ => none }
def skipAllRow : OpenClaim := { program := "ythhbhekccacmlaa", sum := "3a725f6920e8d63e99dbdf242a53b38cfb09d31b81756dd171488e02cb363db6", func := "cheesepress/cheesepresslaw31.SkipAll", spec := "skipAll", unfollowed := true, recurses := true, apart := false }
def SkipAllSaid : Prop := skipAllRow.holds Try.pinned (OpenSpec.ofChange skipAllSpec)

/-- ITS FALSE NEIGHBOUR: 'it returns false'. Refute it at one input. -/
def skipAllWrong : ChangeSpec := { name := "skipAll", fn := fun _ => fun
  | [d1, d2, d3] => { results := [.lit (.bool false)], args := [d1, d2, d3] }
  | _ => none }
def SkipAllWrongFalsely : Prop := skipAllRow.holds Try.pinned (OpenSpec.ofChange skipAllWrong)

/- THE SECOND FORM. 'bulk': how many values and letters a reading holds, each counted each time it is reached (what is shared counts as often as it is met; a slice's spare places count too). A statement '..UptoSaid' is the law's where the arguments, and the package variables that the reading takes, are together of bulk at most 1048576: NARROWER than '..Said'. Prove '..Said' where nothing that the law and all that it calls make is longer than what came in: it says more and counts as full. Else prove '..UptoSaid'. A law counts once. -/
mutual
def uptoBulk {H : Type} : DataW H → Nat
  | .lit (.string bytes) => bytes.length + 1
  | .lit _ => 1
  | .nil => 1
  | .ptr d => uptoBulk d + 1
  | .slice elems spare => uptoBulkAll elems + uptoBulkAll spare + 1
  | .agg parts => uptoBulkAll parts + 1
  | .iface _ d => uptoBulk d + 1
  | .map entries => uptoBulkEntries entries + 1
  | .held _ => 1
def uptoBulkAll {H : Type} : List (DataW H) → Nat
  | [] => 0
  | d :: r => uptoBulk d + uptoBulkAll r
def uptoBulkEntries {H : Type} : List (Lit × DataW H) → Nat
  | [] => 0
  | x :: r => uptoBulkEntry x + uptoBulkEntries r
def uptoBulkEntry {H : Type} : Lit × DataW H → Nat
  | (.string bytes, d) => bytes.length + uptoBulk d + 1
  | (_, d) => uptoBulk d + 1
 end
def uptoSmall : (H : Type) → List (DataW H) → Bool := fun _ ds => decide (uptoBulkAll ds ≤ 1048576)
def OpenSpec.upto (s : _root_.Go.ChangeSpec) : _root_.Go.OpenSpec := { _root_.Go.OpenSpec.ofChange s with cond := some uptoSmall }

/-- 'cheesepresslaw31.SkipWrites', WHERE WHAT IT READS IS OF BULK AT MOST 1048576: true; the input reads as it did. -/
def skipWritesUptoRow : OpenClaim := { program := "ythhbhekccacmlaa", sum := "3a725f6920e8d63e99dbdf242a53b38cfb09d31b81756dd171488e02cb363db6", func := "cheesepress/cheesepresslaw31.SkipWrites", spec := "skipWrites", apart := false, narrowed := true }
def SkipWritesUptoSaid : Prop := skipWritesUptoRow.holds Try.pinned (OpenSpec.upto skipWritesSpec)

/-- 'cheesepresslaw31.SkipBack', WHERE WHAT IT READS IS OF BULK AT MOST 1048576: true; the input reads as it did. -/
def skipBackUptoRow : OpenClaim := { program := "ythhbhekccacmlaa", sum := "3a725f6920e8d63e99dbdf242a53b38cfb09d31b81756dd171488e02cb363db6", func := "cheesepress/cheesepresslaw31.SkipBack", spec := "skipBack", apart := false, narrowed := true }
def SkipBackUptoSaid : Prop := skipBackUptoRow.holds Try.pinned (OpenSpec.upto skipBackSpec)

/-- 'cheesepresslaw31.SkipKnown', WHERE WHAT IT READS IS OF BULK AT MOST 1048576: true; the input reads as it did. -/
def skipKnownUptoRow : OpenClaim := { program := "ythhbhekccacmlaa", sum := "3a725f6920e8d63e99dbdf242a53b38cfb09d31b81756dd171488e02cb363db6", func := "cheesepress/cheesepresslaw31.SkipKnown", spec := "skipKnown", unfollowed := true, recurses := true, apart := false, narrowed := true }
def SkipKnownUptoSaid : Prop := skipKnownUptoRow.holds Try.pinned (OpenSpec.upto skipKnownSpec)

/-- 'cheesepresslaw31.SkipReads', WHERE WHAT IT READS IS OF BULK AT MOST 1048576: true; the input reads as it did. -/
def skipReadsUptoRow : OpenClaim := { program := "ythhbhekccacmlaa", sum := "3a725f6920e8d63e99dbdf242a53b38cfb09d31b81756dd171488e02cb363db6", func := "cheesepress/cheesepresslaw31.SkipReads", spec := "skipReads", unfollowed := true, recurses := true, apart := false, narrowed := true }
def SkipReadsUptoSaid : Prop := skipReadsUptoRow.holds Try.pinned (OpenSpec.upto skipReadsSpec)

/-- 'cheesepresslaw31.SkipAll', WHERE WHAT IT READS IS OF BULK AT MOST 1048576: true; the input reads as it did. -/
def skipAllUptoRow : OpenClaim := { program := "ythhbhekccacmlaa", sum := "3a725f6920e8d63e99dbdf242a53b38cfb09d31b81756dd171488e02cb363db6", func := "cheesepress/cheesepresslaw31.SkipAll", spec := "skipAll", unfollowed := true, recurses := true, apart := false, narrowed := true }
def SkipAllUptoSaid : Prop := skipAllUptoRow.holds Try.pinned (OpenSpec.upto skipAllSpec)

end Rows
end Go.Proofs.Ythhbhekccacmlaa
