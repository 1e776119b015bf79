/-
  No cell of these rows narrows 'for every input' (looked for: loops, veiled, ifaces, maps, wideKeys, modest, calm, conditions, laid).
  DERIVED. THE GIVEN ROWS OF THIS SEAT. 6 by the template 'for every input the law returns true; each argument reads behind the call as it read before'; 0 by the template 'total and deterministic' (their statements: YtcnkaplepgpmlaaTotals.lean).
  GIVEN WITH THE SEED: the statements are not yours to turn. If you find one false, say at which input.
  Laid BY PROGRAM, IN A SANDBOX (cutbox-rows.mjs): the forced cells as the released guide's own fill.sh prints them over the translation 9783f6e9ae6795bd… (all of the seat's roots in one cut). By AI agents, Wed Nov 11 2026. No macro, syntax, notation, axiom, sorry.
-/
import Derived.Test.YtcnkaplepgpmlaaChecked
import GoSem.Claim
import GoSem.ClaimJoined
import GoSem.ClaimMapViews
import Derived.JoinedTies
import Derived.KernelRfl
namespace Go.Proofs.Ytcnkaplepgpmlaa
/- THE CELL 'sum', in the pinned program and in every row, IS THE sha256 OF THE DUMP (.gsa) THAT YtcnkaplepgpmlaaProg.lean LOADS. Nothing in Lean hashes anything: it is a label: what it is worth is what the hold of that sum in a sandbox is worth. -/
noncomputable def Try.pinned : Pinned := { name := "ytcnkaplepgpmlaa", sum := "9783f6e9ae6795bd05e9deb22e3542d83a85b804395cf3761e3c457132d10140", checked := Try.checked }
namespace Rows
def none {H : Type} : Left H := { results := [], args := [] }

/-- 'cheesepresslaw18.ExtraOne': WHATEVER THE INPUT: true; the input reads as it did. -/
def extraOneSpec : ChangeSpec := { name := "extraOne", fn := fun _ => fun
  | [d1, d2, d3, d4] => { results := [.lit (.bool true)], args := [d1, d2, d3, d4] }
  | _ => none }
def extraOneRow : OpenClaim := { program := "ytcnkaplepgpmlaa", sum := "9783f6e9ae6795bd05e9deb22e3542d83a85b804395cf3761e3c457132d10140", func := "cheesepress/cheesepresslaw18.ExtraOne", spec := "extraOne", unfollowed := true, recurses := true, apart := false }
def ExtraOneSaid : Prop := extraOneRow.holds Try.pinned (OpenSpec.ofChange extraOneSpec)

/-- ITS FALSE NEIGHBOUR: 'it returns false'. Refute it at one input. -/
def extraOneWrong : ChangeSpec := { name := "extraOne", fn := fun _ => fun
  | [d1, d2, d3, d4] => { results := [.lit (.bool false)], args := [d1, d2, d3, d4] }
  | _ => none }
def ExtraOneWrongFalsely : Prop := extraOneRow.holds Try.pinned (OpenSpec.ofChange extraOneWrong)

/-- 'cheesepresslaw18.ExtraLists': WHATEVER THE INPUT: true; the input reads as it did. -/
def extraListsSpec : ChangeSpec := { name := "extraLists", fn := fun _ => fun
  | [d1, d2, d3] => { results := [.lit (.bool true)], args := [d1, d2, d3] }
  | _ => none }
def extraListsRow : OpenClaim := { program := "ytcnkaplepgpmlaa", sum := "9783f6e9ae6795bd05e9deb22e3542d83a85b804395cf3761e3c457132d10140", func := "cheesepress/cheesepresslaw18.ExtraLists", spec := "extraLists", unfollowed := true, recurses := true, apart := false }
def ExtraListsSaid : Prop := extraListsRow.holds Try.pinned (OpenSpec.ofChange extraListsSpec)

/-- ITS FALSE NEIGHBOUR: 'it returns false'. Refute it at one input. -/
def extraListsWrong : ChangeSpec := { name := "extraLists", fn := fun _ => fun
  | [d1, d2, d3] => { results := [.lit (.bool false)], args := [d1, d2, d3] }
  | _ => none }
def ExtraListsWrongFalsely : Prop := extraListsRow.holds Try.pinned (OpenSpec.ofChange extraListsWrong)

/-- 'cheesepresslaw18.ExtraKnown': WHATEVER THE INPUT: true; the input reads as it did. -/
def extraKnownSpec : ChangeSpec := { name := "extraKnown", fn := fun _ => fun
  | [] => { results := [.lit (.bool true)], args := [] }
  | _ => none }
def extraKnownRow : OpenClaim := { program := "ytcnkaplepgpmlaa", sum := "9783f6e9ae6795bd05e9deb22e3542d83a85b804395cf3761e3c457132d10140", func := "cheesepress/cheesepresslaw18.ExtraKnown", spec := "extraKnown", unfollowed := true, recurses := true, apart := false }
def ExtraKnownSaid : Prop := extraKnownRow.holds Try.pinned (OpenSpec.ofChange extraKnownSpec)

/-- ITS FALSE NEIGHBOUR: 'it returns false'. Refute it at one input. -/
def extraKnownWrong : ChangeSpec := { name := "extraKnown", fn := fun _ => fun
  | [] => { results := [.lit (.bool false)], args := [] }
  | _ => none }
def ExtraKnownWrongFalsely : Prop := extraKnownRow.holds Try.pinned (OpenSpec.ofChange extraKnownWrong)

/-- 'cheesepresslaw18.ExtraBack': WHATEVER THE INPUT: true; the input reads as it did. -/
def extraBackSpec : ChangeSpec := { name := "extraBack", fn := fun _ => fun
  | [d1, d2, d3] => { results := [.lit (.bool true)], args := [d1, d2, d3] }
  | _ => none }
def extraBackRow : OpenClaim := { program := "ytcnkaplepgpmlaa", sum := "9783f6e9ae6795bd05e9deb22e3542d83a85b804395cf3761e3c457132d10140", func := "cheesepress/cheesepresslaw18.ExtraBack", spec := "extraBack", unfollowed := true, recurses := true, apart := false }
def ExtraBackSaid : Prop := extraBackRow.holds Try.pinned (OpenSpec.ofChange extraBackSpec)

/-- ITS FALSE NEIGHBOUR: 'it returns false'. Refute it at one input. -/
def extraBackWrong : ChangeSpec := { name := "extraBack", fn := fun _ => fun
  | [d1, d2, d3] => { results := [.lit (.bool false)], args := [d1, d2, d3] }
  | _ => none }
def ExtraBackWrongFalsely : Prop := extraBackRow.holds Try.pinned (OpenSpec.ofChange extraBackWrong)

/-- 'cheesepresslaw18.ExtraCodes': WHATEVER THE INPUT: true; the input reads as it did. -/
def extraCodesSpec : ChangeSpec := { name := "extraCodes", fn := fun _ => fun
  | [d1, d2] => { results := [.lit (.bool true)], args := [d1, d2] }
  | _ => none }
def extraCodesRow : OpenClaim := { program := "ytcnkaplepgpmlaa", sum := "9783f6e9ae6795bd05e9deb22e3542d83a85b804395cf3761e3c457132d10140", func := "cheesepress/cheesepresslaw18.ExtraCodes", spec := "extraCodes", unfollowed := true, recurses := true, apart := false }
def ExtraCodesSaid : Prop := extraCodesRow.holds Try.pinned (OpenSpec.ofChange extraCodesSpec)

/-- ITS FALSE NEIGHBOUR: 'it returns false'. Refute it at one input. -/
def extraCodesWrong : ChangeSpec := { name := "extraCodes", fn := fun _ => fun
  | [d1, d2] => { results := [.lit (.bool false)], args := [d1, d2] }
  | _ => none }
def ExtraCodesWrongFalsely : Prop := extraCodesRow.holds Try.pinned (OpenSpec.ofChange extraCodesWrong)

/-- 'cheesepresslaw18.ExtraAdds': WHATEVER THE INPUT: true; the input reads as it did. -/
def extraAddsSpec : ChangeSpec := { name := "extraAdds", fn := fun _ => fun
  | [d1, d2, d3] => { results := [.lit (.bool true)], args := [d1, d2, d3] }
  | _ => none }
def extraAddsRow : OpenClaim := { program := "ytcnkaplepgpmlaa", sum := "9783f6e9ae6795bd05e9deb22e3542d83a85b804395cf3761e3c457132d10140", func := "cheesepress/cheesepresslaw18.ExtraAdds", spec := "extraAdds", unfollowed := true, recurses := true, apart := false }
def ExtraAddsSaid : Prop := extraAddsRow.holds Try.pinned (OpenSpec.ofChange extraAddsSpec)

/-- ITS FALSE NEIGHBOUR: 'it returns false'. Refute it at one input. -/
def extraAddsWrong : ChangeSpec := { name := "extraAdds", fn := fun _ => fun
  | [d1, d2, d3] => { results := [.lit (.bool false)], args := [d1, d2, d3] }
  | _ => none }
def ExtraAddsWrongFalsely : Prop := extraAddsRow.holds Try.pinned (OpenSpec.ofChange extraAddsWrong)

/- THE SECOND FORM. 'bulk': how many values and letters a reading holds, each counted each time it is reached (what is shared counts as often as it is met; a slice's spare places count too). A statement '..UptoSaid' is the law's where the arguments, and the package variables that the reading takes, are together of bulk at most 1048576: NARROWER than '..Said'. Prove '..Said' where nothing that the law and all that it calls make is longer than what came in: it says more and counts as full. Else prove '..UptoSaid'. A law counts once. -/
mutual
def uptoBulk {H : Type} : DataW H → Nat
  | .lit (.string bytes) => bytes.length + 1
  | .lit _ => 1
  | .nil => 1
  | .ptr d => uptoBulk d + 1
  | .slice elems spare => uptoBulkAll elems + uptoBulkAll spare + 1
  | .agg parts => uptoBulkAll parts + 1
  | .iface _ d => uptoBulk d + 1
  | .map entries => uptoBulkEntries entries + 1
  | .held _ => 1
def uptoBulkAll {H : Type} : List (DataW H) → Nat
  | [] => 0
  | d :: r => uptoBulk d + uptoBulkAll r
def uptoBulkEntries {H : Type} : List (Lit × DataW H) → Nat
  | [] => 0
  | x :: r => uptoBulkEntry x + uptoBulkEntries r
def uptoBulkEntry {H : Type} : Lit × DataW H → Nat
  | (.string bytes, d) => bytes.length + uptoBulk d + 1
  | (_, d) => uptoBulk d + 1
 end
def uptoSmall : (H : Type) → List (DataW H) → Bool := fun _ ds => decide (uptoBulkAll ds ≤ 1048576)
def OpenSpec.upto (s : _root_.Go.ChangeSpec) : _root_.Go.OpenSpec := { _root_.Go.OpenSpec.ofChange s with cond := some uptoSmall }

/-- 'cheesepresslaw18.ExtraOne', WHERE WHAT IT READS IS OF BULK AT MOST 1048576: true; the input reads as it did. -/
def extraOneUptoRow : OpenClaim := { program := "ytcnkaplepgpmlaa", sum := "9783f6e9ae6795bd05e9deb22e3542d83a85b804395cf3761e3c457132d10140", func := "cheesepress/cheesepresslaw18.ExtraOne", spec := "extraOne", unfollowed := true, recurses := true, apart := false, narrowed := true }
def ExtraOneUptoSaid : Prop := extraOneUptoRow.holds Try.pinned (OpenSpec.upto extraOneSpec)

/-- 'cheesepresslaw18.ExtraLists', WHERE WHAT IT READS IS OF BULK AT MOST 1048576: true; the input reads as it did. -/
def extraListsUptoRow : OpenClaim := { program := "ytcnkaplepgpmlaa", sum := "9783f6e9ae6795bd05e9deb22e3542d83a85b804395cf3761e3c457132d10140", func := "cheesepress/cheesepresslaw18.ExtraLists", spec := "extraLists", unfollowed := true, recurses := true, apart := false, narrowed := true }
def ExtraListsUptoSaid : Prop := extraListsUptoRow.holds Try.pinned (OpenSpec.upto extraListsSpec)

/-- 'cheesepresslaw18.ExtraKnown', WHERE WHAT IT READS IS OF BULK AT MOST 1048576: true; the input reads as it did. -/
def extraKnownUptoRow : OpenClaim := { program := "ytcnkaplepgpmlaa", sum := "9783f6e9ae6795bd05e9deb22e3542d83a85b804395cf3761e3c457132d10140", func := "cheesepress/cheesepresslaw18.ExtraKnown", spec := "extraKnown", unfollowed := true, recurses := true, apart := false, narrowed := true }
def ExtraKnownUptoSaid : Prop := extraKnownUptoRow.holds Try.pinned (OpenSpec.upto extraKnownSpec)

/-- 'cheesepresslaw18.ExtraBack', WHERE WHAT IT READS IS OF BULK AT MOST 1048576: true; the input reads as it did. -/
def extraBackUptoRow : OpenClaim := { program := "ytcnkaplepgpmlaa", sum := "9783f6e9ae6795bd05e9deb22e3542d83a85b804395cf3761e3c457132d10140", func := "cheesepress/cheesepresslaw18.ExtraBack", spec := "extraBack", unfollowed := true, recurses := true, apart := false, narrowed := true }
def ExtraBackUptoSaid : Prop := extraBackUptoRow.holds Try.pinned (OpenSpec.upto extraBackSpec)

/-- 'cheesepresslaw18.ExtraCodes', WHERE WHAT IT READS IS OF BULK AT MOST 1048576: true; the input reads as it did. -/
def extraCodesUptoRow : OpenClaim := { program := "ytcnkaplepgpmlaa", sum := "9783f6e9ae6795bd05e9deb22e3542d83a85b804395cf3761e3c457132d10140", func := "cheesepress/cheesepresslaw18.ExtraCodes", spec := "extraCodes", unfollowed := true, recurses := true, apart := false, narrowed := true }
def ExtraCodesUptoSaid : Prop := extraCodesUptoRow.holds Try.pinned (OpenSpec.upto extraCodesSpec)

/-- 'cheesepresslaw18.ExtraAdds', WHERE WHAT IT READS IS OF BULK AT MOST 1048576: true; the input reads as it did. -/
def extraAddsUptoRow : OpenClaim := { program := "ytcnkaplepgpmlaa", sum := "9783f6e9ae6795bd05e9deb22e3542d83a85b804395cf3761e3c457132d10140", func := "cheesepress/cheesepresslaw18.ExtraAdds", spec := "extraAdds", unfollowed := true, recurses := true, apart := false, narrowed := true }
def ExtraAddsUptoSaid : Prop := extraAddsUptoRow.holds Try.pinned (OpenSpec.upto extraAddsSpec)

end Rows
end Go.Proofs.Ytcnkaplepgpmlaa
