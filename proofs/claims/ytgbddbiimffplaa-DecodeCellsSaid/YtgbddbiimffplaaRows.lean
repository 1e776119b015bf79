/-
  No cell of these rows narrows 'for every input' (looked for: loops, veiled, ifaces, maps, wideKeys, modest, calm, conditions, laid).
  DERIVED. THE GIVEN ROWS OF THIS SEAT. 5 by the template 'for every input the law returns true; each argument reads behind the call as it read before'; 0 by the template 'total and deterministic' (their statements: YtgbddbiimffplaaTotals.lean).
  GIVEN WITH THE SEED: the statements are not yours to turn. If you find one false, say at which input.
  Laid BY PROGRAM, IN A SANDBOX (cutbox-rows.mjs): the forced cells as the released guide's own fill.sh prints them over the translation c4cdf40a86565f34… (all of the seat's roots in one cut). By AI agents, Wed Nov 11 2026. No macro, syntax, notation, axiom, sorry.
-/
import Derived.Test.YtgbddbiimffplaaChecked
import GoSem.Claim
import GoSem.ClaimJoined
import GoSem.ClaimMapViews
import Derived.JoinedTies
import Derived.KernelRfl
namespace Go.Proofs.Ytgbddbiimffplaa
/- THE CELL 'sum', in the pinned program and in every row, IS THE sha256 OF THE DUMP (.gsa) THAT YtgbddbiimffplaaProg.lean LOADS. Nothing in Lean hashes anything: it is a label: what it is worth is what the hold of that sum in a sandbox is worth. -/
noncomputable def Try.pinned : Pinned := { name := "ytgbddbiimffplaa", sum := "c4cdf40a86565f343f6325087be0703d82d3593177c1232c0e50f69aaca3cfaf", checked := Try.checked }
namespace Rows
def none {H : Type} : Left H := { results := [], args := [] }

/-- 'cheesepresslaw10.DecodeMakes': WHATEVER THE INPUT: true; the input reads as it did. -/
def decodeMakesSpec : ChangeSpec := { name := "decodeMakes", fn := fun _ => fun
  | [d1, d2] => { results := [.lit (.bool true)], args := [d1, d2] }
  | _ => none }
def decodeMakesRow : OpenClaim := { program := "ytgbddbiimffplaa", sum := "c4cdf40a86565f343f6325087be0703d82d3593177c1232c0e50f69aaca3cfaf", func := "cheesepress/cheesepresslaw10.DecodeMakes", spec := "decodeMakes", unfollowed := true, recurses := true, apart := false }
def DecodeMakesSaid : Prop := decodeMakesRow.holds Try.pinned (OpenSpec.ofChange decodeMakesSpec)

/-- ITS FALSE NEIGHBOUR: 'it returns false'. Refute it at one input. -/
def decodeMakesWrong : ChangeSpec := { name := "decodeMakes", fn := fun _ => fun
  | [d1, d2] => { results := [.lit (.bool false)], args := [d1, d2] }
  | _ => none }
def DecodeMakesWrongFalsely : Prop := decodeMakesRow.holds Try.pinned (OpenSpec.ofChange decodeMakesWrong)

/-- 'cheesepresslaw10.DecodeKnown': WHATEVER THE INPUT: true; the input reads as it did. -/
def decodeKnownSpec : ChangeSpec := { name := "decodeKnown", fn := fun _ => fun
  | [] => { results := [.lit (.bool true)], args := [] }
  | _ => none }
def decodeKnownRow : OpenClaim := { program := "ytgbddbiimffplaa", sum := "c4cdf40a86565f343f6325087be0703d82d3593177c1232c0e50f69aaca3cfaf", func := "cheesepress/cheesepresslaw10.DecodeKnown", spec := "decodeKnown", unfollowed := true, recurses := true, apart := false }
def DecodeKnownSaid : Prop := decodeKnownRow.holds Try.pinned (OpenSpec.ofChange decodeKnownSpec)

/-- ITS FALSE NEIGHBOUR: 'it returns false'. Refute it at one input. -/
def decodeKnownWrong : ChangeSpec := { name := "decodeKnown", fn := fun _ => fun
  | [] => { results := [.lit (.bool false)], args := [] }
  | _ => none }
def DecodeKnownWrongFalsely : Prop := decodeKnownRow.holds Try.pinned (OpenSpec.ofChange decodeKnownWrong)

/-- 'cheesepresslaw10.DecodeRanges': WHATEVER THE INPUT: true; the input reads as it did. -/
def decodeRangesSpec : ChangeSpec := { name := "decodeRanges", fn := fun _ => fun
  | [d] => { results := [.lit (.bool true)], args := [d] }
  | _ => none }
def decodeRangesRow : OpenClaim := { program := "ytgbddbiimffplaa", sum := "c4cdf40a86565f343f6325087be0703d82d3593177c1232c0e50f69aaca3cfaf", func := "cheesepress/cheesepresslaw10.DecodeRanges", spec := "decodeRanges", unfollowed := true, recurses := true, apart := false }
def DecodeRangesSaid : Prop := decodeRangesRow.holds Try.pinned (OpenSpec.ofChange decodeRangesSpec)

/-- ITS FALSE NEIGHBOUR: 'it returns false'. Refute it at one input. -/
def decodeRangesWrong : ChangeSpec := { name := "decodeRanges", fn := fun _ => fun
  | [d] => { results := [.lit (.bool false)], args := [d] }
  | _ => none }
def DecodeRangesWrongFalsely : Prop := decodeRangesRow.holds Try.pinned (OpenSpec.ofChange decodeRangesWrong)

/-- 'cheesepresslaw10.DecodeCells': WHATEVER THE INPUT: true; the input reads as it did. -/
def decodeCellsSpec : ChangeSpec := { name := "decodeCells", fn := fun _ => fun
  | [d] => { results := [.lit (.bool true)], args := [d] }
  | _ => none }
def decodeCellsRow : OpenClaim := { program := "ytgbddbiimffplaa", sum := "c4cdf40a86565f343f6325087be0703d82d3593177c1232c0e50f69aaca3cfaf", func := "cheesepress/cheesepresslaw10.DecodeCells", spec := "decodeCells", unfollowed := true, recurses := true, apart := false }
def DecodeCellsSaid : Prop := decodeCellsRow.holds Try.pinned (OpenSpec.ofChange decodeCellsSpec)

/-- ITS FALSE NEIGHBOUR: 'it returns false'. Refute it at one input. -/
def decodeCellsWrong : ChangeSpec := { name := "decodeCells", fn := fun _ => fun
  | [d] => { results := [.lit (.bool false)], args := [d] }
  | _ => none }
def DecodeCellsWrongFalsely : Prop := decodeCellsRow.holds Try.pinned (OpenSpec.ofChange decodeCellsWrong)

/-- 'cheesepresslaw10.DecodeAsks': WHATEVER THE INPUT: true; the input reads as it did. -/
def decodeAsksSpec : ChangeSpec := { name := "decodeAsks", fn := fun _ => fun
  | [d1, d2, d3, d4] => { results := [.lit (.bool true)], args := [d1, d2, d3, d4] }
  | _ => none }
def decodeAsksRow : OpenClaim := { program := "ytgbddbiimffplaa", sum := "c4cdf40a86565f343f6325087be0703d82d3593177c1232c0e50f69aaca3cfaf", func := "cheesepress/cheesepresslaw10.DecodeAsks", spec := "decodeAsks", unfollowed := true, recurses := true, apart := false }
def DecodeAsksSaid : Prop := decodeAsksRow.holds Try.pinned (OpenSpec.ofChange decodeAsksSpec)

/-- ITS FALSE NEIGHBOUR: 'it returns false'. Refute it at one input. -/
def decodeAsksWrong : ChangeSpec := { name := "decodeAsks", fn := fun _ => fun
  | [d1, d2, d3, d4] => { results := [.lit (.bool false)], args := [d1, d2, d3, d4] }
  | _ => none }
def DecodeAsksWrongFalsely : Prop := decodeAsksRow.holds Try.pinned (OpenSpec.ofChange decodeAsksWrong)

/- THE SECOND FORM. 'bulk': how many values and letters a reading holds, each counted each time it is reached (what is shared counts as often as it is met; a slice's spare places count too). A statement '..UptoSaid' is the law's where the arguments, and the package variables that the reading takes, are together of bulk at most 1048576: NARROWER than '..Said'. Prove '..Said' where nothing that the law and all that it calls make is longer than what came in: it says more and counts as full. Else prove '..UptoSaid'. A law counts once. -/
mutual
def uptoBulk {H : Type} : DataW H → Nat
  | .lit (.string bytes) => bytes.length + 1
  | .lit _ => 1
  | .nil => 1
  | .ptr d => uptoBulk d + 1
  | .slice elems spare => uptoBulkAll elems + uptoBulkAll spare + 1
  | .agg parts => uptoBulkAll parts + 1
  | .iface _ d => uptoBulk d + 1
  | .map entries => uptoBulkEntries entries + 1
  | .held _ => 1
def uptoBulkAll {H : Type} : List (DataW H) → Nat
  | [] => 0
  | d :: r => uptoBulk d + uptoBulkAll r
def uptoBulkEntries {H : Type} : List (Lit × DataW H) → Nat
  | [] => 0
  | x :: r => uptoBulkEntry x + uptoBulkEntries r
def uptoBulkEntry {H : Type} : Lit × DataW H → Nat
  | (.string bytes, d) => bytes.length + uptoBulk d + 1
  | (_, d) => uptoBulk d + 1
 end
def uptoSmall : (H : Type) → List (DataW H) → Bool := fun _ ds => decide (uptoBulkAll ds ≤ 1048576)
def OpenSpec.upto (s : _root_.Go.ChangeSpec) : _root_.Go.OpenSpec := { _root_.Go.OpenSpec.ofChange s with cond := some uptoSmall }

/-- 'cheesepresslaw10.DecodeMakes', WHERE WHAT IT READS IS OF BULK AT MOST 1048576: true; the input reads as it did. -/
def decodeMakesUptoRow : OpenClaim := { program := "ytgbddbiimffplaa", sum := "c4cdf40a86565f343f6325087be0703d82d3593177c1232c0e50f69aaca3cfaf", func := "cheesepress/cheesepresslaw10.DecodeMakes", spec := "decodeMakes", unfollowed := true, recurses := true, apart := false, narrowed := true }
def DecodeMakesUptoSaid : Prop := decodeMakesUptoRow.holds Try.pinned (OpenSpec.upto decodeMakesSpec)

/-- 'cheesepresslaw10.DecodeKnown', WHERE WHAT IT READS IS OF BULK AT MOST 1048576: true; the input reads as it did. -/
def decodeKnownUptoRow : OpenClaim := { program := "ytgbddbiimffplaa", sum := "c4cdf40a86565f343f6325087be0703d82d3593177c1232c0e50f69aaca3cfaf", func := "cheesepress/cheesepresslaw10.DecodeKnown", spec := "decodeKnown", unfollowed := true, recurses := true, apart := false, narrowed := true }
def DecodeKnownUptoSaid : Prop := decodeKnownUptoRow.holds Try.pinned (OpenSpec.upto decodeKnownSpec)

/-- 'cheesepresslaw10.DecodeRanges', WHERE WHAT IT READS IS OF BULK AT MOST 1048576: true; the input reads as it did. -/
def decodeRangesUptoRow : OpenClaim := { program := "ytgbddbiimffplaa", sum := "c4cdf40a86565f343f6325087be0703d82d3593177c1232c0e50f69aaca3cfaf", func := "cheesepress/cheesepresslaw10.DecodeRanges", spec := "decodeRanges", unfollowed := true, recurses := true, apart := false, narrowed := true }
def DecodeRangesUptoSaid : Prop := decodeRangesUptoRow.holds Try.pinned (OpenSpec.upto decodeRangesSpec)

/-- 'cheesepresslaw10.DecodeCells', WHERE WHAT IT READS IS OF BULK AT MOST 1048576: true; the input reads as it did. -/
def decodeCellsUptoRow : OpenClaim := { program := "ytgbddbiimffplaa", sum := "c4cdf40a86565f343f6325087be0703d82d3593177c1232c0e50f69aaca3cfaf", func := "cheesepress/cheesepresslaw10.DecodeCells", spec := "decodeCells", unfollowed := true, recurses := true, apart := false, narrowed := true }
def DecodeCellsUptoSaid : Prop := decodeCellsUptoRow.holds Try.pinned (OpenSpec.upto decodeCellsSpec)

/-- 'cheesepresslaw10.DecodeAsks', WHERE WHAT IT READS IS OF BULK AT MOST 1048576: true; the input reads as it did. -/
def decodeAsksUptoRow : OpenClaim := { program := "ytgbddbiimffplaa", sum := "c4cdf40a86565f343f6325087be0703d82d3593177c1232c0e50f69aaca3cfaf", func := "cheesepress/cheesepresslaw10.DecodeAsks", spec := "decodeAsks", unfollowed := true, recurses := true, apart := false, narrowed := true }
def DecodeAsksUptoSaid : Prop := decodeAsksUptoRow.holds Try.pinned (OpenSpec.upto decodeAsksSpec)

end Rows
end Go.Proofs.Ytgbddbiimffplaa
