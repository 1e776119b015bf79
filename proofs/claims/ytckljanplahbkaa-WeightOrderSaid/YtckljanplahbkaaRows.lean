/-
  No cell of these rows narrows 'for every input' (looked for: loops, veiled, ifaces, maps, wideKeys, modest, calm, conditions, laid).
  DERIVED. THE GIVEN ROWS OF THIS SEAT. 7 by the template 'for every input the law returns true; each argument reads behind the call as it read before'; 0 by the template 'total and deterministic' (their statements: YtckljanplahbkaaTotals.lean).
  GIVEN WITH THE SEED: the statements are not yours to turn. If you find one false, say at which input.
  Laid BY PROGRAM, IN A SANDBOX (cutbox-rows.mjs): the forced cells as the released guide's own fill.sh prints them over the translation af0276aeeedda21d… (all of the seat's roots in one cut). By AI agents, Wed Nov 11 2026. No macro, syntax, notation, axiom, sorry.
-/
import Derived.Test.YtckljanplahbkaaChecked
import GoSem.Claim
import GoSem.ClaimJoined
import GoSem.ClaimMapViews
import Derived.JoinedTies
import Derived.KernelRfl
namespace Go.Proofs.Ytckljanplahbkaa
/- THE CELL 'sum', in the pinned program and in every row, IS THE sha256 OF THE DUMP (.gsa) THAT YtckljanplahbkaaProg.lean LOADS. Nothing in Lean hashes anything: it is a label: what it is worth is what the hold of that sum in a sandbox is worth. -/
noncomputable def Try.pinned : Pinned := { name := "ytckljanplahbkaa", sum := "af0276aeeedda21d452afbe3abaffe9ec5be9d61c6c52cfb26e56cbd4031fd82", checked := Try.checked }
namespace Rows
def none {H : Type} : Left H := { results := [], args := [] }

/-- 'cheesepresslaw14.WeightLengths': WHATEVER THE INPUT: true; the input reads as it did. -/
def weightLengthsSpec : ChangeSpec := { name := "weightLengths", fn := fun _ => fun
  | [d] => { results := [.lit (.bool true)], args := [d] }
  | _ => none }
def weightLengthsRow : OpenClaim := { program := "ytckljanplahbkaa", sum := "af0276aeeedda21d452afbe3abaffe9ec5be9d61c6c52cfb26e56cbd4031fd82", func := "cheesepress/cheesepresslaw14.WeightLengths", spec := "weightLengths", unfollowed := true, recurses := true, apart := false }
def WeightLengthsSaid : Prop := weightLengthsRow.holds Try.pinned (OpenSpec.ofChange weightLengthsSpec)

/-- ITS FALSE NEIGHBOUR: 'it returns false'. Refute it at one input. -/
def weightLengthsWrong : ChangeSpec := { name := "weightLengths", fn := fun _ => fun
  | [d] => { results := [.lit (.bool false)], args := [d] }
  | _ => none }
def WeightLengthsWrongFalsely : Prop := weightLengthsRow.holds Try.pinned (OpenSpec.ofChange weightLengthsWrong)

/-- 'cheesepresslaw14.WeightListed': WHATEVER THE INPUT: true; the input reads as it did. -/
def weightListedSpec : ChangeSpec := { name := "weightListed", fn := fun _ => fun
  | [d] => { results := [.lit (.bool true)], args := [d] }
  | _ => none }
def weightListedRow : OpenClaim := { program := "ytckljanplahbkaa", sum := "af0276aeeedda21d452afbe3abaffe9ec5be9d61c6c52cfb26e56cbd4031fd82", func := "cheesepress/cheesepresslaw14.WeightListed", spec := "weightListed", unfollowed := true, recurses := true, apart := false }
def WeightListedSaid : Prop := weightListedRow.holds Try.pinned (OpenSpec.ofChange weightListedSpec)

/-- ITS FALSE NEIGHBOUR: 'it returns false'. Refute it at one input. -/
def weightListedWrong : ChangeSpec := { name := "weightListed", fn := fun _ => fun
  | [d] => { results := [.lit (.bool false)], args := [d] }
  | _ => none }
def WeightListedWrongFalsely : Prop := weightListedRow.holds Try.pinned (OpenSpec.ofChange weightListedWrong)

/-- 'cheesepresslaw14.WeightReads': WHATEVER THE INPUT: true; the input reads as it did. -/
def weightReadsSpec : ChangeSpec := { name := "weightReads", fn := fun _ => fun
  | [d1, d2] => { results := [.lit (.bool true)], args := [d1, d2] }
  | _ => none }
def weightReadsRow : OpenClaim := { program := "ytckljanplahbkaa", sum := "af0276aeeedda21d452afbe3abaffe9ec5be9d61c6c52cfb26e56cbd4031fd82", func := "cheesepress/cheesepresslaw14.WeightReads", spec := "weightReads", unfollowed := true, recurses := true, apart := false }
def WeightReadsSaid : Prop := weightReadsRow.holds Try.pinned (OpenSpec.ofChange weightReadsSpec)

/-- ITS FALSE NEIGHBOUR: 'it returns false'. Refute it at one input. -/
def weightReadsWrong : ChangeSpec := { name := "weightReads", fn := fun _ => fun
  | [d1, d2] => { results := [.lit (.bool false)], args := [d1, d2] }
  | _ => none }
def WeightReadsWrongFalsely : Prop := weightReadsRow.holds Try.pinned (OpenSpec.ofChange weightReadsWrong)

/-- 'cheesepresslaw14.WeightKnown': WHATEVER THE INPUT: true; the input reads as it did. -/
def weightKnownSpec : ChangeSpec := { name := "weightKnown", fn := fun _ => fun
  | [] => { results := [.lit (.bool true)], args := [] }
  | _ => none }
def weightKnownRow : OpenClaim := { program := "ytckljanplahbkaa", sum := "af0276aeeedda21d452afbe3abaffe9ec5be9d61c6c52cfb26e56cbd4031fd82", func := "cheesepress/cheesepresslaw14.WeightKnown", spec := "weightKnown", unfollowed := true, recurses := true, apart := false }
def WeightKnownSaid : Prop := weightKnownRow.holds Try.pinned (OpenSpec.ofChange weightKnownSpec)

/-- ITS FALSE NEIGHBOUR: 'it returns false'. Refute it at one input. -/
def weightKnownWrong : ChangeSpec := { name := "weightKnown", fn := fun _ => fun
  | [] => { results := [.lit (.bool false)], args := [] }
  | _ => none }
def WeightKnownWrongFalsely : Prop := weightKnownRow.holds Try.pinned (OpenSpec.ofChange weightKnownWrong)

/-- 'cheesepresslaw14.WeightBack': WHATEVER THE INPUT: true; the input reads as it did. -/
def weightBackSpec : ChangeSpec := { name := "weightBack", fn := fun _ => fun
  | [d] => { results := [.lit (.bool true)], args := [d] }
  | _ => none }
def weightBackRow : OpenClaim := { program := "ytckljanplahbkaa", sum := "af0276aeeedda21d452afbe3abaffe9ec5be9d61c6c52cfb26e56cbd4031fd82", func := "cheesepress/cheesepresslaw14.WeightBack", spec := "weightBack", unfollowed := true, recurses := true, apart := false }
def WeightBackSaid : Prop := weightBackRow.holds Try.pinned (OpenSpec.ofChange weightBackSpec)

/-- ITS FALSE NEIGHBOUR: 'it returns false'. Refute it at one input. -/
def weightBackWrong : ChangeSpec := { name := "weightBack", fn := fun _ => fun
  | [d] => { results := [.lit (.bool false)], args := [d] }
  | _ => none }
def WeightBackWrongFalsely : Prop := weightBackRow.holds Try.pinned (OpenSpec.ofChange weightBackWrong)

/-- 'cheesepresslaw14.WeightDirect': WHATEVER THE INPUT: true; the input reads as it did. -/
def weightDirectSpec : ChangeSpec := { name := "weightDirect", fn := fun _ => fun
  | [d1, d2, d3] => { results := [.lit (.bool true)], args := [d1, d2, d3] }
  | _ => none }
def weightDirectRow : OpenClaim := { program := "ytckljanplahbkaa", sum := "af0276aeeedda21d452afbe3abaffe9ec5be9d61c6c52cfb26e56cbd4031fd82", func := "cheesepress/cheesepresslaw14.WeightDirect", spec := "weightDirect", unfollowed := true, recurses := true, apart := false }
def WeightDirectSaid : Prop := weightDirectRow.holds Try.pinned (OpenSpec.ofChange weightDirectSpec)

/-- ITS FALSE NEIGHBOUR: 'it returns false'. Refute it at one input. -/
def weightDirectWrong : ChangeSpec := { name := "weightDirect", fn := fun _ => fun
  | [d1, d2, d3] => { results := [.lit (.bool false)], args := [d1, d2, d3] }
  | _ => none }
def WeightDirectWrongFalsely : Prop := weightDirectRow.holds Try.pinned (OpenSpec.ofChange weightDirectWrong)

/-- 'cheesepresslaw14.WeightOrder': WHATEVER THE INPUT: true; the input reads as it did. -/
def weightOrderSpec : ChangeSpec := { name := "weightOrder", fn := fun _ => fun
  | [d1, d2] => { results := [.lit (.bool true)], args := [d1, d2] }
  | _ => none }
def weightOrderRow : OpenClaim := { program := "ytckljanplahbkaa", sum := "af0276aeeedda21d452afbe3abaffe9ec5be9d61c6c52cfb26e56cbd4031fd82", func := "cheesepress/cheesepresslaw14.WeightOrder", spec := "weightOrder", unfollowed := true, recurses := true, apart := false }
def WeightOrderSaid : Prop := weightOrderRow.holds Try.pinned (OpenSpec.ofChange weightOrderSpec)

/-- ITS FALSE NEIGHBOUR: 'it returns false'. Refute it at one input. -/
def weightOrderWrong : ChangeSpec := { name := "weightOrder", fn := fun _ => fun
  | [d1, d2] => { results := [.lit (.bool false)], args := [d1, d2] }
  | _ => none }
def WeightOrderWrongFalsely : Prop := weightOrderRow.holds Try.pinned (OpenSpec.ofChange weightOrderWrong)

/- THE SECOND FORM. 'bulk': how many values and letters a reading holds, each counted each time it is reached (what is shared counts as often as it is met; a slice's spare places count too). A statement '..UptoSaid' is the law's where the arguments, and the package variables that the reading takes, are together of bulk at most 1048576: NARROWER than '..Said'. Prove '..Said' where nothing that the law and all that it calls make is longer than what came in: it says more and counts as full. Else prove '..UptoSaid'. A law counts once. -/
mutual
def uptoBulk {H : Type} : DataW H → Nat
  | .lit (.string bytes) => bytes.length + 1
  | .lit _ => 1
  | .nil => 1
  | .ptr d => uptoBulk d + 1
  | .slice elems spare => uptoBulkAll elems + uptoBulkAll spare + 1
  | .agg parts => uptoBulkAll parts + 1
  | .iface _ d => uptoBulk d + 1
  | .map entries => uptoBulkEntries entries + 1
  | .held _ => 1
def uptoBulkAll {H : Type} : List (DataW H) → Nat
  | [] => 0
  | d :: r => uptoBulk d + uptoBulkAll r
def uptoBulkEntries {H : Type} : List (Lit × DataW H) → Nat
  | [] => 0
  | x :: r => uptoBulkEntry x + uptoBulkEntries r
def uptoBulkEntry {H : Type} : Lit × DataW H → Nat
  | (.string bytes, d) => bytes.length + uptoBulk d + 1
  | (_, d) => uptoBulk d + 1
 end
def uptoSmall : (H : Type) → List (DataW H) → Bool := fun _ ds => decide (uptoBulkAll ds ≤ 1048576)
def OpenSpec.upto (s : _root_.Go.ChangeSpec) : _root_.Go.OpenSpec := { _root_.Go.OpenSpec.ofChange s with cond := some uptoSmall }

/-- 'cheesepresslaw14.WeightLengths', WHERE WHAT IT READS IS OF BULK AT MOST 1048576: true; the input reads as it did. -/
def weightLengthsUptoRow : OpenClaim := { program := "ytckljanplahbkaa", sum := "af0276aeeedda21d452afbe3abaffe9ec5be9d61c6c52cfb26e56cbd4031fd82", func := "cheesepress/cheesepresslaw14.WeightLengths", spec := "weightLengths", unfollowed := true, recurses := true, apart := false, narrowed := true }
def WeightLengthsUptoSaid : Prop := weightLengthsUptoRow.holds Try.pinned (OpenSpec.upto weightLengthsSpec)

/-- 'cheesepresslaw14.WeightListed', WHERE WHAT IT READS IS OF BULK AT MOST 1048576: true; the input reads as it did. -/
def weightListedUptoRow : OpenClaim := { program := "ytckljanplahbkaa", sum := "af0276aeeedda21d452afbe3abaffe9ec5be9d61c6c52cfb26e56cbd4031fd82", func := "cheesepress/cheesepresslaw14.WeightListed", spec := "weightListed", unfollowed := true, recurses := true, apart := false, narrowed := true }
def WeightListedUptoSaid : Prop := weightListedUptoRow.holds Try.pinned (OpenSpec.upto weightListedSpec)

/-- 'cheesepresslaw14.WeightReads', WHERE WHAT IT READS IS OF BULK AT MOST 1048576: true; the input reads as it did. -/
def weightReadsUptoRow : OpenClaim := { program := "ytckljanplahbkaa", sum := "af0276aeeedda21d452afbe3abaffe9ec5be9d61c6c52cfb26e56cbd4031fd82", func := "cheesepress/cheesepresslaw14.WeightReads", spec := "weightReads", unfollowed := true, recurses := true, apart := false, narrowed := true }
def WeightReadsUptoSaid : Prop := weightReadsUptoRow.holds Try.pinned (OpenSpec.upto weightReadsSpec)

/-- 'cheesepresslaw14.WeightKnown', WHERE WHAT IT READS IS OF BULK AT MOST 1048576: true; the input reads as it did. -/
def weightKnownUptoRow : OpenClaim := { program := "ytckljanplahbkaa", sum := "af0276aeeedda21d452afbe3abaffe9ec5be9d61c6c52cfb26e56cbd4031fd82", func := "cheesepress/cheesepresslaw14.WeightKnown", spec := "weightKnown", unfollowed := true, recurses := true, apart := false, narrowed := true }
def WeightKnownUptoSaid : Prop := weightKnownUptoRow.holds Try.pinned (OpenSpec.upto weightKnownSpec)

/-- 'cheesepresslaw14.WeightBack', WHERE WHAT IT READS IS OF BULK AT MOST 1048576: true; the input reads as it did. -/
def weightBackUptoRow : OpenClaim := { program := "ytckljanplahbkaa", sum := "af0276aeeedda21d452afbe3abaffe9ec5be9d61c6c52cfb26e56cbd4031fd82", func := "cheesepress/cheesepresslaw14.WeightBack", spec := "weightBack", unfollowed := true, recurses := true, apart := false, narrowed := true }
def WeightBackUptoSaid : Prop := weightBackUptoRow.holds Try.pinned (OpenSpec.upto weightBackSpec)

/-- 'cheesepresslaw14.WeightDirect', WHERE WHAT IT READS IS OF BULK AT MOST 1048576: true; the input reads as it did. -/
def weightDirectUptoRow : OpenClaim := { program := "ytckljanplahbkaa", sum := "af0276aeeedda21d452afbe3abaffe9ec5be9d61c6c52cfb26e56cbd4031fd82", func := "cheesepress/cheesepresslaw14.WeightDirect", spec := "weightDirect", unfollowed := true, recurses := true, apart := false, narrowed := true }
def WeightDirectUptoSaid : Prop := weightDirectUptoRow.holds Try.pinned (OpenSpec.upto weightDirectSpec)

/-- 'cheesepresslaw14.WeightOrder', WHERE WHAT IT READS IS OF BULK AT MOST 1048576: true; the input reads as it did. -/
def weightOrderUptoRow : OpenClaim := { program := "ytckljanplahbkaa", sum := "af0276aeeedda21d452afbe3abaffe9ec5be9d61c6c52cfb26e56cbd4031fd82", func := "cheesepress/cheesepresslaw14.WeightOrder", spec := "weightOrder", unfollowed := true, recurses := true, apart := false, narrowed := true }
def WeightOrderUptoSaid : Prop := weightOrderUptoRow.holds Try.pinned (OpenSpec.upto weightOrderSpec)

end Rows
end Go.Proofs.Ytckljanplahbkaa
