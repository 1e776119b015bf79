/-
  A part of the proof of a statement of a chapter's seat; conditions: stated at each theorem.
-/
import Derived.Test.YtlmoenjggggpkaaTB
import Derived.Test.YtlmoenjggggpkaaAzR
import Derived.Test.YtlmoenjggggpkaaRows
import Derived.WalkKit
set_option linter.unusedVariables false
set_option linter.unusedSectionVars false
set_option linter.unusedSimpArgs false
set_option linter.unusedVariables false
set_option maxRecDepth 100000
set_option maxHeartbeats 8000000
namespace Go.Proofs.Ytlmoenjggggpkaa
open Go.Az Go Go.RowKit
theorem s1_1 : isS1 Try.prog 1 = true := by kernel_rfl
instance : C1 Try.prog 1 := ⟨s1_1⟩
theorem el_1 : elOkQ Try.prog 1 1 = true := by kernel_rfl
instance : CE Try.prog 1 1 := ⟨el_1⟩
theorem z_1 : zeroA Try.prog 1 = some [.v .nilFunc] := by kernel_rfl
instance : CZ Try.prog 1 [.v .nilFunc] := ⟨z_1⟩
theorem s1_2 : isS1 Try.prog 2 = true := by kernel_rfl
instance : C1 Try.prog 2 := ⟨s1_2⟩
theorem el_2 : elOkQ Try.prog 2 1 = true := by kernel_rfl
instance : CE Try.prog 2 1 := ⟨el_2⟩
theorem u_2 : Try.prog.underlying 2 = some (.int .i64) := by kernel_rfl
instance : CU Try.prog 2 .i64 := ⟨u_2⟩
theorem z_2 : zeroA Try.prog 2 = some [.v (.int .i64 0)] := by kernel_rfl
instance : CZ Try.prog 2 [.v (.int .i64 0)] := ⟨z_2⟩
theorem s1_3 : isS1 Try.prog 3 = true := by kernel_rfl
instance : C1 Try.prog 3 := ⟨s1_3⟩
theorem el_3 : elOkQ Try.prog 3 1 = true := by kernel_rfl
instance : CE Try.prog 3 1 := ⟨el_3⟩
theorem u_3 : Try.prog.underlying 3 = some (.int .i64) := by kernel_rfl
instance : CU Try.prog 3 .i64 := ⟨u_3⟩
theorem z_3 : zeroA Try.prog 3 = some [.v (.int .i64 0)] := by kernel_rfl
instance : CZ Try.prog 3 [.v (.int .i64 0)] := ⟨z_3⟩
theorem s1_4 : isS1 Try.prog 4 = true := by kernel_rfl
instance : C1 Try.prog 4 := ⟨s1_4⟩
theorem el_4 : elOkQ Try.prog 4 1 = true := by kernel_rfl
instance : CE Try.prog 4 1 := ⟨el_4⟩
theorem bo_4 : Try.prog.underlying 4 = some .bool := by kernel_rfl
instance : CB Try.prog 4 := ⟨bo_4⟩
theorem z_4 : zeroA Try.prog 4 = some [.v (.bool false)] := by kernel_rfl
instance : CZ Try.prog 4 [.v (.bool false)] := ⟨z_4⟩
theorem s1_5 : isS1 Try.prog 5 = true := by kernel_rfl
instance : C1 Try.prog 5 := ⟨s1_5⟩
theorem el_5 : elOkQ Try.prog 5 1 = true := by kernel_rfl
instance : CE Try.prog 5 1 := ⟨el_5⟩
theorem u_5 : Try.prog.underlying 5 = some (.int .u8) := by kernel_rfl
instance : CU Try.prog 5 .u8 := ⟨u_5⟩
theorem z_5 : zeroA Try.prog 5 = some [.v (.int .u8 0)] := by kernel_rfl
instance : CZ Try.prog 5 [.v (.int .u8 0)] := ⟨z_5⟩
theorem s1_6 : isS1 Try.prog 6 = true := by kernel_rfl
instance : C1 Try.prog 6 := ⟨s1_6⟩
theorem el_6 : elOkQ Try.prog 6 1 = true := by kernel_rfl
instance : CE Try.prog 6 1 := ⟨el_6⟩
theorem u_6 : Try.prog.underlying 6 = some (.int .u8) := by kernel_rfl
instance : CU Try.prog 6 .u8 := ⟨u_6⟩
theorem z_6 : zeroA Try.prog 6 = some [.v (.int .u8 0)] := by kernel_rfl
instance : CZ Try.prog 6 [.v (.int .u8 0)] := ⟨z_6⟩
theorem ag_7 : isAg Try.prog 7 4 = true := by kernel_rfl
instance : CA Try.prog 7 4 := ⟨ag_7⟩
theorem el_7 : elOkQ Try.prog 7 4 = true := by kernel_rfl
instance : CE Try.prog 7 4 := ⟨el_7⟩
theorem fad_7_0 : fadOf Try.prog 7 0 = some 0 := by kernel_rfl
instance : CF Try.prog 7 0 0 := ⟨fad_7_0⟩
theorem fad_7_1 : fadOf Try.prog 7 1 = some 1 := by kernel_rfl
instance : CF Try.prog 7 1 1 := ⟨fad_7_1⟩
theorem fad_7_2 : fadOf Try.prog 7 2 = some 2 := by kernel_rfl
instance : CF Try.prog 7 2 2 := ⟨fad_7_2⟩
theorem fad_7_3 : fadOf Try.prog 7 3 = some 3 := by kernel_rfl
instance : CF Try.prog 7 3 3 := ⟨fad_7_3⟩
theorem z_7 : zeroA Try.prog 7 = some [.v (.int .i64 0), .v (.int .i64 0), .v (.bool false), .v (.int .u8 0)] := by kernel_rfl
instance : CZ Try.prog 7 [.v (.int .i64 0), .v (.int .i64 0), .v (.bool false), .v (.int .u8 0)] := ⟨z_7⟩
theorem ag_8 : isAg Try.prog 8 4 = true := by kernel_rfl
instance : CA Try.prog 8 4 := ⟨ag_8⟩
theorem el_8 : elOkQ Try.prog 8 4 = true := by kernel_rfl
instance : CE Try.prog 8 4 := ⟨el_8⟩
theorem fad_8_0 : fadOf Try.prog 8 0 = some 0 := by kernel_rfl
instance : CF Try.prog 8 0 0 := ⟨fad_8_0⟩
theorem fad_8_1 : fadOf Try.prog 8 1 = some 1 := by kernel_rfl
instance : CF Try.prog 8 1 1 := ⟨fad_8_1⟩
theorem fad_8_2 : fadOf Try.prog 8 2 = some 2 := by kernel_rfl
instance : CF Try.prog 8 2 2 := ⟨fad_8_2⟩
theorem fad_8_3 : fadOf Try.prog 8 3 = some 3 := by kernel_rfl
instance : CF Try.prog 8 3 3 := ⟨fad_8_3⟩
theorem z_8 : zeroA Try.prog 8 = some [.v (.int .i64 0), .v (.int .i64 0), .v (.bool false), .v (.int .u8 0)] := by kernel_rfl
instance : CZ Try.prog 8 [.v (.int .i64 0), .v (.int .i64 0), .v (.bool false), .v (.int .u8 0)] := ⟨z_8⟩
theorem s1_9 : isS1 Try.prog 9 = true := by kernel_rfl
instance : C1 Try.prog 9 := ⟨s1_9⟩
theorem st_9 : strTy Try.prog 9 = true := by kernel_rfl
instance : CT Try.prog 9 := ⟨st_9⟩
theorem el_9 : elOkQ Try.prog 9 1 = true := by kernel_rfl
instance : CE Try.prog 9 1 := ⟨el_9⟩
theorem z_9 : zeroA Try.prog 9 = some [.v (.string (mkB []))] := by kernel_rfl
instance : CZ Try.prog 9 [.v (.string (mkB []))] := ⟨z_9⟩
theorem s1_10 : isS1 Try.prog 10 = true := by kernel_rfl
instance : C1 Try.prog 10 := ⟨s1_10⟩
theorem st_10 : strTy Try.prog 10 = true := by kernel_rfl
instance : CT Try.prog 10 := ⟨st_10⟩
theorem el_10 : elOkQ Try.prog 10 1 = true := by kernel_rfl
instance : CE Try.prog 10 1 := ⟨el_10⟩
theorem z_10 : zeroA Try.prog 10 = some [.v (.string (mkB []))] := by kernel_rfl
instance : CZ Try.prog 10 [.v (.string (mkB []))] := ⟨z_10⟩
theorem s1_11 : isS1 Try.prog 11 = true := by kernel_rfl
instance : C1 Try.prog 11 := ⟨s1_11⟩
theorem st_11 : strTy Try.prog 11 = true := by kernel_rfl
instance : CT Try.prog 11 := ⟨st_11⟩
theorem el_11 : elOkQ Try.prog 11 1 = true := by kernel_rfl
instance : CE Try.prog 11 1 := ⟨el_11⟩
theorem z_11 : zeroA Try.prog 11 = some [.v (.string (mkB []))] := by kernel_rfl
instance : CZ Try.prog 11 [.v (.string (mkB []))] := ⟨z_11⟩
theorem s1_12 : isS1 Try.prog 12 = true := by kernel_rfl
instance : C1 Try.prog 12 := ⟨s1_12⟩
theorem el_12 : elOkQ Try.prog 12 1 = true := by kernel_rfl
instance : CE Try.prog 12 1 := ⟨el_12⟩
theorem u_12 : Try.prog.underlying 12 = some (.int .u64) := by kernel_rfl
instance : CU Try.prog 12 .u64 := ⟨u_12⟩
theorem z_12 : zeroA Try.prog 12 = some [.v (.int .u64 0)] := by kernel_rfl
instance : CZ Try.prog 12 [.v (.int .u64 0)] := ⟨z_12⟩
theorem ag_13 : isAg Try.prog 13 2 = true := by kernel_rfl
instance : CA Try.prog 13 2 := ⟨ag_13⟩
theorem el_13 : elOkQ Try.prog 13 2 = true := by kernel_rfl
instance : CE Try.prog 13 2 := ⟨el_13⟩
theorem fad_13_0 : fadOf Try.prog 13 0 = some 0 := by kernel_rfl
instance : CF Try.prog 13 0 0 := ⟨fad_13_0⟩
theorem fad_13_1 : fadOf Try.prog 13 1 = some 1 := by kernel_rfl
instance : CF Try.prog 13 1 1 := ⟨fad_13_1⟩
theorem z_13 : zeroA Try.prog 13 = some [.v (.string (mkB [])), .v (.int .u64 0)] := by kernel_rfl
instance : CZ Try.prog 13 [.v (.string (mkB [])), .v (.int .u64 0)] := ⟨z_13⟩
theorem ag_14 : isAg Try.prog 14 2 = true := by kernel_rfl
instance : CA Try.prog 14 2 := ⟨ag_14⟩
theorem el_14 : elOkQ Try.prog 14 2 = true := by kernel_rfl
instance : CE Try.prog 14 2 := ⟨el_14⟩
theorem fad_14_0 : fadOf Try.prog 14 0 = some 0 := by kernel_rfl
instance : CF Try.prog 14 0 0 := ⟨fad_14_0⟩
theorem fad_14_1 : fadOf Try.prog 14 1 = some 1 := by kernel_rfl
instance : CF Try.prog 14 1 1 := ⟨fad_14_1⟩
theorem z_14 : zeroA Try.prog 14 = some [.v (.string (mkB [])), .v (.int .u64 0)] := by kernel_rfl
instance : CZ Try.prog 14 [.v (.string (mkB [])), .v (.int .u64 0)] := ⟨z_14⟩
theorem s1_15 : isS1 Try.prog 15 = true := by kernel_rfl
instance : C1 Try.prog 15 := ⟨s1_15⟩
theorem el_15 : elOkQ Try.prog 15 1 = true := by kernel_rfl
instance : CE Try.prog 15 1 := ⟨el_15⟩
theorem z_15 : zeroA Try.prog 15 = some [.v (.pointer none)] := by kernel_rfl
instance : CZ Try.prog 15 [.v (.pointer none)] := ⟨z_15⟩
theorem s1_16 : isS1 Try.prog 16 = true := by kernel_rfl
instance : C1 Try.prog 16 := ⟨s1_16⟩
theorem el_16 : elOkQ Try.prog 16 1 = true := by kernel_rfl
instance : CE Try.prog 16 1 := ⟨el_16⟩
theorem z_16 : zeroA Try.prog 16 = some [.v (.pointer none)] := by kernel_rfl
instance : CZ Try.prog 16 [.v (.pointer none)] := ⟨z_16⟩
theorem s1_17 : isS1 Try.prog 17 = true := by kernel_rfl
instance : C1 Try.prog 17 := ⟨s1_17⟩
theorem el_17 : elOkQ Try.prog 17 1 = true := by kernel_rfl
instance : CE Try.prog 17 1 := ⟨el_17⟩
theorem z_17 : zeroA Try.prog 17 = some [.v (.pointer none)] := by kernel_rfl
instance : CZ Try.prog 17 [.v (.pointer none)] := ⟨z_17⟩
theorem ag_18 : isAg Try.prog 18 1 = true := by kernel_rfl
instance : CA Try.prog 18 1 := ⟨ag_18⟩
theorem el_18 : elOkQ Try.prog 18 1 = true := by kernel_rfl
instance : CE Try.prog 18 1 := ⟨el_18⟩
theorem fad_18_0 : fadOf Try.prog 18 0 = some 0 := by kernel_rfl
instance : CF Try.prog 18 0 0 := ⟨fad_18_0⟩
theorem z_18 : zeroA Try.prog 18 = some [.v (.pointer none)] := by kernel_rfl
instance : CZ Try.prog 18 [.v (.pointer none)] := ⟨z_18⟩
theorem ag_19 : isAg Try.prog 19 1 = true := by kernel_rfl
instance : CA Try.prog 19 1 := ⟨ag_19⟩
theorem el_19 : elOkQ Try.prog 19 1 = true := by kernel_rfl
instance : CE Try.prog 19 1 := ⟨el_19⟩
theorem fad_19_0 : fadOf Try.prog 19 0 = some 0 := by kernel_rfl
instance : CF Try.prog 19 0 0 := ⟨fad_19_0⟩
theorem z_19 : zeroA Try.prog 19 = some [.v (.pointer none)] := by kernel_rfl
instance : CZ Try.prog 19 [.v (.pointer none)] := ⟨z_19⟩
theorem s1_20 : isS1 Try.prog 20 = true := by kernel_rfl
instance : C1 Try.prog 20 := ⟨s1_20⟩
theorem el_20 : elOkQ Try.prog 20 1 = true := by kernel_rfl
instance : CE Try.prog 20 1 := ⟨el_20⟩
theorem z_20 : zeroA Try.prog 20 = some [.v .nilIface] := by kernel_rfl
instance : CZ Try.prog 20 [.v .nilIface] := ⟨z_20⟩
theorem s1_21 : isS1 Try.prog 21 = true := by kernel_rfl
instance : C1 Try.prog 21 := ⟨s1_21⟩
theorem el_21 : elOkQ Try.prog 21 1 = true := by kernel_rfl
instance : CE Try.prog 21 1 := ⟨el_21⟩
theorem u_21 : Try.prog.underlying 21 = some (.int .i32) := by kernel_rfl
instance : CU Try.prog 21 .i32 := ⟨u_21⟩
theorem z_21 : zeroA Try.prog 21 = some [.v (.int .i32 0)] := by kernel_rfl
instance : CZ Try.prog 21 [.v (.int .i32 0)] := ⟨z_21⟩
theorem ag_22 : isAg Try.prog 22 3 = true := by kernel_rfl
instance : CA Try.prog 22 3 := ⟨ag_22⟩
theorem el_22 : elOkQ Try.prog 22 3 = true := by kernel_rfl
instance : CE Try.prog 22 3 := ⟨el_22⟩
theorem fad_22_0 : fadOf Try.prog 22 0 = some 0 := by kernel_rfl
instance : CF Try.prog 22 0 0 := ⟨fad_22_0⟩
theorem fad_22_1 : fadOf Try.prog 22 1 = some 1 := by kernel_rfl
instance : CF Try.prog 22 1 1 := ⟨fad_22_1⟩
theorem fad_22_2 : fadOf Try.prog 22 2 = some 2 := by kernel_rfl
instance : CF Try.prog 22 2 2 := ⟨fad_22_2⟩
theorem z_22 : zeroA Try.prog 22 = some [.v (.string (mkB [])), .v (.int .i64 0), .v (.int .i64 0)] := by kernel_rfl
instance : CZ Try.prog 22 [.v (.string (mkB [])), .v (.int .i64 0), .v (.int .i64 0)] := ⟨z_22⟩
theorem ag_23 : isAg Try.prog 23 3 = true := by kernel_rfl
instance : CA Try.prog 23 3 := ⟨ag_23⟩
theorem el_23 : elOkQ Try.prog 23 3 = true := by kernel_rfl
instance : CE Try.prog 23 3 := ⟨el_23⟩
theorem fad_23_0 : fadOf Try.prog 23 0 = some 0 := by kernel_rfl
instance : CF Try.prog 23 0 0 := ⟨fad_23_0⟩
theorem fad_23_1 : fadOf Try.prog 23 1 = some 1 := by kernel_rfl
instance : CF Try.prog 23 1 1 := ⟨fad_23_1⟩
theorem fad_23_2 : fadOf Try.prog 23 2 = some 2 := by kernel_rfl
instance : CF Try.prog 23 2 2 := ⟨fad_23_2⟩
theorem z_23 : zeroA Try.prog 23 = some [.v (.string (mkB [])), .v (.int .i64 0), .v (.int .i64 0)] := by kernel_rfl
instance : CZ Try.prog 23 [.v (.string (mkB [])), .v (.int .i64 0), .v (.int .i64 0)] := ⟨z_23⟩
theorem s1_24 : isS1 Try.prog 24 = true := by kernel_rfl
instance : C1 Try.prog 24 := ⟨s1_24⟩
theorem el_24 : elOkQ Try.prog 24 1 = true := by kernel_rfl
instance : CE Try.prog 24 1 := ⟨el_24⟩
theorem u_24 : Try.prog.underlying 24 = some (.int .u64) := by kernel_rfl
instance : CU Try.prog 24 .u64 := ⟨u_24⟩
theorem z_24 : zeroA Try.prog 24 = some [.v (.int .u64 0)] := by kernel_rfl
instance : CZ Try.prog 24 [.v (.int .u64 0)] := ⟨z_24⟩
theorem s1_25 : isS1 Try.prog 25 = true := by kernel_rfl
instance : C1 Try.prog 25 := ⟨s1_25⟩
theorem el_25 : elOkQ Try.prog 25 1 = true := by kernel_rfl
instance : CE Try.prog 25 1 := ⟨el_25⟩
theorem z_25 : zeroA Try.prog 25 = some [.v .nilFunc] := by kernel_rfl
instance : CZ Try.prog 25 [.v .nilFunc] := ⟨z_25⟩
theorem s1_26 : isS1 Try.prog 26 = true := by kernel_rfl
instance : C1 Try.prog 26 := ⟨s1_26⟩
theorem el_26 : elOkQ Try.prog 26 1 = true := by kernel_rfl
instance : CE Try.prog 26 1 := ⟨el_26⟩
theorem u_26 : Try.prog.underlying 26 = some (.int .i64) := by kernel_rfl
instance : CU Try.prog 26 .i64 := ⟨u_26⟩
theorem z_26 : zeroA Try.prog 26 = some [.v (.int .i64 0)] := by kernel_rfl
instance : CZ Try.prog 26 [.v (.int .i64 0)] := ⟨z_26⟩
theorem s1_28 : isS1 Try.prog 28 = true := by kernel_rfl
instance : C1 Try.prog 28 := ⟨s1_28⟩
theorem el_28 : elOkQ Try.prog 28 1 = true := by kernel_rfl
instance : CE Try.prog 28 1 := ⟨el_28⟩
theorem z_28 : zeroA Try.prog 28 = some [.v .nilFunc] := by kernel_rfl
instance : CZ Try.prog 28 [.v .nilFunc] := ⟨z_28⟩
theorem s1_29 : isS1 Try.prog 29 = true := by kernel_rfl
instance : C1 Try.prog 29 := ⟨s1_29⟩
theorem el_29 : elOkQ Try.prog 29 1 = true := by kernel_rfl
instance : CE Try.prog 29 1 := ⟨el_29⟩
theorem z_29 : zeroA Try.prog 29 = some [.v .nilFunc] := by kernel_rfl
instance : CZ Try.prog 29 [.v .nilFunc] := ⟨z_29⟩
theorem s1_31 : isS1 Try.prog 31 = true := by kernel_rfl
instance : C1 Try.prog 31 := ⟨s1_31⟩
theorem el_31 : elOkQ Try.prog 31 1 = true := by kernel_rfl
instance : CE Try.prog 31 1 := ⟨el_31⟩
theorem z_31 : zeroA Try.prog 31 = some [.v .nilFunc] := by kernel_rfl
instance : CZ Try.prog 31 [.v .nilFunc] := ⟨z_31⟩
theorem s1_32 : isS1 Try.prog 32 = true := by kernel_rfl
instance : C1 Try.prog 32 := ⟨s1_32⟩
theorem el_32 : elOkQ Try.prog 32 1 = true := by kernel_rfl
instance : CE Try.prog 32 1 := ⟨el_32⟩
theorem z_32 : zeroA Try.prog 32 = some [.v .nilFunc] := by kernel_rfl
instance : CZ Try.prog 32 [.v .nilFunc] := ⟨z_32⟩
theorem s1_33 : isS1 Try.prog 33 = true := by kernel_rfl
instance : C1 Try.prog 33 := ⟨s1_33⟩
theorem el_33 : elOkQ Try.prog 33 1 = true := by kernel_rfl
instance : CE Try.prog 33 1 := ⟨el_33⟩
theorem sl_33 : sliOf Try.prog 33 = some (3, 1) := by kernel_rfl
instance : CS Try.prog 33 3 1 := ⟨sl_33⟩
theorem z_33 : zeroA Try.prog 33 = some [.v (.slice none 0 0)] := by kernel_rfl
instance : CZ Try.prog 33 [.v (.slice none 0 0)] := ⟨z_33⟩
theorem s1_34 : isS1 Try.prog 34 = true := by kernel_rfl
instance : C1 Try.prog 34 := ⟨s1_34⟩
theorem el_34 : elOkQ Try.prog 34 1 = true := by kernel_rfl
instance : CE Try.prog 34 1 := ⟨el_34⟩
theorem z_34 : zeroA Try.prog 34 = some [.v .nilFunc] := by kernel_rfl
instance : CZ Try.prog 34 [.v .nilFunc] := ⟨z_34⟩
theorem s1_35 : isS1 Try.prog 35 = true := by kernel_rfl
instance : C1 Try.prog 35 := ⟨s1_35⟩
theorem el_35 : elOkQ Try.prog 35 1 = true := by kernel_rfl
instance : CE Try.prog 35 1 := ⟨el_35⟩
theorem z_35 : zeroA Try.prog 35 = some [.v .nilFunc] := by kernel_rfl
instance : CZ Try.prog 35 [.v .nilFunc] := ⟨z_35⟩
theorem s1_37 : isS1 Try.prog 37 = true := by kernel_rfl
instance : C1 Try.prog 37 := ⟨s1_37⟩
theorem el_37 : elOkQ Try.prog 37 1 = true := by kernel_rfl
instance : CE Try.prog 37 1 := ⟨el_37⟩
theorem z_37 : zeroA Try.prog 37 = some [.v .nilFunc] := by kernel_rfl
instance : CZ Try.prog 37 [.v .nilFunc] := ⟨z_37⟩
theorem ag_38 : isAg Try.prog 38 2 = true := by kernel_rfl
instance : CA Try.prog 38 2 := ⟨ag_38⟩
theorem el_38 : elOkQ Try.prog 38 2 = true := by kernel_rfl
instance : CE Try.prog 38 2 := ⟨el_38⟩
theorem fad_38_0 : fadOf Try.prog 38 0 = some 0 := by kernel_rfl
instance : CF Try.prog 38 0 0 := ⟨fad_38_0⟩
theorem fad_38_1 : fadOf Try.prog 38 1 = some 1 := by kernel_rfl
instance : CF Try.prog 38 1 1 := ⟨fad_38_1⟩
theorem z_38 : zeroA Try.prog 38 = some [.v (.string (mkB [])), .v (.int .i64 0)] := by kernel_rfl
instance : CZ Try.prog 38 [.v (.string (mkB [])), .v (.int .i64 0)] := ⟨z_38⟩
theorem ag_39 : isAg Try.prog 39 2 = true := by kernel_rfl
instance : CA Try.prog 39 2 := ⟨ag_39⟩
theorem el_39 : elOkQ Try.prog 39 2 = true := by kernel_rfl
instance : CE Try.prog 39 2 := ⟨el_39⟩
theorem fad_39_0 : fadOf Try.prog 39 0 = some 0 := by kernel_rfl
instance : CF Try.prog 39 0 0 := ⟨fad_39_0⟩
theorem fad_39_1 : fadOf Try.prog 39 1 = some 1 := by kernel_rfl
instance : CF Try.prog 39 1 1 := ⟨fad_39_1⟩
theorem z_39 : zeroA Try.prog 39 = some [.v (.string (mkB [])), .v (.int .i64 0)] := by kernel_rfl
instance : CZ Try.prog 39 [.v (.string (mkB [])), .v (.int .i64 0)] := ⟨z_39⟩
theorem s1_41 : isS1 Try.prog 41 = true := by kernel_rfl
instance : C1 Try.prog 41 := ⟨s1_41⟩
theorem el_41 : elOkQ Try.prog 41 1 = true := by kernel_rfl
instance : CE Try.prog 41 1 := ⟨el_41⟩
theorem z_41 : zeroA Try.prog 41 = some [.v .nilFunc] := by kernel_rfl
instance : CZ Try.prog 41 [.v .nilFunc] := ⟨z_41⟩
theorem s1_42 : isS1 Try.prog 42 = true := by kernel_rfl
instance : C1 Try.prog 42 := ⟨s1_42⟩
theorem el_42 : elOkQ Try.prog 42 1 = true := by kernel_rfl
instance : CE Try.prog 42 1 := ⟨el_42⟩
theorem sl_42 : sliOf Try.prog 42 = some (5, 1) := by kernel_rfl
instance : CS Try.prog 42 5 1 := ⟨sl_42⟩
theorem z_42 : zeroA Try.prog 42 = some [.v (.slice none 0 0)] := by kernel_rfl
instance : CZ Try.prog 42 [.v (.slice none 0 0)] := ⟨z_42⟩
theorem s1_43 : isS1 Try.prog 43 = true := by kernel_rfl
instance : C1 Try.prog 43 := ⟨s1_43⟩
theorem el_43 : elOkQ Try.prog 43 1 = true := by kernel_rfl
instance : CE Try.prog 43 1 := ⟨el_43⟩
theorem z_43 : zeroA Try.prog 43 = some [.v .nilFunc] := by kernel_rfl
instance : CZ Try.prog 43 [.v .nilFunc] := ⟨z_43⟩
theorem s1_45 : isS1 Try.prog 45 = true := by kernel_rfl
instance : C1 Try.prog 45 := ⟨s1_45⟩
theorem el_45 : elOkQ Try.prog 45 1 = true := by kernel_rfl
instance : CE Try.prog 45 1 := ⟨el_45⟩
theorem z_45 : zeroA Try.prog 45 = some [.v .nilFunc] := by kernel_rfl
instance : CZ Try.prog 45 [.v .nilFunc] := ⟨z_45⟩
theorem s1_46 : isS1 Try.prog 46 = true := by kernel_rfl
instance : C1 Try.prog 46 := ⟨s1_46⟩
theorem el_46 : elOkQ Try.prog 46 1 = true := by kernel_rfl
instance : CE Try.prog 46 1 := ⟨el_46⟩
theorem z_46 : zeroA Try.prog 46 = some [.v .nilFunc] := by kernel_rfl
instance : CZ Try.prog 46 [.v .nilFunc] := ⟨z_46⟩
theorem s1_48 : isS1 Try.prog 48 = true := by kernel_rfl
instance : C1 Try.prog 48 := ⟨s1_48⟩
theorem el_48 : elOkQ Try.prog 48 1 = true := by kernel_rfl
instance : CE Try.prog 48 1 := ⟨el_48⟩
theorem z_48 : zeroA Try.prog 48 = some [.v .nilFunc] := by kernel_rfl
instance : CZ Try.prog 48 [.v .nilFunc] := ⟨z_48⟩
theorem s1_49 : isS1 Try.prog 49 = true := by kernel_rfl
instance : C1 Try.prog 49 := ⟨s1_49⟩
theorem el_49 : elOkQ Try.prog 49 1 = true := by kernel_rfl
instance : CE Try.prog 49 1 := ⟨el_49⟩
theorem u_49 : Try.prog.underlying 49 = some (.int .u64) := by kernel_rfl
instance : CU Try.prog 49 .u64 := ⟨u_49⟩
theorem z_49 : zeroA Try.prog 49 = some [.v (.int .u64 0)] := by kernel_rfl
instance : CZ Try.prog 49 [.v (.int .u64 0)] := ⟨z_49⟩
theorem s1_50 : isS1 Try.prog 50 = true := by kernel_rfl
instance : C1 Try.prog 50 := ⟨s1_50⟩
theorem el_50 : elOkQ Try.prog 50 1 = true := by kernel_rfl
instance : CE Try.prog 50 1 := ⟨el_50⟩
theorem z_50 : zeroA Try.prog 50 = some [.v .nilFunc] := by kernel_rfl
instance : CZ Try.prog 50 [.v .nilFunc] := ⟨z_50⟩
theorem s1_51 : isS1 Try.prog 51 = true := by kernel_rfl
instance : C1 Try.prog 51 := ⟨s1_51⟩
theorem el_51 : elOkQ Try.prog 51 1 = true := by kernel_rfl
instance : CE Try.prog 51 1 := ⟨el_51⟩
theorem z_51 : zeroA Try.prog 51 = some [.v .nilFunc] := by kernel_rfl
instance : CZ Try.prog 51 [.v .nilFunc] := ⟨z_51⟩
theorem s1_52 : isS1 Try.prog 52 = true := by kernel_rfl
instance : C1 Try.prog 52 := ⟨s1_52⟩
theorem el_52 : elOkQ Try.prog 52 1 = true := by kernel_rfl
instance : CE Try.prog 52 1 := ⟨el_52⟩
theorem z_52 : zeroA Try.prog 52 = some [.v .nilFunc] := by kernel_rfl
instance : CZ Try.prog 52 [.v .nilFunc] := ⟨z_52⟩
theorem s1_53 : isS1 Try.prog 53 = true := by kernel_rfl
instance : C1 Try.prog 53 := ⟨s1_53⟩
theorem el_53 : elOkQ Try.prog 53 1 = true := by kernel_rfl
instance : CE Try.prog 53 1 := ⟨el_53⟩
theorem z_53 : zeroA Try.prog 53 = some [.v .nilFunc] := by kernel_rfl
instance : CZ Try.prog 53 [.v .nilFunc] := ⟨z_53⟩
theorem s1_54 : isS1 Try.prog 54 = true := by kernel_rfl
instance : C1 Try.prog 54 := ⟨s1_54⟩
theorem el_54 : elOkQ Try.prog 54 1 = true := by kernel_rfl
instance : CE Try.prog 54 1 := ⟨el_54⟩
theorem z_54 : zeroA Try.prog 54 = some [.v .nilFunc] := by kernel_rfl
instance : CZ Try.prog 54 [.v .nilFunc] := ⟨z_54⟩
theorem s1_55 : isS1 Try.prog 55 = true := by kernel_rfl
instance : C1 Try.prog 55 := ⟨s1_55⟩
theorem el_55 : elOkQ Try.prog 55 1 = true := by kernel_rfl
instance : CE Try.prog 55 1 := ⟨el_55⟩
theorem z_55 : zeroA Try.prog 55 = some [.v .nilFunc] := by kernel_rfl
instance : CZ Try.prog 55 [.v .nilFunc] := ⟨z_55⟩
theorem s1_56 : isS1 Try.prog 56 = true := by kernel_rfl
instance : C1 Try.prog 56 := ⟨s1_56⟩
theorem el_56 : elOkQ Try.prog 56 1 = true := by kernel_rfl
instance : CE Try.prog 56 1 := ⟨el_56⟩
theorem z_56 : zeroA Try.prog 56 = some [.v .nilFunc] := by kernel_rfl
instance : CZ Try.prog 56 [.v .nilFunc] := ⟨z_56⟩
theorem s1_57 : isS1 Try.prog 57 = true := by kernel_rfl
instance : C1 Try.prog 57 := ⟨s1_57⟩
theorem el_57 : elOkQ Try.prog 57 1 = true := by kernel_rfl
instance : CE Try.prog 57 1 := ⟨el_57⟩
theorem z_57 : zeroA Try.prog 57 = some [.v .nilFunc] := by kernel_rfl
instance : CZ Try.prog 57 [.v .nilFunc] := ⟨z_57⟩
theorem s1_58 : isS1 Try.prog 58 = true := by kernel_rfl
instance : C1 Try.prog 58 := ⟨s1_58⟩
theorem el_58 : elOkQ Try.prog 58 1 = true := by kernel_rfl
instance : CE Try.prog 58 1 := ⟨el_58⟩
theorem z_58 : zeroA Try.prog 58 = some [.v .nilFunc] := by kernel_rfl
instance : CZ Try.prog 58 [.v .nilFunc] := ⟨z_58⟩
theorem s1_59 : isS1 Try.prog 59 = true := by kernel_rfl
instance : C1 Try.prog 59 := ⟨s1_59⟩
theorem el_59 : elOkQ Try.prog 59 1 = true := by kernel_rfl
instance : CE Try.prog 59 1 := ⟨el_59⟩
theorem z_59 : zeroA Try.prog 59 = some [.v .nilFunc] := by kernel_rfl
instance : CZ Try.prog 59 [.v .nilFunc] := ⟨z_59⟩
theorem s1_60 : isS1 Try.prog 60 = true := by kernel_rfl
instance : C1 Try.prog 60 := ⟨s1_60⟩
theorem el_60 : elOkQ Try.prog 60 1 = true := by kernel_rfl
instance : CE Try.prog 60 1 := ⟨el_60⟩
theorem z_60 : zeroA Try.prog 60 = some [.v (.pointer none)] := by kernel_rfl
instance : CZ Try.prog 60 [.v (.pointer none)] := ⟨z_60⟩
theorem s1_61 : isS1 Try.prog 61 = true := by kernel_rfl
instance : C1 Try.prog 61 := ⟨s1_61⟩
theorem el_61 : elOkQ Try.prog 61 1 = true := by kernel_rfl
instance : CE Try.prog 61 1 := ⟨el_61⟩
theorem z_61 : zeroA Try.prog 61 = some [.v .nilFunc] := by kernel_rfl
instance : CZ Try.prog 61 [.v .nilFunc] := ⟨z_61⟩
theorem s1_62 : isS1 Try.prog 62 = true := by kernel_rfl
instance : C1 Try.prog 62 := ⟨s1_62⟩
theorem el_62 : elOkQ Try.prog 62 1 = true := by kernel_rfl
instance : CE Try.prog 62 1 := ⟨el_62⟩
theorem z_62 : zeroA Try.prog 62 = some [.v .nilFunc] := by kernel_rfl
instance : CZ Try.prog 62 [.v .nilFunc] := ⟨z_62⟩
theorem ag_63 : isAg Try.prog 63 2 = true := by kernel_rfl
instance : CA Try.prog 63 2 := ⟨ag_63⟩
theorem el_63 : elOkQ Try.prog 63 2 = true := by kernel_rfl
instance : CE Try.prog 63 2 := ⟨el_63⟩
theorem ar_63 : arrOf Try.prog 63 = some (2, 24, 1) := by kernel_rfl
instance : CR Try.prog 63 2 24 1 := ⟨ar_63⟩
theorem z_63 : zeroA Try.prog 63 = some [.v (.int .u64 0), .v (.int .u64 0)] := by kernel_rfl
instance : CZ Try.prog 63 [.v (.int .u64 0), .v (.int .u64 0)] := ⟨z_63⟩
theorem ag_64 : isAg Try.prog 64 1 = true := by kernel_rfl
instance : CA Try.prog 64 1 := ⟨ag_64⟩
theorem el_64 : elOkQ Try.prog 64 1 = true := by kernel_rfl
instance : CE Try.prog 64 1 := ⟨el_64⟩
theorem fad_64_0 : fadOf Try.prog 64 0 = some 0 := by kernel_rfl
instance : CF Try.prog 64 0 0 := ⟨fad_64_0⟩
theorem z_64 : zeroA Try.prog 64 = some [.v (.string (mkB []))] := by kernel_rfl
instance : CZ Try.prog 64 [.v (.string (mkB []))] := ⟨z_64⟩
theorem ag_65 : isAg Try.prog 65 1 = true := by kernel_rfl
instance : CA Try.prog 65 1 := ⟨ag_65⟩
theorem el_65 : elOkQ Try.prog 65 1 = true := by kernel_rfl
instance : CE Try.prog 65 1 := ⟨el_65⟩
theorem fad_65_0 : fadOf Try.prog 65 0 = some 0 := by kernel_rfl
instance : CF Try.prog 65 0 0 := ⟨fad_65_0⟩
theorem z_65 : zeroA Try.prog 65 = some [.v (.string (mkB []))] := by kernel_rfl
instance : CZ Try.prog 65 [.v (.string (mkB []))] := ⟨z_65⟩
theorem ag_66 : isAg Try.prog 66 3 = true := by kernel_rfl
instance : CA Try.prog 66 3 := ⟨ag_66⟩
theorem el_66 : elOkQ Try.prog 66 3 = true := by kernel_rfl
instance : CE Try.prog 66 3 := ⟨el_66⟩
theorem fad_66_0 : fadOf Try.prog 66 0 = some 0 := by kernel_rfl
instance : CF Try.prog 66 0 0 := ⟨fad_66_0⟩
theorem fad_66_1 : fadOf Try.prog 66 1 = some 1 := by kernel_rfl
instance : CF Try.prog 66 1 1 := ⟨fad_66_1⟩
theorem fad_66_2 : fadOf Try.prog 66 2 = some 2 := by kernel_rfl
instance : CF Try.prog 66 2 2 := ⟨fad_66_2⟩
theorem z_66 : zeroA Try.prog 66 = some [.v (.string (mkB [])), .v (.int .u64 0), .v (.int .i64 0)] := by kernel_rfl
instance : CZ Try.prog 66 [.v (.string (mkB [])), .v (.int .u64 0), .v (.int .i64 0)] := ⟨z_66⟩
theorem ag_67 : isAg Try.prog 67 3 = true := by kernel_rfl
instance : CA Try.prog 67 3 := ⟨ag_67⟩
theorem el_67 : elOkQ Try.prog 67 3 = true := by kernel_rfl
instance : CE Try.prog 67 3 := ⟨el_67⟩
theorem fad_67_0 : fadOf Try.prog 67 0 = some 0 := by kernel_rfl
instance : CF Try.prog 67 0 0 := ⟨fad_67_0⟩
theorem fad_67_1 : fadOf Try.prog 67 1 = some 1 := by kernel_rfl
instance : CF Try.prog 67 1 1 := ⟨fad_67_1⟩
theorem fad_67_2 : fadOf Try.prog 67 2 = some 2 := by kernel_rfl
instance : CF Try.prog 67 2 2 := ⟨fad_67_2⟩
theorem z_67 : zeroA Try.prog 67 = some [.v (.string (mkB [])), .v (.int .u64 0), .v (.int .i64 0)] := by kernel_rfl
instance : CZ Try.prog 67 [.v (.string (mkB [])), .v (.int .u64 0), .v (.int .i64 0)] := ⟨z_67⟩
theorem s1_68 : isS1 Try.prog 68 = true := by kernel_rfl
instance : C1 Try.prog 68 := ⟨s1_68⟩
theorem el_68 : elOkQ Try.prog 68 1 = true := by kernel_rfl
instance : CE Try.prog 68 1 := ⟨el_68⟩
theorem z_68 : zeroA Try.prog 68 = some [.v .nilFunc] := by kernel_rfl
instance : CZ Try.prog 68 [.v .nilFunc] := ⟨z_68⟩
theorem s1_69 : isS1 Try.prog 69 = true := by kernel_rfl
instance : C1 Try.prog 69 := ⟨s1_69⟩
theorem el_69 : elOkQ Try.prog 69 1 = true := by kernel_rfl
instance : CE Try.prog 69 1 := ⟨el_69⟩
theorem z_69 : zeroA Try.prog 69 = some [.v (.pointer none)] := by kernel_rfl
instance : CZ Try.prog 69 [.v (.pointer none)] := ⟨z_69⟩
theorem ag_70 : isAg Try.prog 70 2 = true := by kernel_rfl
instance : CA Try.prog 70 2 := ⟨ag_70⟩
theorem el_70 : elOkQ Try.prog 70 2 = true := by kernel_rfl
instance : CE Try.prog 70 2 := ⟨el_70⟩
theorem fad_70_0 : fadOf Try.prog 70 0 = some 0 := by kernel_rfl
instance : CF Try.prog 70 0 0 := ⟨fad_70_0⟩
theorem fad_70_1 : fadOf Try.prog 70 1 = some 1 := by kernel_rfl
instance : CF Try.prog 70 1 1 := ⟨fad_70_1⟩
theorem z_70 : zeroA Try.prog 70 = some [.v (.string (mkB [])), .v (.int .i64 0)] := by kernel_rfl
instance : CZ Try.prog 70 [.v (.string (mkB [])), .v (.int .i64 0)] := ⟨z_70⟩
theorem ag_71 : isAg Try.prog 71 2 = true := by kernel_rfl
instance : CA Try.prog 71 2 := ⟨ag_71⟩
theorem el_71 : elOkQ Try.prog 71 2 = true := by kernel_rfl
instance : CE Try.prog 71 2 := ⟨el_71⟩
theorem fad_71_0 : fadOf Try.prog 71 0 = some 0 := by kernel_rfl
instance : CF Try.prog 71 0 0 := ⟨fad_71_0⟩
theorem fad_71_1 : fadOf Try.prog 71 1 = some 1 := by kernel_rfl
instance : CF Try.prog 71 1 1 := ⟨fad_71_1⟩
theorem z_71 : zeroA Try.prog 71 = some [.v (.string (mkB [])), .v (.int .i64 0)] := by kernel_rfl
instance : CZ Try.prog 71 [.v (.string (mkB [])), .v (.int .i64 0)] := ⟨z_71⟩
theorem s1_72 : isS1 Try.prog 72 = true := by kernel_rfl
instance : C1 Try.prog 72 := ⟨s1_72⟩
theorem el_72 : elOkQ Try.prog 72 1 = true := by kernel_rfl
instance : CE Try.prog 72 1 := ⟨el_72⟩
theorem z_72 : zeroA Try.prog 72 = some [.v .nilFunc] := by kernel_rfl
instance : CZ Try.prog 72 [.v .nilFunc] := ⟨z_72⟩
theorem s1_73 : isS1 Try.prog 73 = true := by kernel_rfl
instance : C1 Try.prog 73 := ⟨s1_73⟩
theorem el_73 : elOkQ Try.prog 73 1 = true := by kernel_rfl
instance : CE Try.prog 73 1 := ⟨el_73⟩
theorem z_73 : zeroA Try.prog 73 = some [.v .nilFunc] := by kernel_rfl
instance : CZ Try.prog 73 [.v .nilFunc] := ⟨z_73⟩
theorem s1_74 : isS1 Try.prog 74 = true := by kernel_rfl
instance : C1 Try.prog 74 := ⟨s1_74⟩
theorem el_74 : elOkQ Try.prog 74 1 = true := by kernel_rfl
instance : CE Try.prog 74 1 := ⟨el_74⟩
theorem sl_74 : sliOf Try.prog 74 = some (26, 1) := by kernel_rfl
instance : CS Try.prog 74 26 1 := ⟨sl_74⟩
theorem z_74 : zeroA Try.prog 74 = some [.v (.slice none 0 0)] := by kernel_rfl
instance : CZ Try.prog 74 [.v (.slice none 0 0)] := ⟨z_74⟩
theorem s1_75 : isS1 Try.prog 75 = true := by kernel_rfl
instance : C1 Try.prog 75 := ⟨s1_75⟩
theorem el_75 : elOkQ Try.prog 75 1 = true := by kernel_rfl
instance : CE Try.prog 75 1 := ⟨el_75⟩
theorem sl_75 : sliOf Try.prog 75 = some (63, 2) := by kernel_rfl
instance : CS Try.prog 75 63 2 := ⟨sl_75⟩
theorem z_75 : zeroA Try.prog 75 = some [.v (.slice none 0 0)] := by kernel_rfl
instance : CZ Try.prog 75 [.v (.slice none 0 0)] := ⟨z_75⟩
theorem s1_76 : isS1 Try.prog 76 = true := by kernel_rfl
instance : C1 Try.prog 76 := ⟨s1_76⟩
theorem el_76 : elOkQ Try.prog 76 1 = true := by kernel_rfl
instance : CE Try.prog 76 1 := ⟨el_76⟩
theorem z_76 : zeroA Try.prog 76 = some [.v .nilFunc] := by kernel_rfl
instance : CZ Try.prog 76 [.v .nilFunc] := ⟨z_76⟩
theorem s1_77 : isS1 Try.prog 77 = true := by kernel_rfl
instance : C1 Try.prog 77 := ⟨s1_77⟩
theorem el_77 : elOkQ Try.prog 77 1 = true := by kernel_rfl
instance : CE Try.prog 77 1 := ⟨el_77⟩
theorem z_77 : zeroA Try.prog 77 = some [.v .nilFunc] := by kernel_rfl
instance : CZ Try.prog 77 [.v .nilFunc] := ⟨z_77⟩
theorem ag_78 : isAg Try.prog 78 4 = true := by kernel_rfl
instance : CA Try.prog 78 4 := ⟨ag_78⟩
theorem el_78 : elOkQ Try.prog 78 4 = true := by kernel_rfl
instance : CE Try.prog 78 4 := ⟨el_78⟩
theorem fad_78_0 : fadOf Try.prog 78 0 = some 0 := by kernel_rfl
instance : CF Try.prog 78 0 0 := ⟨fad_78_0⟩
theorem fad_78_1 : fadOf Try.prog 78 1 = some 1 := by kernel_rfl
instance : CF Try.prog 78 1 1 := ⟨fad_78_1⟩
theorem fad_78_2 : fadOf Try.prog 78 2 = some 2 := by kernel_rfl
instance : CF Try.prog 78 2 2 := ⟨fad_78_2⟩
theorem fad_78_3 : fadOf Try.prog 78 3 = some 3 := by kernel_rfl
instance : CF Try.prog 78 3 3 := ⟨fad_78_3⟩
theorem z_78 : zeroA Try.prog 78 = some [.v (.pointer none), .v (.pointer none), .v (.pointer none), .v (.string (mkB []))] := by kernel_rfl
instance : CZ Try.prog 78 [.v (.pointer none), .v (.pointer none), .v (.pointer none), .v (.string (mkB []))] := ⟨z_78⟩
theorem ag_79 : isAg Try.prog 79 4 = true := by kernel_rfl
instance : CA Try.prog 79 4 := ⟨ag_79⟩
theorem el_79 : elOkQ Try.prog 79 4 = true := by kernel_rfl
instance : CE Try.prog 79 4 := ⟨el_79⟩
theorem fad_79_0 : fadOf Try.prog 79 0 = some 0 := by kernel_rfl
instance : CF Try.prog 79 0 0 := ⟨fad_79_0⟩
theorem fad_79_1 : fadOf Try.prog 79 1 = some 1 := by kernel_rfl
instance : CF Try.prog 79 1 1 := ⟨fad_79_1⟩
theorem fad_79_2 : fadOf Try.prog 79 2 = some 2 := by kernel_rfl
instance : CF Try.prog 79 2 2 := ⟨fad_79_2⟩
theorem fad_79_3 : fadOf Try.prog 79 3 = some 3 := by kernel_rfl
instance : CF Try.prog 79 3 3 := ⟨fad_79_3⟩
theorem z_79 : zeroA Try.prog 79 = some [.v (.pointer none), .v (.pointer none), .v (.pointer none), .v (.string (mkB []))] := by kernel_rfl
instance : CZ Try.prog 79 [.v (.pointer none), .v (.pointer none), .v (.pointer none), .v (.string (mkB []))] := ⟨z_79⟩
theorem ar_80 : arrOf Try.prog 80 = some (0, 16, 1) := by kernel_rfl
instance : CR Try.prog 80 0 16 1 := ⟨ar_80⟩
theorem z_80 : zeroA Try.prog 80 = some [] := by kernel_rfl
instance : CZ Try.prog 80 [] := ⟨z_80⟩
theorem z_81 : zeroA Try.prog 81 = some [] := by kernel_rfl
instance : CZ Try.prog 81 [] := ⟨z_81⟩
theorem z_82 : zeroA Try.prog 82 = some [] := by kernel_rfl
instance : CZ Try.prog 82 [] := ⟨z_82⟩
theorem s1_83 : isS1 Try.prog 83 = true := by kernel_rfl
instance : C1 Try.prog 83 := ⟨s1_83⟩
theorem el_83 : elOkQ Try.prog 83 1 = true := by kernel_rfl
instance : CE Try.prog 83 1 := ⟨el_83⟩
theorem u_83 : Try.prog.underlying 83 = some (.int .u32) := by kernel_rfl
instance : CU Try.prog 83 .u32 := ⟨u_83⟩
theorem z_83 : zeroA Try.prog 83 = some [.v (.int .u32 0)] := by kernel_rfl
instance : CZ Try.prog 83 [.v (.int .u32 0)] := ⟨z_83⟩
theorem s1_84 : isS1 Try.prog 84 = true := by kernel_rfl
instance : C1 Try.prog 84 := ⟨s1_84⟩
theorem el_84 : elOkQ Try.prog 84 1 = true := by kernel_rfl
instance : CE Try.prog 84 1 := ⟨el_84⟩
theorem u_84 : Try.prog.underlying 84 = some (.int .u8) := by kernel_rfl
instance : CU Try.prog 84 .u8 := ⟨u_84⟩
theorem z_84 : zeroA Try.prog 84 = some [.v (.int .u8 0)] := by kernel_rfl
instance : CZ Try.prog 84 [.v (.int .u8 0)] := ⟨z_84⟩
theorem s1_85 : isS1 Try.prog 85 = true := by kernel_rfl
instance : C1 Try.prog 85 := ⟨s1_85⟩
theorem el_85 : elOkQ Try.prog 85 1 = true := by kernel_rfl
instance : CE Try.prog 85 1 := ⟨el_85⟩
theorem u_85 : Try.prog.underlying 85 = some (.int .u8) := by kernel_rfl
instance : CU Try.prog 85 .u8 := ⟨u_85⟩
theorem z_85 : zeroA Try.prog 85 = some [.v (.int .u8 0)] := by kernel_rfl
instance : CZ Try.prog 85 [.v (.int .u8 0)] := ⟨z_85⟩
theorem s1_86 : isS1 Try.prog 86 = true := by kernel_rfl
instance : C1 Try.prog 86 := ⟨s1_86⟩
theorem el_86 : elOkQ Try.prog 86 1 = true := by kernel_rfl
instance : CE Try.prog 86 1 := ⟨el_86⟩
theorem z_86 : zeroA Try.prog 86 = some [.v .nilFunc] := by kernel_rfl
instance : CZ Try.prog 86 [.v .nilFunc] := ⟨z_86⟩
theorem s1_87 : isS1 Try.prog 87 = true := by kernel_rfl
instance : C1 Try.prog 87 := ⟨s1_87⟩
theorem el_87 : elOkQ Try.prog 87 1 = true := by kernel_rfl
instance : CE Try.prog 87 1 := ⟨el_87⟩
theorem z_87 : zeroA Try.prog 87 = some [.v (.pointer none)] := by kernel_rfl
instance : CZ Try.prog 87 [.v (.pointer none)] := ⟨z_87⟩
theorem s1_88 : isS1 Try.prog 88 = true := by kernel_rfl
instance : C1 Try.prog 88 := ⟨s1_88⟩
theorem el_88 : elOkQ Try.prog 88 1 = true := by kernel_rfl
instance : CE Try.prog 88 1 := ⟨el_88⟩
theorem u_88 : Try.prog.underlying 88 = some (.int .i32) := by kernel_rfl
instance : CU Try.prog 88 .i32 := ⟨u_88⟩
theorem z_88 : zeroA Try.prog 88 = some [.v (.int .i32 0)] := by kernel_rfl
instance : CZ Try.prog 88 [.v (.int .i32 0)] := ⟨z_88⟩
theorem s1_89 : isS1 Try.prog 89 = true := by kernel_rfl
instance : C1 Try.prog 89 := ⟨s1_89⟩
theorem el_89 : elOkQ Try.prog 89 1 = true := by kernel_rfl
instance : CE Try.prog 89 1 := ⟨el_89⟩
theorem u_89 : Try.prog.underlying 89 = some (.int .i32) := by kernel_rfl
instance : CU Try.prog 89 .i32 := ⟨u_89⟩
theorem z_89 : zeroA Try.prog 89 = some [.v (.int .i32 0)] := by kernel_rfl
instance : CZ Try.prog 89 [.v (.int .i32 0)] := ⟨z_89⟩
theorem ag_90 : isAg Try.prog 90 11 = true := by kernel_rfl
instance : CA Try.prog 90 11 := ⟨ag_90⟩
theorem fad_90_0 : fadOf Try.prog 90 0 = some 0 := by kernel_rfl
instance : CF Try.prog 90 0 0 := ⟨fad_90_0⟩
theorem fad_90_1 : fadOf Try.prog 90 1 = some 1 := by kernel_rfl
instance : CF Try.prog 90 1 1 := ⟨fad_90_1⟩
theorem fad_90_2 : fadOf Try.prog 90 2 = some 2 := by kernel_rfl
instance : CF Try.prog 90 2 2 := ⟨fad_90_2⟩
theorem fad_90_3 : fadOf Try.prog 90 3 = some 3 := by kernel_rfl
instance : CF Try.prog 90 3 3 := ⟨fad_90_3⟩
theorem fad_90_4 : fadOf Try.prog 90 4 = some 4 := by kernel_rfl
instance : CF Try.prog 90 4 4 := ⟨fad_90_4⟩
theorem fad_90_5 : fadOf Try.prog 90 5 = some 5 := by kernel_rfl
instance : CF Try.prog 90 5 5 := ⟨fad_90_5⟩
theorem fad_90_6 : fadOf Try.prog 90 6 = some 6 := by kernel_rfl
instance : CF Try.prog 90 6 6 := ⟨fad_90_6⟩
theorem fad_90_7 : fadOf Try.prog 90 7 = some 7 := by kernel_rfl
instance : CF Try.prog 90 7 7 := ⟨fad_90_7⟩
theorem z_90 : zeroA Try.prog 90 = some [.v (.int .u64 0), .v (.int .u64 0), .v (.int .u32 0), .v (.int .u8 0), .v (.int .u8 0), .v (.int .u8 0), .v (.int .u8 0), .v .nilFunc, .v (.pointer none), .v (.int .i32 0), .v (.int .i32 0)] := by kernel_rfl
instance : CZ Try.prog 90 [.v (.int .u64 0), .v (.int .u64 0), .v (.int .u32 0), .v (.int .u8 0), .v (.int .u8 0), .v (.int .u8 0), .v (.int .u8 0), .v .nilFunc, .v (.pointer none), .v (.int .i32 0), .v (.int .i32 0)] := ⟨z_90⟩
theorem ag_91 : isAg Try.prog 91 11 = true := by kernel_rfl
instance : CA Try.prog 91 11 := ⟨ag_91⟩
theorem fad_91_0 : fadOf Try.prog 91 0 = some 0 := by kernel_rfl
instance : CF Try.prog 91 0 0 := ⟨fad_91_0⟩
theorem fad_91_1 : fadOf Try.prog 91 1 = some 1 := by kernel_rfl
instance : CF Try.prog 91 1 1 := ⟨fad_91_1⟩
theorem fad_91_2 : fadOf Try.prog 91 2 = some 2 := by kernel_rfl
instance : CF Try.prog 91 2 2 := ⟨fad_91_2⟩
theorem fad_91_3 : fadOf Try.prog 91 3 = some 3 := by kernel_rfl
instance : CF Try.prog 91 3 3 := ⟨fad_91_3⟩
theorem fad_91_4 : fadOf Try.prog 91 4 = some 4 := by kernel_rfl
instance : CF Try.prog 91 4 4 := ⟨fad_91_4⟩
theorem fad_91_5 : fadOf Try.prog 91 5 = some 5 := by kernel_rfl
instance : CF Try.prog 91 5 5 := ⟨fad_91_5⟩
theorem fad_91_6 : fadOf Try.prog 91 6 = some 6 := by kernel_rfl
instance : CF Try.prog 91 6 6 := ⟨fad_91_6⟩
theorem fad_91_7 : fadOf Try.prog 91 7 = some 7 := by kernel_rfl
instance : CF Try.prog 91 7 7 := ⟨fad_91_7⟩
theorem z_91 : zeroA Try.prog 91 = some [.v (.int .u64 0), .v (.int .u64 0), .v (.int .u32 0), .v (.int .u8 0), .v (.int .u8 0), .v (.int .u8 0), .v (.int .u8 0), .v .nilFunc, .v (.pointer none), .v (.int .i32 0), .v (.int .i32 0)] := by kernel_rfl
instance : CZ Try.prog 91 [.v (.int .u64 0), .v (.int .u64 0), .v (.int .u32 0), .v (.int .u8 0), .v (.int .u8 0), .v (.int .u8 0), .v (.int .u8 0), .v .nilFunc, .v (.pointer none), .v (.int .i32 0), .v (.int .i32 0)] := ⟨z_91⟩
theorem s1_92 : isS1 Try.prog 92 = true := by kernel_rfl
instance : C1 Try.prog 92 := ⟨s1_92⟩
theorem el_92 : elOkQ Try.prog 92 1 = true := by kernel_rfl
instance : CE Try.prog 92 1 := ⟨el_92⟩
theorem z_92 : zeroA Try.prog 92 = some [.v (.pointer none)] := by kernel_rfl
instance : CZ Try.prog 92 [.v (.pointer none)] := ⟨z_92⟩
theorem ok_10 : okFn Try.prog 10 = true := by kernel_rfl
instance : CO Try.prog 10 := ⟨ok_10⟩
theorem ok_11 : okFn Try.prog 11 = true := by kernel_rfl
instance : CO Try.prog 11 := ⟨ok_11⟩
theorem ok_12 : okFn Try.prog 12 = true := by kernel_rfl
instance : CO Try.prog 12 := ⟨ok_12⟩
theorem ok_13 : okFn Try.prog 13 = true := by kernel_rfl
instance : CO Try.prog 13 := ⟨ok_13⟩
theorem ok_14 : okFn Try.prog 14 = true := by kernel_rfl
instance : CO Try.prog 14 := ⟨ok_14⟩
theorem ok_15 : okFn Try.prog 15 = true := by kernel_rfl
instance : CO Try.prog 15 := ⟨ok_15⟩
theorem ok_16 : okFn Try.prog 16 = true := by kernel_rfl
instance : CO Try.prog 16 := ⟨ok_16⟩
theorem ok_17 : okFn Try.prog 17 = true := by kernel_rfl
instance : CO Try.prog 17 := ⟨ok_17⟩
theorem ok_18 : okFn Try.prog 18 = true := by kernel_rfl
instance : CO Try.prog 18 := ⟨ok_18⟩
theorem ok_19 : okFn Try.prog 19 = true := by kernel_rfl
instance : CO Try.prog 19 := ⟨ok_19⟩
theorem ok_20 : okFn Try.prog 20 = true := by kernel_rfl
instance : CO Try.prog 20 := ⟨ok_20⟩
theorem ok_21 : okFn Try.prog 21 = true := by kernel_rfl
instance : CO Try.prog 21 := ⟨ok_21⟩
theorem ok_22 : okFn Try.prog 22 = true := by kernel_rfl
instance : CO Try.prog 22 := ⟨ok_22⟩
theorem ok_23 : okFn Try.prog 23 = true := by kernel_rfl
instance : CO Try.prog 23 := ⟨ok_23⟩
theorem ok_24 : okFn Try.prog 24 = true := by kernel_rfl
instance : CO Try.prog 24 := ⟨ok_24⟩
theorem ok_25 : okFn Try.prog 25 = true := by kernel_rfl
instance : CO Try.prog 25 := ⟨ok_25⟩
theorem ok_26 : okFn Try.prog 26 = true := by kernel_rfl
instance : CO Try.prog 26 := ⟨ok_26⟩
theorem ok_27 : okFn Try.prog 27 = true := by kernel_rfl
instance : CO Try.prog 27 := ⟨ok_27⟩
theorem ok_28 : okFn Try.prog 28 = true := by kernel_rfl
instance : CO Try.prog 28 := ⟨ok_28⟩
theorem ok_29 : okFn Try.prog 29 = true := by kernel_rfl
instance : CO Try.prog 29 := ⟨ok_29⟩
theorem ok_3 : okFn Try.prog 3 = true := by kernel_rfl
instance : CO Try.prog 3 := ⟨ok_3⟩
theorem ok_30 : okFn Try.prog 30 = true := by kernel_rfl
instance : CO Try.prog 30 := ⟨ok_30⟩
theorem ok_31 : okFn Try.prog 31 = true := by kernel_rfl
instance : CO Try.prog 31 := ⟨ok_31⟩
theorem ok_32 : okFn Try.prog 32 = true := by kernel_rfl
instance : CO Try.prog 32 := ⟨ok_32⟩
theorem ok_33 : okFn Try.prog 33 = true := by kernel_rfl
instance : CO Try.prog 33 := ⟨ok_33⟩
theorem ok_34 : okFn Try.prog 34 = true := by kernel_rfl
instance : CO Try.prog 34 := ⟨ok_34⟩
theorem ok_35 : okFn Try.prog 35 = true := by kernel_rfl
instance : CO Try.prog 35 := ⟨ok_35⟩
theorem ok_36 : okFn Try.prog 36 = true := by kernel_rfl
instance : CO Try.prog 36 := ⟨ok_36⟩
theorem ok_37 : okFn Try.prog 37 = true := by kernel_rfl
instance : CO Try.prog 37 := ⟨ok_37⟩
theorem ok_38 : okFn Try.prog 38 = true := by kernel_rfl
instance : CO Try.prog 38 := ⟨ok_38⟩
theorem ok_39 : okFn Try.prog 39 = true := by kernel_rfl
instance : CO Try.prog 39 := ⟨ok_39⟩
theorem ok_4 : okFn Try.prog 4 = true := by kernel_rfl
instance : CO Try.prog 4 := ⟨ok_4⟩
theorem ok_40 : okFn Try.prog 40 = true := by kernel_rfl
instance : CO Try.prog 40 := ⟨ok_40⟩
theorem ok_41 : okFn Try.prog 41 = true := by kernel_rfl
instance : CO Try.prog 41 := ⟨ok_41⟩
theorem ok_42 : okFn Try.prog 42 = true := by kernel_rfl
instance : CO Try.prog 42 := ⟨ok_42⟩
theorem ok_43 : okFn Try.prog 43 = true := by kernel_rfl
instance : CO Try.prog 43 := ⟨ok_43⟩
theorem ok_44 : okFn Try.prog 44 = true := by kernel_rfl
instance : CO Try.prog 44 := ⟨ok_44⟩
theorem ok_5 : okFn Try.prog 5 = true := by kernel_rfl
instance : CO Try.prog 5 := ⟨ok_5⟩
theorem ok_6 : okFn Try.prog 6 = true := by kernel_rfl
instance : CO Try.prog 6 := ⟨ok_6⟩
theorem ok_7 : okFn Try.prog 7 = true := by kernel_rfl
instance : CO Try.prog 7 := ⟨ok_7⟩
theorem ok_8 : okFn Try.prog 8 = true := by kernel_rfl
instance : CO Try.prog 8 := ⟨ok_8⟩
theorem ok_9 : okFn Try.prog 9 = true := by kernel_rfl
instance : CO Try.prog 9 := ⟨ok_9⟩
theorem hm : Try.prog.follows .mixedOrders = true := by kernel_rfl
abbrev U : AV := .v undef
abbrev I (n : Int) : AV := .v (.int .i64 n)
abbrev W64 (n : Int) : AV := .v (.int .u64 n)
abbrev B (b : Bool) : AV := .v (.bool b)
/-- Out of the model's own contract, whatever the arguments look like. -/
theorem acalls_of {P : Program} {g : FuncId} {args : List AV} {vals : List Value} {r : AV} {v : Value} (ha : ∀ ρ, AV.reals ρ args = vals) (hr : ∀ ρ, AV.real ρ r = v) (hs : r.sc 0 = true) (hc : ∀ w, Calls P g vals.toArray w fun e w' => e = .returned v ∧ Below w.heap.size w w') : ACalls P g args [] (fun r' _ => r' = r ∧ r'.sc 0 = true) := by
  intro ρ w _ _
  rw [ha]
  refine (hc w).mono fun e w' hp => ?_
  obtain ⟨rfl, hb⟩ := hp
  exact ⟨ρ, r, [], by rw [hr], hs, Nat.le_refl _, ⟨rfl, hs⟩, hrel_nil P ρ w', ⟨hb.os, hb.tape, hb.output, hb.size, fun b hb' _ => hb.block b hb', fun i o hi => by simp at hi, fun _ _ => rfl⟩⟩
theorem awakeA : ACalls Try.prog 9 [] [] (fun r _ => r = B true ∧ r.sc 0 = true) := acalls_of (vals := []) (v := .bool true) (fun _ => rfl) (fun _ => rfl) rfl awake_any
theorem putA (l : List UInt8) (p N K V : Nat) (h : p < 2 ^ N) (hN : N ≤ 7) (hK : K ≤ 32) (hV : V < 2 ^ K) (hl : l.length + (N + K) / 8 ≤ 1048576) :
    ACalls Try.prog 10 [.agg [St l, I p, I N], I K, W64 V] [] (fun r _ => r = .tup [.agg [St (l ++ emit (p + V * 2 ^ N) ((N + K) / 8)), I (((p + V * 2 ^ N) / 256 ^ ((N + K) / 8) : Nat) : Int), I (((N + K) % 8 : Nat) : Int)], I 0] ∧ r.sc 0 = true) :=
  acalls_of (vals := [.agg #[.string (mkB l), .int .i64 p, .int .i64 N], .int .i64 K, .int .u64 V]) (fun _ => rfl) (fun _ => rfl) rfl (Put_w (mkB l) p N K V h hN hK hV hl)
theorem doneA (l : List UInt8) (p N : Nat) (h : p < 2 ^ N) (hN : N ≤ 7) (hl : l.length < 1048576) :
    ACalls Try.prog 14 [.agg [St l, I p, I N]] [] (fun r _ => r = .tup [St (l ++ [UInt8.ofNat (p + 2 ^ N)]), I 0] ∧ r.sc 0 = true) :=
  acalls_of (vals := [.agg #[.string (mkB l), .int .i64 p, .int .i64 N]]) (fun _ => rfl) (fun _ => rfl) rfl (Done_w (mkB l) p N h hN hl)
/-- The stream of a writer. -/
def strm (l : List UInt8) (p N : Nat) : List UInt8 := l ++ [UInt8.ofNat (p + 2 ^ N)]
theorem strm_b (l : List UInt8) (p N : Nat) : mkB (strm l p N) = doneB (mkB l) p N := rfl
theorem strm_bits (l : List UInt8) (p N : Nat) (h : p < 2 ^ N) (hN : N ≤ 7) (hl : l.length < 1048576) : bitsE (mkB (strm l p N)) = 0 ∧ bitsN (mkB (strm l p N)) = ((8 * l.length + N : Nat) : Int) := by
  rw [strm_b]
  exact bits_done (mkB l) p N h hN hl
theorem strm_num (l : List UInt8) (p N : Nat) (h : p < 2 ^ N) (hN : N ≤ 7) : numL (strm l p N) = numL l + 256 ^ l.length * p + 2 ^ (8 * l.length + N) := by
  exact num_done (mkB l) p N h hN
theorem strm_len (l : List UInt8) (p N : Nat) : (strm l p N).length = l.length + 1 := by simp [strm]
theorem bitsA (l : List UInt8) (p N : Nat) (h : p < 2 ^ N) (hN : N ≤ 7) (hl : l.length < 1048576) : ACalls Try.prog 18 [St (strm l p N)] [] (fun r _ => r = .tup [I ((8 * l.length + N : Nat) : Int), I 0] ∧ r.sc 0 = true) := by
  obtain ⟨h1, h2⟩ := strm_bits l p N h hN hl
  refine acalls_of (vals := [.string (mkB (strm l p N))]) (v := .tuple #[.int .i64 ((8 * l.length + N : Nat) : Int), .int .i64 0]) (fun _ => rfl) (fun _ => rfl) rfl fun w => ?_
  have := Bits_ok (mkB (strm l p N)) w (by show (strm l p N).length ≤ _; have := strm_len l p N; omega) h1
  rw [h1, h2] at this
  exact this
theorem readA (l : List UInt8) (p N : Nat) (h : p < 2 ^ N) (hN : N ≤ 7) (hl : l.length < 1048576) : ACalls Try.prog 19 [St (strm l p N)] [] (fun r _ => r = .tup [.agg [St (strm l p N), I ((8 * l.length + N : Nat) : Int)], I 0] ∧ r.sc 0 = true) := by
  obtain ⟨h1, h2⟩ := strm_bits l p N h hN hl
  exact acalls_of (vals := [.string (mkB (strm l p N))]) (fun _ => rfl) (fun _ => rfl) rfl (Read_w (mkB (strm l p N)) _ (by show (strm l p N).length ≤ _; have := strm_len l p N; omega) h1 h2)
theorem takeA (l : List UInt8) (p N L K : Nat) (h : p < 2 ^ N) (hN : N ≤ 7) (hl : l.length < 1048576) (hL : L ≤ 8 * l.length + N) (hK : K ≤ L) (h32 : K ≤ 32) : ACalls Try.prog 21 [.agg [St (strm l p N), I L], I K] [] (fun r _ => r = .tup [.agg [St (strm l p N), I ((L - K : Nat) : Int)], W64 ((numL (strm l p N) / 2 ^ (L - K) % 2 ^ K : Nat) : Int), I 0] ∧ r.sc 0 = true) := by
  obtain ⟨h1, h2⟩ := strm_bits l p N h hN hl
  exact acalls_of (vals := [.agg #[.string (mkB (strm l p N)), .int .i64 L], .int .i64 K]) (fun _ => rfl) (fun _ => rfl) rfl (Take_w (mkB (strm l p N)) (8 * l.length + N) L K (by show (strm l p N).length ≤ _; have := strm_len l p N; omega) h1 h2 hL hK h32)
theorem calls_bel {P : Program} {g : FuncId} {args : Array Value} {v : Value} {w : World} (h : Calls P g args w fun e w' => e = .returned v ∧ w = w') : Calls P g args w fun e w' => e = .returned v ∧ Below w.heap.size w w' :=
  h.mono fun e w' hh => ⟨hh.1, by rw [← hh.2]; exact Below.refl _ _⟩
theorem widthA (k : Int) (hk : (Lit.int .i64 k).wf = true) : ACalls Try.prog 16 [I k] [] (fun r _ => r = I (k % 33) ∧ r.sc 0 = true) := acalls_of (vals := [.int .i64 k]) (fun _ => rfl) (fun _ => rfl) rfl (fun w => calls_bel (width_any k w hk))
theorem valueA (k : Int) (K : Nat) (hk : (Lit.int .i64 k).wf = true) (hK : K ≤ 32) : ACalls Try.prog 17 [I k, I K] [] (fun r _ => r = W64 (valN k K) ∧ r.sc 0 = true) := acalls_of (vals := [.int .i64 k, .int .i64 K]) (fun _ => rfl) (fun _ => rfl) rfl (fun w => calls_bel (value_any k K w hk hK))
theorem modA (a m : Int) (h0 : 0 < m) (h1 : m ≤ 1099511627776) (hk : (Lit.int .i64 a).wf = true) : ACalls Try.prog 20 [I a, I m] [] (fun r _ => r = I (a % m) ∧ r.sc 0 = true) := acalls_of (vals := [.int .i64 a, .int .i64 m]) (fun _ => rfl) (fun _ => rfl) rfl (fun w => calls_bel (Mod_any a m w h0 h1 hk))
/-! ### Numbers in streams (plain) -/
/-- What a writer holds behind a number that is put. -/
theorem put_held (l : List UInt8) (p N K V : Nat) : numL (l ++ emit (p + V * 2 ^ N) ((N + K) / 8)) + 256 ^ (l ++ emit (p + V * 2 ^ N) ((N + K) / 8)).length * ((p + V * 2 ^ N) / 256 ^ ((N + K) / 8)) = numL l + 256 ^ l.length * p + V * 2 ^ (8 * l.length + N) := by
  exact held_put (mkB l) p N V ((N + K) / 8)
theorem put_len (l : List UInt8) (p N K V : Nat) : 8 * (l ++ emit (p + V * 2 ^ N) ((N + K) / 8)).length + (N + K) % 8 = 8 * l.length + N + K := by
  rw [List.length_append, emit_length]; omega
theorem hold_lt (l : List UInt8) (p N : Nat) (h : p < 2 ^ N) : numL l + 256 ^ l.length * p < 2 ^ (8 * l.length + N) := by
  exact held_lt (mkB l) p N h
end Go.Proofs.Ytlmoenjggggpkaa
