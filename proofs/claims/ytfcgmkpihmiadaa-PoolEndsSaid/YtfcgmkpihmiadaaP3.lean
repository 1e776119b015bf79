/-
  A part of the proof of a statement of a chapter's seat; conditions: stated at each theorem.
-/
import Derived.Test.YtfcgmkpihmiadaaP2
import Derived.Test.YtfcgmkpihmiadaaRows
import Derived.WalkKit
set_option linter.unusedVariables false
set_option linter.unusedSectionVars false
set_option linter.unusedSimpArgs false
set_option linter.unusedVariables false
set_option maxRecDepth 100000
set_option maxHeartbeats 8000000
namespace Go.Proofs.Ytfcgmkpihmiadaa
open Go.Az Go
theorem s1_1 : isS1 Try.prog 1 = true := by kernel_rfl
instance : C1 Try.prog 1 := ⟨s1_1⟩
theorem el_1 : elOkQ Try.prog 1 1 = true := by kernel_rfl
instance : CE Try.prog 1 1 := ⟨el_1⟩
theorem z_1 : zeroA Try.prog 1 = some [.v .nilFunc] := by kernel_rfl
instance : CZ Try.prog 1 [.v .nilFunc] := ⟨z_1⟩
theorem s1_2 : isS1 Try.prog 2 = true := by kernel_rfl
instance : C1 Try.prog 2 := ⟨s1_2⟩
theorem el_2 : elOkQ Try.prog 2 1 = true := by kernel_rfl
instance : CE Try.prog 2 1 := ⟨el_2⟩
theorem u_2 : Try.prog.underlying 2 = some (.int .i64) := by kernel_rfl
instance : CU Try.prog 2 .i64 := ⟨u_2⟩
theorem z_2 : zeroA Try.prog 2 = some [.v (.int .i64 0)] := by kernel_rfl
instance : CZ Try.prog 2 [.v (.int .i64 0)] := ⟨z_2⟩
theorem s1_3 : isS1 Try.prog 3 = true := by kernel_rfl
instance : C1 Try.prog 3 := ⟨s1_3⟩
theorem el_3 : elOkQ Try.prog 3 1 = true := by kernel_rfl
instance : CE Try.prog 3 1 := ⟨el_3⟩
theorem u_3 : Try.prog.underlying 3 = some (.int .i64) := by kernel_rfl
instance : CU Try.prog 3 .i64 := ⟨u_3⟩
theorem z_3 : zeroA Try.prog 3 = some [.v (.int .i64 0)] := by kernel_rfl
instance : CZ Try.prog 3 [.v (.int .i64 0)] := ⟨z_3⟩
theorem s1_4 : isS1 Try.prog 4 = true := by kernel_rfl
instance : C1 Try.prog 4 := ⟨s1_4⟩
theorem el_4 : elOkQ Try.prog 4 1 = true := by kernel_rfl
instance : CE Try.prog 4 1 := ⟨el_4⟩
theorem bo_4 : Try.prog.underlying 4 = some .bool := by kernel_rfl
instance : CB Try.prog 4 := ⟨bo_4⟩
theorem z_4 : zeroA Try.prog 4 = some [.v (.bool false)] := by kernel_rfl
instance : CZ Try.prog 4 [.v (.bool false)] := ⟨z_4⟩
theorem s1_5 : isS1 Try.prog 5 = true := by kernel_rfl
instance : C1 Try.prog 5 := ⟨s1_5⟩
theorem el_5 : elOkQ Try.prog 5 1 = true := by kernel_rfl
instance : CE Try.prog 5 1 := ⟨el_5⟩
theorem u_5 : Try.prog.underlying 5 = some (.int .u8) := by kernel_rfl
instance : CU Try.prog 5 .u8 := ⟨u_5⟩
theorem z_5 : zeroA Try.prog 5 = some [.v (.int .u8 0)] := by kernel_rfl
instance : CZ Try.prog 5 [.v (.int .u8 0)] := ⟨z_5⟩
theorem s1_6 : isS1 Try.prog 6 = true := by kernel_rfl
instance : C1 Try.prog 6 := ⟨s1_6⟩
theorem el_6 : elOkQ Try.prog 6 1 = true := by kernel_rfl
instance : CE Try.prog 6 1 := ⟨el_6⟩
theorem u_6 : Try.prog.underlying 6 = some (.int .u8) := by kernel_rfl
instance : CU Try.prog 6 .u8 := ⟨u_6⟩
theorem z_6 : zeroA Try.prog 6 = some [.v (.int .u8 0)] := by kernel_rfl
instance : CZ Try.prog 6 [.v (.int .u8 0)] := ⟨z_6⟩
theorem ag_7 : isAg Try.prog 7 4 = true := by kernel_rfl
instance : CA Try.prog 7 4 := ⟨ag_7⟩
theorem el_7 : elOkQ Try.prog 7 4 = true := by kernel_rfl
instance : CE Try.prog 7 4 := ⟨el_7⟩
theorem fad_7_0 : fadOf Try.prog 7 0 = some 0 := by kernel_rfl
instance : CF Try.prog 7 0 0 := ⟨fad_7_0⟩
theorem fad_7_1 : fadOf Try.prog 7 1 = some 1 := by kernel_rfl
instance : CF Try.prog 7 1 1 := ⟨fad_7_1⟩
theorem fad_7_2 : fadOf Try.prog 7 2 = some 2 := by kernel_rfl
instance : CF Try.prog 7 2 2 := ⟨fad_7_2⟩
theorem fad_7_3 : fadOf Try.prog 7 3 = some 3 := by kernel_rfl
instance : CF Try.prog 7 3 3 := ⟨fad_7_3⟩
theorem z_7 : zeroA Try.prog 7 = some [.v (.int .i64 0), .v (.int .i64 0), .v (.bool false), .v (.int .u8 0)] := by kernel_rfl
instance : CZ Try.prog 7 [.v (.int .i64 0), .v (.int .i64 0), .v (.bool false), .v (.int .u8 0)] := ⟨z_7⟩
theorem ag_8 : isAg Try.prog 8 4 = true := by kernel_rfl
instance : CA Try.prog 8 4 := ⟨ag_8⟩
theorem el_8 : elOkQ Try.prog 8 4 = true := by kernel_rfl
instance : CE Try.prog 8 4 := ⟨el_8⟩
theorem fad_8_0 : fadOf Try.prog 8 0 = some 0 := by kernel_rfl
instance : CF Try.prog 8 0 0 := ⟨fad_8_0⟩
theorem fad_8_1 : fadOf Try.prog 8 1 = some 1 := by kernel_rfl
instance : CF Try.prog 8 1 1 := ⟨fad_8_1⟩
theorem fad_8_2 : fadOf Try.prog 8 2 = some 2 := by kernel_rfl
instance : CF Try.prog 8 2 2 := ⟨fad_8_2⟩
theorem fad_8_3 : fadOf Try.prog 8 3 = some 3 := by kernel_rfl
instance : CF Try.prog 8 3 3 := ⟨fad_8_3⟩
theorem z_8 : zeroA Try.prog 8 = some [.v (.int .i64 0), .v (.int .i64 0), .v (.bool false), .v (.int .u8 0)] := by kernel_rfl
instance : CZ Try.prog 8 [.v (.int .i64 0), .v (.int .i64 0), .v (.bool false), .v (.int .u8 0)] := ⟨z_8⟩
theorem s1_9 : isS1 Try.prog 9 = true := by kernel_rfl
instance : C1 Try.prog 9 := ⟨s1_9⟩
theorem st_9 : strTy Try.prog 9 = true := by kernel_rfl
instance : CT Try.prog 9 := ⟨st_9⟩
theorem el_9 : elOkQ Try.prog 9 1 = true := by kernel_rfl
instance : CE Try.prog 9 1 := ⟨el_9⟩
theorem z_9 : zeroA Try.prog 9 = some [.v (.string (mkB []))] := by kernel_rfl
instance : CZ Try.prog 9 [.v (.string (mkB []))] := ⟨z_9⟩
theorem s1_10 : isS1 Try.prog 10 = true := by kernel_rfl
instance : C1 Try.prog 10 := ⟨s1_10⟩
theorem st_10 : strTy Try.prog 10 = true := by kernel_rfl
instance : CT Try.prog 10 := ⟨st_10⟩
theorem el_10 : elOkQ Try.prog 10 1 = true := by kernel_rfl
instance : CE Try.prog 10 1 := ⟨el_10⟩
theorem z_10 : zeroA Try.prog 10 = some [.v (.string (mkB []))] := by kernel_rfl
instance : CZ Try.prog 10 [.v (.string (mkB []))] := ⟨z_10⟩
theorem s1_11 : isS1 Try.prog 11 = true := by kernel_rfl
instance : C1 Try.prog 11 := ⟨s1_11⟩
theorem st_11 : strTy Try.prog 11 = true := by kernel_rfl
instance : CT Try.prog 11 := ⟨st_11⟩
theorem el_11 : elOkQ Try.prog 11 1 = true := by kernel_rfl
instance : CE Try.prog 11 1 := ⟨el_11⟩
theorem z_11 : zeroA Try.prog 11 = some [.v (.string (mkB []))] := by kernel_rfl
instance : CZ Try.prog 11 [.v (.string (mkB []))] := ⟨z_11⟩
theorem s1_12 : isS1 Try.prog 12 = true := by kernel_rfl
instance : C1 Try.prog 12 := ⟨s1_12⟩
theorem el_12 : elOkQ Try.prog 12 1 = true := by kernel_rfl
instance : CE Try.prog 12 1 := ⟨el_12⟩
theorem u_12 : Try.prog.underlying 12 = some (.int .u64) := by kernel_rfl
instance : CU Try.prog 12 .u64 := ⟨u_12⟩
theorem z_12 : zeroA Try.prog 12 = some [.v (.int .u64 0)] := by kernel_rfl
instance : CZ Try.prog 12 [.v (.int .u64 0)] := ⟨z_12⟩
theorem ag_13 : isAg Try.prog 13 2 = true := by kernel_rfl
instance : CA Try.prog 13 2 := ⟨ag_13⟩
theorem el_13 : elOkQ Try.prog 13 2 = true := by kernel_rfl
instance : CE Try.prog 13 2 := ⟨el_13⟩
theorem fad_13_0 : fadOf Try.prog 13 0 = some 0 := by kernel_rfl
instance : CF Try.prog 13 0 0 := ⟨fad_13_0⟩
theorem fad_13_1 : fadOf Try.prog 13 1 = some 1 := by kernel_rfl
instance : CF Try.prog 13 1 1 := ⟨fad_13_1⟩
theorem z_13 : zeroA Try.prog 13 = some [.v (.string (mkB [])), .v (.int .u64 0)] := by kernel_rfl
instance : CZ Try.prog 13 [.v (.string (mkB [])), .v (.int .u64 0)] := ⟨z_13⟩
theorem ag_14 : isAg Try.prog 14 2 = true := by kernel_rfl
instance : CA Try.prog 14 2 := ⟨ag_14⟩
theorem el_14 : elOkQ Try.prog 14 2 = true := by kernel_rfl
instance : CE Try.prog 14 2 := ⟨el_14⟩
theorem fad_14_0 : fadOf Try.prog 14 0 = some 0 := by kernel_rfl
instance : CF Try.prog 14 0 0 := ⟨fad_14_0⟩
theorem fad_14_1 : fadOf Try.prog 14 1 = some 1 := by kernel_rfl
instance : CF Try.prog 14 1 1 := ⟨fad_14_1⟩
theorem z_14 : zeroA Try.prog 14 = some [.v (.string (mkB [])), .v (.int .u64 0)] := by kernel_rfl
instance : CZ Try.prog 14 [.v (.string (mkB [])), .v (.int .u64 0)] := ⟨z_14⟩
theorem s1_15 : isS1 Try.prog 15 = true := by kernel_rfl
instance : C1 Try.prog 15 := ⟨s1_15⟩
theorem el_15 : elOkQ Try.prog 15 1 = true := by kernel_rfl
instance : CE Try.prog 15 1 := ⟨el_15⟩
theorem z_15 : zeroA Try.prog 15 = some [.v (.pointer none)] := by kernel_rfl
instance : CZ Try.prog 15 [.v (.pointer none)] := ⟨z_15⟩
theorem s1_16 : isS1 Try.prog 16 = true := by kernel_rfl
instance : C1 Try.prog 16 := ⟨s1_16⟩
theorem el_16 : elOkQ Try.prog 16 1 = true := by kernel_rfl
instance : CE Try.prog 16 1 := ⟨el_16⟩
theorem z_16 : zeroA Try.prog 16 = some [.v (.pointer none)] := by kernel_rfl
instance : CZ Try.prog 16 [.v (.pointer none)] := ⟨z_16⟩
theorem s1_17 : isS1 Try.prog 17 = true := by kernel_rfl
instance : C1 Try.prog 17 := ⟨s1_17⟩
theorem el_17 : elOkQ Try.prog 17 1 = true := by kernel_rfl
instance : CE Try.prog 17 1 := ⟨el_17⟩
theorem z_17 : zeroA Try.prog 17 = some [.v (.pointer none)] := by kernel_rfl
instance : CZ Try.prog 17 [.v (.pointer none)] := ⟨z_17⟩
theorem ag_18 : isAg Try.prog 18 1 = true := by kernel_rfl
instance : CA Try.prog 18 1 := ⟨ag_18⟩
theorem el_18 : elOkQ Try.prog 18 1 = true := by kernel_rfl
instance : CE Try.prog 18 1 := ⟨el_18⟩
theorem fad_18_0 : fadOf Try.prog 18 0 = some 0 := by kernel_rfl
instance : CF Try.prog 18 0 0 := ⟨fad_18_0⟩
theorem z_18 : zeroA Try.prog 18 = some [.v (.pointer none)] := by kernel_rfl
instance : CZ Try.prog 18 [.v (.pointer none)] := ⟨z_18⟩
theorem ag_19 : isAg Try.prog 19 1 = true := by kernel_rfl
instance : CA Try.prog 19 1 := ⟨ag_19⟩
theorem el_19 : elOkQ Try.prog 19 1 = true := by kernel_rfl
instance : CE Try.prog 19 1 := ⟨el_19⟩
theorem fad_19_0 : fadOf Try.prog 19 0 = some 0 := by kernel_rfl
instance : CF Try.prog 19 0 0 := ⟨fad_19_0⟩
theorem z_19 : zeroA Try.prog 19 = some [.v (.pointer none)] := by kernel_rfl
instance : CZ Try.prog 19 [.v (.pointer none)] := ⟨z_19⟩
theorem s1_20 : isS1 Try.prog 20 = true := by kernel_rfl
instance : C1 Try.prog 20 := ⟨s1_20⟩
theorem el_20 : elOkQ Try.prog 20 1 = true := by kernel_rfl
instance : CE Try.prog 20 1 := ⟨el_20⟩
theorem z_20 : zeroA Try.prog 20 = some [.v .nilIface] := by kernel_rfl
instance : CZ Try.prog 20 [.v .nilIface] := ⟨z_20⟩
theorem s1_21 : isS1 Try.prog 21 = true := by kernel_rfl
instance : C1 Try.prog 21 := ⟨s1_21⟩
theorem el_21 : elOkQ Try.prog 21 1 = true := by kernel_rfl
instance : CE Try.prog 21 1 := ⟨el_21⟩
theorem u_21 : Try.prog.underlying 21 = some (.int .i32) := by kernel_rfl
instance : CU Try.prog 21 .i32 := ⟨u_21⟩
theorem z_21 : zeroA Try.prog 21 = some [.v (.int .i32 0)] := by kernel_rfl
instance : CZ Try.prog 21 [.v (.int .i32 0)] := ⟨z_21⟩
theorem s1_22 : isS1 Try.prog 22 = true := by kernel_rfl
instance : C1 Try.prog 22 := ⟨s1_22⟩
theorem el_22 : elOkQ Try.prog 22 1 = true := by kernel_rfl
instance : CE Try.prog 22 1 := ⟨el_22⟩
theorem sl_22 : sliOf Try.prog 22 = some (3, 1) := by kernel_rfl
instance : CS Try.prog 22 3 1 := ⟨sl_22⟩
theorem z_22 : zeroA Try.prog 22 = some [.v (.slice none 0 0)] := by kernel_rfl
instance : CZ Try.prog 22 [.v (.slice none 0 0)] := ⟨z_22⟩
theorem s1_23 : isS1 Try.prog 23 = true := by kernel_rfl
instance : C1 Try.prog 23 := ⟨s1_23⟩
theorem el_23 : elOkQ Try.prog 23 1 = true := by kernel_rfl
instance : CE Try.prog 23 1 := ⟨el_23⟩
theorem sl_23 : sliOf Try.prog 23 = some (53, 2) := by kernel_rfl
instance : CS Try.prog 23 53 2 := ⟨sl_23⟩
theorem z_23 : zeroA Try.prog 23 = some [.v (.slice none 0 0)] := by kernel_rfl
instance : CZ Try.prog 23 [.v (.slice none 0 0)] := ⟨z_23⟩
theorem s1_24 : isS1 Try.prog 24 = true := by kernel_rfl
instance : C1 Try.prog 24 := ⟨s1_24⟩
theorem el_24 : elOkQ Try.prog 24 1 = true := by kernel_rfl
instance : CE Try.prog 24 1 := ⟨el_24⟩
theorem sl_24 : sliOf Try.prog 24 = some (68, 4) := by kernel_rfl
instance : CS Try.prog 24 68 4 := ⟨sl_24⟩
theorem z_24 : zeroA Try.prog 24 = some [.v (.slice none 0 0)] := by kernel_rfl
instance : CZ Try.prog 24 [.v (.slice none 0 0)] := ⟨z_24⟩
theorem ag_25 : isAg Try.prog 25 4 = true := by kernel_rfl
instance : CA Try.prog 25 4 := ⟨ag_25⟩
theorem fad_25_0 : fadOf Try.prog 25 0 = some 0 := by kernel_rfl
instance : CF Try.prog 25 0 0 := ⟨fad_25_0⟩
theorem fad_25_1 : fadOf Try.prog 25 1 = some 1 := by kernel_rfl
instance : CF Try.prog 25 1 1 := ⟨fad_25_1⟩
theorem fad_25_2 : fadOf Try.prog 25 2 = some 2 := by kernel_rfl
instance : CF Try.prog 25 2 2 := ⟨fad_25_2⟩
theorem fad_25_3 : fadOf Try.prog 25 3 = some 3 := by kernel_rfl
instance : CF Try.prog 25 3 3 := ⟨fad_25_3⟩
theorem z_25 : zeroA Try.prog 25 = some [.v (.slice none 0 0), .v (.slice none 0 0), .v (.slice none 0 0), .v (.int .i64 0)] := by kernel_rfl
instance : CZ Try.prog 25 [.v (.slice none 0 0), .v (.slice none 0 0), .v (.slice none 0 0), .v (.int .i64 0)] := ⟨z_25⟩
theorem ag_26 : isAg Try.prog 26 4 = true := by kernel_rfl
instance : CA Try.prog 26 4 := ⟨ag_26⟩
theorem fad_26_0 : fadOf Try.prog 26 0 = some 0 := by kernel_rfl
instance : CF Try.prog 26 0 0 := ⟨fad_26_0⟩
theorem fad_26_1 : fadOf Try.prog 26 1 = some 1 := by kernel_rfl
instance : CF Try.prog 26 1 1 := ⟨fad_26_1⟩
theorem fad_26_2 : fadOf Try.prog 26 2 = some 2 := by kernel_rfl
instance : CF Try.prog 26 2 2 := ⟨fad_26_2⟩
theorem fad_26_3 : fadOf Try.prog 26 3 = some 3 := by kernel_rfl
instance : CF Try.prog 26 3 3 := ⟨fad_26_3⟩
theorem z_26 : zeroA Try.prog 26 = some [.v (.slice none 0 0), .v (.slice none 0 0), .v (.slice none 0 0), .v (.int .i64 0)] := by kernel_rfl
instance : CZ Try.prog 26 [.v (.slice none 0 0), .v (.slice none 0 0), .v (.slice none 0 0), .v (.int .i64 0)] := ⟨z_26⟩
theorem s1_27 : isS1 Try.prog 27 = true := by kernel_rfl
instance : C1 Try.prog 27 := ⟨s1_27⟩
theorem el_27 : elOkQ Try.prog 27 1 = true := by kernel_rfl
instance : CE Try.prog 27 1 := ⟨el_27⟩
theorem z_27 : zeroA Try.prog 27 = some [.v .nilFunc] := by kernel_rfl
instance : CZ Try.prog 27 [.v .nilFunc] := ⟨z_27⟩
theorem s1_28 : isS1 Try.prog 28 = true := by kernel_rfl
instance : C1 Try.prog 28 := ⟨s1_28⟩
theorem el_28 : elOkQ Try.prog 28 1 = true := by kernel_rfl
instance : CE Try.prog 28 1 := ⟨el_28⟩
theorem z_28 : zeroA Try.prog 28 = some [.v .nilFunc] := by kernel_rfl
instance : CZ Try.prog 28 [.v .nilFunc] := ⟨z_28⟩
theorem s1_29 : isS1 Try.prog 29 = true := by kernel_rfl
instance : C1 Try.prog 29 := ⟨s1_29⟩
theorem el_29 : elOkQ Try.prog 29 1 = true := by kernel_rfl
instance : CE Try.prog 29 1 := ⟨el_29⟩
theorem z_29 : zeroA Try.prog 29 = some [.v .nilFunc] := by kernel_rfl
instance : CZ Try.prog 29 [.v .nilFunc] := ⟨z_29⟩
theorem s1_30 : isS1 Try.prog 30 = true := by kernel_rfl
instance : C1 Try.prog 30 := ⟨s1_30⟩
theorem el_30 : elOkQ Try.prog 30 1 = true := by kernel_rfl
instance : CE Try.prog 30 1 := ⟨el_30⟩
theorem u_30 : Try.prog.underlying 30 = some (.int .i64) := by kernel_rfl
instance : CU Try.prog 30 .i64 := ⟨u_30⟩
theorem z_30 : zeroA Try.prog 30 = some [.v (.int .i64 0)] := by kernel_rfl
instance : CZ Try.prog 30 [.v (.int .i64 0)] := ⟨z_30⟩
theorem s1_32 : isS1 Try.prog 32 = true := by kernel_rfl
instance : C1 Try.prog 32 := ⟨s1_32⟩
theorem el_32 : elOkQ Try.prog 32 1 = true := by kernel_rfl
instance : CE Try.prog 32 1 := ⟨el_32⟩
theorem z_32 : zeroA Try.prog 32 = some [.v .nilFunc] := by kernel_rfl
instance : CZ Try.prog 32 [.v .nilFunc] := ⟨z_32⟩
theorem s1_33 : isS1 Try.prog 33 = true := by kernel_rfl
instance : C1 Try.prog 33 := ⟨s1_33⟩
theorem el_33 : elOkQ Try.prog 33 1 = true := by kernel_rfl
instance : CE Try.prog 33 1 := ⟨el_33⟩
theorem z_33 : zeroA Try.prog 33 = some [.v .nilFunc] := by kernel_rfl
instance : CZ Try.prog 33 [.v .nilFunc] := ⟨z_33⟩
theorem s1_34 : isS1 Try.prog 34 = true := by kernel_rfl
instance : C1 Try.prog 34 := ⟨s1_34⟩
theorem el_34 : elOkQ Try.prog 34 1 = true := by kernel_rfl
instance : CE Try.prog 34 1 := ⟨el_34⟩
theorem z_34 : zeroA Try.prog 34 = some [.v .nilFunc] := by kernel_rfl
instance : CZ Try.prog 34 [.v .nilFunc] := ⟨z_34⟩
theorem s1_35 : isS1 Try.prog 35 = true := by kernel_rfl
instance : C1 Try.prog 35 := ⟨s1_35⟩
theorem el_35 : elOkQ Try.prog 35 1 = true := by kernel_rfl
instance : CE Try.prog 35 1 := ⟨el_35⟩
theorem z_35 : zeroA Try.prog 35 = some [.v .nilFunc] := by kernel_rfl
instance : CZ Try.prog 35 [.v .nilFunc] := ⟨z_35⟩
theorem s1_36 : isS1 Try.prog 36 = true := by kernel_rfl
instance : C1 Try.prog 36 := ⟨s1_36⟩
theorem el_36 : elOkQ Try.prog 36 1 = true := by kernel_rfl
instance : CE Try.prog 36 1 := ⟨el_36⟩
theorem z_36 : zeroA Try.prog 36 = some [.v .nilFunc] := by kernel_rfl
instance : CZ Try.prog 36 [.v .nilFunc] := ⟨z_36⟩
theorem s1_38 : isS1 Try.prog 38 = true := by kernel_rfl
instance : C1 Try.prog 38 := ⟨s1_38⟩
theorem el_38 : elOkQ Try.prog 38 1 = true := by kernel_rfl
instance : CE Try.prog 38 1 := ⟨el_38⟩
theorem z_38 : zeroA Try.prog 38 = some [.v .nilFunc] := by kernel_rfl
instance : CZ Try.prog 38 [.v .nilFunc] := ⟨z_38⟩
theorem s1_39 : isS1 Try.prog 39 = true := by kernel_rfl
instance : C1 Try.prog 39 := ⟨s1_39⟩
theorem el_39 : elOkQ Try.prog 39 1 = true := by kernel_rfl
instance : CE Try.prog 39 1 := ⟨el_39⟩
theorem z_39 : zeroA Try.prog 39 = some [.v .nilFunc] := by kernel_rfl
instance : CZ Try.prog 39 [.v .nilFunc] := ⟨z_39⟩
theorem s1_41 : isS1 Try.prog 41 = true := by kernel_rfl
instance : C1 Try.prog 41 := ⟨s1_41⟩
theorem el_41 : elOkQ Try.prog 41 1 = true := by kernel_rfl
instance : CE Try.prog 41 1 := ⟨el_41⟩
theorem z_41 : zeroA Try.prog 41 = some [.v .nilFunc] := by kernel_rfl
instance : CZ Try.prog 41 [.v .nilFunc] := ⟨z_41⟩
theorem s1_43 : isS1 Try.prog 43 = true := by kernel_rfl
instance : C1 Try.prog 43 := ⟨s1_43⟩
theorem el_43 : elOkQ Try.prog 43 1 = true := by kernel_rfl
instance : CE Try.prog 43 1 := ⟨el_43⟩
theorem z_43 : zeroA Try.prog 43 = some [.v .nilFunc] := by kernel_rfl
instance : CZ Try.prog 43 [.v .nilFunc] := ⟨z_43⟩
theorem s1_45 : isS1 Try.prog 45 = true := by kernel_rfl
instance : C1 Try.prog 45 := ⟨s1_45⟩
theorem el_45 : elOkQ Try.prog 45 1 = true := by kernel_rfl
instance : CE Try.prog 45 1 := ⟨el_45⟩
theorem z_45 : zeroA Try.prog 45 = some [.v .nilFunc] := by kernel_rfl
instance : CZ Try.prog 45 [.v .nilFunc] := ⟨z_45⟩
theorem s1_47 : isS1 Try.prog 47 = true := by kernel_rfl
instance : C1 Try.prog 47 := ⟨s1_47⟩
theorem el_47 : elOkQ Try.prog 47 1 = true := by kernel_rfl
instance : CE Try.prog 47 1 := ⟨el_47⟩
theorem z_47 : zeroA Try.prog 47 = some [.v .nilFunc] := by kernel_rfl
instance : CZ Try.prog 47 [.v .nilFunc] := ⟨z_47⟩
theorem s1_48 : isS1 Try.prog 48 = true := by kernel_rfl
instance : C1 Try.prog 48 := ⟨s1_48⟩
theorem el_48 : elOkQ Try.prog 48 1 = true := by kernel_rfl
instance : CE Try.prog 48 1 := ⟨el_48⟩
theorem z_48 : zeroA Try.prog 48 = some [.v .nilFunc] := by kernel_rfl
instance : CZ Try.prog 48 [.v .nilFunc] := ⟨z_48⟩
theorem s1_50 : isS1 Try.prog 50 = true := by kernel_rfl
instance : C1 Try.prog 50 := ⟨s1_50⟩
theorem el_50 : elOkQ Try.prog 50 1 = true := by kernel_rfl
instance : CE Try.prog 50 1 := ⟨el_50⟩
theorem z_50 : zeroA Try.prog 50 = some [.v .nilFunc] := by kernel_rfl
instance : CZ Try.prog 50 [.v .nilFunc] := ⟨z_50⟩
theorem s1_51 : isS1 Try.prog 51 = true := by kernel_rfl
instance : C1 Try.prog 51 := ⟨s1_51⟩
theorem el_51 : elOkQ Try.prog 51 1 = true := by kernel_rfl
instance : CE Try.prog 51 1 := ⟨el_51⟩
theorem z_51 : zeroA Try.prog 51 = some [.v .nilFunc] := by kernel_rfl
instance : CZ Try.prog 51 [.v .nilFunc] := ⟨z_51⟩
theorem ag_52 : isAg Try.prog 52 2 = true := by kernel_rfl
instance : CA Try.prog 52 2 := ⟨ag_52⟩
theorem el_52 : elOkQ Try.prog 52 2 = true := by kernel_rfl
instance : CE Try.prog 52 2 := ⟨el_52⟩
theorem fad_52_0 : fadOf Try.prog 52 0 = some 0 := by kernel_rfl
instance : CF Try.prog 52 0 0 := ⟨fad_52_0⟩
theorem fad_52_1 : fadOf Try.prog 52 1 = some 1 := by kernel_rfl
instance : CF Try.prog 52 1 1 := ⟨fad_52_1⟩
theorem z_52 : zeroA Try.prog 52 = some [.v (.int .i64 0), .v (.int .i64 0)] := by kernel_rfl
instance : CZ Try.prog 52 [.v (.int .i64 0), .v (.int .i64 0)] := ⟨z_52⟩
theorem ag_53 : isAg Try.prog 53 2 = true := by kernel_rfl
instance : CA Try.prog 53 2 := ⟨ag_53⟩
theorem el_53 : elOkQ Try.prog 53 2 = true := by kernel_rfl
instance : CE Try.prog 53 2 := ⟨el_53⟩
theorem fad_53_0 : fadOf Try.prog 53 0 = some 0 := by kernel_rfl
instance : CF Try.prog 53 0 0 := ⟨fad_53_0⟩
theorem fad_53_1 : fadOf Try.prog 53 1 = some 1 := by kernel_rfl
instance : CF Try.prog 53 1 1 := ⟨fad_53_1⟩
theorem z_53 : zeroA Try.prog 53 = some [.v (.int .i64 0), .v (.int .i64 0)] := by kernel_rfl
instance : CZ Try.prog 53 [.v (.int .i64 0), .v (.int .i64 0)] := ⟨z_53⟩
theorem s1_54 : isS1 Try.prog 54 = true := by kernel_rfl
instance : C1 Try.prog 54 := ⟨s1_54⟩
theorem el_54 : elOkQ Try.prog 54 1 = true := by kernel_rfl
instance : CE Try.prog 54 1 := ⟨el_54⟩
theorem z_54 : zeroA Try.prog 54 = some [.v .nilFunc] := by kernel_rfl
instance : CZ Try.prog 54 [.v .nilFunc] := ⟨z_54⟩
theorem s1_55 : isS1 Try.prog 55 = true := by kernel_rfl
instance : C1 Try.prog 55 := ⟨s1_55⟩
theorem el_55 : elOkQ Try.prog 55 1 = true := by kernel_rfl
instance : CE Try.prog 55 1 := ⟨el_55⟩
theorem z_55 : zeroA Try.prog 55 = some [.v .nilFunc] := by kernel_rfl
instance : CZ Try.prog 55 [.v .nilFunc] := ⟨z_55⟩
theorem s1_56 : isS1 Try.prog 56 = true := by kernel_rfl
instance : C1 Try.prog 56 := ⟨s1_56⟩
theorem el_56 : elOkQ Try.prog 56 1 = true := by kernel_rfl
instance : CE Try.prog 56 1 := ⟨el_56⟩
theorem z_56 : zeroA Try.prog 56 = some [.v .nilFunc] := by kernel_rfl
instance : CZ Try.prog 56 [.v .nilFunc] := ⟨z_56⟩
theorem s1_58 : isS1 Try.prog 58 = true := by kernel_rfl
instance : C1 Try.prog 58 := ⟨s1_58⟩
theorem el_58 : elOkQ Try.prog 58 1 = true := by kernel_rfl
instance : CE Try.prog 58 1 := ⟨el_58⟩
theorem z_58 : zeroA Try.prog 58 = some [.v .nilFunc] := by kernel_rfl
instance : CZ Try.prog 58 [.v .nilFunc] := ⟨z_58⟩
theorem s1_59 : isS1 Try.prog 59 = true := by kernel_rfl
instance : C1 Try.prog 59 := ⟨s1_59⟩
theorem el_59 : elOkQ Try.prog 59 1 = true := by kernel_rfl
instance : CE Try.prog 59 1 := ⟨el_59⟩
theorem z_59 : zeroA Try.prog 59 = some [.v .nilFunc] := by kernel_rfl
instance : CZ Try.prog 59 [.v .nilFunc] := ⟨z_59⟩
theorem s1_60 : isS1 Try.prog 60 = true := by kernel_rfl
instance : C1 Try.prog 60 := ⟨s1_60⟩
theorem el_60 : elOkQ Try.prog 60 1 = true := by kernel_rfl
instance : CE Try.prog 60 1 := ⟨el_60⟩
theorem z_60 : zeroA Try.prog 60 = some [.v .nilFunc] := by kernel_rfl
instance : CZ Try.prog 60 [.v .nilFunc] := ⟨z_60⟩
theorem s1_62 : isS1 Try.prog 62 = true := by kernel_rfl
instance : C1 Try.prog 62 := ⟨s1_62⟩
theorem el_62 : elOkQ Try.prog 62 1 = true := by kernel_rfl
instance : CE Try.prog 62 1 := ⟨el_62⟩
theorem z_62 : zeroA Try.prog 62 = some [.v .nilFunc] := by kernel_rfl
instance : CZ Try.prog 62 [.v .nilFunc] := ⟨z_62⟩
theorem s1_63 : isS1 Try.prog 63 = true := by kernel_rfl
instance : C1 Try.prog 63 := ⟨s1_63⟩
theorem el_63 : elOkQ Try.prog 63 1 = true := by kernel_rfl
instance : CE Try.prog 63 1 := ⟨el_63⟩
theorem z_63 : zeroA Try.prog 63 = some [.v .nilFunc] := by kernel_rfl
instance : CZ Try.prog 63 [.v .nilFunc] := ⟨z_63⟩
theorem s1_64 : isS1 Try.prog 64 = true := by kernel_rfl
instance : C1 Try.prog 64 := ⟨s1_64⟩
theorem el_64 : elOkQ Try.prog 64 1 = true := by kernel_rfl
instance : CE Try.prog 64 1 := ⟨el_64⟩
theorem z_64 : zeroA Try.prog 64 = some [.v .nilFunc] := by kernel_rfl
instance : CZ Try.prog 64 [.v .nilFunc] := ⟨z_64⟩
theorem s1_65 : isS1 Try.prog 65 = true := by kernel_rfl
instance : C1 Try.prog 65 := ⟨s1_65⟩
theorem el_65 : elOkQ Try.prog 65 1 = true := by kernel_rfl
instance : CE Try.prog 65 1 := ⟨el_65⟩
theorem z_65 : zeroA Try.prog 65 = some [.v .nilFunc] := by kernel_rfl
instance : CZ Try.prog 65 [.v .nilFunc] := ⟨z_65⟩
theorem s1_66 : isS1 Try.prog 66 = true := by kernel_rfl
instance : C1 Try.prog 66 := ⟨s1_66⟩
theorem el_66 : elOkQ Try.prog 66 1 = true := by kernel_rfl
instance : CE Try.prog 66 1 := ⟨el_66⟩
theorem z_66 : zeroA Try.prog 66 = some [.v (.pointer none)] := by kernel_rfl
instance : CZ Try.prog 66 [.v (.pointer none)] := ⟨z_66⟩
theorem ag_67 : isAg Try.prog 67 4 = true := by kernel_rfl
instance : CA Try.prog 67 4 := ⟨ag_67⟩
theorem el_67 : elOkQ Try.prog 67 4 = true := by kernel_rfl
instance : CE Try.prog 67 4 := ⟨el_67⟩
theorem fad_67_0 : fadOf Try.prog 67 0 = some 0 := by kernel_rfl
instance : CF Try.prog 67 0 0 := ⟨fad_67_0⟩
theorem fad_67_1 : fadOf Try.prog 67 1 = some 1 := by kernel_rfl
instance : CF Try.prog 67 1 1 := ⟨fad_67_1⟩
theorem fad_67_2 : fadOf Try.prog 67 2 = some 2 := by kernel_rfl
instance : CF Try.prog 67 2 2 := ⟨fad_67_2⟩
theorem fad_67_3 : fadOf Try.prog 67 3 = some 3 := by kernel_rfl
instance : CF Try.prog 67 3 3 := ⟨fad_67_3⟩
theorem z_67 : zeroA Try.prog 67 = some [.v (.int .i64 0), .v (.bool false), .v (.bool false), .v (.int .i64 0)] := by kernel_rfl
instance : CZ Try.prog 67 [.v (.int .i64 0), .v (.bool false), .v (.bool false), .v (.int .i64 0)] := ⟨z_67⟩
theorem ag_68 : isAg Try.prog 68 4 = true := by kernel_rfl
instance : CA Try.prog 68 4 := ⟨ag_68⟩
theorem el_68 : elOkQ Try.prog 68 4 = true := by kernel_rfl
instance : CE Try.prog 68 4 := ⟨el_68⟩
theorem fad_68_0 : fadOf Try.prog 68 0 = some 0 := by kernel_rfl
instance : CF Try.prog 68 0 0 := ⟨fad_68_0⟩
theorem fad_68_1 : fadOf Try.prog 68 1 = some 1 := by kernel_rfl
instance : CF Try.prog 68 1 1 := ⟨fad_68_1⟩
theorem fad_68_2 : fadOf Try.prog 68 2 = some 2 := by kernel_rfl
instance : CF Try.prog 68 2 2 := ⟨fad_68_2⟩
theorem fad_68_3 : fadOf Try.prog 68 3 = some 3 := by kernel_rfl
instance : CF Try.prog 68 3 3 := ⟨fad_68_3⟩
theorem z_68 : zeroA Try.prog 68 = some [.v (.int .i64 0), .v (.bool false), .v (.bool false), .v (.int .i64 0)] := by kernel_rfl
instance : CZ Try.prog 68 [.v (.int .i64 0), .v (.bool false), .v (.bool false), .v (.int .i64 0)] := ⟨z_68⟩
theorem s1_69 : isS1 Try.prog 69 = true := by kernel_rfl
instance : C1 Try.prog 69 := ⟨s1_69⟩
theorem el_69 : elOkQ Try.prog 69 1 = true := by kernel_rfl
instance : CE Try.prog 69 1 := ⟨el_69⟩
theorem z_69 : zeroA Try.prog 69 = some [.v .nilFunc] := by kernel_rfl
instance : CZ Try.prog 69 [.v .nilFunc] := ⟨z_69⟩
theorem s1_70 : isS1 Try.prog 70 = true := by kernel_rfl
instance : C1 Try.prog 70 := ⟨s1_70⟩
theorem el_70 : elOkQ Try.prog 70 1 = true := by kernel_rfl
instance : CE Try.prog 70 1 := ⟨el_70⟩
theorem z_70 : zeroA Try.prog 70 = some [.v .nilFunc] := by kernel_rfl
instance : CZ Try.prog 70 [.v .nilFunc] := ⟨z_70⟩
theorem s1_71 : isS1 Try.prog 71 = true := by kernel_rfl
instance : C1 Try.prog 71 := ⟨s1_71⟩
theorem el_71 : elOkQ Try.prog 71 1 = true := by kernel_rfl
instance : CE Try.prog 71 1 := ⟨el_71⟩
theorem z_71 : zeroA Try.prog 71 = some [.v .nilFunc] := by kernel_rfl
instance : CZ Try.prog 71 [.v .nilFunc] := ⟨z_71⟩
theorem s1_72 : isS1 Try.prog 72 = true := by kernel_rfl
instance : C1 Try.prog 72 := ⟨s1_72⟩
theorem el_72 : elOkQ Try.prog 72 1 = true := by kernel_rfl
instance : CE Try.prog 72 1 := ⟨el_72⟩
theorem z_72 : zeroA Try.prog 72 = some [.v .nilFunc] := by kernel_rfl
instance : CZ Try.prog 72 [.v .nilFunc] := ⟨z_72⟩
theorem s1_73 : isS1 Try.prog 73 = true := by kernel_rfl
instance : C1 Try.prog 73 := ⟨s1_73⟩
theorem el_73 : elOkQ Try.prog 73 1 = true := by kernel_rfl
instance : CE Try.prog 73 1 := ⟨el_73⟩
theorem z_73 : zeroA Try.prog 73 = some [.v .nilFunc] := by kernel_rfl
instance : CZ Try.prog 73 [.v .nilFunc] := ⟨z_73⟩
theorem s1_74 : isS1 Try.prog 74 = true := by kernel_rfl
instance : C1 Try.prog 74 := ⟨s1_74⟩
theorem el_74 : elOkQ Try.prog 74 1 = true := by kernel_rfl
instance : CE Try.prog 74 1 := ⟨el_74⟩
theorem z_74 : zeroA Try.prog 74 = some [.v .nilFunc] := by kernel_rfl
instance : CZ Try.prog 74 [.v .nilFunc] := ⟨z_74⟩
theorem s1_75 : isS1 Try.prog 75 = true := by kernel_rfl
instance : C1 Try.prog 75 := ⟨s1_75⟩
theorem el_75 : elOkQ Try.prog 75 1 = true := by kernel_rfl
instance : CE Try.prog 75 1 := ⟨el_75⟩
theorem z_75 : zeroA Try.prog 75 = some [.v .nilFunc] := by kernel_rfl
instance : CZ Try.prog 75 [.v .nilFunc] := ⟨z_75⟩
theorem s1_76 : isS1 Try.prog 76 = true := by kernel_rfl
instance : C1 Try.prog 76 := ⟨s1_76⟩
theorem el_76 : elOkQ Try.prog 76 1 = true := by kernel_rfl
instance : CE Try.prog 76 1 := ⟨el_76⟩
theorem u_76 : Try.prog.underlying 76 = some (.int .i64) := by kernel_rfl
instance : CU Try.prog 76 .i64 := ⟨u_76⟩
theorem z_76 : zeroA Try.prog 76 = some [.v (.int .i64 0)] := by kernel_rfl
instance : CZ Try.prog 76 [.v (.int .i64 0)] := ⟨z_76⟩
theorem s1_77 : isS1 Try.prog 77 = true := by kernel_rfl
instance : C1 Try.prog 77 := ⟨s1_77⟩
theorem el_77 : elOkQ Try.prog 77 1 = true := by kernel_rfl
instance : CE Try.prog 77 1 := ⟨el_77⟩
theorem z_77 : zeroA Try.prog 77 = some [.v (.pointer none)] := by kernel_rfl
instance : CZ Try.prog 77 [.v (.pointer none)] := ⟨z_77⟩
theorem s1_78 : isS1 Try.prog 78 = true := by kernel_rfl
instance : C1 Try.prog 78 := ⟨s1_78⟩
theorem el_78 : elOkQ Try.prog 78 1 = true := by kernel_rfl
instance : CE Try.prog 78 1 := ⟨el_78⟩
theorem z_78 : zeroA Try.prog 78 = some [.v .nilFunc] := by kernel_rfl
instance : CZ Try.prog 78 [.v .nilFunc] := ⟨z_78⟩
theorem s1_80 : isS1 Try.prog 80 = true := by kernel_rfl
instance : C1 Try.prog 80 := ⟨s1_80⟩
theorem el_80 : elOkQ Try.prog 80 1 = true := by kernel_rfl
instance : CE Try.prog 80 1 := ⟨el_80⟩
theorem z_80 : zeroA Try.prog 80 = some [.v .nilFunc] := by kernel_rfl
instance : CZ Try.prog 80 [.v .nilFunc] := ⟨z_80⟩
theorem s1_81 : isS1 Try.prog 81 = true := by kernel_rfl
instance : C1 Try.prog 81 := ⟨s1_81⟩
theorem el_81 : elOkQ Try.prog 81 1 = true := by kernel_rfl
instance : CE Try.prog 81 1 := ⟨el_81⟩
theorem z_81 : zeroA Try.prog 81 = some [.v .nilFunc] := by kernel_rfl
instance : CZ Try.prog 81 [.v .nilFunc] := ⟨z_81⟩
theorem s1_82 : isS1 Try.prog 82 = true := by kernel_rfl
instance : C1 Try.prog 82 := ⟨s1_82⟩
theorem el_82 : elOkQ Try.prog 82 1 = true := by kernel_rfl
instance : CE Try.prog 82 1 := ⟨el_82⟩
theorem z_82 : zeroA Try.prog 82 = some [.v .nilFunc] := by kernel_rfl
instance : CZ Try.prog 82 [.v .nilFunc] := ⟨z_82⟩
theorem s1_83 : isS1 Try.prog 83 = true := by kernel_rfl
instance : C1 Try.prog 83 := ⟨s1_83⟩
theorem el_83 : elOkQ Try.prog 83 1 = true := by kernel_rfl
instance : CE Try.prog 83 1 := ⟨el_83⟩
theorem z_83 : zeroA Try.prog 83 = some [.v .nilFunc] := by kernel_rfl
instance : CZ Try.prog 83 [.v .nilFunc] := ⟨z_83⟩
theorem s1_84 : isS1 Try.prog 84 = true := by kernel_rfl
instance : C1 Try.prog 84 := ⟨s1_84⟩
theorem el_84 : elOkQ Try.prog 84 1 = true := by kernel_rfl
instance : CE Try.prog 84 1 := ⟨el_84⟩
theorem z_84 : zeroA Try.prog 84 = some [.v .nilFunc] := by kernel_rfl
instance : CZ Try.prog 84 [.v .nilFunc] := ⟨z_84⟩
theorem s1_85 : isS1 Try.prog 85 = true := by kernel_rfl
instance : C1 Try.prog 85 := ⟨s1_85⟩
theorem el_85 : elOkQ Try.prog 85 1 = true := by kernel_rfl
instance : CE Try.prog 85 1 := ⟨el_85⟩
theorem z_85 : zeroA Try.prog 85 = some [.v .nilFunc] := by kernel_rfl
instance : CZ Try.prog 85 [.v .nilFunc] := ⟨z_85⟩
theorem s1_86 : isS1 Try.prog 86 = true := by kernel_rfl
instance : C1 Try.prog 86 := ⟨s1_86⟩
theorem el_86 : elOkQ Try.prog 86 1 = true := by kernel_rfl
instance : CE Try.prog 86 1 := ⟨el_86⟩
theorem z_86 : zeroA Try.prog 86 = some [.v .nilFunc] := by kernel_rfl
instance : CZ Try.prog 86 [.v .nilFunc] := ⟨z_86⟩
theorem ag_87 : isAg Try.prog 87 4 = true := by kernel_rfl
instance : CA Try.prog 87 4 := ⟨ag_87⟩
theorem el_87 : elOkQ Try.prog 87 4 = true := by kernel_rfl
instance : CE Try.prog 87 4 := ⟨el_87⟩
theorem fad_87_0 : fadOf Try.prog 87 0 = some 0 := by kernel_rfl
instance : CF Try.prog 87 0 0 := ⟨fad_87_0⟩
theorem fad_87_1 : fadOf Try.prog 87 1 = some 1 := by kernel_rfl
instance : CF Try.prog 87 1 1 := ⟨fad_87_1⟩
theorem fad_87_2 : fadOf Try.prog 87 2 = some 2 := by kernel_rfl
instance : CF Try.prog 87 2 2 := ⟨fad_87_2⟩
theorem fad_87_3 : fadOf Try.prog 87 3 = some 3 := by kernel_rfl
instance : CF Try.prog 87 3 3 := ⟨fad_87_3⟩
theorem z_87 : zeroA Try.prog 87 = some [.v (.pointer none), .v (.pointer none), .v (.pointer none), .v (.string (mkB []))] := by kernel_rfl
instance : CZ Try.prog 87 [.v (.pointer none), .v (.pointer none), .v (.pointer none), .v (.string (mkB []))] := ⟨z_87⟩
theorem ag_88 : isAg Try.prog 88 4 = true := by kernel_rfl
instance : CA Try.prog 88 4 := ⟨ag_88⟩
theorem el_88 : elOkQ Try.prog 88 4 = true := by kernel_rfl
instance : CE Try.prog 88 4 := ⟨el_88⟩
theorem fad_88_0 : fadOf Try.prog 88 0 = some 0 := by kernel_rfl
instance : CF Try.prog 88 0 0 := ⟨fad_88_0⟩
theorem fad_88_1 : fadOf Try.prog 88 1 = some 1 := by kernel_rfl
instance : CF Try.prog 88 1 1 := ⟨fad_88_1⟩
theorem fad_88_2 : fadOf Try.prog 88 2 = some 2 := by kernel_rfl
instance : CF Try.prog 88 2 2 := ⟨fad_88_2⟩
theorem fad_88_3 : fadOf Try.prog 88 3 = some 3 := by kernel_rfl
instance : CF Try.prog 88 3 3 := ⟨fad_88_3⟩
theorem z_88 : zeroA Try.prog 88 = some [.v (.pointer none), .v (.pointer none), .v (.pointer none), .v (.string (mkB []))] := by kernel_rfl
instance : CZ Try.prog 88 [.v (.pointer none), .v (.pointer none), .v (.pointer none), .v (.string (mkB []))] := ⟨z_88⟩
theorem ar_89 : arrOf Try.prog 89 = some (0, 16, 1) := by kernel_rfl
instance : CR Try.prog 89 0 16 1 := ⟨ar_89⟩
theorem z_89 : zeroA Try.prog 89 = some [] := by kernel_rfl
instance : CZ Try.prog 89 [] := ⟨z_89⟩
theorem z_90 : zeroA Try.prog 90 = some [] := by kernel_rfl
instance : CZ Try.prog 90 [] := ⟨z_90⟩
theorem z_91 : zeroA Try.prog 91 = some [] := by kernel_rfl
instance : CZ Try.prog 91 [] := ⟨z_91⟩
theorem s1_92 : isS1 Try.prog 92 = true := by kernel_rfl
instance : C1 Try.prog 92 := ⟨s1_92⟩
theorem el_92 : elOkQ Try.prog 92 1 = true := by kernel_rfl
instance : CE Try.prog 92 1 := ⟨el_92⟩
theorem z_92 : zeroA Try.prog 92 = some [.v .nilFunc] := by kernel_rfl
instance : CZ Try.prog 92 [.v .nilFunc] := ⟨z_92⟩
theorem s1_93 : isS1 Try.prog 93 = true := by kernel_rfl
instance : C1 Try.prog 93 := ⟨s1_93⟩
theorem el_93 : elOkQ Try.prog 93 1 = true := by kernel_rfl
instance : CE Try.prog 93 1 := ⟨el_93⟩
theorem u_93 : Try.prog.underlying 93 = some (.int .u32) := by kernel_rfl
instance : CU Try.prog 93 .u32 := ⟨u_93⟩
theorem z_93 : zeroA Try.prog 93 = some [.v (.int .u32 0)] := by kernel_rfl
instance : CZ Try.prog 93 [.v (.int .u32 0)] := ⟨z_93⟩
theorem s1_94 : isS1 Try.prog 94 = true := by kernel_rfl
instance : C1 Try.prog 94 := ⟨s1_94⟩
theorem el_94 : elOkQ Try.prog 94 1 = true := by kernel_rfl
instance : CE Try.prog 94 1 := ⟨el_94⟩
theorem u_94 : Try.prog.underlying 94 = some (.int .u8) := by kernel_rfl
instance : CU Try.prog 94 .u8 := ⟨u_94⟩
theorem z_94 : zeroA Try.prog 94 = some [.v (.int .u8 0)] := by kernel_rfl
instance : CZ Try.prog 94 [.v (.int .u8 0)] := ⟨z_94⟩
theorem s1_95 : isS1 Try.prog 95 = true := by kernel_rfl
instance : C1 Try.prog 95 := ⟨s1_95⟩
theorem el_95 : elOkQ Try.prog 95 1 = true := by kernel_rfl
instance : CE Try.prog 95 1 := ⟨el_95⟩
theorem u_95 : Try.prog.underlying 95 = some (.int .u8) := by kernel_rfl
instance : CU Try.prog 95 .u8 := ⟨u_95⟩
theorem z_95 : zeroA Try.prog 95 = some [.v (.int .u8 0)] := by kernel_rfl
instance : CZ Try.prog 95 [.v (.int .u8 0)] := ⟨z_95⟩
theorem s1_96 : isS1 Try.prog 96 = true := by kernel_rfl
instance : C1 Try.prog 96 := ⟨s1_96⟩
theorem el_96 : elOkQ Try.prog 96 1 = true := by kernel_rfl
instance : CE Try.prog 96 1 := ⟨el_96⟩
theorem z_96 : zeroA Try.prog 96 = some [.v .nilFunc] := by kernel_rfl
instance : CZ Try.prog 96 [.v .nilFunc] := ⟨z_96⟩
theorem s1_97 : isS1 Try.prog 97 = true := by kernel_rfl
instance : C1 Try.prog 97 := ⟨s1_97⟩
theorem el_97 : elOkQ Try.prog 97 1 = true := by kernel_rfl
instance : CE Try.prog 97 1 := ⟨el_97⟩
theorem z_97 : zeroA Try.prog 97 = some [.v (.pointer none)] := by kernel_rfl
instance : CZ Try.prog 97 [.v (.pointer none)] := ⟨z_97⟩
theorem s1_98 : isS1 Try.prog 98 = true := by kernel_rfl
instance : C1 Try.prog 98 := ⟨s1_98⟩
theorem el_98 : elOkQ Try.prog 98 1 = true := by kernel_rfl
instance : CE Try.prog 98 1 := ⟨el_98⟩
theorem u_98 : Try.prog.underlying 98 = some (.int .i32) := by kernel_rfl
instance : CU Try.prog 98 .i32 := ⟨u_98⟩
theorem z_98 : zeroA Try.prog 98 = some [.v (.int .i32 0)] := by kernel_rfl
instance : CZ Try.prog 98 [.v (.int .i32 0)] := ⟨z_98⟩
theorem s1_99 : isS1 Try.prog 99 = true := by kernel_rfl
instance : C1 Try.prog 99 := ⟨s1_99⟩
theorem el_99 : elOkQ Try.prog 99 1 = true := by kernel_rfl
instance : CE Try.prog 99 1 := ⟨el_99⟩
theorem u_99 : Try.prog.underlying 99 = some (.int .i32) := by kernel_rfl
instance : CU Try.prog 99 .i32 := ⟨u_99⟩
theorem z_99 : zeroA Try.prog 99 = some [.v (.int .i32 0)] := by kernel_rfl
instance : CZ Try.prog 99 [.v (.int .i32 0)] := ⟨z_99⟩
theorem ag_100 : isAg Try.prog 100 11 = true := by kernel_rfl
instance : CA Try.prog 100 11 := ⟨ag_100⟩
theorem fad_100_0 : fadOf Try.prog 100 0 = some 0 := by kernel_rfl
instance : CF Try.prog 100 0 0 := ⟨fad_100_0⟩
theorem fad_100_1 : fadOf Try.prog 100 1 = some 1 := by kernel_rfl
instance : CF Try.prog 100 1 1 := ⟨fad_100_1⟩
theorem fad_100_2 : fadOf Try.prog 100 2 = some 2 := by kernel_rfl
instance : CF Try.prog 100 2 2 := ⟨fad_100_2⟩
theorem fad_100_3 : fadOf Try.prog 100 3 = some 3 := by kernel_rfl
instance : CF Try.prog 100 3 3 := ⟨fad_100_3⟩
theorem fad_100_4 : fadOf Try.prog 100 4 = some 4 := by kernel_rfl
instance : CF Try.prog 100 4 4 := ⟨fad_100_4⟩
theorem fad_100_5 : fadOf Try.prog 100 5 = some 5 := by kernel_rfl
instance : CF Try.prog 100 5 5 := ⟨fad_100_5⟩
theorem fad_100_6 : fadOf Try.prog 100 6 = some 6 := by kernel_rfl
instance : CF Try.prog 100 6 6 := ⟨fad_100_6⟩
theorem fad_100_7 : fadOf Try.prog 100 7 = some 7 := by kernel_rfl
instance : CF Try.prog 100 7 7 := ⟨fad_100_7⟩
theorem z_100 : zeroA Try.prog 100 = some [.v (.int .u64 0), .v (.int .u64 0), .v (.int .u32 0), .v (.int .u8 0), .v (.int .u8 0), .v (.int .u8 0), .v (.int .u8 0), .v .nilFunc, .v (.pointer none), .v (.int .i32 0), .v (.int .i32 0)] := by kernel_rfl
instance : CZ Try.prog 100 [.v (.int .u64 0), .v (.int .u64 0), .v (.int .u32 0), .v (.int .u8 0), .v (.int .u8 0), .v (.int .u8 0), .v (.int .u8 0), .v .nilFunc, .v (.pointer none), .v (.int .i32 0), .v (.int .i32 0)] := ⟨z_100⟩
theorem ag_101 : isAg Try.prog 101 11 = true := by kernel_rfl
instance : CA Try.prog 101 11 := ⟨ag_101⟩
theorem fad_101_0 : fadOf Try.prog 101 0 = some 0 := by kernel_rfl
instance : CF Try.prog 101 0 0 := ⟨fad_101_0⟩
theorem fad_101_1 : fadOf Try.prog 101 1 = some 1 := by kernel_rfl
instance : CF Try.prog 101 1 1 := ⟨fad_101_1⟩
theorem fad_101_2 : fadOf Try.prog 101 2 = some 2 := by kernel_rfl
instance : CF Try.prog 101 2 2 := ⟨fad_101_2⟩
theorem fad_101_3 : fadOf Try.prog 101 3 = some 3 := by kernel_rfl
instance : CF Try.prog 101 3 3 := ⟨fad_101_3⟩
theorem fad_101_4 : fadOf Try.prog 101 4 = some 4 := by kernel_rfl
instance : CF Try.prog 101 4 4 := ⟨fad_101_4⟩
theorem fad_101_5 : fadOf Try.prog 101 5 = some 5 := by kernel_rfl
instance : CF Try.prog 101 5 5 := ⟨fad_101_5⟩
theorem fad_101_6 : fadOf Try.prog 101 6 = some 6 := by kernel_rfl
instance : CF Try.prog 101 6 6 := ⟨fad_101_6⟩
theorem fad_101_7 : fadOf Try.prog 101 7 = some 7 := by kernel_rfl
instance : CF Try.prog 101 7 7 := ⟨fad_101_7⟩
theorem z_101 : zeroA Try.prog 101 = some [.v (.int .u64 0), .v (.int .u64 0), .v (.int .u32 0), .v (.int .u8 0), .v (.int .u8 0), .v (.int .u8 0), .v (.int .u8 0), .v .nilFunc, .v (.pointer none), .v (.int .i32 0), .v (.int .i32 0)] := by kernel_rfl
instance : CZ Try.prog 101 [.v (.int .u64 0), .v (.int .u64 0), .v (.int .u32 0), .v (.int .u8 0), .v (.int .u8 0), .v (.int .u8 0), .v (.int .u8 0), .v .nilFunc, .v (.pointer none), .v (.int .i32 0), .v (.int .i32 0)] := ⟨z_101⟩
theorem s1_102 : isS1 Try.prog 102 = true := by kernel_rfl
instance : C1 Try.prog 102 := ⟨s1_102⟩
theorem el_102 : elOkQ Try.prog 102 1 = true := by kernel_rfl
instance : CE Try.prog 102 1 := ⟨el_102⟩
theorem z_102 : zeroA Try.prog 102 = some [.v (.pointer none)] := by kernel_rfl
instance : CZ Try.prog 102 [.v (.pointer none)] := ⟨z_102⟩
theorem ok_10 : okFn Try.prog 10 = true := by kernel_rfl
instance : CO Try.prog 10 := ⟨ok_10⟩
theorem ok_11 : okFn Try.prog 11 = true := by kernel_rfl
instance : CO Try.prog 11 := ⟨ok_11⟩
theorem ok_12 : okFn Try.prog 12 = true := by kernel_rfl
instance : CO Try.prog 12 := ⟨ok_12⟩
theorem ok_13 : okFn Try.prog 13 = true := by kernel_rfl
instance : CO Try.prog 13 := ⟨ok_13⟩
theorem ok_14 : okFn Try.prog 14 = true := by kernel_rfl
instance : CO Try.prog 14 := ⟨ok_14⟩
theorem ok_15 : okFn Try.prog 15 = true := by kernel_rfl
instance : CO Try.prog 15 := ⟨ok_15⟩
theorem ok_16 : okFn Try.prog 16 = true := by kernel_rfl
instance : CO Try.prog 16 := ⟨ok_16⟩
theorem ok_17 : okFn Try.prog 17 = true := by kernel_rfl
instance : CO Try.prog 17 := ⟨ok_17⟩
theorem ok_18 : okFn Try.prog 18 = true := by kernel_rfl
instance : CO Try.prog 18 := ⟨ok_18⟩
theorem ok_19 : okFn Try.prog 19 = true := by kernel_rfl
instance : CO Try.prog 19 := ⟨ok_19⟩
theorem ok_20 : okFn Try.prog 20 = true := by kernel_rfl
instance : CO Try.prog 20 := ⟨ok_20⟩
theorem ok_21 : okFn Try.prog 21 = true := by kernel_rfl
instance : CO Try.prog 21 := ⟨ok_21⟩
theorem ok_22 : okFn Try.prog 22 = true := by kernel_rfl
instance : CO Try.prog 22 := ⟨ok_22⟩
theorem ok_23 : okFn Try.prog 23 = true := by kernel_rfl
instance : CO Try.prog 23 := ⟨ok_23⟩
theorem ok_24 : okFn Try.prog 24 = true := by kernel_rfl
instance : CO Try.prog 24 := ⟨ok_24⟩
theorem ok_25 : okFn Try.prog 25 = true := by kernel_rfl
instance : CO Try.prog 25 := ⟨ok_25⟩
theorem ok_26 : okFn Try.prog 26 = true := by kernel_rfl
instance : CO Try.prog 26 := ⟨ok_26⟩
theorem ok_27 : okFn Try.prog 27 = true := by kernel_rfl
instance : CO Try.prog 27 := ⟨ok_27⟩
theorem ok_28 : okFn Try.prog 28 = true := by kernel_rfl
instance : CO Try.prog 28 := ⟨ok_28⟩
theorem ok_29 : okFn Try.prog 29 = true := by kernel_rfl
instance : CO Try.prog 29 := ⟨ok_29⟩
theorem ok_3 : okFn Try.prog 3 = true := by kernel_rfl
instance : CO Try.prog 3 := ⟨ok_3⟩
theorem ok_30 : okFn Try.prog 30 = true := by kernel_rfl
instance : CO Try.prog 30 := ⟨ok_30⟩
theorem ok_31 : okFn Try.prog 31 = true := by kernel_rfl
instance : CO Try.prog 31 := ⟨ok_31⟩
theorem ok_32 : okFn Try.prog 32 = true := by kernel_rfl
instance : CO Try.prog 32 := ⟨ok_32⟩
theorem ok_33 : okFn Try.prog 33 = true := by kernel_rfl
instance : CO Try.prog 33 := ⟨ok_33⟩
theorem ok_34 : okFn Try.prog 34 = true := by kernel_rfl
instance : CO Try.prog 34 := ⟨ok_34⟩
theorem ok_35 : okFn Try.prog 35 = true := by kernel_rfl
instance : CO Try.prog 35 := ⟨ok_35⟩
theorem ok_36 : okFn Try.prog 36 = true := by kernel_rfl
instance : CO Try.prog 36 := ⟨ok_36⟩
theorem ok_37 : okFn Try.prog 37 = true := by kernel_rfl
instance : CO Try.prog 37 := ⟨ok_37⟩
theorem ok_38 : okFn Try.prog 38 = true := by kernel_rfl
instance : CO Try.prog 38 := ⟨ok_38⟩
theorem ok_39 : okFn Try.prog 39 = true := by kernel_rfl
instance : CO Try.prog 39 := ⟨ok_39⟩
theorem ok_4 : okFn Try.prog 4 = true := by kernel_rfl
instance : CO Try.prog 4 := ⟨ok_4⟩
theorem ok_40 : okFn Try.prog 40 = true := by kernel_rfl
instance : CO Try.prog 40 := ⟨ok_40⟩
theorem ok_41 : okFn Try.prog 41 = true := by kernel_rfl
instance : CO Try.prog 41 := ⟨ok_41⟩
theorem ok_42 : okFn Try.prog 42 = true := by kernel_rfl
instance : CO Try.prog 42 := ⟨ok_42⟩
theorem ok_43 : okFn Try.prog 43 = true := by kernel_rfl
instance : CO Try.prog 43 := ⟨ok_43⟩
theorem ok_44 : okFn Try.prog 44 = true := by kernel_rfl
instance : CO Try.prog 44 := ⟨ok_44⟩
theorem ok_45 : okFn Try.prog 45 = true := by kernel_rfl
instance : CO Try.prog 45 := ⟨ok_45⟩
theorem ok_46 : okFn Try.prog 46 = true := by kernel_rfl
instance : CO Try.prog 46 := ⟨ok_46⟩
theorem ok_47 : okFn Try.prog 47 = true := by kernel_rfl
instance : CO Try.prog 47 := ⟨ok_47⟩
theorem ok_48 : okFn Try.prog 48 = true := by kernel_rfl
instance : CO Try.prog 48 := ⟨ok_48⟩
theorem ok_49 : okFn Try.prog 49 = true := by kernel_rfl
instance : CO Try.prog 49 := ⟨ok_49⟩
theorem ok_5 : okFn Try.prog 5 = true := by kernel_rfl
instance : CO Try.prog 5 := ⟨ok_5⟩
theorem ok_50 : okFn Try.prog 50 = true := by kernel_rfl
instance : CO Try.prog 50 := ⟨ok_50⟩
theorem ok_51 : okFn Try.prog 51 = true := by kernel_rfl
instance : CO Try.prog 51 := ⟨ok_51⟩
theorem ok_52 : okFn Try.prog 52 = true := by kernel_rfl
instance : CO Try.prog 52 := ⟨ok_52⟩
theorem ok_53 : okFn Try.prog 53 = true := by kernel_rfl
instance : CO Try.prog 53 := ⟨ok_53⟩
theorem ok_54 : okFn Try.prog 54 = true := by kernel_rfl
instance : CO Try.prog 54 := ⟨ok_54⟩
theorem ok_55 : okFn Try.prog 55 = true := by kernel_rfl
instance : CO Try.prog 55 := ⟨ok_55⟩
theorem ok_56 : okFn Try.prog 56 = true := by kernel_rfl
instance : CO Try.prog 56 := ⟨ok_56⟩
theorem ok_57 : okFn Try.prog 57 = true := by kernel_rfl
instance : CO Try.prog 57 := ⟨ok_57⟩
theorem ok_58 : okFn Try.prog 58 = true := by kernel_rfl
instance : CO Try.prog 58 := ⟨ok_58⟩
theorem ok_59 : okFn Try.prog 59 = true := by kernel_rfl
instance : CO Try.prog 59 := ⟨ok_59⟩
theorem ok_6 : okFn Try.prog 6 = true := by kernel_rfl
instance : CO Try.prog 6 := ⟨ok_6⟩
theorem ok_60 : okFn Try.prog 60 = true := by kernel_rfl
instance : CO Try.prog 60 := ⟨ok_60⟩
theorem ok_61 : okFn Try.prog 61 = true := by kernel_rfl
instance : CO Try.prog 61 := ⟨ok_61⟩
theorem ok_62 : okFn Try.prog 62 = true := by kernel_rfl
instance : CO Try.prog 62 := ⟨ok_62⟩
theorem ok_63 : okFn Try.prog 63 = true := by kernel_rfl
instance : CO Try.prog 63 := ⟨ok_63⟩
theorem ok_64 : okFn Try.prog 64 = true := by kernel_rfl
instance : CO Try.prog 64 := ⟨ok_64⟩
theorem ok_65 : okFn Try.prog 65 = true := by kernel_rfl
instance : CO Try.prog 65 := ⟨ok_65⟩
theorem ok_66 : okFn Try.prog 66 = true := by kernel_rfl
instance : CO Try.prog 66 := ⟨ok_66⟩
theorem ok_67 : okFn Try.prog 67 = true := by kernel_rfl
instance : CO Try.prog 67 := ⟨ok_67⟩
theorem ok_68 : okFn Try.prog 68 = true := by kernel_rfl
instance : CO Try.prog 68 := ⟨ok_68⟩
theorem ok_69 : okFn Try.prog 69 = true := by kernel_rfl
instance : CO Try.prog 69 := ⟨ok_69⟩
theorem ok_7 : okFn Try.prog 7 = true := by kernel_rfl
instance : CO Try.prog 7 := ⟨ok_7⟩
theorem ok_70 : okFn Try.prog 70 = true := by kernel_rfl
instance : CO Try.prog 70 := ⟨ok_70⟩
theorem ok_71 : okFn Try.prog 71 = true := by kernel_rfl
instance : CO Try.prog 71 := ⟨ok_71⟩
theorem ok_72 : okFn Try.prog 72 = true := by kernel_rfl
instance : CO Try.prog 72 := ⟨ok_72⟩
theorem ok_73 : okFn Try.prog 73 = true := by kernel_rfl
instance : CO Try.prog 73 := ⟨ok_73⟩
theorem ok_8 : okFn Try.prog 8 = true := by kernel_rfl
instance : CO Try.prog 8 := ⟨ok_8⟩
theorem ok_9 : okFn Try.prog 9 = true := by kernel_rfl
instance : CO Try.prog 9 := ⟨ok_9⟩
theorem hm : Try.prog.follows .mixedOrders = true := by kernel_rfl
theorem bd_68z : bld Try.prog 68 [] = some (TA tk0) := by kernel_rfl
theorem bd_68 (u : Int) : bld Try.prog 68 [(0, I u), (1, B true)] = some (TA ⟨u, true, false, 0⟩) := by kernel_rfl
theorem bd_53 (j : Int) : bld Try.prog 53 [(0, I j)] = some (WA j 0) := by kernel_rfl
theorem bd_53z : bld Try.prog 53 [] = some (WA 0 0) := by kernel_rfl
instance : BD Try.prog 68 [] (TA tk0) := ⟨bd_68z⟩
instance (u : Int) : BD Try.prog 68 [(0, I u), (1, B true)] (TA ⟨u, true, false, 0⟩) := ⟨bd_68 u⟩
instance (j : Int) : BD Try.prog 53 [(0, I j)] (WA j 0) := ⟨bd_53 j⟩
instance : BD Try.prog 53 [] (WA 0 0) := ⟨bd_53z⟩
theorem eq_53 (a b c d : Int) : bin Try.prog .eql 53 (WA a b) (WA c d) = some (B (a == c && (b == d && true))) := by kernel_rfl
theorem ne_53 (a b c d : Int) : bin Try.prog .neq 53 (WA a b) (WA c d) = some (B (!(a == c && (b == d && true)))) := by kernel_rfl
theorem eq_68 (x y : Tk) : bin Try.prog .eql 68 (TA x) (TA y) = some (B (x.u == y.u && (x.f == y.f && (x.o == y.o && (x.a == y.a && true))))) := by kernel_rfl
theorem ne_68 (x y : Tk) : bin Try.prog .neq 68 (TA x) (TA y) = some (B (!(x.u == y.u && (x.f == y.f && (x.o == y.o && (x.a == y.a && true)))))) := by kernel_rfl
instance (a b c d : Int) : BN Try.prog .eql 53 (WA a b) (WA c d) (a == c && (b == d && true)) := ⟨eq_53 a b c d⟩
instance (a b c d : Int) : BN Try.prog .neq 53 (WA a b) (WA c d) (!(a == c && (b == d && true))) := ⟨ne_53 a b c d⟩
instance (x y : Tk) : BN Try.prog .eql 68 (TA x) (TA y) (x.u == y.u && (x.f == y.f && (x.o == y.o && (x.a == y.a && true)))) := ⟨eq_68 x y⟩
instance (x y : Tk) : BN Try.prog .neq 68 (TA x) (TA y) (!(x.u == y.u && (x.f == y.f && (x.o == y.o && (x.a == y.a && true))))) := ⟨ne_68 x y⟩
def taskR (u : Int) : AV := if u < 1 ∨ 1099511627776 < u then .tup [TA tk0, I 2] else .tup [TA ⟨u, true, false, 0⟩, I 0]
theorem taskR_no {u : Int} (h : u < 1 ∨ 1099511627776 < u) : taskR u = .tup [TA tk0, I 2] := if_pos h
theorem taskR_yes {u : Int} (h : ¬ (u < 1 ∨ 1099511627776 < u)) : taskR u = .tup [TA ⟨u, true, false, 0⟩, I 0] := if_neg h
theorem task_any (u : Int) : ACalls Try.prog 64 [I u] [] (fun r _ => r = taskR u ∧ r.sc 0 = true) := by
  refine acalls_of_wk hm Try.func64 rfl ?_
  simp only [Try.ntmps64, List.length_cons, List.length_nil, Nat.reduceAdd, Nat.reduceSub, List.reduceReplicate, List.cons_append, List.nil_append]
  show wk _ _ none _ _ ⟨_, []⟩ _
  focus
    with_reducible refine s_seq ?_
    with_reducible refine s_reg ?_
    refine salloc ?_
    simp only [pu', p0', c1', c0', i1', n0', n3', n1', n2', a2', a1', a0', n4', Nat.reduceAdd, z0', n5', sa0, sa1, sa2, sa3, sa4, sa5, sa6, sa7, sa8, sa9, sa10, sa11]
    refine sassign ?_
    simp only [pu', p0', c1', c0', i1', z0', b8_nat]
    with_reducible refine s_end ?_
    with_reducible refine s_then ?_
    with_reducible refine s_seq ?_
    with_reducible refine s_seq ?_
    with_reducible refine s_reg ?_
    refine smove ?_
    simp only [pu', p0', c1', c0', i1', z0', b8_nat]
    refine sLt (fun hb => ?_) (fun hb => ?_)
    replace hb := dT' hb
    simp only [pu', p0', c1', c0', i1', z0', b8_nat]
    refine smove ?_
    simp only [pu', p0', c1', c0', i1', z0', b8_nat]
    refine sN ?_
    simp only [pu', p0', c1', c0', i1', z0', b8_nat]
    refine sN ?_
    simp only [pu', p0', c1', c0', i1', z0', b8_nat]
    refine spickT ?_
    simp only [pu', p0', c1', c0', i1', z0', b8_nat]
    with_reducible refine s_end ?_
    with_reducible refine s_then ?_
    refine sCT ?_
    with_reducible refine s_seq ?_
    with_reducible refine s_reg ?_
    refine sbuild ?_
    simp only [pu', p0', c1', c0', i1', z0', b8_nat]
    refine sstoreF ?_
    simp only [pu', p0', c1', c0', i1', n0', n3', n1', n2', a2', a1', a0', n4', Nat.reduceAdd, z0', n5', sa0, sa1, sa2, sa3, sa4, sa5, sa6, sa7, sa8, sa9, sa10, sa11]
    refine sassign ?_
    simp only [pu', p0', c1', c0', i1', z0', b8_nat]
    with_reducible refine s_end ?_
    with_reducible refine s_then ?_
    with_reducible refine s_ret ?_
    with_reducible refine s_thenR ?_
    rotate_left 1
    replace hb := dF' hb
    simp only [pu', p0', c1', c0', i1', z0', b8_nat]
    refine smove ?_
    simp only [pu', p0', c1', c0', i1', z0', b8_nat]
    refine smove ?_
    simp only [pu', p0', c1', c0', i1', z0', b8_nat]
    refine sGt (fun hb => ?_) (fun hb => ?_)
    replace hb := dT' hb
    simp only [pu', p0', c1', c0', i1', z0', b8_nat]
    refine spickF ?_
    simp only [pu', p0', c1', c0', i1', z0', b8_nat]
    with_reducible refine s_end ?_
    with_reducible refine s_then ?_
    refine sCT ?_
    with_reducible refine s_seq ?_
    with_reducible refine s_reg ?_
    refine sbuild ?_
    simp only [pu', p0', c1', c0', i1', z0', b8_nat]
    refine sstoreF ?_
    simp only [pu', p0', c1', c0', i1', n0', n3', n1', n2', a2', a1', a0', n4', Nat.reduceAdd, z0', n5', sa0, sa1, sa2, sa3, sa4, sa5, sa6, sa7, sa8, sa9, sa10, sa11]
    refine sassign ?_
    simp only [pu', p0', c1', c0', i1', z0', b8_nat]
    with_reducible refine s_end ?_
    with_reducible refine s_then ?_
    with_reducible refine s_ret ?_
    with_reducible refine s_thenR ?_
    rotate_left 1
    replace hb := dF' hb
    simp only [pu', p0', c1', c0', i1', z0', b8_nat]
    refine spickF ?_
    simp only [pu', p0', c1', c0', i1', z0', b8_nat]
    with_reducible refine s_end ?_
    with_reducible refine s_then ?_
    refine sCF ?_
    with_reducible refine s_skip ?_
    with_reducible refine s_then ?_
    with_reducible refine s_seq ?_
    with_reducible refine s_reg ?_
    refine smove ?_
    simp only [pu', p0', c1', c0', i1', z0', b8_nat]
    refine sbuild ?_
    simp only [pu', p0', c1', c0', i1', z0', b8_nat]
    refine sstoreF ?_
    simp only [pu', p0', c1', c0', i1', n0', n3', n1', n2', a2', a1', a0', n4', Nat.reduceAdd, z0', n5', sa0, sa1, sa2, sa3, sa4, sa5, sa6, sa7, sa8, sa9, sa10, sa11]
    refine sassign ?_
    simp only [pu', p0', c1', c0', i1', z0', b8_nat]
    with_reducible refine s_end ?_
    with_reducible refine s_then ?_
    with_reducible refine s_ret ?_
    rotate_left 1
  all_goals try with_reducible refine w_n ?_
  all_goals refine w_2 rfl (by first | exact v_t (by rfl) | exact v_c1 (C1.p) (by rfl) (HA.p) (by rfl) | exact v_cF (CA.p) (by rfl) (HA.p) (by rfl)) (by first | exact v_t (by rfl) | exact v_c1 (C1.p) (by rfl) (HA.p) (by rfl) | exact v_cF (CA.p) (by rfl) (HA.p) (by rfl)) ?_
  all_goals refine ⟨?_, rfl⟩
  all_goals first | exact (taskR_no (by omega)).symm | exact (taskR_yes (by omega)).symm
theorem idle_any : ACalls Try.prog 28 [] [] (fun r _ => r = WA (-1) 0 ∧ r.sc 0 = true) := by
  refine acalls_of_wk hm Try.func28 rfl ?_
  simp only [Try.ntmps28, List.length_cons, List.length_nil, Nat.reduceAdd, Nat.reduceSub, List.reduceReplicate, List.cons_append, List.nil_append]
  show wk _ _ none _ _ ⟨_, []⟩ _
  with_reducible refine s_seq ?_
  with_reducible refine s_reg ?_
  refine salloc ?_
  simp only [pu', p0', c1', c0', i1', n0', n3', n1', n2', a2', a1', a0', n4', Nat.reduceAdd, z0', n5', sa0, sa1, sa2, sa3, sa4, sa5, sa6, sa7, sa8, sa9, sa10, sa11]
  with_reducible refine s_end ?_
  with_reducible refine s_then ?_
  with_reducible refine s_seq ?_
  with_reducible refine s_reg ?_
  refine sbuild ?_
  simp only [pu', p0', c1', c0', i1', z0', b8_nat]
  refine sstoreF ?_
  simp only [pu', p0', c1', c0', i1', n0', n3', n1', n2', a2', a1', a0', n4', Nat.reduceAdd, z0', n5', sa0, sa1, sa2, sa3, sa4, sa5, sa6, sa7, sa8, sa9, sa10, sa11]
  with_reducible refine s_end ?_
  with_reducible refine s_then ?_
  with_reducible refine s_ret ?_
  all_goals try with_reducible refine w_n ?_
  all_goals refine w_1 rfl (by first | exact v_t (by rfl) | exact v_c1 (C1.p) (by rfl) (HA.p) (by rfl) | exact v_cF (CA.p) (by rfl) (HA.p) (by rfl)) ?_
  all_goals exact ⟨rfl, rfl⟩
end Go.Proofs.Ytfcgmkpihmiadaa
