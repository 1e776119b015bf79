/-
  A part of the proof of a statement of a chapter's seat; conditions: stated at each theorem.
-/
import Derived.Test.YtckljanplahbkaaM1
set_option linter.unusedVariables false
set_option linter.unusedSectionVars false
set_option linter.unusedSimpArgs false
set_option linter.unusedVariables false
set_option maxRecDepth 100000
set_option maxHeartbeats 4000000
namespace Go.Proofs.Ytckljanplahbkaa
open Go.Az Go
theorem s1_1 : isS1 Try.prog 1 = true := by kernel_rfl
instance : C1 Try.prog 1 := ⟨s1_1⟩
theorem el_1 : elOkQ Try.prog 1 1 = true := by kernel_rfl
instance : CE Try.prog 1 1 := ⟨el_1⟩
theorem z_1 : zeroA Try.prog 1 = some [.v .nilFunc] := by kernel_rfl
instance : CZ Try.prog 1 [.v .nilFunc] := ⟨z_1⟩
theorem s1_2 : isS1 Try.prog 2 = true := by kernel_rfl
instance : C1 Try.prog 2 := ⟨s1_2⟩
theorem el_2 : elOkQ Try.prog 2 1 = true := by kernel_rfl
instance : CE Try.prog 2 1 := ⟨el_2⟩
theorem u_2 : Try.prog.underlying 2 = some (.int .i64) := by kernel_rfl
instance : CU Try.prog 2 .i64 := ⟨u_2⟩
theorem z_2 : zeroA Try.prog 2 = some [.v (.int .i64 0)] := by kernel_rfl
instance : CZ Try.prog 2 [.v (.int .i64 0)] := ⟨z_2⟩
theorem s1_3 : isS1 Try.prog 3 = true := by kernel_rfl
instance : C1 Try.prog 3 := ⟨s1_3⟩
theorem el_3 : elOkQ Try.prog 3 1 = true := by kernel_rfl
instance : CE Try.prog 3 1 := ⟨el_3⟩
theorem u_3 : Try.prog.underlying 3 = some (.int .i64) := by kernel_rfl
instance : CU Try.prog 3 .i64 := ⟨u_3⟩
theorem z_3 : zeroA Try.prog 3 = some [.v (.int .i64 0)] := by kernel_rfl
instance : CZ Try.prog 3 [.v (.int .i64 0)] := ⟨z_3⟩
theorem s1_4 : isS1 Try.prog 4 = true := by kernel_rfl
instance : C1 Try.prog 4 := ⟨s1_4⟩
theorem el_4 : elOkQ Try.prog 4 1 = true := by kernel_rfl
instance : CE Try.prog 4 1 := ⟨el_4⟩
theorem bo_4 : Try.prog.underlying 4 = some .bool := by kernel_rfl
instance : CB Try.prog 4 := ⟨bo_4⟩
theorem z_4 : zeroA Try.prog 4 = some [.v (.bool false)] := by kernel_rfl
instance : CZ Try.prog 4 [.v (.bool false)] := ⟨z_4⟩
theorem s1_5 : isS1 Try.prog 5 = true := by kernel_rfl
instance : C1 Try.prog 5 := ⟨s1_5⟩
theorem el_5 : elOkQ Try.prog 5 1 = true := by kernel_rfl
instance : CE Try.prog 5 1 := ⟨el_5⟩
theorem u_5 : Try.prog.underlying 5 = some (.int .u8) := by kernel_rfl
instance : CU Try.prog 5 .u8 := ⟨u_5⟩
theorem z_5 : zeroA Try.prog 5 = some [.v (.int .u8 0)] := by kernel_rfl
instance : CZ Try.prog 5 [.v (.int .u8 0)] := ⟨z_5⟩
theorem s1_6 : isS1 Try.prog 6 = true := by kernel_rfl
instance : C1 Try.prog 6 := ⟨s1_6⟩
theorem el_6 : elOkQ Try.prog 6 1 = true := by kernel_rfl
instance : CE Try.prog 6 1 := ⟨el_6⟩
theorem u_6 : Try.prog.underlying 6 = some (.int .u8) := by kernel_rfl
instance : CU Try.prog 6 .u8 := ⟨u_6⟩
theorem z_6 : zeroA Try.prog 6 = some [.v (.int .u8 0)] := by kernel_rfl
instance : CZ Try.prog 6 [.v (.int .u8 0)] := ⟨z_6⟩
theorem ag_7 : isAg Try.prog 7 4 = true := by kernel_rfl
instance : CA Try.prog 7 4 := ⟨ag_7⟩
theorem el_7 : elOkQ Try.prog 7 4 = true := by kernel_rfl
instance : CE Try.prog 7 4 := ⟨el_7⟩
theorem fad_7_0 : fadOf Try.prog 7 0 = some 0 := by kernel_rfl
instance : CF Try.prog 7 0 0 := ⟨fad_7_0⟩
theorem fad_7_1 : fadOf Try.prog 7 1 = some 1 := by kernel_rfl
instance : CF Try.prog 7 1 1 := ⟨fad_7_1⟩
theorem fad_7_2 : fadOf Try.prog 7 2 = some 2 := by kernel_rfl
instance : CF Try.prog 7 2 2 := ⟨fad_7_2⟩
theorem fad_7_3 : fadOf Try.prog 7 3 = some 3 := by kernel_rfl
instance : CF Try.prog 7 3 3 := ⟨fad_7_3⟩
theorem z_7 : zeroA Try.prog 7 = some [.v (.int .i64 0), .v (.int .i64 0), .v (.bool false), .v (.int .u8 0)] := by kernel_rfl
instance : CZ Try.prog 7 [.v (.int .i64 0), .v (.int .i64 0), .v (.bool false), .v (.int .u8 0)] := ⟨z_7⟩
theorem ag_8 : isAg Try.prog 8 4 = true := by kernel_rfl
instance : CA Try.prog 8 4 := ⟨ag_8⟩
theorem el_8 : elOkQ Try.prog 8 4 = true := by kernel_rfl
instance : CE Try.prog 8 4 := ⟨el_8⟩
theorem fad_8_0 : fadOf Try.prog 8 0 = some 0 := by kernel_rfl
instance : CF Try.prog 8 0 0 := ⟨fad_8_0⟩
theorem fad_8_1 : fadOf Try.prog 8 1 = some 1 := by kernel_rfl
instance : CF Try.prog 8 1 1 := ⟨fad_8_1⟩
theorem fad_8_2 : fadOf Try.prog 8 2 = some 2 := by kernel_rfl
instance : CF Try.prog 8 2 2 := ⟨fad_8_2⟩
theorem fad_8_3 : fadOf Try.prog 8 3 = some 3 := by kernel_rfl
instance : CF Try.prog 8 3 3 := ⟨fad_8_3⟩
theorem z_8 : zeroA Try.prog 8 = some [.v (.int .i64 0), .v (.int .i64 0), .v (.bool false), .v (.int .u8 0)] := by kernel_rfl
instance : CZ Try.prog 8 [.v (.int .i64 0), .v (.int .i64 0), .v (.bool false), .v (.int .u8 0)] := ⟨z_8⟩
theorem s1_9 : isS1 Try.prog 9 = true := by kernel_rfl
instance : C1 Try.prog 9 := ⟨s1_9⟩
theorem st_9 : strTy Try.prog 9 = true := by kernel_rfl
instance : CT Try.prog 9 := ⟨st_9⟩
theorem el_9 : elOkQ Try.prog 9 1 = true := by kernel_rfl
instance : CE Try.prog 9 1 := ⟨el_9⟩
theorem z_9 : zeroA Try.prog 9 = some [.v (.string (mkB []))] := by kernel_rfl
instance : CZ Try.prog 9 [.v (.string (mkB []))] := ⟨z_9⟩
theorem s1_10 : isS1 Try.prog 10 = true := by kernel_rfl
instance : C1 Try.prog 10 := ⟨s1_10⟩
theorem st_10 : strTy Try.prog 10 = true := by kernel_rfl
instance : CT Try.prog 10 := ⟨st_10⟩
theorem el_10 : elOkQ Try.prog 10 1 = true := by kernel_rfl
instance : CE Try.prog 10 1 := ⟨el_10⟩
theorem z_10 : zeroA Try.prog 10 = some [.v (.string (mkB []))] := by kernel_rfl
instance : CZ Try.prog 10 [.v (.string (mkB []))] := ⟨z_10⟩
theorem s1_11 : isS1 Try.prog 11 = true := by kernel_rfl
instance : C1 Try.prog 11 := ⟨s1_11⟩
theorem st_11 : strTy Try.prog 11 = true := by kernel_rfl
instance : CT Try.prog 11 := ⟨st_11⟩
theorem el_11 : elOkQ Try.prog 11 1 = true := by kernel_rfl
instance : CE Try.prog 11 1 := ⟨el_11⟩
theorem z_11 : zeroA Try.prog 11 = some [.v (.string (mkB []))] := by kernel_rfl
instance : CZ Try.prog 11 [.v (.string (mkB []))] := ⟨z_11⟩
theorem s1_12 : isS1 Try.prog 12 = true := by kernel_rfl
instance : C1 Try.prog 12 := ⟨s1_12⟩
theorem el_12 : elOkQ Try.prog 12 1 = true := by kernel_rfl
instance : CE Try.prog 12 1 := ⟨el_12⟩
theorem u_12 : Try.prog.underlying 12 = some (.int .u64) := by kernel_rfl
instance : CU Try.prog 12 .u64 := ⟨u_12⟩
theorem z_12 : zeroA Try.prog 12 = some [.v (.int .u64 0)] := by kernel_rfl
instance : CZ Try.prog 12 [.v (.int .u64 0)] := ⟨z_12⟩
theorem ag_13 : isAg Try.prog 13 2 = true := by kernel_rfl
instance : CA Try.prog 13 2 := ⟨ag_13⟩
theorem el_13 : elOkQ Try.prog 13 2 = true := by kernel_rfl
instance : CE Try.prog 13 2 := ⟨el_13⟩
theorem fad_13_0 : fadOf Try.prog 13 0 = some 0 := by kernel_rfl
instance : CF Try.prog 13 0 0 := ⟨fad_13_0⟩
theorem fad_13_1 : fadOf Try.prog 13 1 = some 1 := by kernel_rfl
instance : CF Try.prog 13 1 1 := ⟨fad_13_1⟩
theorem z_13 : zeroA Try.prog 13 = some [.v (.string (mkB [])), .v (.int .u64 0)] := by kernel_rfl
instance : CZ Try.prog 13 [.v (.string (mkB [])), .v (.int .u64 0)] := ⟨z_13⟩
theorem ag_14 : isAg Try.prog 14 2 = true := by kernel_rfl
instance : CA Try.prog 14 2 := ⟨ag_14⟩
theorem el_14 : elOkQ Try.prog 14 2 = true := by kernel_rfl
instance : CE Try.prog 14 2 := ⟨el_14⟩
theorem fad_14_0 : fadOf Try.prog 14 0 = some 0 := by kernel_rfl
instance : CF Try.prog 14 0 0 := ⟨fad_14_0⟩
theorem fad_14_1 : fadOf Try.prog 14 1 = some 1 := by kernel_rfl
instance : CF Try.prog 14 1 1 := ⟨fad_14_1⟩
theorem z_14 : zeroA Try.prog 14 = some [.v (.string (mkB [])), .v (.int .u64 0)] := by kernel_rfl
instance : CZ Try.prog 14 [.v (.string (mkB [])), .v (.int .u64 0)] := ⟨z_14⟩
theorem s1_15 : isS1 Try.prog 15 = true := by kernel_rfl
instance : C1 Try.prog 15 := ⟨s1_15⟩
theorem el_15 : elOkQ Try.prog 15 1 = true := by kernel_rfl
instance : CE Try.prog 15 1 := ⟨el_15⟩
theorem z_15 : zeroA Try.prog 15 = some [.v (.pointer none)] := by kernel_rfl
instance : CZ Try.prog 15 [.v (.pointer none)] := ⟨z_15⟩
theorem s1_16 : isS1 Try.prog 16 = true := by kernel_rfl
instance : C1 Try.prog 16 := ⟨s1_16⟩
theorem el_16 : elOkQ Try.prog 16 1 = true := by kernel_rfl
instance : CE Try.prog 16 1 := ⟨el_16⟩
theorem z_16 : zeroA Try.prog 16 = some [.v (.pointer none)] := by kernel_rfl
instance : CZ Try.prog 16 [.v (.pointer none)] := ⟨z_16⟩
theorem s1_17 : isS1 Try.prog 17 = true := by kernel_rfl
instance : C1 Try.prog 17 := ⟨s1_17⟩
theorem el_17 : elOkQ Try.prog 17 1 = true := by kernel_rfl
instance : CE Try.prog 17 1 := ⟨el_17⟩
theorem z_17 : zeroA Try.prog 17 = some [.v (.pointer none)] := by kernel_rfl
instance : CZ Try.prog 17 [.v (.pointer none)] := ⟨z_17⟩
theorem ag_18 : isAg Try.prog 18 1 = true := by kernel_rfl
instance : CA Try.prog 18 1 := ⟨ag_18⟩
theorem el_18 : elOkQ Try.prog 18 1 = true := by kernel_rfl
instance : CE Try.prog 18 1 := ⟨el_18⟩
theorem fad_18_0 : fadOf Try.prog 18 0 = some 0 := by kernel_rfl
instance : CF Try.prog 18 0 0 := ⟨fad_18_0⟩
theorem z_18 : zeroA Try.prog 18 = some [.v (.pointer none)] := by kernel_rfl
instance : CZ Try.prog 18 [.v (.pointer none)] := ⟨z_18⟩
theorem ag_19 : isAg Try.prog 19 1 = true := by kernel_rfl
instance : CA Try.prog 19 1 := ⟨ag_19⟩
theorem el_19 : elOkQ Try.prog 19 1 = true := by kernel_rfl
instance : CE Try.prog 19 1 := ⟨el_19⟩
theorem fad_19_0 : fadOf Try.prog 19 0 = some 0 := by kernel_rfl
instance : CF Try.prog 19 0 0 := ⟨fad_19_0⟩
theorem z_19 : zeroA Try.prog 19 = some [.v (.pointer none)] := by kernel_rfl
instance : CZ Try.prog 19 [.v (.pointer none)] := ⟨z_19⟩
theorem s1_20 : isS1 Try.prog 20 = true := by kernel_rfl
instance : C1 Try.prog 20 := ⟨s1_20⟩
theorem el_20 : elOkQ Try.prog 20 1 = true := by kernel_rfl
instance : CE Try.prog 20 1 := ⟨el_20⟩
theorem z_20 : zeroA Try.prog 20 = some [.v .nilIface] := by kernel_rfl
instance : CZ Try.prog 20 [.v .nilIface] := ⟨z_20⟩
theorem s1_21 : isS1 Try.prog 21 = true := by kernel_rfl
instance : C1 Try.prog 21 := ⟨s1_21⟩
theorem el_21 : elOkQ Try.prog 21 1 = true := by kernel_rfl
instance : CE Try.prog 21 1 := ⟨el_21⟩
theorem u_21 : Try.prog.underlying 21 = some (.int .i32) := by kernel_rfl
instance : CU Try.prog 21 .i32 := ⟨u_21⟩
theorem z_21 : zeroA Try.prog 21 = some [.v (.int .i32 0)] := by kernel_rfl
instance : CZ Try.prog 21 [.v (.int .i32 0)] := ⟨z_21⟩
theorem s1_22 : isS1 Try.prog 22 = true := by kernel_rfl
instance : C1 Try.prog 22 := ⟨s1_22⟩
theorem el_22 : elOkQ Try.prog 22 1 = true := by kernel_rfl
instance : CE Try.prog 22 1 := ⟨el_22⟩
theorem sl_22 : sliOf Try.prog 22 = some (3, 1) := by kernel_rfl
instance : CS Try.prog 22 3 1 := ⟨sl_22⟩
theorem z_22 : zeroA Try.prog 22 = some [.v (.slice none 0 0)] := by kernel_rfl
instance : CZ Try.prog 22 [.v (.slice none 0 0)] := ⟨z_22⟩
theorem s1_23 : isS1 Try.prog 23 = true := by kernel_rfl
instance : C1 Try.prog 23 := ⟨s1_23⟩
theorem el_23 : elOkQ Try.prog 23 1 = true := by kernel_rfl
instance : CE Try.prog 23 1 := ⟨el_23⟩
theorem z_23 : zeroA Try.prog 23 = some [.v .nilFunc] := by kernel_rfl
instance : CZ Try.prog 23 [.v .nilFunc] := ⟨z_23⟩
theorem s1_24 : isS1 Try.prog 24 = true := by kernel_rfl
instance : C1 Try.prog 24 := ⟨s1_24⟩
theorem el_24 : elOkQ Try.prog 24 1 = true := by kernel_rfl
instance : CE Try.prog 24 1 := ⟨el_24⟩
theorem z_24 : zeroA Try.prog 24 = some [.v .nilFunc] := by kernel_rfl
instance : CZ Try.prog 24 [.v .nilFunc] := ⟨z_24⟩
theorem s1_25 : isS1 Try.prog 25 = true := by kernel_rfl
instance : C1 Try.prog 25 := ⟨s1_25⟩
theorem el_25 : elOkQ Try.prog 25 1 = true := by kernel_rfl
instance : CE Try.prog 25 1 := ⟨el_25⟩
theorem u_25 : Try.prog.underlying 25 = some (.int .i64) := by kernel_rfl
instance : CU Try.prog 25 .i64 := ⟨u_25⟩
theorem z_25 : zeroA Try.prog 25 = some [.v (.int .i64 0)] := by kernel_rfl
instance : CZ Try.prog 25 [.v (.int .i64 0)] := ⟨z_25⟩
theorem s1_27 : isS1 Try.prog 27 = true := by kernel_rfl
instance : C1 Try.prog 27 := ⟨s1_27⟩
theorem el_27 : elOkQ Try.prog 27 1 = true := by kernel_rfl
instance : CE Try.prog 27 1 := ⟨el_27⟩
theorem z_27 : zeroA Try.prog 27 = some [.v .nilFunc] := by kernel_rfl
instance : CZ Try.prog 27 [.v .nilFunc] := ⟨z_27⟩
theorem s1_28 : isS1 Try.prog 28 = true := by kernel_rfl
instance : C1 Try.prog 28 := ⟨s1_28⟩
theorem el_28 : elOkQ Try.prog 28 1 = true := by kernel_rfl
instance : CE Try.prog 28 1 := ⟨el_28⟩
theorem z_28 : zeroA Try.prog 28 = some [.v .nilFunc] := by kernel_rfl
instance : CZ Try.prog 28 [.v .nilFunc] := ⟨z_28⟩
theorem s1_29 : isS1 Try.prog 29 = true := by kernel_rfl
instance : C1 Try.prog 29 := ⟨s1_29⟩
theorem el_29 : elOkQ Try.prog 29 1 = true := by kernel_rfl
instance : CE Try.prog 29 1 := ⟨el_29⟩
theorem z_29 : zeroA Try.prog 29 = some [.v .nilFunc] := by kernel_rfl
instance : CZ Try.prog 29 [.v .nilFunc] := ⟨z_29⟩
theorem s1_30 : isS1 Try.prog 30 = true := by kernel_rfl
instance : C1 Try.prog 30 := ⟨s1_30⟩
theorem el_30 : elOkQ Try.prog 30 1 = true := by kernel_rfl
instance : CE Try.prog 30 1 := ⟨el_30⟩
theorem z_30 : zeroA Try.prog 30 = some [.v .nilFunc] := by kernel_rfl
instance : CZ Try.prog 30 [.v .nilFunc] := ⟨z_30⟩
theorem s1_32 : isS1 Try.prog 32 = true := by kernel_rfl
instance : C1 Try.prog 32 := ⟨s1_32⟩
theorem el_32 : elOkQ Try.prog 32 1 = true := by kernel_rfl
instance : CE Try.prog 32 1 := ⟨el_32⟩
theorem z_32 : zeroA Try.prog 32 = some [.v .nilFunc] := by kernel_rfl
instance : CZ Try.prog 32 [.v .nilFunc] := ⟨z_32⟩
theorem s1_34 : isS1 Try.prog 34 = true := by kernel_rfl
instance : C1 Try.prog 34 := ⟨s1_34⟩
theorem el_34 : elOkQ Try.prog 34 1 = true := by kernel_rfl
instance : CE Try.prog 34 1 := ⟨el_34⟩
theorem z_34 : zeroA Try.prog 34 = some [.v .nilFunc] := by kernel_rfl
instance : CZ Try.prog 34 [.v .nilFunc] := ⟨z_34⟩
theorem ag_35 : isAg Try.prog 35 2 = true := by kernel_rfl
instance : CA Try.prog 35 2 := ⟨ag_35⟩
theorem el_35 : elOkQ Try.prog 35 2 = true := by kernel_rfl
instance : CE Try.prog 35 2 := ⟨el_35⟩
theorem fad_35_0 : fadOf Try.prog 35 0 = some 0 := by kernel_rfl
instance : CF Try.prog 35 0 0 := ⟨fad_35_0⟩
theorem fad_35_1 : fadOf Try.prog 35 1 = some 1 := by kernel_rfl
instance : CF Try.prog 35 1 1 := ⟨fad_35_1⟩
theorem z_35 : zeroA Try.prog 35 = some [.v (.int .i64 0), .v (.int .i64 0)] := by kernel_rfl
instance : CZ Try.prog 35 [.v (.int .i64 0), .v (.int .i64 0)] := ⟨z_35⟩
theorem ag_36 : isAg Try.prog 36 2 = true := by kernel_rfl
instance : CA Try.prog 36 2 := ⟨ag_36⟩
theorem el_36 : elOkQ Try.prog 36 2 = true := by kernel_rfl
instance : CE Try.prog 36 2 := ⟨el_36⟩
theorem fad_36_0 : fadOf Try.prog 36 0 = some 0 := by kernel_rfl
instance : CF Try.prog 36 0 0 := ⟨fad_36_0⟩
theorem fad_36_1 : fadOf Try.prog 36 1 = some 1 := by kernel_rfl
instance : CF Try.prog 36 1 1 := ⟨fad_36_1⟩
theorem z_36 : zeroA Try.prog 36 = some [.v (.int .i64 0), .v (.int .i64 0)] := by kernel_rfl
instance : CZ Try.prog 36 [.v (.int .i64 0), .v (.int .i64 0)] := ⟨z_36⟩
theorem s1_38 : isS1 Try.prog 38 = true := by kernel_rfl
instance : C1 Try.prog 38 := ⟨s1_38⟩
theorem el_38 : elOkQ Try.prog 38 1 = true := by kernel_rfl
instance : CE Try.prog 38 1 := ⟨el_38⟩
theorem z_38 : zeroA Try.prog 38 = some [.v .nilFunc] := by kernel_rfl
instance : CZ Try.prog 38 [.v .nilFunc] := ⟨z_38⟩
theorem s1_39 : isS1 Try.prog 39 = true := by kernel_rfl
instance : C1 Try.prog 39 := ⟨s1_39⟩
theorem el_39 : elOkQ Try.prog 39 1 = true := by kernel_rfl
instance : CE Try.prog 39 1 := ⟨el_39⟩
theorem z_39 : zeroA Try.prog 39 = some [.v .nilFunc] := by kernel_rfl
instance : CZ Try.prog 39 [.v .nilFunc] := ⟨z_39⟩
theorem s1_40 : isS1 Try.prog 40 = true := by kernel_rfl
instance : C1 Try.prog 40 := ⟨s1_40⟩
theorem el_40 : elOkQ Try.prog 40 1 = true := by kernel_rfl
instance : CE Try.prog 40 1 := ⟨el_40⟩
theorem z_40 : zeroA Try.prog 40 = some [.v .nilFunc] := by kernel_rfl
instance : CZ Try.prog 40 [.v .nilFunc] := ⟨z_40⟩
theorem s1_42 : isS1 Try.prog 42 = true := by kernel_rfl
instance : C1 Try.prog 42 := ⟨s1_42⟩
theorem el_42 : elOkQ Try.prog 42 1 = true := by kernel_rfl
instance : CE Try.prog 42 1 := ⟨el_42⟩
theorem z_42 : zeroA Try.prog 42 = some [.v .nilFunc] := by kernel_rfl
instance : CZ Try.prog 42 [.v .nilFunc] := ⟨z_42⟩
theorem s1_43 : isS1 Try.prog 43 = true := by kernel_rfl
instance : C1 Try.prog 43 := ⟨s1_43⟩
theorem el_43 : elOkQ Try.prog 43 1 = true := by kernel_rfl
instance : CE Try.prog 43 1 := ⟨el_43⟩
theorem u_43 : Try.prog.underlying 43 = some (.int .u64) := by kernel_rfl
instance : CU Try.prog 43 .u64 := ⟨u_43⟩
theorem z_43 : zeroA Try.prog 43 = some [.v (.int .u64 0)] := by kernel_rfl
instance : CZ Try.prog 43 [.v (.int .u64 0)] := ⟨z_43⟩
theorem s1_44 : isS1 Try.prog 44 = true := by kernel_rfl
instance : C1 Try.prog 44 := ⟨s1_44⟩
theorem el_44 : elOkQ Try.prog 44 1 = true := by kernel_rfl
instance : CE Try.prog 44 1 := ⟨el_44⟩
theorem z_44 : zeroA Try.prog 44 = some [.v .nilFunc] := by kernel_rfl
instance : CZ Try.prog 44 [.v .nilFunc] := ⟨z_44⟩
theorem s1_45 : isS1 Try.prog 45 = true := by kernel_rfl
instance : C1 Try.prog 45 := ⟨s1_45⟩
theorem el_45 : elOkQ Try.prog 45 1 = true := by kernel_rfl
instance : CE Try.prog 45 1 := ⟨el_45⟩
theorem z_45 : zeroA Try.prog 45 = some [.v .nilFunc] := by kernel_rfl
instance : CZ Try.prog 45 [.v .nilFunc] := ⟨z_45⟩
theorem s1_46 : isS1 Try.prog 46 = true := by kernel_rfl
instance : C1 Try.prog 46 := ⟨s1_46⟩
theorem el_46 : elOkQ Try.prog 46 1 = true := by kernel_rfl
instance : CE Try.prog 46 1 := ⟨el_46⟩
theorem z_46 : zeroA Try.prog 46 = some [.v .nilFunc] := by kernel_rfl
instance : CZ Try.prog 46 [.v .nilFunc] := ⟨z_46⟩
theorem s1_47 : isS1 Try.prog 47 = true := by kernel_rfl
instance : C1 Try.prog 47 := ⟨s1_47⟩
theorem el_47 : elOkQ Try.prog 47 1 = true := by kernel_rfl
instance : CE Try.prog 47 1 := ⟨el_47⟩
theorem z_47 : zeroA Try.prog 47 = some [.v .nilFunc] := by kernel_rfl
instance : CZ Try.prog 47 [.v .nilFunc] := ⟨z_47⟩
theorem s1_48 : isS1 Try.prog 48 = true := by kernel_rfl
instance : C1 Try.prog 48 := ⟨s1_48⟩
theorem el_48 : elOkQ Try.prog 48 1 = true := by kernel_rfl
instance : CE Try.prog 48 1 := ⟨el_48⟩
theorem z_48 : zeroA Try.prog 48 = some [.v .nilFunc] := by kernel_rfl
instance : CZ Try.prog 48 [.v .nilFunc] := ⟨z_48⟩
theorem s1_50 : isS1 Try.prog 50 = true := by kernel_rfl
instance : C1 Try.prog 50 := ⟨s1_50⟩
theorem el_50 : elOkQ Try.prog 50 1 = true := by kernel_rfl
instance : CE Try.prog 50 1 := ⟨el_50⟩
theorem z_50 : zeroA Try.prog 50 = some [.v .nilFunc] := by kernel_rfl
instance : CZ Try.prog 50 [.v .nilFunc] := ⟨z_50⟩
theorem s1_51 : isS1 Try.prog 51 = true := by kernel_rfl
instance : C1 Try.prog 51 := ⟨s1_51⟩
theorem el_51 : elOkQ Try.prog 51 1 = true := by kernel_rfl
instance : CE Try.prog 51 1 := ⟨el_51⟩
theorem z_51 : zeroA Try.prog 51 = some [.v .nilFunc] := by kernel_rfl
instance : CZ Try.prog 51 [.v .nilFunc] := ⟨z_51⟩
theorem s1_52 : isS1 Try.prog 52 = true := by kernel_rfl
instance : C1 Try.prog 52 := ⟨s1_52⟩
theorem el_52 : elOkQ Try.prog 52 1 = true := by kernel_rfl
instance : CE Try.prog 52 1 := ⟨el_52⟩
theorem z_52 : zeroA Try.prog 52 = some [.v .nilFunc] := by kernel_rfl
instance : CZ Try.prog 52 [.v .nilFunc] := ⟨z_52⟩
theorem s1_54 : isS1 Try.prog 54 = true := by kernel_rfl
instance : C1 Try.prog 54 := ⟨s1_54⟩
theorem el_54 : elOkQ Try.prog 54 1 = true := by kernel_rfl
instance : CE Try.prog 54 1 := ⟨el_54⟩
theorem z_54 : zeroA Try.prog 54 = some [.v .nilFunc] := by kernel_rfl
instance : CZ Try.prog 54 [.v .nilFunc] := ⟨z_54⟩
theorem s1_55 : isS1 Try.prog 55 = true := by kernel_rfl
instance : C1 Try.prog 55 := ⟨s1_55⟩
theorem el_55 : elOkQ Try.prog 55 1 = true := by kernel_rfl
instance : CE Try.prog 55 1 := ⟨el_55⟩
theorem sl_55 : sliOf Try.prog 55 = some (5, 1) := by kernel_rfl
instance : CS Try.prog 55 5 1 := ⟨sl_55⟩
theorem z_55 : zeroA Try.prog 55 = some [.v (.slice none 0 0)] := by kernel_rfl
instance : CZ Try.prog 55 [.v (.slice none 0 0)] := ⟨z_55⟩
theorem s1_56 : isS1 Try.prog 56 = true := by kernel_rfl
instance : C1 Try.prog 56 := ⟨s1_56⟩
theorem el_56 : elOkQ Try.prog 56 1 = true := by kernel_rfl
instance : CE Try.prog 56 1 := ⟨el_56⟩
theorem z_56 : zeroA Try.prog 56 = some [.v (.pointer none)] := by kernel_rfl
instance : CZ Try.prog 56 [.v (.pointer none)] := ⟨z_56⟩
theorem ag_57 : isAg Try.prog 57 2 = true := by kernel_rfl
instance : CA Try.prog 57 2 := ⟨ag_57⟩
theorem el_57 : elOkQ Try.prog 57 2 = true := by kernel_rfl
instance : CE Try.prog 57 2 := ⟨el_57⟩
theorem fad_57_0 : fadOf Try.prog 57 0 = some 0 := by kernel_rfl
instance : CF Try.prog 57 0 0 := ⟨fad_57_0⟩
theorem fad_57_1 : fadOf Try.prog 57 1 = some 1 := by kernel_rfl
instance : CF Try.prog 57 1 1 := ⟨fad_57_1⟩
theorem z_57 : zeroA Try.prog 57 = some [.v (.string (mkB [])), .v (.int .i64 0)] := by kernel_rfl
instance : CZ Try.prog 57 [.v (.string (mkB [])), .v (.int .i64 0)] := ⟨z_57⟩
theorem ag_58 : isAg Try.prog 58 2 = true := by kernel_rfl
instance : CA Try.prog 58 2 := ⟨ag_58⟩
theorem el_58 : elOkQ Try.prog 58 2 = true := by kernel_rfl
instance : CE Try.prog 58 2 := ⟨el_58⟩
theorem fad_58_0 : fadOf Try.prog 58 0 = some 0 := by kernel_rfl
instance : CF Try.prog 58 0 0 := ⟨fad_58_0⟩
theorem fad_58_1 : fadOf Try.prog 58 1 = some 1 := by kernel_rfl
instance : CF Try.prog 58 1 1 := ⟨fad_58_1⟩
theorem z_58 : zeroA Try.prog 58 = some [.v (.string (mkB [])), .v (.int .i64 0)] := by kernel_rfl
instance : CZ Try.prog 58 [.v (.string (mkB [])), .v (.int .i64 0)] := ⟨z_58⟩
theorem ag_59 : isAg Try.prog 59 3 = true := by kernel_rfl
instance : CA Try.prog 59 3 := ⟨ag_59⟩
theorem el_59 : elOkQ Try.prog 59 3 = true := by kernel_rfl
instance : CE Try.prog 59 3 := ⟨el_59⟩
theorem fad_59_0 : fadOf Try.prog 59 0 = some 0 := by kernel_rfl
instance : CF Try.prog 59 0 0 := ⟨fad_59_0⟩
theorem fad_59_1 : fadOf Try.prog 59 1 = some 2 := by kernel_rfl
instance : CF Try.prog 59 1 2 := ⟨fad_59_1⟩
theorem z_59 : zeroA Try.prog 59 = some [.v (.string (mkB [])), .v (.int .i64 0), .v (.slice none 0 0)] := by kernel_rfl
instance : CZ Try.prog 59 [.v (.string (mkB [])), .v (.int .i64 0), .v (.slice none 0 0)] := ⟨z_59⟩
theorem ag_60 : isAg Try.prog 60 3 = true := by kernel_rfl
instance : CA Try.prog 60 3 := ⟨ag_60⟩
theorem el_60 : elOkQ Try.prog 60 3 = true := by kernel_rfl
instance : CE Try.prog 60 3 := ⟨el_60⟩
theorem fad_60_0 : fadOf Try.prog 60 0 = some 0 := by kernel_rfl
instance : CF Try.prog 60 0 0 := ⟨fad_60_0⟩
theorem fad_60_1 : fadOf Try.prog 60 1 = some 2 := by kernel_rfl
instance : CF Try.prog 60 1 2 := ⟨fad_60_1⟩
theorem z_60 : zeroA Try.prog 60 = some [.v (.string (mkB [])), .v (.int .i64 0), .v (.slice none 0 0)] := by kernel_rfl
instance : CZ Try.prog 60 [.v (.string (mkB [])), .v (.int .i64 0), .v (.slice none 0 0)] := ⟨z_60⟩
theorem s1_61 : isS1 Try.prog 61 = true := by kernel_rfl
instance : C1 Try.prog 61 := ⟨s1_61⟩
theorem el_61 : elOkQ Try.prog 61 1 = true := by kernel_rfl
instance : CE Try.prog 61 1 := ⟨el_61⟩
theorem z_61 : zeroA Try.prog 61 = some [.v .nilFunc] := by kernel_rfl
instance : CZ Try.prog 61 [.v .nilFunc] := ⟨z_61⟩
theorem s1_62 : isS1 Try.prog 62 = true := by kernel_rfl
instance : C1 Try.prog 62 := ⟨s1_62⟩
theorem el_62 : elOkQ Try.prog 62 1 = true := by kernel_rfl
instance : CE Try.prog 62 1 := ⟨el_62⟩
theorem z_62 : zeroA Try.prog 62 = some [.v .nilFunc] := by kernel_rfl
instance : CZ Try.prog 62 [.v .nilFunc] := ⟨z_62⟩
theorem ar_63 : arrOf Try.prog 63 = some (256, 3, 1) := by kernel_rfl
instance : CR Try.prog 63 256 3 1 := ⟨ar_63⟩
theorem z_63 : zeroA Try.prog 63 = some (List.replicate 256 (.v (.int .i64 0))) := by kernel_rfl
instance : CZ Try.prog 63 (List.replicate 256 (.v (.int .i64 0))) := ⟨z_63⟩
theorem s1_64 : isS1 Try.prog 64 = true := by kernel_rfl
instance : C1 Try.prog 64 := ⟨s1_64⟩
theorem el_64 : elOkQ Try.prog 64 1 = true := by kernel_rfl
instance : CE Try.prog 64 1 := ⟨el_64⟩
theorem z_64 : zeroA Try.prog 64 = some [.v (.pointer none)] := by kernel_rfl
instance : CZ Try.prog 64 [.v (.pointer none)] := ⟨z_64⟩
theorem s1_65 : isS1 Try.prog 65 = true := by kernel_rfl
instance : C1 Try.prog 65 := ⟨s1_65⟩
theorem el_65 : elOkQ Try.prog 65 1 = true := by kernel_rfl
instance : CE Try.prog 65 1 := ⟨el_65⟩
theorem sl_65 : sliOf Try.prog 65 = some (67, 4) := by kernel_rfl
instance : CS Try.prog 65 67 4 := ⟨sl_65⟩
theorem z_65 : zeroA Try.prog 65 = some [.v (.slice none 0 0)] := by kernel_rfl
instance : CZ Try.prog 65 [.v (.slice none 0 0)] := ⟨z_65⟩
theorem ag_66 : isAg Try.prog 66 4 = true := by kernel_rfl
instance : CA Try.prog 66 4 := ⟨ag_66⟩
theorem el_66 : elOkQ Try.prog 66 4 = true := by kernel_rfl
instance : CE Try.prog 66 4 := ⟨el_66⟩
theorem fad_66_0 : fadOf Try.prog 66 0 = some 0 := by kernel_rfl
instance : CF Try.prog 66 0 0 := ⟨fad_66_0⟩
theorem fad_66_1 : fadOf Try.prog 66 1 = some 1 := by kernel_rfl
instance : CF Try.prog 66 1 1 := ⟨fad_66_1⟩
theorem fad_66_2 : fadOf Try.prog 66 2 = some 2 := by kernel_rfl
instance : CF Try.prog 66 2 2 := ⟨fad_66_2⟩
theorem fad_66_3 : fadOf Try.prog 66 3 = some 3 := by kernel_rfl
instance : CF Try.prog 66 3 3 := ⟨fad_66_3⟩
theorem z_66 : zeroA Try.prog 66 = some [.v (.int .i64 0), .v (.bool false), .v (.int .i64 0), .v (.slice none 0 0)] := by kernel_rfl
instance : CZ Try.prog 66 [.v (.int .i64 0), .v (.bool false), .v (.int .i64 0), .v (.slice none 0 0)] := ⟨z_66⟩
theorem ag_67 : isAg Try.prog 67 4 = true := by kernel_rfl
instance : CA Try.prog 67 4 := ⟨ag_67⟩
theorem el_67 : elOkQ Try.prog 67 4 = true := by kernel_rfl
instance : CE Try.prog 67 4 := ⟨el_67⟩
theorem fad_67_0 : fadOf Try.prog 67 0 = some 0 := by kernel_rfl
instance : CF Try.prog 67 0 0 := ⟨fad_67_0⟩
theorem fad_67_1 : fadOf Try.prog 67 1 = some 1 := by kernel_rfl
instance : CF Try.prog 67 1 1 := ⟨fad_67_1⟩
theorem fad_67_2 : fadOf Try.prog 67 2 = some 2 := by kernel_rfl
instance : CF Try.prog 67 2 2 := ⟨fad_67_2⟩
theorem fad_67_3 : fadOf Try.prog 67 3 = some 3 := by kernel_rfl
instance : CF Try.prog 67 3 3 := ⟨fad_67_3⟩
theorem z_67 : zeroA Try.prog 67 = some [.v (.int .i64 0), .v (.bool false), .v (.int .i64 0), .v (.slice none 0 0)] := by kernel_rfl
instance : CZ Try.prog 67 [.v (.int .i64 0), .v (.bool false), .v (.int .i64 0), .v (.slice none 0 0)] := ⟨z_67⟩
theorem s1_69 : isS1 Try.prog 69 = true := by kernel_rfl
instance : C1 Try.prog 69 := ⟨s1_69⟩
theorem el_69 : elOkQ Try.prog 69 1 = true := by kernel_rfl
instance : CE Try.prog 69 1 := ⟨el_69⟩
theorem z_69 : zeroA Try.prog 69 = some [.v .nilFunc] := by kernel_rfl
instance : CZ Try.prog 69 [.v .nilFunc] := ⟨z_69⟩
theorem s1_71 : isS1 Try.prog 71 = true := by kernel_rfl
instance : C1 Try.prog 71 := ⟨s1_71⟩
theorem el_71 : elOkQ Try.prog 71 1 = true := by kernel_rfl
instance : CE Try.prog 71 1 := ⟨el_71⟩
theorem z_71 : zeroA Try.prog 71 = some [.v .nilFunc] := by kernel_rfl
instance : CZ Try.prog 71 [.v .nilFunc] := ⟨z_71⟩
theorem s1_72 : isS1 Try.prog 72 = true := by kernel_rfl
instance : C1 Try.prog 72 := ⟨s1_72⟩
theorem el_72 : elOkQ Try.prog 72 1 = true := by kernel_rfl
instance : CE Try.prog 72 1 := ⟨el_72⟩
theorem z_72 : zeroA Try.prog 72 = some [.v .nilFunc] := by kernel_rfl
instance : CZ Try.prog 72 [.v .nilFunc] := ⟨z_72⟩
theorem s1_73 : isS1 Try.prog 73 = true := by kernel_rfl
instance : C1 Try.prog 73 := ⟨s1_73⟩
theorem el_73 : elOkQ Try.prog 73 1 = true := by kernel_rfl
instance : CE Try.prog 73 1 := ⟨el_73⟩
theorem z_73 : zeroA Try.prog 73 = some [.v .nilFunc] := by kernel_rfl
instance : CZ Try.prog 73 [.v .nilFunc] := ⟨z_73⟩
theorem s1_74 : isS1 Try.prog 74 = true := by kernel_rfl
instance : C1 Try.prog 74 := ⟨s1_74⟩
theorem el_74 : elOkQ Try.prog 74 1 = true := by kernel_rfl
instance : CE Try.prog 74 1 := ⟨el_74⟩
theorem z_74 : zeroA Try.prog 74 = some [.v .nilFunc] := by kernel_rfl
instance : CZ Try.prog 74 [.v .nilFunc] := ⟨z_74⟩
theorem s1_75 : isS1 Try.prog 75 = true := by kernel_rfl
instance : C1 Try.prog 75 := ⟨s1_75⟩
theorem el_75 : elOkQ Try.prog 75 1 = true := by kernel_rfl
instance : CE Try.prog 75 1 := ⟨el_75⟩
theorem z_75 : zeroA Try.prog 75 = some [.v .nilFunc] := by kernel_rfl
instance : CZ Try.prog 75 [.v .nilFunc] := ⟨z_75⟩
theorem ag_76 : isAg Try.prog 76 4 = true := by kernel_rfl
instance : CA Try.prog 76 4 := ⟨ag_76⟩
theorem el_76 : elOkQ Try.prog 76 4 = true := by kernel_rfl
instance : CE Try.prog 76 4 := ⟨el_76⟩
theorem fad_76_0 : fadOf Try.prog 76 0 = some 0 := by kernel_rfl
instance : CF Try.prog 76 0 0 := ⟨fad_76_0⟩
theorem fad_76_1 : fadOf Try.prog 76 1 = some 1 := by kernel_rfl
instance : CF Try.prog 76 1 1 := ⟨fad_76_1⟩
theorem fad_76_2 : fadOf Try.prog 76 2 = some 2 := by kernel_rfl
instance : CF Try.prog 76 2 2 := ⟨fad_76_2⟩
theorem fad_76_3 : fadOf Try.prog 76 3 = some 3 := by kernel_rfl
instance : CF Try.prog 76 3 3 := ⟨fad_76_3⟩
theorem z_76 : zeroA Try.prog 76 = some [.v (.pointer none), .v (.pointer none), .v (.pointer none), .v (.string (mkB []))] := by kernel_rfl
instance : CZ Try.prog 76 [.v (.pointer none), .v (.pointer none), .v (.pointer none), .v (.string (mkB []))] := ⟨z_76⟩
theorem ag_77 : isAg Try.prog 77 4 = true := by kernel_rfl
instance : CA Try.prog 77 4 := ⟨ag_77⟩
theorem el_77 : elOkQ Try.prog 77 4 = true := by kernel_rfl
instance : CE Try.prog 77 4 := ⟨el_77⟩
theorem fad_77_0 : fadOf Try.prog 77 0 = some 0 := by kernel_rfl
instance : CF Try.prog 77 0 0 := ⟨fad_77_0⟩
theorem fad_77_1 : fadOf Try.prog 77 1 = some 1 := by kernel_rfl
instance : CF Try.prog 77 1 1 := ⟨fad_77_1⟩
theorem fad_77_2 : fadOf Try.prog 77 2 = some 2 := by kernel_rfl
instance : CF Try.prog 77 2 2 := ⟨fad_77_2⟩
theorem fad_77_3 : fadOf Try.prog 77 3 = some 3 := by kernel_rfl
instance : CF Try.prog 77 3 3 := ⟨fad_77_3⟩
theorem z_77 : zeroA Try.prog 77 = some [.v (.pointer none), .v (.pointer none), .v (.pointer none), .v (.string (mkB []))] := by kernel_rfl
instance : CZ Try.prog 77 [.v (.pointer none), .v (.pointer none), .v (.pointer none), .v (.string (mkB []))] := ⟨z_77⟩
theorem ar_78 : arrOf Try.prog 78 = some (0, 16, 1) := by kernel_rfl
instance : CR Try.prog 78 0 16 1 := ⟨ar_78⟩
theorem z_78 : zeroA Try.prog 78 = some [] := by kernel_rfl
instance : CZ Try.prog 78 [] := ⟨z_78⟩
theorem z_79 : zeroA Try.prog 79 = some [] := by kernel_rfl
instance : CZ Try.prog 79 [] := ⟨z_79⟩
theorem z_80 : zeroA Try.prog 80 = some [] := by kernel_rfl
instance : CZ Try.prog 80 [] := ⟨z_80⟩
theorem s1_81 : isS1 Try.prog 81 = true := by kernel_rfl
instance : C1 Try.prog 81 := ⟨s1_81⟩
theorem el_81 : elOkQ Try.prog 81 1 = true := by kernel_rfl
instance : CE Try.prog 81 1 := ⟨el_81⟩
theorem u_81 : Try.prog.underlying 81 = some (.int .u32) := by kernel_rfl
instance : CU Try.prog 81 .u32 := ⟨u_81⟩
theorem z_81 : zeroA Try.prog 81 = some [.v (.int .u32 0)] := by kernel_rfl
instance : CZ Try.prog 81 [.v (.int .u32 0)] := ⟨z_81⟩
theorem s1_82 : isS1 Try.prog 82 = true := by kernel_rfl
instance : C1 Try.prog 82 := ⟨s1_82⟩
theorem el_82 : elOkQ Try.prog 82 1 = true := by kernel_rfl
instance : CE Try.prog 82 1 := ⟨el_82⟩
theorem u_82 : Try.prog.underlying 82 = some (.int .u8) := by kernel_rfl
instance : CU Try.prog 82 .u8 := ⟨u_82⟩
theorem z_82 : zeroA Try.prog 82 = some [.v (.int .u8 0)] := by kernel_rfl
instance : CZ Try.prog 82 [.v (.int .u8 0)] := ⟨z_82⟩
theorem s1_83 : isS1 Try.prog 83 = true := by kernel_rfl
instance : C1 Try.prog 83 := ⟨s1_83⟩
theorem el_83 : elOkQ Try.prog 83 1 = true := by kernel_rfl
instance : CE Try.prog 83 1 := ⟨el_83⟩
theorem u_83 : Try.prog.underlying 83 = some (.int .u8) := by kernel_rfl
instance : CU Try.prog 83 .u8 := ⟨u_83⟩
theorem z_83 : zeroA Try.prog 83 = some [.v (.int .u8 0)] := by kernel_rfl
instance : CZ Try.prog 83 [.v (.int .u8 0)] := ⟨z_83⟩
theorem s1_84 : isS1 Try.prog 84 = true := by kernel_rfl
instance : C1 Try.prog 84 := ⟨s1_84⟩
theorem el_84 : elOkQ Try.prog 84 1 = true := by kernel_rfl
instance : CE Try.prog 84 1 := ⟨el_84⟩
theorem z_84 : zeroA Try.prog 84 = some [.v .nilFunc] := by kernel_rfl
instance : CZ Try.prog 84 [.v .nilFunc] := ⟨z_84⟩
theorem s1_85 : isS1 Try.prog 85 = true := by kernel_rfl
instance : C1 Try.prog 85 := ⟨s1_85⟩
theorem el_85 : elOkQ Try.prog 85 1 = true := by kernel_rfl
instance : CE Try.prog 85 1 := ⟨el_85⟩
theorem z_85 : zeroA Try.prog 85 = some [.v (.pointer none)] := by kernel_rfl
instance : CZ Try.prog 85 [.v (.pointer none)] := ⟨z_85⟩
theorem s1_86 : isS1 Try.prog 86 = true := by kernel_rfl
instance : C1 Try.prog 86 := ⟨s1_86⟩
theorem el_86 : elOkQ Try.prog 86 1 = true := by kernel_rfl
instance : CE Try.prog 86 1 := ⟨el_86⟩
theorem u_86 : Try.prog.underlying 86 = some (.int .i32) := by kernel_rfl
instance : CU Try.prog 86 .i32 := ⟨u_86⟩
theorem z_86 : zeroA Try.prog 86 = some [.v (.int .i32 0)] := by kernel_rfl
instance : CZ Try.prog 86 [.v (.int .i32 0)] := ⟨z_86⟩
theorem s1_87 : isS1 Try.prog 87 = true := by kernel_rfl
instance : C1 Try.prog 87 := ⟨s1_87⟩
theorem el_87 : elOkQ Try.prog 87 1 = true := by kernel_rfl
instance : CE Try.prog 87 1 := ⟨el_87⟩
theorem u_87 : Try.prog.underlying 87 = some (.int .i32) := by kernel_rfl
instance : CU Try.prog 87 .i32 := ⟨u_87⟩
theorem z_87 : zeroA Try.prog 87 = some [.v (.int .i32 0)] := by kernel_rfl
instance : CZ Try.prog 87 [.v (.int .i32 0)] := ⟨z_87⟩
theorem ag_88 : isAg Try.prog 88 11 = true := by kernel_rfl
instance : CA Try.prog 88 11 := ⟨ag_88⟩
theorem fad_88_0 : fadOf Try.prog 88 0 = some 0 := by kernel_rfl
instance : CF Try.prog 88 0 0 := ⟨fad_88_0⟩
theorem fad_88_1 : fadOf Try.prog 88 1 = some 1 := by kernel_rfl
instance : CF Try.prog 88 1 1 := ⟨fad_88_1⟩
theorem fad_88_2 : fadOf Try.prog 88 2 = some 2 := by kernel_rfl
instance : CF Try.prog 88 2 2 := ⟨fad_88_2⟩
theorem fad_88_3 : fadOf Try.prog 88 3 = some 3 := by kernel_rfl
instance : CF Try.prog 88 3 3 := ⟨fad_88_3⟩
theorem fad_88_4 : fadOf Try.prog 88 4 = some 4 := by kernel_rfl
instance : CF Try.prog 88 4 4 := ⟨fad_88_4⟩
theorem fad_88_5 : fadOf Try.prog 88 5 = some 5 := by kernel_rfl
instance : CF Try.prog 88 5 5 := ⟨fad_88_5⟩
theorem fad_88_6 : fadOf Try.prog 88 6 = some 6 := by kernel_rfl
instance : CF Try.prog 88 6 6 := ⟨fad_88_6⟩
theorem fad_88_7 : fadOf Try.prog 88 7 = some 7 := by kernel_rfl
instance : CF Try.prog 88 7 7 := ⟨fad_88_7⟩
theorem z_88 : zeroA Try.prog 88 = some [.v (.int .u64 0), .v (.int .u64 0), .v (.int .u32 0), .v (.int .u8 0), .v (.int .u8 0), .v (.int .u8 0), .v (.int .u8 0), .v .nilFunc, .v (.pointer none), .v (.int .i32 0), .v (.int .i32 0)] := by kernel_rfl
instance : CZ Try.prog 88 [.v (.int .u64 0), .v (.int .u64 0), .v (.int .u32 0), .v (.int .u8 0), .v (.int .u8 0), .v (.int .u8 0), .v (.int .u8 0), .v .nilFunc, .v (.pointer none), .v (.int .i32 0), .v (.int .i32 0)] := ⟨z_88⟩
theorem ag_89 : isAg Try.prog 89 11 = true := by kernel_rfl
instance : CA Try.prog 89 11 := ⟨ag_89⟩
theorem fad_89_0 : fadOf Try.prog 89 0 = some 0 := by kernel_rfl
instance : CF Try.prog 89 0 0 := ⟨fad_89_0⟩
theorem fad_89_1 : fadOf Try.prog 89 1 = some 1 := by kernel_rfl
instance : CF Try.prog 89 1 1 := ⟨fad_89_1⟩
theorem fad_89_2 : fadOf Try.prog 89 2 = some 2 := by kernel_rfl
instance : CF Try.prog 89 2 2 := ⟨fad_89_2⟩
theorem fad_89_3 : fadOf Try.prog 89 3 = some 3 := by kernel_rfl
instance : CF Try.prog 89 3 3 := ⟨fad_89_3⟩
theorem fad_89_4 : fadOf Try.prog 89 4 = some 4 := by kernel_rfl
instance : CF Try.prog 89 4 4 := ⟨fad_89_4⟩
theorem fad_89_5 : fadOf Try.prog 89 5 = some 5 := by kernel_rfl
instance : CF Try.prog 89 5 5 := ⟨fad_89_5⟩
theorem fad_89_6 : fadOf Try.prog 89 6 = some 6 := by kernel_rfl
instance : CF Try.prog 89 6 6 := ⟨fad_89_6⟩
theorem fad_89_7 : fadOf Try.prog 89 7 = some 7 := by kernel_rfl
instance : CF Try.prog 89 7 7 := ⟨fad_89_7⟩
theorem z_89 : zeroA Try.prog 89 = some [.v (.int .u64 0), .v (.int .u64 0), .v (.int .u32 0), .v (.int .u8 0), .v (.int .u8 0), .v (.int .u8 0), .v (.int .u8 0), .v .nilFunc, .v (.pointer none), .v (.int .i32 0), .v (.int .i32 0)] := by kernel_rfl
instance : CZ Try.prog 89 [.v (.int .u64 0), .v (.int .u64 0), .v (.int .u32 0), .v (.int .u8 0), .v (.int .u8 0), .v (.int .u8 0), .v (.int .u8 0), .v .nilFunc, .v (.pointer none), .v (.int .i32 0), .v (.int .i32 0)] := ⟨z_89⟩
theorem ok_10 : okFn Try.prog 10 = true := by kernel_rfl
instance : CO Try.prog 10 := ⟨ok_10⟩
theorem ok_11 : okFn Try.prog 11 = true := by kernel_rfl
instance : CO Try.prog 11 := ⟨ok_11⟩
theorem ok_12 : okFn Try.prog 12 = true := by kernel_rfl
instance : CO Try.prog 12 := ⟨ok_12⟩
theorem ok_13 : okFn Try.prog 13 = true := by kernel_rfl
instance : CO Try.prog 13 := ⟨ok_13⟩
theorem ok_14 : okFn Try.prog 14 = true := by kernel_rfl
instance : CO Try.prog 14 := ⟨ok_14⟩
theorem ok_15 : okFn Try.prog 15 = true := by kernel_rfl
instance : CO Try.prog 15 := ⟨ok_15⟩
theorem ok_16 : okFn Try.prog 16 = true := by kernel_rfl
instance : CO Try.prog 16 := ⟨ok_16⟩
theorem ok_17 : okFn Try.prog 17 = true := by kernel_rfl
instance : CO Try.prog 17 := ⟨ok_17⟩
theorem ok_18 : okFn Try.prog 18 = true := by kernel_rfl
instance : CO Try.prog 18 := ⟨ok_18⟩
theorem ok_19 : okFn Try.prog 19 = true := by kernel_rfl
instance : CO Try.prog 19 := ⟨ok_19⟩
theorem ok_20 : okFn Try.prog 20 = true := by kernel_rfl
instance : CO Try.prog 20 := ⟨ok_20⟩
theorem ok_21 : okFn Try.prog 21 = true := by kernel_rfl
instance : CO Try.prog 21 := ⟨ok_21⟩
theorem ok_22 : okFn Try.prog 22 = true := by kernel_rfl
instance : CO Try.prog 22 := ⟨ok_22⟩
theorem ok_23 : okFn Try.prog 23 = true := by kernel_rfl
instance : CO Try.prog 23 := ⟨ok_23⟩
theorem ok_24 : okFn Try.prog 24 = true := by kernel_rfl
instance : CO Try.prog 24 := ⟨ok_24⟩
theorem ok_25 : okFn Try.prog 25 = true := by kernel_rfl
instance : CO Try.prog 25 := ⟨ok_25⟩
theorem ok_26 : okFn Try.prog 26 = true := by kernel_rfl
instance : CO Try.prog 26 := ⟨ok_26⟩
theorem ok_27 : okFn Try.prog 27 = true := by kernel_rfl
instance : CO Try.prog 27 := ⟨ok_27⟩
theorem ok_28 : okFn Try.prog 28 = true := by kernel_rfl
instance : CO Try.prog 28 := ⟨ok_28⟩
theorem ok_29 : okFn Try.prog 29 = true := by kernel_rfl
instance : CO Try.prog 29 := ⟨ok_29⟩
theorem ok_3 : okFn Try.prog 3 = true := by kernel_rfl
instance : CO Try.prog 3 := ⟨ok_3⟩
theorem ok_30 : okFn Try.prog 30 = true := by kernel_rfl
instance : CO Try.prog 30 := ⟨ok_30⟩
theorem ok_31 : okFn Try.prog 31 = true := by kernel_rfl
instance : CO Try.prog 31 := ⟨ok_31⟩
theorem ok_32 : okFn Try.prog 32 = true := by kernel_rfl
instance : CO Try.prog 32 := ⟨ok_32⟩
theorem ok_33 : okFn Try.prog 33 = true := by kernel_rfl
instance : CO Try.prog 33 := ⟨ok_33⟩
theorem ok_34 : okFn Try.prog 34 = true := by kernel_rfl
instance : CO Try.prog 34 := ⟨ok_34⟩
theorem ok_35 : okFn Try.prog 35 = true := by kernel_rfl
instance : CO Try.prog 35 := ⟨ok_35⟩
theorem ok_36 : okFn Try.prog 36 = true := by kernel_rfl
instance : CO Try.prog 36 := ⟨ok_36⟩
theorem ok_37 : okFn Try.prog 37 = true := by kernel_rfl
instance : CO Try.prog 37 := ⟨ok_37⟩
theorem ok_38 : okFn Try.prog 38 = true := by kernel_rfl
instance : CO Try.prog 38 := ⟨ok_38⟩
theorem ok_39 : okFn Try.prog 39 = true := by kernel_rfl
instance : CO Try.prog 39 := ⟨ok_39⟩
theorem ok_4 : okFn Try.prog 4 = true := by kernel_rfl
instance : CO Try.prog 4 := ⟨ok_4⟩
theorem ok_40 : okFn Try.prog 40 = true := by kernel_rfl
instance : CO Try.prog 40 := ⟨ok_40⟩
theorem ok_41 : okFn Try.prog 41 = true := by kernel_rfl
instance : CO Try.prog 41 := ⟨ok_41⟩
theorem ok_42 : okFn Try.prog 42 = true := by kernel_rfl
instance : CO Try.prog 42 := ⟨ok_42⟩
theorem ok_43 : okFn Try.prog 43 = true := by kernel_rfl
instance : CO Try.prog 43 := ⟨ok_43⟩
theorem ok_44 : okFn Try.prog 44 = true := by kernel_rfl
instance : CO Try.prog 44 := ⟨ok_44⟩
theorem ok_45 : okFn Try.prog 45 = true := by kernel_rfl
instance : CO Try.prog 45 := ⟨ok_45⟩
theorem ok_46 : okFn Try.prog 46 = true := by kernel_rfl
instance : CO Try.prog 46 := ⟨ok_46⟩
theorem ok_47 : okFn Try.prog 47 = true := by kernel_rfl
instance : CO Try.prog 47 := ⟨ok_47⟩
theorem ok_48 : okFn Try.prog 48 = true := by kernel_rfl
instance : CO Try.prog 48 := ⟨ok_48⟩
theorem ok_49 : okFn Try.prog 49 = true := by kernel_rfl
instance : CO Try.prog 49 := ⟨ok_49⟩
theorem ok_5 : okFn Try.prog 5 = true := by kernel_rfl
instance : CO Try.prog 5 := ⟨ok_5⟩
theorem ok_50 : okFn Try.prog 50 = true := by kernel_rfl
instance : CO Try.prog 50 := ⟨ok_50⟩
theorem ok_51 : okFn Try.prog 51 = true := by kernel_rfl
instance : CO Try.prog 51 := ⟨ok_51⟩
theorem ok_52 : okFn Try.prog 52 = true := by kernel_rfl
instance : CO Try.prog 52 := ⟨ok_52⟩
theorem ok_53 : okFn Try.prog 53 = true := by kernel_rfl
instance : CO Try.prog 53 := ⟨ok_53⟩
theorem ok_54 : okFn Try.prog 54 = true := by kernel_rfl
instance : CO Try.prog 54 := ⟨ok_54⟩
theorem ok_55 : okFn Try.prog 55 = true := by kernel_rfl
instance : CO Try.prog 55 := ⟨ok_55⟩
theorem ok_56 : okFn Try.prog 56 = true := by kernel_rfl
instance : CO Try.prog 56 := ⟨ok_56⟩
theorem ok_6 : okFn Try.prog 6 = true := by kernel_rfl
instance : CO Try.prog 6 := ⟨ok_6⟩
theorem ok_7 : okFn Try.prog 7 = true := by kernel_rfl
instance : CO Try.prog 7 := ⟨ok_7⟩
theorem ok_8 : okFn Try.prog 8 = true := by kernel_rfl
instance : CO Try.prog 8 := ⟨ok_8⟩
theorem ok_9 : okFn Try.prog 9 = true := by kernel_rfl
instance : CO Try.prog 9 := ⟨ok_9⟩
abbrev TI := Elts (encI .i64) 1
theorem iok : EncOk (encI .i64) 1 := encI_ok .i64
theorem ipp : EncP (encI .i64) := fun _ => rfl
theorem takeT {α : Type} {l : List α} {d : α} {i : Nat} (h : i < l.length) : l.take (i + 1) = l.take i ++ [l.getD i d] := by
  rw [List.take_add_one, List.getD_eq_getElem?_getD, List.getElem?_eq_getElem h]; rfl
theorem dropT {α : Type} {l : List α} {d : α} {i : Nat} (h : i < l.length) : l.drop i = l.getD i d :: l.drop (i + 1) := by
  rw [List.drop_eq_getElem_cons h, List.getD_eq_getElem?_getD, List.getElem?_eq_getElem h]; rfl
/-! ### Lists of numbers: own, same -/
theorem bs_22z : bslC Try.prog 22 0 [] = some (3, []) := by kernel_rfl
theorem bs_22o (x : Int) : bslC Try.prog 22 1 [(0, I x)] = some (3, [I x]) := by kernel_rfl
instance : BS Try.prog 22 0 [] 3 [] := ⟨bs_22z⟩
instance (x : Int) : BS Try.prog 22 1 [(0, I x)] 3 [I x] := ⟨bs_22o x⟩
abbrev nilS : AV := .v (.slice none 0 0)
theorem same_any (h : Hp) (s1 s2 : AV) (l1 l2 : List Int) (hS1 : TI h s1 l1) (hS2 : TI h s2 l2) (hlen : l1.length ≤ 1099511627776) : ACalls Try.prog 18 [s1, s2] h (fun r h' => r = B (decide (l1 = l2)) ∧ h' = h) := by
  refine acalls_of_wk hm Try.func18 rfl ?_
  simp only [Try.ntmps18, List.length_cons, List.length_nil, Nat.reduceAdd, Nat.reduceSub, List.reduceReplicate, List.cons_append, List.nil_append]
  show wk _ _ none _ _ ⟨_, []⟩ _
  have el1 := mkEL iok (0:Int) hS1
  have el2 := mkEL iok (0:Int) hS2
  focus
    with_reducible refine s_seq ?_
    with_reducible refine s_reg ?_
    refine sassign ?_
    simp only [pu', p0', c1', c0', i1', z0', b8_nat]
    with_reducible refine s_end ?_
    with_reducible refine s_then ?_
    with_reducible refine s_seq ?_
    with_reducible refine s_seq ?_
    with_reducible refine s_reg ?_
    refine smove ?_
    simp only [pu', p0', c1', c0', i1', z0', b8_nat]
    refine slenE ?_
    simp only [pu', p0', c1', c0', i1', z0', b8_nat]
    refine smove ?_
    simp only [pu', p0', c1', c0', i1', z0', b8_nat]
    refine slenE ?_
    simp only [pu', p0', c1', c0', i1', z0', b8_nat]
    refine sNe (fun hb => ?_) (fun hb => ?_)
    replace hb := dT' hb
    simp only [pu', p0', c1', c0', i1', z0', b8_nat]
    with_reducible refine s_end ?_
    with_reducible refine s_then ?_
    refine sCT ?_
    with_reducible refine s_seq ?_
    with_reducible refine s_reg ?_
    refine sassign ?_
    simp only [pu', p0', c1', c0', i1', z0', b8_nat]
    with_reducible refine s_end ?_
    with_reducible refine s_then ?_
    with_reducible refine s_ret ?_
    with_reducible refine s_thenR ?_
    rotate_left 1
    replace hb := dF' hb
    simp only [pu', p0', c1', c0', i1', z0', b8_nat]
    with_reducible refine s_end ?_
    with_reducible refine s_then ?_
    refine sCF ?_
    with_reducible refine s_skip ?_
    with_reducible refine s_then ?_
    with_reducible refine s_seq ?_
    with_reducible refine s_seq ?_
    with_reducible refine s_reg ?_
    refine sassign ?_
    simp only [pu', p0', c1', c0', i1', z0', b8_nat]
    with_reducible refine s_end ?_
    with_reducible refine s_then ?_
    with_reducible refine s_block ?_
    rotate_left 1
  · all_goals try with_reducible refine w_n ?_
    all_goals refine w_1 rfl (by first | exact v_t (by rfl) | exact v_c1 (C1.p) (by rfl) (HA.p) (by rfl) | exact v_cF (CA.p) (by rfl) (HA.p) (by rfl)) ?_
    refine ⟨?_, rfl⟩
    rw [decide_eq_false (fun h => by subst h; simp at *)]
  · refine s_loop hm (fun (b : Nat) s' => [s1, s2, s' 2, s' 3, B false, I b, s' 6, s' 7, s' 8, s' 9, s' 10, s' 11, s' 12, s' 13, s' 14, s' 15, s' 16, s' 17, s' 18, s' 19, s' 20, s' 21, s' 22, s' 23, s' 24, s' 25]) (fun _ => h) (fun b => b ≤ l1.length ∧ l1.take b = l2.take b) (fun b => l1.length - b) 0 (by rfl) rfl ⟨Nat.zero_le _, rfl⟩ ?_
    rintro i s' ⟨hi1, hi2⟩
    have el3 := mkEL iok (0:Int) hS1
    have el4 := mkEL iok (0:Int) hS2
    focus
      with_reducible refine s_seq ?_
      with_reducible refine s_seq ?_
      with_reducible refine s_reg ?_
      refine smove ?_
      simp only [pu', p0', c1', c0', i1', z0', b8_nat]
      refine smove ?_
      simp only [pu', p0', c1', c0', i1', z0', b8_nat]
      refine slenE ?_
      simp only [pu', p0', c1', c0', i1', z0', b8_nat]
      refine sLt (fun hb => ?_) (fun hb => ?_)
      replace hb := dT' hb
      simp only [pu', p0', c1', c0', i1', z0', b8_nat]
      with_reducible refine s_end ?_
      with_reducible refine s_then ?_
      refine sCT ?_
      with_reducible refine s_skip ?_
      with_reducible refine s_then ?_
      with_reducible refine s_seq ?_
      with_reducible refine s_block ?_
      with_reducible refine s_seq ?_
      (refine s_regQ (id := 6) [(0, true), (1, true), (2, true), (3, true), (4, true), (5, true), (6, true), (7, true), (8, true)] (by kernel_rfl) (by conv => lhs; simp only [pickO, List.getElem?_cons_succ, List.getElem?_cons_zero]) ?_)
      refine qmove ?_
      simp only [pu', p0', c1', c0', i1', z0', b8_nat]
      refine qmove ?_
      simp only [pu', p0', c1', c0', i1', z0', b8_nat]
      refine qidxE ?_
      simp only [pu', p0', c1', c0', i1', z0', b8_nat]
      refine qloadE1 ?_
      simp only [pu', p0', c1', c0', i1', z0', b8_nat]
      refine qmove ?_
      simp only [pu', p0', c1', c0', i1', z0', b8_nat]
      refine qmove ?_
      simp only [pu', p0', c1', c0', i1', z0', b8_nat]
      refine qidxE ?_
      simp only [pu', p0', c1', c0', i1', z0', b8_nat]
      refine qloadE1 ?_
      simp only [pu', p0', c1', c0', i1', z0', b8_nat]
      refine qNe (fun hb => ?_) (fun hb => ?_)
      replace hb := dT' hb
      simp only [pu', p0', c1', c0', i1', z0', b8_nat]
      with_reducible refine q_end ?_
      with_reducible refine s_then ?_
      refine sCT ?_
      with_reducible refine s_seq ?_
      with_reducible refine s_reg ?_
      refine sassign ?_
      simp only [pu', p0', c1', c0', i1', z0', b8_nat]
      with_reducible refine s_end ?_
      with_reducible refine s_then ?_
      with_reducible refine s_ret ?_
      with_reducible refine s_blkR ?_
      with_reducible refine s_thenR ?_
      with_reducible refine l_ret ?_
      with_reducible refine s_blkR ?_
      with_reducible refine s_thenR ?_
      rotate_left 1
      replace hb := dF' hb
      simp only [pu', p0', c1', c0', i1', z0', b8_nat]
      with_reducible refine q_end ?_
      with_reducible refine s_then ?_
      refine sCF ?_
      with_reducible refine s_skip ?_
      with_reducible refine s_blkN ?_
      with_reducible refine s_then ?_
      with_reducible refine s_reg ?_
      refine smove ?_
      simp only [pu', p0', c1', c0', i1', z0', b8_nat]
      refine sadd ?_
      simp only [pu', p0', c1', c0', i1', z0', b8_nat]
      refine sassign ?_
      simp only [pu', p0', c1', c0', i1', z0', b8_nat]
      with_reducible refine s_end ?_
      rotate_left 1
      replace hb := dF' hb
      simp only [pu', p0', c1', c0', i1', z0', b8_nat]
      with_reducible refine s_end ?_
      with_reducible refine s_then ?_
      refine sCF ?_
      with_reducible refine s_exit ?_
      with_reducible refine s_thenE ?_
      with_reducible refine l_exit ?_
      with_reducible refine s_blkE ?_
      with_reducible refine s_then ?_
      with_reducible refine s_seq ?_
      with_reducible refine s_reg ?_
      refine sassign ?_
      simp only [pu', p0', c1', c0', i1', z0', b8_nat]
      with_reducible refine s_end ?_
      with_reducible refine s_then ?_
      with_reducible refine s_ret ?_
      rotate_left 1
    · all_goals try with_reducible refine w_n ?_
      all_goals refine w_1 rfl (by first | exact v_t (by rfl) | exact v_c1 (C1.p) (by rfl) (HA.p) (by rfl) | exact v_cF (CA.p) (by rfl) (HA.p) (by rfl)) ?_
      refine ⟨?_, rfl⟩
      rw [decide_eq_false (fun h => ?_)]
      subst h
      exact hb rfl
    · refine l_next (i + 1) ⟨by omega, ?_⟩ (by omega) (by rfl) rfl
      rw [takeT (l := l1) (d := (0:Int)) (by omega), takeT (l := l2) (d := (0:Int)) (by omega), hi2, show l1.getD i 0 = l2.getD i 0 by omega]
    · all_goals try with_reducible refine w_n ?_
      all_goals refine w_1 rfl (by first | exact v_t (by rfl) | exact v_c1 (C1.p) (by rfl) (HA.p) (by rfl) | exact v_cF (CA.p) (by rfl) (HA.p) (by rfl)) ?_
      refine ⟨?_, rfl⟩
      rw [List.take_of_length_le (by omega), List.take_of_length_le (by omega)] at hi2
      rw [decide_eq_true hi2]
theorem same_yes (h : Hp) (s1 s2 : AV) (l : List Int) (hS1 : TI h s1 l) (hS2 : TI h s2 l) (hlen : l.length ≤ 1099511627776) : ACalls Try.prog 18 [s1, s2] h (fun r h' => r = B true ∧ h' = h) :=
  (same_any h s1 s2 l l hS1 hS2 hlen).mono fun r h' _ hh => by rw [hh.1, hh.2]; exact ⟨by rw [decide_eq_true rfl], rfl⟩
/-! ### What lengths are -/
def grt (l : List Int) : Int := l.foldl (fun m x => if x > m then x else m) 0
theorem grt_snoc (l : List Int) (x : Int) : grt (l ++ [x]) = if x > grt l then x else grt l := by simp [grt]
theorem grt_bd (l : List Int) (b : Int) (h0 : 0 ≤ b) : (∀ x ∈ l, x ≤ b) → 0 ≤ grt l ∧ grt l ≤ b := by
  have key : ∀ (l : List Int) (m : Int), 0 ≤ m → m ≤ b → (∀ x ∈ l, x ≤ b) → 0 ≤ l.foldl (fun m x => if x > m then x else m) m ∧ l.foldl (fun m x => if x > m then x else m) m ≤ b := by
    intro l
    induction l with
    | nil => intro m a1 a2 _; exact ⟨a1, a2⟩
    | cons x l ih =>
      intro m a1 a2 a3
      have hx := a3 x (by simp)
      refine ih _ ?_ ?_ (fun y hy => a3 y (by simp [hy]))
      · show 0 ≤ (if x > m then x else m)
        split <;> omega
      · show (if x > m then x else m) ≤ b
        split <;> omega
  exact key l 0 (by omega) h0
theorem grt_ge (l : List Int) : ∀ x ∈ l, x ≤ grt l := by
  have key : ∀ (l : List Int) (m : Int), m ≤ l.foldl (fun m x => if x > m then x else m) m ∧ ∀ x ∈ l, x ≤ l.foldl (fun m x => if x > m then x else m) m := by
    intro l
    induction l with
    | nil => intro m; exact ⟨Int.le_refl _, fun x hx => by cases hx⟩
    | cons y l ih =>
      intro m
      have h1 := ih (if y > m then y else m)
      have h2 : m ≤ (if y > m then y else m) ∧ y ≤ (if y > m then y else m) := by split <;> omega
      refine ⟨Int.le_trans h2.1 h1.1, fun x hx => ?_⟩
      rcases List.mem_cons.1 hx with h3 | h3
      · rw [h3]; exact Int.le_trans h2.2 h1.1
      · exact h1.2 x h3
  exact (key l 0).2
def inr (x : Int) : Prop := 0 ≤ x ∧ x ≤ 11
instance (x : Int) : Decidable (inr x) := by unfold inr; infer_instance
def cnt (l : List Int) : Int := l.foldl (fun m x => if x = 0 then m else m + 1) 0
theorem cnt_snoc (l : List Int) (x : Int) : cnt (l ++ [x]) = if x = 0 then cnt l else cnt l + 1 := by simp [cnt]
theorem cnt_bd : ∀ (l : List Int), 0 ≤ cnt l ∧ cnt l ≤ l.length := by
  have key : ∀ (l : List Int) (m : Int), m ≤ l.foldl (fun m x => if x = 0 then m else m + 1) m ∧ l.foldl (fun m x => if x = 0 then m else m + 1) m ≤ m + l.length := by
    intro l
    induction l with
    | nil => intro m; simp
    | cons x l ih =>
      intro m
      have := ih (if x = 0 then m else m + 1)
      simp only [List.foldl_cons, List.length_cons]
      split at this <;> split <;> omega
  intro l
  have := key l 0
  unfold cnt
  omega
def tot (f : Int → Int) (l : List Int) : Int := l.foldl (fun m x => if x = 0 then m else m + f x) 0
theorem tot_snoc (f : Int → Int) (l : List Int) (x : Int) : tot f (l ++ [x]) = if x = 0 then tot f l else tot f l + f x := by simp [tot]
theorem tot_bd (f : Int → Int) (b : Int) (hb : 0 ≤ b) (l : List Int) (h : ∀ x ∈ l, x ≠ 0 → 0 ≤ f x ∧ f x ≤ b) : 0 ≤ tot f l ∧ tot f l ≤ b * l.length := by
  have key : ∀ (l : List Int) (m : Int), (∀ x ∈ l, x ≠ 0 → 0 ≤ f x ∧ f x ≤ b) → m ≤ l.foldl (fun m x => if x = 0 then m else m + f x) m ∧ l.foldl (fun m x => if x = 0 then m else m + f x) m ≤ m + b * l.length := by
    intro l
    induction l with
    | nil => intro m _; simp
    | cons x l ih =>
      intro m hx
      have h1 := hx x (by simp)
      have h2 := ih (if x = 0 then m else m + f x) (fun y hy => hx y (by simp [hy]))
      simp only [List.foldl_cons, List.length_cons]
      have e : b * ((l.length + 1 : Nat) : Int) = b * l.length + b := by
        rw [show ((l.length + 1 : Nat) : Int) = (l.length : Int) + 1 by omega, Int.mul_add, Int.mul_one]
      rw [e]
      split at h2 <;> split <;> first | omega | (have := h1 (by assumption); omega)
  have := key l 0 h
  unfold tot
  omega
theorem mem_take {l : List Int} {i : Nat} {x : Int} (h : x ∈ l.take i) : x ∈ l := List.mem_of_mem_take h
theorem getD_mem {l : List Int} {n : Nat} (h : n < l.length) : l.getD n 0 ∈ l := by
  rw [List.getD_eq_getElem?_getD, List.getElem?_eq_getElem h]; exact List.getElem_mem h
theorem greatest_any (h : Hp) (s : AV) (l : List Int) (hS : TI h s l) (hlen : l.length ≤ 1099511627776) : ACalls Try.prog 33 [s] h (fun r h' => r = I (grt l) ∧ h' = h) := by
  refine acalls_of_wk hm Try.func33 rfl ?_
  simp only [Try.ntmps33, List.length_cons, List.length_nil, Nat.reduceAdd, Nat.reduceSub, List.reduceReplicate, List.cons_append, List.nil_append]
  show wk _ _ none _ _ ⟨_, []⟩ _
  have el5 := mkEL iok (0:Int) hS
  with_reducible refine s_seq ?_
  with_reducible refine s_reg ?_
  refine sassign ?_
  simp only [pu', p0', c1', c0', i1', z0', b8_nat]
  with_reducible refine s_end ?_
  with_reducible refine s_then ?_
  with_reducible refine s_seq ?_
  with_reducible refine s_reg ?_
  refine sassign ?_
  simp only [pu', p0', c1', c0', i1', z0', b8_nat]
  with_reducible refine s_end ?_
  with_reducible refine s_then ?_
  with_reducible refine s_seq ?_
  with_reducible refine s_seq ?_
  with_reducible refine s_reg ?_
  refine smove ?_
  simp only [pu', p0', c1', c0', i1', z0', b8_nat]
  refine slenE ?_
  simp only [pu', p0', c1', c0', i1', z0', b8_nat]
  refine smove ?_
  simp only [pu', p0', c1', c0', i1', z0', b8_nat]
  with_reducible refine s_end ?_
  with_reducible refine s_then ?_
  with_reducible refine s_block ?_
  refine s_loop hm (fun (b : Nat) s' => [s' 0, s' 1, s' 2, I (grt (l.take b)), s' 4, s' 5, s, I l.length, I b, s' 9, s' 10, s' 11, s' 12, s' 13, s' 14, s' 15, s' 16]) (fun _ => h) (fun b => b ≤ l.length) (fun b => l.length - b) 0 (by rfl) rfl (Nat.zero_le _) ?_
  intro i s' hi
  have el6 := mkEL iok (0:Int) hS
  focus
    with_reducible refine s_seq ?_
    with_reducible refine s_reg ?_
    refine sLt (fun hb => ?_) (fun hb => ?_)
    replace hb := dT' hb
    simp only [pu', p0', c1', c0', i1', z0', b8_nat]
    with_reducible refine s_end ?_
    with_reducible refine s_then ?_
    with_reducible refine s_seq ?_
    refine sCT ?_
    with_reducible refine s_skip ?_
    with_reducible refine s_then ?_
    with_reducible refine s_seq ?_
    with_reducible refine s_block ?_
    with_reducible refine s_seq ?_
    with_reducible refine s_reg ?_
    refine sidxE ?_
    simp only [pu', p0', c1', c0', i1', z0', b8_nat]
    refine sloadE1 ?_
    simp only [pu', p0', c1', c0', i1', z0', b8_nat]
    refine sassign ?_
    simp only [pu', p0', c1', c0', i1', z0', b8_nat]
    with_reducible refine s_end ?_
    with_reducible refine s_then ?_
    with_reducible refine s_reg ?_
    refine smove ?_
    simp only [pu', p0', c1', c0', i1', z0', b8_nat]
    refine smove ?_
    simp only [pu', p0', c1', c0', i1', z0', b8_nat]
    refine smax ?_
    simp only [pu', p0', c1', c0', i1', z0', b8_nat]
    refine sassign ?_
    simp only [pu', p0', c1', c0', i1', z0', b8_nat]
    with_reducible refine s_end ?_
    with_reducible refine s_blkN ?_
    with_reducible refine s_then ?_
    with_reducible refine s_reg ?_
    refine sadd ?_
    simp only [pu', p0', c1', c0', i1', z0', b8_nat]
    refine smove ?_
    simp only [pu', p0', c1', c0', i1', z0', b8_nat]
    with_reducible refine s_end ?_
    rotate_left 1
    replace hb := dF' hb
    simp only [pu', p0', c1', c0', i1', z0', b8_nat]
    with_reducible refine s_end ?_
    with_reducible refine s_then ?_
    with_reducible refine s_seq ?_
    refine sCF ?_
    with_reducible refine s_exit ?_
    with_reducible refine s_thenE ?_
    with_reducible refine l_exit ?_
    with_reducible refine s_blkE ?_
    with_reducible refine s_then ?_
    with_reducible refine s_seq ?_
    with_reducible refine s_reg ?_
    refine smove ?_
    simp only [pu', p0', c1', c0', i1', z0', b8_nat]
    refine sassign ?_
    simp only [pu', p0', c1', c0', i1', z0', b8_nat]
    with_reducible refine s_end ?_
    with_reducible refine s_then ?_
    with_reducible refine s_ret ?_
    rotate_left 1
  · refine l_next (i + 1) (by omega) (by omega) ?_ rfl
    rw [takeT (d := (0:Int)) (by omega), grt_snoc]; rfl
  · ((try with_reducible refine w_n ?_); refine w_1 rfl (by first | exact v_t (by rfl) | exact v_c1 (C1.p) (by rfl) (HA.p) (by rfl) | exact v_cF (CA.p) (by rfl) (HA.p) (by rfl)) ?_)
    rw [List.take_of_length_le (by omega)]
    exact ⟨rfl, rfl⟩
theorem total_any (h : Hp) (s : AV) (l : List Int) (hS : TI h s l) (hlen : l.length ≤ 4096) (g : FuncId) (cs : List AV) (F : Int → Int) (hg : CO Try.prog g) (hF : ∀ x ∈ l, x ≠ 0 → ACalls Try.prog g (I x :: cs) h (fun r h' => r = I (F x) ∧ h' = h)) (hb : ∀ x ∈ l, x ≠ 0 → 0 ≤ F x ∧ F x ≤ 1099511627776) : ACalls Try.prog 35 [s, .fn (.func g) cs] h (fun r h' => r = I (tot F l) ∧ h' = h) := by
  refine acalls_of_wk hm Try.func35 rfl ?_
  simp only [Try.ntmps35, List.length_cons, List.length_nil, Nat.reduceAdd, Nat.reduceSub, List.reduceReplicate, List.cons_append, List.nil_append]
  show wk _ _ none _ _ ⟨_, []⟩ _
  have el7 := mkEL iok (0:Int) hS
  with_reducible refine s_seq ?_
  with_reducible refine s_reg ?_
  refine sassign ?_
  simp only [pu', p0', c1', c0', i1', z0', b8_nat]
  with_reducible refine s_end ?_
  with_reducible refine s_then ?_
  with_reducible refine s_seq ?_
  with_reducible refine s_seq ?_
  with_reducible refine s_reg ?_
  refine smove ?_
  simp only [pu', p0', c1', c0', i1', z0', b8_nat]
  refine slenE ?_
  simp only [pu', p0', c1', c0', i1', z0', b8_nat]
  refine smove ?_
  simp only [pu', p0', c1', c0', i1', z0', b8_nat]
  with_reducible refine s_end ?_
  with_reducible refine s_then ?_
  with_reducible refine s_block ?_
  refine s_loop hm (fun (b : Nat) s' => [s' 0, .fn (.func g) cs, s' 2, s' 3, I (tot F (l.take b)), s' 5, s' 6, s, I l.length, I b, s' 10, s' 11, s' 12, s' 13, s' 14, s' 15, s' 16, s' 17, s' 18, s' 19, s' 20, s' 21]) (fun _ => h) (fun b => b ≤ l.length) (fun b => l.length - b) 0 (by rfl) rfl (Nat.zero_le _) ?_
  intro i s' hi
  have hb1 := tot_bd F 1099511627776 (by omega) (l.take i) (fun x hx => hb x (mem_take hx))
  have hb2 : i < l.length → l.getD i 0 ≠ 0 → 0 ≤ F (l.getD i 0) ∧ F (l.getD i 0) ≤ 1099511627776 := fun a b => hb _ (getD_mem a) b
  have hl : (l.take i).length ≤ i := List.length_take_le i l
  have hc : i < l.length → l.getD i 0 ≠ 0 → ACalls Try.prog g (I (l.getD i 0) :: cs) h (fun r h' => r = I (F (l.getD i 0)) ∧ h' = h) := fun a b => hF _ (getD_mem a) b
  have el8 := mkEL iok (0:Int) hS
  focus
    with_reducible refine s_seq ?_
    with_reducible refine s_reg ?_
    refine sLt (fun hb => ?_) (fun hb => ?_)
    replace hb := dT' hb
    simp only [pu', p0', c1', c0', i1', z0', b8_nat]
    with_reducible refine s_end ?_
    with_reducible refine s_then ?_
    with_reducible refine s_seq ?_
    refine sCT ?_
    with_reducible refine s_skip ?_
    with_reducible refine s_then ?_
    with_reducible refine s_seq ?_
    with_reducible refine s_block ?_
    with_reducible refine s_seq ?_
    with_reducible refine s_reg ?_
    refine sidxE ?_
    simp only [pu', p0', c1', c0', i1', z0', b8_nat]
    refine sloadE1 ?_
    simp only [pu', p0', c1', c0', i1', z0', b8_nat]
    refine sassign ?_
    simp only [pu', p0', c1', c0', i1', z0', b8_nat]
    with_reducible refine s_end ?_
    with_reducible refine s_then ?_
    with_reducible refine s_seq ?_
    with_reducible refine s_reg ?_
    refine smove ?_
    simp only [pu', p0', c1', c0', i1', z0', b8_nat]
    refine sNe (fun hb => ?_) (fun hb => ?_)
    replace hb := dT' hb
    simp only [pu', p0', c1', c0', i1', z0', b8_nat]
    with_reducible refine s_end ?_
    with_reducible refine s_then ?_
    refine sCT ?_
    with_reducible refine s_reg ?_
    refine smove ?_
    simp only [pu', p0', c1', c0', i1', z0', b8_nat]
    refine smove ?_
    simp only [pu', p0', c1', c0', i1', z0', b8_nat]
    refine smove ?_
    simp only [pu', p0', c1', c0', i1', z0', b8_nat]
    refine sM (hx := rfl) (hc (by omega) (by omega)) ?_
    simp only [pu', p0', c1', c0', i1', z0', b8_nat]
    refine sadd ?_
    simp only [pu', p0', c1', c0', i1', z0', b8_nat]
    refine sassign ?_
    simp only [pu', p0', c1', c0', i1', z0', b8_nat]
    with_reducible refine s_end ?_
    with_reducible refine s_blkN ?_
    with_reducible refine s_then ?_
    with_reducible refine s_reg ?_
    refine sadd ?_
    simp only [pu', p0', c1', c0', i1', z0', b8_nat]
    refine smove ?_
    simp only [pu', p0', c1', c0', i1', z0', b8_nat]
    with_reducible refine s_end ?_
    rotate_left 1
    replace hb := dF' hb
    simp only [pu', p0', c1', c0', i1', z0', b8_nat]
    with_reducible refine s_end ?_
    with_reducible refine s_then ?_
    refine sCF ?_
    with_reducible refine s_skip ?_
    with_reducible refine s_blkN ?_
    with_reducible refine s_then ?_
    with_reducible refine s_reg ?_
    refine sadd ?_
    simp only [pu', p0', c1', c0', i1', z0', b8_nat]
    refine smove ?_
    simp only [pu', p0', c1', c0', i1', z0', b8_nat]
    with_reducible refine s_end ?_
    rotate_left 1
    replace hb := dF' hb
    simp only [pu', p0', c1', c0', i1', z0', b8_nat]
    with_reducible refine s_end ?_
    with_reducible refine s_then ?_
    with_reducible refine s_seq ?_
    refine sCF ?_
    with_reducible refine s_exit ?_
    with_reducible refine s_thenE ?_
    with_reducible refine l_exit ?_
    with_reducible refine s_blkE ?_
    with_reducible refine s_then ?_
    with_reducible refine s_seq ?_
    with_reducible refine s_reg ?_
    refine smove ?_
    simp only [pu', p0', c1', c0', i1', z0', b8_nat]
    refine sassign ?_
    simp only [pu', p0', c1', c0', i1', z0', b8_nat]
    with_reducible refine s_end ?_
    with_reducible refine s_then ?_
    with_reducible refine s_ret ?_
    rotate_left 1
  all_goals first
    | (refine l_next (i + 1) (by omega) (by omega) ?_ rfl; rw [takeT (d := (0:Int)) (by omega), tot_snoc, if_neg (by omega)]; rfl)
    | (refine l_next (i + 1) (by omega) (by omega) ?_ rfl; rw [takeT (d := (0:Int)) (by omega), tot_snoc, if_pos (by omega)]; rfl)
    | (((try with_reducible refine w_n ?_); refine w_1 rfl (by first | exact v_t (by rfl) | exact v_c1 (C1.p) (by rfl) (HA.p) (by rfl) | exact v_cF (CA.p) (by rfl) (HA.p) (by rfl)) ?_); rw [List.take_of_length_le (by omega)]; exact ⟨rfl, rfl⟩)
theorem inside_any (h : Hp) (s : AV) (l : List Int) (hS : TI h s l) (hlen : l.length ≤ 4096) : ACalls Try.prog 34 [s] h (fun r h' => r = (if (∀ x ∈ l, inr x) then .tup [I (cnt l), B true] else .tup [I 0, B false]) ∧ h' = h) := by
  refine acalls_of_wk hm Try.func34 rfl ?_
  simp only [Try.ntmps34, List.length_cons, List.length_nil, Nat.reduceAdd, Nat.reduceSub, List.reduceReplicate, List.cons_append, List.nil_append]
  show wk _ _ none _ _ ⟨_, []⟩ _
  have el9 := mkEL iok (0:Int) hS
  with_reducible refine s_seq ?_
  with_reducible refine s_reg ?_
  refine sassign ?_
  simp only [pu', p0', c1', c0', i1', z0', b8_nat]
  refine sassign ?_
  simp only [pu', p0', c1', c0', i1', z0', b8_nat]
  with_reducible refine s_end ?_
  with_reducible refine s_then ?_
  with_reducible refine s_seq ?_
  with_reducible refine s_seq ?_
  with_reducible refine s_reg ?_
  refine smove ?_
  simp only [pu', p0', c1', c0', i1', z0', b8_nat]
  refine slenE ?_
  simp only [pu', p0', c1', c0', i1', z0', b8_nat]
  refine smove ?_
  simp only [pu', p0', c1', c0', i1', z0', b8_nat]
  with_reducible refine s_end ?_
  with_reducible refine s_then ?_
  with_reducible refine s_block ?_
  refine s_loop hm (fun (b : Nat) s' => [s' 0, s' 1, I (cnt (l.take b)), s' 3, s' 4, s' 5, s, I l.length, I b, s' 9, s' 10, s' 11, s' 12, s' 13, s' 14, s' 15, s' 16, s' 17, s' 18, s' 19, s' 20, s' 21, s' 22, s' 23]) (fun _ => h) (fun b => b ≤ l.length ∧ ∀ x ∈ l.take b, inr x) (fun b => l.length - b) 0 (by rfl) rfl ⟨Nat.zero_le _, fun x hx => by simp at hx⟩ ?_
  rintro i s' ⟨hi, hin⟩
  have hb1 := cnt_bd (l.take i)
  have hl : (l.take i).length ≤ i := List.length_take_le i l
  have hnx : i < l.length → inr (l.getD i 0) → ∀ x ∈ l.take (i + 1), inr x := fun a b x hx => by
    rw [takeT (d := (0:Int)) a] at hx
    rcases List.mem_append.1 hx with h1 | h1
    · exact hin x h1
    · simp only [List.mem_singleton] at h1; rw [h1]; exact b
  have el10 := mkEL iok (0:Int) hS
  focus
    with_reducible refine s_seq ?_
    with_reducible refine s_reg ?_
    refine sLt (fun hb => ?_) (fun hb => ?_)
    replace hb := dT' hb
    simp only [pu', p0', c1', c0', i1', z0', b8_nat]
    with_reducible refine s_end ?_
    with_reducible refine s_then ?_
    with_reducible refine s_seq ?_
    refine sCT ?_
    with_reducible refine s_skip ?_
    with_reducible refine s_then ?_
    with_reducible refine s_seq ?_
    with_reducible refine s_block ?_
    with_reducible refine s_seq ?_
    with_reducible refine s_reg ?_
    refine sidxE ?_
    simp only [pu', p0', c1', c0', i1', z0', b8_nat]
    refine sloadE1 ?_
    simp only [pu', p0', c1', c0', i1', z0', b8_nat]
    refine sassign ?_
    simp only [pu', p0', c1', c0', i1', z0', b8_nat]
    with_reducible refine s_end ?_
    with_reducible refine s_then ?_
    with_reducible refine s_seq ?_
    with_reducible refine s_seq ?_
    with_reducible refine s_reg ?_
    refine smove ?_
    simp only [pu', p0', c1', c0', i1', z0', b8_nat]
    refine sLt (fun hb => ?_) (fun hb => ?_)
    replace hb := dT' hb
    simp only [pu', p0', c1', c0', i1', z0', b8_nat]
    refine smove ?_
    simp only [pu', p0', c1', c0', i1', z0', b8_nat]
    refine sN ?_
    simp only [pu', p0', c1', c0', i1', z0', b8_nat]
    refine sN ?_
    simp only [pu', p0', c1', c0', i1', z0', b8_nat]
    refine spickT ?_
    simp only [pu', p0', c1', c0', i1', z0', b8_nat]
    with_reducible refine s_end ?_
    with_reducible refine s_then ?_
    refine sCT ?_
    with_reducible refine s_seq ?_
    with_reducible refine s_reg ?_
    refine sassign ?_
    simp only [pu', p0', c1', c0', i1', z0', b8_nat]
    refine sassign ?_
    simp only [pu', p0', c1', c0', i1', z0', b8_nat]
    with_reducible refine s_end ?_
    with_reducible refine s_then ?_
    with_reducible refine s_ret ?_
    with_reducible refine s_thenR ?_
    with_reducible refine s_blkR ?_
    with_reducible refine s_thenR ?_
    with_reducible refine l_ret ?_
    with_reducible refine s_blkR ?_
    with_reducible refine s_thenR ?_
    rotate_left 1
    replace hb := dF' hb
    simp only [pu', p0', c1', c0', i1', z0', b8_nat]
    refine smove ?_
    simp only [pu', p0', c1', c0', i1', z0', b8_nat]
    refine smove ?_
    simp only [pu', p0', c1', c0', i1', z0', b8_nat]
    refine sGt (fun hb => ?_) (fun hb => ?_)
    replace hb := dT' hb
    simp only [pu', p0', c1', c0', i1', z0', b8_nat]
    refine spickF ?_
    simp only [pu', p0', c1', c0', i1', z0', b8_nat]
    with_reducible refine s_end ?_
    with_reducible refine s_then ?_
    refine sCT ?_
    with_reducible refine s_seq ?_
    with_reducible refine s_reg ?_
    refine sassign ?_
    simp only [pu', p0', c1', c0', i1', z0', b8_nat]
    refine sassign ?_
    simp only [pu', p0', c1', c0', i1', z0', b8_nat]
    with_reducible refine s_end ?_
    with_reducible refine s_then ?_
    with_reducible refine s_ret ?_
    with_reducible refine s_thenR ?_
    with_reducible refine s_blkR ?_
    with_reducible refine s_thenR ?_
    with_reducible refine l_ret ?_
    with_reducible refine s_blkR ?_
    with_reducible refine s_thenR ?_
    rotate_left 1
    replace hb := dF' hb
    simp only [pu', p0', c1', c0', i1', z0', b8_nat]
    refine spickF ?_
    simp only [pu', p0', c1', c0', i1', z0', b8_nat]
    with_reducible refine s_end ?_
    with_reducible refine s_then ?_
    refine sCF ?_
    with_reducible refine s_skip ?_
    with_reducible refine s_then ?_
    with_reducible refine s_seq ?_
    with_reducible refine s_reg ?_
    refine smove ?_
    simp only [pu', p0', c1', c0', i1', z0', b8_nat]
    refine sNe (fun hb => ?_) (fun hb => ?_)
    replace hb := dT' hb
    simp only [pu', p0', c1', c0', i1', z0', b8_nat]
    with_reducible refine s_end ?_
    with_reducible refine s_then ?_
    refine sCT ?_
    with_reducible refine s_reg ?_
    refine smove ?_
    simp only [pu', p0', c1', c0', i1', z0', b8_nat]
    refine sadd ?_
    simp only [pu', p0', c1', c0', i1', z0', b8_nat]
    refine sassign ?_
    simp only [pu', p0', c1', c0', i1', z0', b8_nat]
    with_reducible refine s_end ?_
    with_reducible refine s_blkN ?_
    with_reducible refine s_then ?_
    with_reducible refine s_reg ?_
    refine sadd ?_
    simp only [pu', p0', c1', c0', i1', z0', b8_nat]
    refine smove ?_
    simp only [pu', p0', c1', c0', i1', z0', b8_nat]
    with_reducible refine s_end ?_
    rotate_left 1
    replace hb := dF' hb
    simp only [pu', p0', c1', c0', i1', z0', b8_nat]
    with_reducible refine s_end ?_
    with_reducible refine s_then ?_
    refine sCF ?_
    with_reducible refine s_skip ?_
    with_reducible refine s_blkN ?_
    with_reducible refine s_then ?_
    with_reducible refine s_reg ?_
    refine sadd ?_
    simp only [pu', p0', c1', c0', i1', z0', b8_nat]
    refine smove ?_
    simp only [pu', p0', c1', c0', i1', z0', b8_nat]
    with_reducible refine s_end ?_
    rotate_left 1
    replace hb := dF' hb
    simp only [pu', p0', c1', c0', i1', z0', b8_nat]
    with_reducible refine s_end ?_
    with_reducible refine s_then ?_
    with_reducible refine s_seq ?_
    refine sCF ?_
    with_reducible refine s_exit ?_
    with_reducible refine s_thenE ?_
    with_reducible refine l_exit ?_
    with_reducible refine s_blkE ?_
    with_reducible refine s_then ?_
    with_reducible refine s_seq ?_
    with_reducible refine s_reg ?_
    refine smove ?_
    simp only [pu', p0', c1', c0', i1', z0', b8_nat]
    refine sassign ?_
    simp only [pu', p0', c1', c0', i1', z0', b8_nat]
    refine sassign ?_
    simp only [pu', p0', c1', c0', i1', z0', b8_nat]
    with_reducible refine s_end ?_
    with_reducible refine s_then ?_
    with_reducible refine s_ret ?_
    rotate_left 1
  all_goals first
    | (refine l_next (i + 1) ⟨by omega, hnx (by omega) ⟨by omega, by omega⟩⟩ (by omega) ?_ rfl; rw [takeT (d := (0:Int)) (by omega), cnt_snoc, if_neg (by omega)]; rfl)
    | (refine l_next (i + 1) ⟨by omega, hnx (by omega) ⟨by omega, by omega⟩⟩ (by omega) ?_ rfl; rw [takeT (d := (0:Int)) (by omega), cnt_snoc, if_pos (by omega)]; rfl)
    | (((try with_reducible refine w_n ?_); refine w_2 rfl (by first | exact v_t (by rfl) | exact v_c1 (C1.p) (by rfl) (HA.p) (by rfl) | exact v_cF (CA.p) (by rfl) (HA.p) (by rfl)) (by first | exact v_t (by rfl) | exact v_c1 (C1.p) (by rfl) (HA.p) (by rfl) | exact v_cF (CA.p) (by rfl) (HA.p) (by rfl)) ?_); rw [if_neg (fun hh => by have := hh _ (getD_mem (n := i) (by omega)); simp only [inr] at this; omega)]; exact ⟨rfl, rfl⟩)
    | (((try with_reducible refine w_n ?_); refine w_2 rfl (by first | exact v_t (by rfl) | exact v_c1 (C1.p) (by rfl) (HA.p) (by rfl) | exact v_cF (CA.p) (by rfl) (HA.p) (by rfl)) (by first | exact v_t (by rfl) | exact v_c1 (C1.p) (by rfl) (HA.p) (by rfl) | exact v_cF (CA.p) (by rfl) (HA.p) (by rfl)) ?_); rw [List.take_of_length_le (by omega)] at hin ⊢; rw [if_pos hin]; exact ⟨rfl, rfl⟩)
/-! ### Which lengths are right -/
def pw (n : Int) : Int := 2 ^ n.toNat
theorem pw_bd {n : Int} (h : n ≤ 11) : 0 ≤ pw n ∧ pw n ≤ 2048 := by
  have : n.toNat ≤ 11 := by omega
  have h1 : (2 : Nat) ^ n.toNat ≤ 2 ^ 11 := Nat.pow_le_pow_right (by omega) this
  have h2 : pw n = ((2 ^ n.toNat : Nat) : Int) := by simp [pw]
  rw [h2]
  exact ⟨Int.natCast_nonneg _, Int.ofNat_le.2 h1⟩
def chkW (l : List Int) : Int :=
  if l.length < 2 ∨ 256 < l.length then 4 else if ¬ (∀ x ∈ l, inr x) then 2
  else if l.getD (l.length - 1) 0 = 0 ∨ cnt l < 2 ∨ tot (fun x => pw (grt l - x)) l ≠ pw (grt l) then 21 else 0
section
variable {l : List Int}
theorem cw_4 (h : l.length < 2 ∨ 256 < l.length) : chkW l = 4 := if_pos h
theorem cw_2 (h : ¬ (l.length < 2 ∨ 256 < l.length)) (h1 : ¬ (∀ x ∈ l, inr x)) : chkW l = 2 := by rw [chkW, if_neg h, if_pos h1]
theorem cw_21 (h : ¬ (l.length < 2 ∨ 256 < l.length)) (h1 : ∀ x ∈ l, inr x) (h2 : l.getD (l.length - 1) 0 = 0 ∨ cnt l < 2 ∨ tot (fun x => pw (grt l - x)) l ≠ pw (grt l)) : chkW l = 21 := by rw [chkW, if_neg h, if_neg (fun hh => hh h1), if_pos h2]
theorem cw_0 (h : ¬ (l.length < 2 ∨ 256 < l.length)) (h1 : ∀ x ∈ l, inr x) (h2 : ¬ (l.getD (l.length - 1) 0 = 0 ∨ cnt l < 2 ∨ tot (fun x => pw (grt l - x)) l ≠ pw (grt l))) : chkW l = 0 := by rw [chkW, if_neg h, if_neg (fun hh => hh h1), if_neg h2]
end
theorem one_any (h : Hp) (i : Nat) (m x : Int) (hi : HA h i (.cells [I m] 3 true)) (h0 : x ≤ m) (h1 : 0 ≤ x) (h2 : m ≤ 11) : ACalls Try.prog 36 [I x, .ptr i 0] h (fun r h' => r = I (pw (m - x)) ∧ h' = h) := by
  refine acalls_of_wk hm Try.func36 rfl ?_
  simp only [Try.ntmps36, List.length_cons, List.length_nil, Nat.reduceAdd, Nat.reduceSub, List.reduceReplicate, List.cons_append, List.nil_append]
  show wk _ _ none _ _ ⟨_, []⟩ _
  with_reducible refine s_seq ?_
  with_reducible refine s_reg ?_
  refine sassign ?_
  simp only [pu', p0', c1', c0', i1', z0', b8_nat]
  with_reducible refine s_end ?_
  with_reducible refine s_then ?_
  with_reducible refine s_seq ?_
  with_reducible refine s_reg ?_
  refine sload1 ?_
  simp only [pu', p0', c1', c0', i1', z0', b8_nat]
  refine smove ?_
  simp only [pu', p0', c1', c0', i1', z0', b8_nat]
  refine ssub ?_
  simp only [pu', p0', c1', c0', i1', z0', b8_nat]
  refine sconv ?_
  simp only [pu', p0', c1', c0', i1', z0', b8_nat]
  refine sshl1 ?_
  simp only [pu', p0', c1', c0', i1', z0', b8_nat]
  refine sassign ?_
  simp only [pu', p0', c1', c0', i1', z0', b8_nat]
  with_reducible refine s_end ?_
  with_reducible refine s_then ?_
  with_reducible refine s_ret ?_
  all_goals try with_reducible refine w_n ?_
  all_goals refine w_1 rfl (by first | exact v_t (by rfl) | exact v_c1 (C1.p) (by rfl) (HA.p) (by rfl) | exact v_cF (CA.p) (by rfl) (HA.p) (by rfl)) ?_
  exact ⟨rfl, rfl⟩
theorem check_any (h : Hp) (s : AV) (l : List Int) (hS : TI h s l) : ACalls Try.prog 16 [s] h (fun r h' => r = I (chkW l) ∧ h' = h) := by
  by_cases hl : l.length < 2 ∨ 256 < l.length
  · rw [cw_4 hl]
    refine acalls_of_wk hm Try.func16 rfl ?_
    simp only [Try.ntmps16, List.length_cons, List.length_nil, Nat.reduceAdd, Nat.reduceSub, List.reduceReplicate, List.cons_append, List.nil_append]
    show wk _ _ none _ _ ⟨_, []⟩ _
    have el11 := mkEL iok (0:Int) hS
    focus
      with_reducible refine s_seq ?_
      with_reducible refine s_reg ?_
      refine sassign ?_
      simp only [pu', p0', c1', c0', i1', z0', b8_nat]
      with_reducible refine s_end ?_
      with_reducible refine s_then ?_
      with_reducible refine s_seq ?_
      with_reducible refine s_seq ?_
      with_reducible refine s_reg ?_
      refine smove ?_
      simp only [pu', p0', c1', c0', i1', z0', b8_nat]
      refine slenE ?_
      simp only [pu', p0', c1', c0', i1', z0', b8_nat]
      refine sLt (fun hb => ?_) (fun hb => ?_)
      replace hb := dT' hb
      simp only [pu', p0', c1', c0', i1', z0', b8_nat]
      refine smove ?_
      simp only [pu', p0', c1', c0', i1', z0', b8_nat]
      refine sN ?_
      simp only [pu', p0', c1', c0', i1', z0', b8_nat]
      refine sN ?_
      simp only [pu', p0', c1', c0', i1', z0', b8_nat]
      refine sN ?_
      simp only [pu', p0', c1', c0', i1', z0', b8_nat]
      refine spickT ?_
      simp only [pu', p0', c1', c0', i1', z0', b8_nat]
      with_reducible refine s_end ?_
      with_reducible refine s_then ?_
      refine sCT ?_
      with_reducible refine s_seq ?_
      with_reducible refine s_reg ?_
      refine sassign ?_
      simp only [pu', p0', c1', c0', i1', z0', b8_nat]
      with_reducible refine s_end ?_
      with_reducible refine s_then ?_
      with_reducible refine s_ret ?_
      with_reducible refine s_thenR ?_
      rotate_left 1
      replace hb := dF' hb
      simp only [pu', p0', c1', c0', i1', z0', b8_nat]
      refine smove ?_
      simp only [pu', p0', c1', c0', i1', z0', b8_nat]
      refine smove ?_
      simp only [pu', p0', c1', c0', i1', z0', b8_nat]
      refine slenE ?_
      simp only [pu', p0', c1', c0', i1', z0', b8_nat]
      refine sGt (fun hb => ?_) (fun hb => ?_)
      replace hb := dT' hb
      simp only [pu', p0', c1', c0', i1', z0', b8_nat]
      refine spickF ?_
      simp only [pu', p0', c1', c0', i1', z0', b8_nat]
      with_reducible refine s_end ?_
      with_reducible refine s_then ?_
      refine sCT ?_
      with_reducible refine s_seq ?_
      with_reducible refine s_reg ?_
      refine sassign ?_
      simp only [pu', p0', c1', c0', i1', z0', b8_nat]
      with_reducible refine s_end ?_
      with_reducible refine s_then ?_
      with_reducible refine s_ret ?_
      with_reducible refine s_thenR ?_
      rotate_left 1
      replace hb := dF' hb
      (exfalso; omega)
    all_goals try with_reducible refine w_n ?_
    all_goals refine w_1 rfl (by first | exact v_t (by rfl) | exact v_c1 (C1.p) (by rfl) (HA.p) (by rfl) | exact v_cF (CA.p) (by rfl) (HA.p) (by rfl)) ?_
    all_goals exact ⟨rfl, rfl⟩
  have ci := inside_any h s l hS (by omega)
  by_cases hin : ∀ x ∈ l, inr x
  case neg =>
    rw [if_neg hin] at ci
    rw [cw_2 hl hin]
    refine acalls_of_wk hm Try.func16 rfl ?_
    simp only [Try.ntmps16, List.length_cons, List.length_nil, Nat.reduceAdd, Nat.reduceSub, List.reduceReplicate, List.cons_append, List.nil_append]
    show wk _ _ none _ _ ⟨_, []⟩ _
    have el12 := mkEL iok (0:Int) hS
    with_reducible refine s_seq ?_
    with_reducible refine s_reg ?_
    refine sassign ?_
    simp only [pu', p0', c1', c0', i1', z0', b8_nat]
    with_reducible refine s_end ?_
    with_reducible refine s_then ?_
    with_reducible refine s_seq ?_
    with_reducible refine s_seq ?_
    with_reducible refine s_reg ?_
    refine smove ?_
    simp only [pu', p0', c1', c0', i1', z0', b8_nat]
    refine slenE ?_
    simp only [pu', p0', c1', c0', i1', z0', b8_nat]
    refine sLt (fun hb => ?_) (fun hb => ?_)
    replace hb := dT' hb
    (exfalso; omega)
    replace hb := dF' hb
    simp only [pu', p0', c1', c0', i1', z0', b8_nat]
    refine smove ?_
    simp only [pu', p0', c1', c0', i1', z0', b8_nat]
    refine smove ?_
    simp only [pu', p0', c1', c0', i1', z0', b8_nat]
    refine slenE ?_
    simp only [pu', p0', c1', c0', i1', z0', b8_nat]
    refine sGt (fun hb => ?_) (fun hb => ?_)
    replace hb := dT' hb
    (exfalso; omega)
    replace hb := dF' hb
    simp only [pu', p0', c1', c0', i1', z0', b8_nat]
    refine spickF ?_
    simp only [pu', p0', c1', c0', i1', z0', b8_nat]
    with_reducible refine s_end ?_
    with_reducible refine s_then ?_
    refine sCF ?_
    with_reducible refine s_skip ?_
    with_reducible refine s_then ?_
    with_reducible refine s_seq ?_
    with_reducible refine s_reg ?_
    refine smove ?_
    simp only [pu', p0', c1', c0', i1', z0', b8_nat]
    refine sM (hx := rfl) (ci) ?_
    simp only [pu', p0', c1', c0', i1', z0', b8_nat]
    refine smove ?_
    simp only [pu', p0', c1', c0', i1', z0', b8_nat]
    refine sext ?_
    simp only [pu', p0', c1', c0', i1', z0', b8_nat]
    refine sext ?_
    simp only [pu', p0', c1', c0', i1', z0', b8_nat]
    refine sassign ?_
    simp only [pu', p0', c1', c0', i1', z0', b8_nat]
    refine sassign ?_
    simp only [pu', p0', c1', c0', i1', z0', b8_nat]
    with_reducible refine s_end ?_
    with_reducible refine s_then ?_
    with_reducible refine s_seq ?_
    with_reducible refine s_seq ?_
    with_reducible refine s_reg ?_
    refine smove ?_
    simp only [pu', p0', c1', c0', i1', z0', b8_nat]
    refine snotF ?_
    simp only [pu', p0', c1', c0', i1', z0', b8_nat]
    with_reducible refine s_end ?_
    with_reducible refine s_then ?_
    refine sCT ?_
    with_reducible refine s_seq ?_
    with_reducible refine s_reg ?_
    refine sassign ?_
    simp only [pu', p0', c1', c0', i1', z0', b8_nat]
    with_reducible refine s_end ?_
    with_reducible refine s_then ?_
    with_reducible refine s_ret ?_
    with_reducible refine s_thenR ?_
    all_goals try with_reducible refine w_n ?_
    all_goals refine w_1 rfl (by first | exact v_t (by rfl) | exact v_c1 (C1.p) (by rfl) (HA.p) (by rfl) | exact v_cF (CA.p) (by rfl) (HA.p) (by rfl)) ?_
    all_goals exact ⟨rfl, rfl⟩
  rw [if_pos hin] at ci
  have cg := greatest_any h s l hS (by omega)
  have hg := grt_bd l 11 (by omega) (fun x hx => (hin x hx).2)
  have hle : ∀ x ∈ l, x ≤ grt l := grt_ge l
  have ct := fun X i (a : TI X s l) (b : HA X i (.cells [I (grt l)] 3 true)) => total_any X s l a (by omega) 36 [.ptr i 0] (fun x => pw (grt l - x)) ⟨ok_36⟩ (fun x hx _ => one_any X i (grt l) x b (hle x hx) (hin x hx).1 hg.2) (fun x hx _ => by have := pw_bd (n := grt l - x) (by have := hin x hx; simp only [inr] at this; omega); omega)
  refine acalls_back ?_
  refine acalls_of_wk hm Try.func16 rfl ?_
  simp only [Try.ntmps16, List.length_cons, List.length_nil, Nat.reduceAdd, Nat.reduceSub, List.reduceReplicate, List.cons_append, List.nil_append]
  show wk _ _ none _ _ ⟨_, []⟩ _
  have el13 := mkEL iok (0:Int) hS
  focus
    with_reducible refine s_seq ?_
    with_reducible refine s_reg ?_
    refine sassign ?_
    simp only [pu', p0', c1', c0', i1', z0', b8_nat]
    with_reducible refine s_end ?_
    with_reducible refine s_then ?_
    with_reducible refine s_seq ?_
    with_reducible refine s_seq ?_
    with_reducible refine s_reg ?_
    refine smove ?_
    simp only [pu', p0', c1', c0', i1', z0', b8_nat]
    refine slenE ?_
    simp only [pu', p0', c1', c0', i1', z0', b8_nat]
    refine sLt (fun hb => ?_) (fun hb => ?_)
    replace hb := dT' hb
    (exfalso; omega)
    replace hb := dF' hb
    simp only [pu', p0', c1', c0', i1', z0', b8_nat]
    refine smove ?_
    simp only [pu', p0', c1', c0', i1', z0', b8_nat]
    refine smove ?_
    simp only [pu', p0', c1', c0', i1', z0', b8_nat]
    refine slenE ?_
    simp only [pu', p0', c1', c0', i1', z0', b8_nat]
    refine sGt (fun hb => ?_) (fun hb => ?_)
    replace hb := dT' hb
    (exfalso; omega)
    replace hb := dF' hb
    simp only [pu', p0', c1', c0', i1', z0', b8_nat]
    refine spickF ?_
    simp only [pu', p0', c1', c0', i1', z0', b8_nat]
    with_reducible refine s_end ?_
    with_reducible refine s_then ?_
    refine sCF ?_
    with_reducible refine s_skip ?_
    with_reducible refine s_then ?_
    with_reducible refine s_seq ?_
    with_reducible refine s_reg ?_
    refine smove ?_
    simp only [pu', p0', c1', c0', i1', z0', b8_nat]
    refine sM (hx := rfl) (ci) ?_
    simp only [pu', p0', c1', c0', i1', z0', b8_nat]
    refine smove ?_
    simp only [pu', p0', c1', c0', i1', z0', b8_nat]
    refine sext ?_
    simp only [pu', p0', c1', c0', i1', z0', b8_nat]
    refine sext ?_
    simp only [pu', p0', c1', c0', i1', z0', b8_nat]
    refine sassign ?_
    simp only [pu', p0', c1', c0', i1', z0', b8_nat]
    refine sassign ?_
    simp only [pu', p0', c1', c0', i1', z0', b8_nat]
    with_reducible refine s_end ?_
    with_reducible refine s_then ?_
    with_reducible refine s_seq ?_
    with_reducible refine s_seq ?_
    with_reducible refine s_reg ?_
    refine smove ?_
    simp only [pu', p0', c1', c0', i1', z0', b8_nat]
    refine snotT ?_
    simp only [pu', p0', c1', c0', i1', z0', b8_nat]
    with_reducible refine s_end ?_
    with_reducible refine s_then ?_
    refine sCF ?_
    with_reducible refine s_skip ?_
    with_reducible refine s_then ?_
    with_reducible refine s_seq ?_
    with_reducible refine s_reg ?_
    refine smove ?_
    simp only [pu', p0', c1', c0', i1', z0', b8_nat]
    refine sM (hx := rfl) (cg) ?_
    simp only [pu', p0', c1', c0', i1', z0', b8_nat]
    refine salloc ?_
    simp only [pu', p0', c1', c0', i1', n0', n3', n1', n2', a2', a1', a0', n4', Nat.reduceAdd, z0', n5', sa0, sa1, sa2, sa3, sa4, sa5, sa6, sa7, sa8, sa9, sa10, sa11]
    refine sstore1 ?_
    simp only [pu', p0', c1', c0', i1', n0', n3', n1', n2', a2', a1', a0', n4', Nat.reduceAdd, z0', n5', sa0, sa1, sa2, sa3, sa4, sa5, sa6, sa7, sa8, sa9, sa10, sa11]
    with_reducible refine s_end ?_
    with_reducible refine s_then ?_
    with_reducible refine s_seq ?_
    with_reducible refine s_seq ?_
    (refine s_regQ (id := 7) [(0, true), (1, true), (2, true), (3, true), (4, true), (5, true), (6, true), (7, true), (8, true), (9, true), (10, true), (11, true), (12, true), (13, true), (15, true), (16, true), (17, true), (14, false), (18, true), (19, true)] (by kernel_rfl) (by conv => lhs; simp only [pickO, List.getElem?_cons_succ, List.getElem?_cons_zero]) ?_)
    refine qmove ?_
    simp only [pu', p0', c1', c0', i1', z0', b8_nat]
    refine qmove ?_
    simp only [pu', p0', c1', c0', i1', z0', b8_nat]
    refine qlenE ?_
    simp only [pu', p0', c1', c0', i1', z0', b8_nat]
    refine qsub ?_
    simp only [pu', p0', c1', c0', i1', z0', b8_nat]
    refine qidxE ?_
    simp only [pu', p0', c1', c0', i1', z0', b8_nat]
    refine qloadE1 ?_
    simp only [pu', p0', c1', c0', i1', z0', b8_nat]
    refine qEq (fun hb => ?_) (fun hb => ?_)
    replace hb := dT' hb
    simp only [pu', p0', c1', c0', i1', z0', b8_nat]
    refine qmove ?_
    simp only [pu', p0', c1', c0', i1', z0', b8_nat]
    refine qN ?_
    simp only [pu', p0', c1', c0', i1', z0', b8_nat]
    refine qN ?_
    simp only [pu', p0', c1', c0', i1', z0', b8_nat]
    refine qpickT ?_
    simp only [pu', p0', c1', c0', i1', z0', b8_nat]
    refine qmove ?_
    simp only [pu', p0', c1', c0', i1', z0', b8_nat]
    refine qN ?_
    simp only [pu', p0', c1', c0', i1', z0', b8_nat]
    refine qN ?_
    simp only [pu', p0', c1', c0', i1', z0', b8_nat]
    refine qN ?_
    simp only [pu', p0', c1', c0', i1', z0', b8_nat]
    refine qN ?_
    simp only [pu', p0', c1', c0', i1', z0', b8_nat]
    refine qN ?_
    simp only [pu', p0', c1', c0', i1', z0', b8_nat]
    refine qN ?_
    simp only [pu', p0', c1', c0', i1', z0', b8_nat]
    refine qN ?_
    simp only [pu', p0', c1', c0', i1', z0', b8_nat]
    refine qpickT ?_
    simp only [pu', p0', c1', c0', i1', z0', b8_nat]
    with_reducible refine q_end ?_
    with_reducible refine s_then ?_
    refine sCT ?_
    with_reducible refine s_seq ?_
    with_reducible refine s_reg ?_
    refine sassign ?_
    simp only [pu', p0', c1', c0', i1', z0', b8_nat]
    with_reducible refine s_end ?_
    with_reducible refine s_then ?_
    with_reducible refine s_ret ?_
    with_reducible refine s_thenR ?_
    rotate_left 1
    replace hb := dF' hb
    simp only [pu', p0', c1', c0', i1', z0', b8_nat]
    refine qmove ?_
    simp only [pu', p0', c1', c0', i1', z0', b8_nat]
    refine qmove ?_
    simp only [pu', p0', c1', c0', i1', z0', b8_nat]
    refine qLt (fun hb => ?_) (fun hb => ?_)
    replace hb := dT' hb
    simp only [pu', p0', c1', c0', i1', z0', b8_nat]
    refine qpickF ?_
    simp only [pu', p0', c1', c0', i1', z0', b8_nat]
    refine qmove ?_
    simp only [pu', p0', c1', c0', i1', z0', b8_nat]
    refine qN ?_
    simp only [pu', p0', c1', c0', i1', z0', b8_nat]
    refine qN ?_
    simp only [pu', p0', c1', c0', i1', z0', b8_nat]
    refine qN ?_
    simp only [pu', p0', c1', c0', i1', z0', b8_nat]
    refine qN ?_
    simp only [pu', p0', c1', c0', i1', z0', b8_nat]
    refine qN ?_
    simp only [pu', p0', c1', c0', i1', z0', b8_nat]
    refine qN ?_
    simp only [pu', p0', c1', c0', i1', z0', b8_nat]
    refine qN ?_
    simp only [pu', p0', c1', c0', i1', z0', b8_nat]
    refine qpickT ?_
    simp only [pu', p0', c1', c0', i1', z0', b8_nat]
    with_reducible refine q_end ?_
    with_reducible refine s_then ?_
    refine sCT ?_
    with_reducible refine s_seq ?_
    with_reducible refine s_reg ?_
    refine sassign ?_
    simp only [pu', p0', c1', c0', i1', z0', b8_nat]
    with_reducible refine s_end ?_
    with_reducible refine s_then ?_
    with_reducible refine s_ret ?_
    with_reducible refine s_thenR ?_
    rotate_left 1
    replace hb := dF' hb
    simp only [pu', p0', c1', c0', i1', z0', b8_nat]
    refine qpickF ?_
    simp only [pu', p0', c1', c0', i1', z0', b8_nat]
    refine qmove ?_
    simp only [pu', p0', c1', c0', i1', z0', b8_nat]
    refine qmove ?_
    simp only [pu', p0', c1', c0', i1', z0', b8_nat]
    refine qfunc1 ?_
    simp only [pu', p0', c1', c0', i1', z0', b8_nat]
    refine qload1 ?_
    simp only [pu', p0', c1', c0', i1', z0', b8_nat]
    refine qconv ?_
    simp only [pu', p0', c1', c0', i1', z0', b8_nat]
    refine qshl1 ?_
    simp only [pu', p0', c1', c0', i1', z0', b8_nat]
    refine qM (hx := rfl) (ct _ _ (hS.ext (ext_app _ _)) (by infer_instance)) ?_
    simp only [pu', p0', c1', c0', i1', z0', b8_nat]
    refine qNe (fun hb => ?_) (fun hb => ?_)
    replace hb := dT' hb
    simp only [pu', p0', c1', c0', i1', z0', b8_nat]
    refine qpickF ?_
    simp only [pu', p0', c1', c0', i1', z0', b8_nat]
    with_reducible refine q_end ?_
    with_reducible refine s_then ?_
    refine sCT ?_
    with_reducible refine s_seq ?_
    with_reducible refine s_reg ?_
    refine sassign ?_
    simp only [pu', p0', c1', c0', i1', z0', b8_nat]
    with_reducible refine s_end ?_
    with_reducible refine s_then ?_
    with_reducible refine s_ret ?_
    with_reducible refine s_thenR ?_
    rotate_left 1
    replace hb := dF' hb
    simp only [pu', p0', c1', c0', i1', z0', b8_nat]
    refine qpickF ?_
    simp only [pu', p0', c1', c0', i1', z0', b8_nat]
    with_reducible refine q_end ?_
    with_reducible refine s_then ?_
    refine sCF ?_
    with_reducible refine s_skip ?_
    with_reducible refine s_then ?_
    with_reducible refine s_seq ?_
    with_reducible refine s_reg ?_
    refine sassign ?_
    simp only [pu', p0', c1', c0', i1', z0', b8_nat]
    with_reducible refine s_end ?_
    with_reducible refine s_then ?_
    with_reducible refine s_ret ?_
    rotate_left 1
  all_goals try with_reducible refine w_n ?_
  all_goals refine w_1 rfl (by first | exact v_t (by rfl) | exact v_c1 (C1.p) (by rfl) (HA.p) (by rfl) | exact v_cF (CA.p) (by rfl) (HA.p) (by rfl)) ?_
  all_goals
    refine ⟨rfl, ext_app _ _, ?_, by first | trivial | rfl⟩
    have hix : ((l.length : Int) - 1).toNat = l.length - 1 := by omega
    simp only [hix] at *
    first
      | (rw [cw_21 hl hin (.inl (by assumption))]; done)
      | (rw [cw_21 hl hin (.inr (.inl (by omega)))]; done)
      | (rw [cw_21 hl hin (.inr (.inr (show tot (fun x => pw (grt l - x)) l ≠ 2 ^ (grt l).toNat by assumption)))]; done)
      | (rw [cw_0 hl hin (by
          rintro (a | a | a)
          · exact absurd a (by assumption)
          · omega
          · first
              | exact a hb
              | exact hb a
              | exact a (Classical.not_not.1 hb)
              | (have hb2 : ¬ tot (fun x => pw (grt l - x)) l ≠ pw (grt l) := by assumption
                 exact hb2 a)
              | (have hb2 : tot (fun x => pw (grt l - x)) l = pw (grt l) := by assumption
                 exact a hb2))]; done)
end Go.Proofs.Ytckljanplahbkaa
