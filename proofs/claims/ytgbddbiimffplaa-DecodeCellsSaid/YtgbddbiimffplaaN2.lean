/-
  A part of the proof of a statement of a chapter's seat; conditions: stated at each theorem.
-/
import Derived.Test.YtgbddbiimffplaaL31
import Derived.Test.YtgbddbiimffplaaRows
import Derived.WalkKit
set_option linter.unusedVariables false
set_option linter.unusedSectionVars false
set_option linter.unusedSimpArgs false
set_option linter.unusedVariables false
set_option maxRecDepth 100000
set_option maxHeartbeats 8000000
namespace Go.Proofs.Ytgbddbiimffplaa
open Go.Az Go
theorem s1_1 : isS1 Try.prog 1 = true := by kernel_rfl
instance : C1 Try.prog 1 := ⟨s1_1⟩
theorem el_1 : elOkQ Try.prog 1 1 = true := by kernel_rfl
instance : CE Try.prog 1 1 := ⟨el_1⟩
theorem z_1 : zeroA Try.prog 1 = some [.v .nilFunc] := by kernel_rfl
instance : CZ Try.prog 1 [.v .nilFunc] := ⟨z_1⟩
theorem s1_2 : isS1 Try.prog 2 = true := by kernel_rfl
instance : C1 Try.prog 2 := ⟨s1_2⟩
theorem el_2 : elOkQ Try.prog 2 1 = true := by kernel_rfl
instance : CE Try.prog 2 1 := ⟨el_2⟩
theorem u_2 : Try.prog.underlying 2 = some (.int .i64) := by kernel_rfl
instance : CU Try.prog 2 .i64 := ⟨u_2⟩
theorem z_2 : zeroA Try.prog 2 = some [.v (.int .i64 0)] := by kernel_rfl
instance : CZ Try.prog 2 [.v (.int .i64 0)] := ⟨z_2⟩
theorem s1_3 : isS1 Try.prog 3 = true := by kernel_rfl
instance : C1 Try.prog 3 := ⟨s1_3⟩
theorem el_3 : elOkQ Try.prog 3 1 = true := by kernel_rfl
instance : CE Try.prog 3 1 := ⟨el_3⟩
theorem u_3 : Try.prog.underlying 3 = some (.int .i64) := by kernel_rfl
instance : CU Try.prog 3 .i64 := ⟨u_3⟩
theorem z_3 : zeroA Try.prog 3 = some [.v (.int .i64 0)] := by kernel_rfl
instance : CZ Try.prog 3 [.v (.int .i64 0)] := ⟨z_3⟩
theorem s1_4 : isS1 Try.prog 4 = true := by kernel_rfl
instance : C1 Try.prog 4 := ⟨s1_4⟩
theorem el_4 : elOkQ Try.prog 4 1 = true := by kernel_rfl
instance : CE Try.prog 4 1 := ⟨el_4⟩
theorem bo_4 : Try.prog.underlying 4 = some .bool := by kernel_rfl
instance : CB Try.prog 4 := ⟨bo_4⟩
theorem z_4 : zeroA Try.prog 4 = some [.v (.bool false)] := by kernel_rfl
instance : CZ Try.prog 4 [.v (.bool false)] := ⟨z_4⟩
theorem s1_5 : isS1 Try.prog 5 = true := by kernel_rfl
instance : C1 Try.prog 5 := ⟨s1_5⟩
theorem el_5 : elOkQ Try.prog 5 1 = true := by kernel_rfl
instance : CE Try.prog 5 1 := ⟨el_5⟩
theorem u_5 : Try.prog.underlying 5 = some (.int .u8) := by kernel_rfl
instance : CU Try.prog 5 .u8 := ⟨u_5⟩
theorem z_5 : zeroA Try.prog 5 = some [.v (.int .u8 0)] := by kernel_rfl
instance : CZ Try.prog 5 [.v (.int .u8 0)] := ⟨z_5⟩
theorem s1_6 : isS1 Try.prog 6 = true := by kernel_rfl
instance : C1 Try.prog 6 := ⟨s1_6⟩
theorem el_6 : elOkQ Try.prog 6 1 = true := by kernel_rfl
instance : CE Try.prog 6 1 := ⟨el_6⟩
theorem u_6 : Try.prog.underlying 6 = some (.int .u8) := by kernel_rfl
instance : CU Try.prog 6 .u8 := ⟨u_6⟩
theorem z_6 : zeroA Try.prog 6 = some [.v (.int .u8 0)] := by kernel_rfl
instance : CZ Try.prog 6 [.v (.int .u8 0)] := ⟨z_6⟩
theorem ag_7 : isAg Try.prog 7 4 = true := by kernel_rfl
instance : CA Try.prog 7 4 := ⟨ag_7⟩
theorem el_7 : elOkQ Try.prog 7 4 = true := by kernel_rfl
instance : CE Try.prog 7 4 := ⟨el_7⟩
theorem fad_7_0 : fadOf Try.prog 7 0 = some 0 := by kernel_rfl
instance : CF Try.prog 7 0 0 := ⟨fad_7_0⟩
theorem fad_7_1 : fadOf Try.prog 7 1 = some 1 := by kernel_rfl
instance : CF Try.prog 7 1 1 := ⟨fad_7_1⟩
theorem fad_7_2 : fadOf Try.prog 7 2 = some 2 := by kernel_rfl
instance : CF Try.prog 7 2 2 := ⟨fad_7_2⟩
theorem fad_7_3 : fadOf Try.prog 7 3 = some 3 := by kernel_rfl
instance : CF Try.prog 7 3 3 := ⟨fad_7_3⟩
theorem z_7 : zeroA Try.prog 7 = some [.v (.int .i64 0), .v (.int .i64 0), .v (.bool false), .v (.int .u8 0)] := by kernel_rfl
instance : CZ Try.prog 7 [.v (.int .i64 0), .v (.int .i64 0), .v (.bool false), .v (.int .u8 0)] := ⟨z_7⟩
theorem ag_8 : isAg Try.prog 8 4 = true := by kernel_rfl
instance : CA Try.prog 8 4 := ⟨ag_8⟩
theorem el_8 : elOkQ Try.prog 8 4 = true := by kernel_rfl
instance : CE Try.prog 8 4 := ⟨el_8⟩
theorem fad_8_0 : fadOf Try.prog 8 0 = some 0 := by kernel_rfl
instance : CF Try.prog 8 0 0 := ⟨fad_8_0⟩
theorem fad_8_1 : fadOf Try.prog 8 1 = some 1 := by kernel_rfl
instance : CF Try.prog 8 1 1 := ⟨fad_8_1⟩
theorem fad_8_2 : fadOf Try.prog 8 2 = some 2 := by kernel_rfl
instance : CF Try.prog 8 2 2 := ⟨fad_8_2⟩
theorem fad_8_3 : fadOf Try.prog 8 3 = some 3 := by kernel_rfl
instance : CF Try.prog 8 3 3 := ⟨fad_8_3⟩
theorem z_8 : zeroA Try.prog 8 = some [.v (.int .i64 0), .v (.int .i64 0), .v (.bool false), .v (.int .u8 0)] := by kernel_rfl
instance : CZ Try.prog 8 [.v (.int .i64 0), .v (.int .i64 0), .v (.bool false), .v (.int .u8 0)] := ⟨z_8⟩
theorem s1_9 : isS1 Try.prog 9 = true := by kernel_rfl
instance : C1 Try.prog 9 := ⟨s1_9⟩
theorem st_9 : strTy Try.prog 9 = true := by kernel_rfl
instance : CT Try.prog 9 := ⟨st_9⟩
theorem el_9 : elOkQ Try.prog 9 1 = true := by kernel_rfl
instance : CE Try.prog 9 1 := ⟨el_9⟩
theorem z_9 : zeroA Try.prog 9 = some [.v (.string (mkB []))] := by kernel_rfl
instance : CZ Try.prog 9 [.v (.string (mkB []))] := ⟨z_9⟩
theorem s1_10 : isS1 Try.prog 10 = true := by kernel_rfl
instance : C1 Try.prog 10 := ⟨s1_10⟩
theorem st_10 : strTy Try.prog 10 = true := by kernel_rfl
instance : CT Try.prog 10 := ⟨st_10⟩
theorem el_10 : elOkQ Try.prog 10 1 = true := by kernel_rfl
instance : CE Try.prog 10 1 := ⟨el_10⟩
theorem z_10 : zeroA Try.prog 10 = some [.v (.string (mkB []))] := by kernel_rfl
instance : CZ Try.prog 10 [.v (.string (mkB []))] := ⟨z_10⟩
theorem s1_11 : isS1 Try.prog 11 = true := by kernel_rfl
instance : C1 Try.prog 11 := ⟨s1_11⟩
theorem st_11 : strTy Try.prog 11 = true := by kernel_rfl
instance : CT Try.prog 11 := ⟨st_11⟩
theorem el_11 : elOkQ Try.prog 11 1 = true := by kernel_rfl
instance : CE Try.prog 11 1 := ⟨el_11⟩
theorem z_11 : zeroA Try.prog 11 = some [.v (.string (mkB []))] := by kernel_rfl
instance : CZ Try.prog 11 [.v (.string (mkB []))] := ⟨z_11⟩
theorem s1_12 : isS1 Try.prog 12 = true := by kernel_rfl
instance : C1 Try.prog 12 := ⟨s1_12⟩
theorem el_12 : elOkQ Try.prog 12 1 = true := by kernel_rfl
instance : CE Try.prog 12 1 := ⟨el_12⟩
theorem u_12 : Try.prog.underlying 12 = some (.int .u64) := by kernel_rfl
instance : CU Try.prog 12 .u64 := ⟨u_12⟩
theorem z_12 : zeroA Try.prog 12 = some [.v (.int .u64 0)] := by kernel_rfl
instance : CZ Try.prog 12 [.v (.int .u64 0)] := ⟨z_12⟩
theorem ag_13 : isAg Try.prog 13 2 = true := by kernel_rfl
instance : CA Try.prog 13 2 := ⟨ag_13⟩
theorem el_13 : elOkQ Try.prog 13 2 = true := by kernel_rfl
instance : CE Try.prog 13 2 := ⟨el_13⟩
theorem fad_13_0 : fadOf Try.prog 13 0 = some 0 := by kernel_rfl
instance : CF Try.prog 13 0 0 := ⟨fad_13_0⟩
theorem fad_13_1 : fadOf Try.prog 13 1 = some 1 := by kernel_rfl
instance : CF Try.prog 13 1 1 := ⟨fad_13_1⟩
theorem z_13 : zeroA Try.prog 13 = some [.v (.string (mkB [])), .v (.int .u64 0)] := by kernel_rfl
instance : CZ Try.prog 13 [.v (.string (mkB [])), .v (.int .u64 0)] := ⟨z_13⟩
theorem ag_14 : isAg Try.prog 14 2 = true := by kernel_rfl
instance : CA Try.prog 14 2 := ⟨ag_14⟩
theorem el_14 : elOkQ Try.prog 14 2 = true := by kernel_rfl
instance : CE Try.prog 14 2 := ⟨el_14⟩
theorem fad_14_0 : fadOf Try.prog 14 0 = some 0 := by kernel_rfl
instance : CF Try.prog 14 0 0 := ⟨fad_14_0⟩
theorem fad_14_1 : fadOf Try.prog 14 1 = some 1 := by kernel_rfl
instance : CF Try.prog 14 1 1 := ⟨fad_14_1⟩
theorem z_14 : zeroA Try.prog 14 = some [.v (.string (mkB [])), .v (.int .u64 0)] := by kernel_rfl
instance : CZ Try.prog 14 [.v (.string (mkB [])), .v (.int .u64 0)] := ⟨z_14⟩
theorem s1_15 : isS1 Try.prog 15 = true := by kernel_rfl
instance : C1 Try.prog 15 := ⟨s1_15⟩
theorem el_15 : elOkQ Try.prog 15 1 = true := by kernel_rfl
instance : CE Try.prog 15 1 := ⟨el_15⟩
theorem z_15 : zeroA Try.prog 15 = some [.v (.pointer none)] := by kernel_rfl
instance : CZ Try.prog 15 [.v (.pointer none)] := ⟨z_15⟩
theorem s1_16 : isS1 Try.prog 16 = true := by kernel_rfl
instance : C1 Try.prog 16 := ⟨s1_16⟩
theorem el_16 : elOkQ Try.prog 16 1 = true := by kernel_rfl
instance : CE Try.prog 16 1 := ⟨el_16⟩
theorem z_16 : zeroA Try.prog 16 = some [.v (.pointer none)] := by kernel_rfl
instance : CZ Try.prog 16 [.v (.pointer none)] := ⟨z_16⟩
theorem s1_17 : isS1 Try.prog 17 = true := by kernel_rfl
instance : C1 Try.prog 17 := ⟨s1_17⟩
theorem el_17 : elOkQ Try.prog 17 1 = true := by kernel_rfl
instance : CE Try.prog 17 1 := ⟨el_17⟩
theorem z_17 : zeroA Try.prog 17 = some [.v (.pointer none)] := by kernel_rfl
instance : CZ Try.prog 17 [.v (.pointer none)] := ⟨z_17⟩
theorem ag_18 : isAg Try.prog 18 1 = true := by kernel_rfl
instance : CA Try.prog 18 1 := ⟨ag_18⟩
theorem el_18 : elOkQ Try.prog 18 1 = true := by kernel_rfl
instance : CE Try.prog 18 1 := ⟨el_18⟩
theorem fad_18_0 : fadOf Try.prog 18 0 = some 0 := by kernel_rfl
instance : CF Try.prog 18 0 0 := ⟨fad_18_0⟩
theorem z_18 : zeroA Try.prog 18 = some [.v (.pointer none)] := by kernel_rfl
instance : CZ Try.prog 18 [.v (.pointer none)] := ⟨z_18⟩
theorem ag_19 : isAg Try.prog 19 1 = true := by kernel_rfl
instance : CA Try.prog 19 1 := ⟨ag_19⟩
theorem el_19 : elOkQ Try.prog 19 1 = true := by kernel_rfl
instance : CE Try.prog 19 1 := ⟨el_19⟩
theorem fad_19_0 : fadOf Try.prog 19 0 = some 0 := by kernel_rfl
instance : CF Try.prog 19 0 0 := ⟨fad_19_0⟩
theorem z_19 : zeroA Try.prog 19 = some [.v (.pointer none)] := by kernel_rfl
instance : CZ Try.prog 19 [.v (.pointer none)] := ⟨z_19⟩
theorem s1_20 : isS1 Try.prog 20 = true := by kernel_rfl
instance : C1 Try.prog 20 := ⟨s1_20⟩
theorem el_20 : elOkQ Try.prog 20 1 = true := by kernel_rfl
instance : CE Try.prog 20 1 := ⟨el_20⟩
theorem z_20 : zeroA Try.prog 20 = some [.v .nilIface] := by kernel_rfl
instance : CZ Try.prog 20 [.v .nilIface] := ⟨z_20⟩
theorem s1_21 : isS1 Try.prog 21 = true := by kernel_rfl
instance : C1 Try.prog 21 := ⟨s1_21⟩
theorem el_21 : elOkQ Try.prog 21 1 = true := by kernel_rfl
instance : CE Try.prog 21 1 := ⟨el_21⟩
theorem u_21 : Try.prog.underlying 21 = some (.int .i32) := by kernel_rfl
instance : CU Try.prog 21 .i32 := ⟨u_21⟩
theorem z_21 : zeroA Try.prog 21 = some [.v (.int .i32 0)] := by kernel_rfl
instance : CZ Try.prog 21 [.v (.int .i32 0)] := ⟨z_21⟩
theorem s1_22 : isS1 Try.prog 22 = true := by kernel_rfl
instance : C1 Try.prog 22 := ⟨s1_22⟩
theorem el_22 : elOkQ Try.prog 22 1 = true := by kernel_rfl
instance : CE Try.prog 22 1 := ⟨el_22⟩
theorem sl_22 : sliOf Try.prog 22 = some (3, 1) := by kernel_rfl
instance : CS Try.prog 22 3 1 := ⟨sl_22⟩
theorem z_22 : zeroA Try.prog 22 = some [.v (.slice none 0 0)] := by kernel_rfl
instance : CZ Try.prog 22 [.v (.slice none 0 0)] := ⟨z_22⟩
theorem ag_23 : isAg Try.prog 23 2 = true := by kernel_rfl
instance : CA Try.prog 23 2 := ⟨ag_23⟩
theorem el_23 : elOkQ Try.prog 23 2 = true := by kernel_rfl
instance : CE Try.prog 23 2 := ⟨el_23⟩
theorem fad_23_0 : fadOf Try.prog 23 0 = some 0 := by kernel_rfl
instance : CF Try.prog 23 0 0 := ⟨fad_23_0⟩
theorem fad_23_1 : fadOf Try.prog 23 1 = some 1 := by kernel_rfl
instance : CF Try.prog 23 1 1 := ⟨fad_23_1⟩
theorem z_23 : zeroA Try.prog 23 = some [.v (.int .i64 0), .v (.slice none 0 0)] := by kernel_rfl
instance : CZ Try.prog 23 [.v (.int .i64 0), .v (.slice none 0 0)] := ⟨z_23⟩
theorem ag_24 : isAg Try.prog 24 2 = true := by kernel_rfl
instance : CA Try.prog 24 2 := ⟨ag_24⟩
theorem el_24 : elOkQ Try.prog 24 2 = true := by kernel_rfl
instance : CE Try.prog 24 2 := ⟨el_24⟩
theorem fad_24_0 : fadOf Try.prog 24 0 = some 0 := by kernel_rfl
instance : CF Try.prog 24 0 0 := ⟨fad_24_0⟩
theorem fad_24_1 : fadOf Try.prog 24 1 = some 1 := by kernel_rfl
instance : CF Try.prog 24 1 1 := ⟨fad_24_1⟩
theorem z_24 : zeroA Try.prog 24 = some [.v (.int .i64 0), .v (.slice none 0 0)] := by kernel_rfl
instance : CZ Try.prog 24 [.v (.int .i64 0), .v (.slice none 0 0)] := ⟨z_24⟩
theorem s1_25 : isS1 Try.prog 25 = true := by kernel_rfl
instance : C1 Try.prog 25 := ⟨s1_25⟩
theorem el_25 : elOkQ Try.prog 25 1 = true := by kernel_rfl
instance : CE Try.prog 25 1 := ⟨el_25⟩
theorem z_25 : zeroA Try.prog 25 = some [.v .nilFunc] := by kernel_rfl
instance : CZ Try.prog 25 [.v .nilFunc] := ⟨z_25⟩
theorem s1_26 : isS1 Try.prog 26 = true := by kernel_rfl
instance : C1 Try.prog 26 := ⟨s1_26⟩
theorem el_26 : elOkQ Try.prog 26 1 = true := by kernel_rfl
instance : CE Try.prog 26 1 := ⟨el_26⟩
theorem z_26 : zeroA Try.prog 26 = some [.v .nilFunc] := by kernel_rfl
instance : CZ Try.prog 26 [.v .nilFunc] := ⟨z_26⟩
theorem s1_27 : isS1 Try.prog 27 = true := by kernel_rfl
instance : C1 Try.prog 27 := ⟨s1_27⟩
theorem el_27 : elOkQ Try.prog 27 1 = true := by kernel_rfl
instance : CE Try.prog 27 1 := ⟨el_27⟩
theorem sl_27 : sliOf Try.prog 27 = some (41, 3) := by kernel_rfl
instance : CS Try.prog 27 41 3 := ⟨sl_27⟩
theorem z_27 : zeroA Try.prog 27 = some [.v (.slice none 0 0)] := by kernel_rfl
instance : CZ Try.prog 27 [.v (.slice none 0 0)] := ⟨z_27⟩
theorem s1_28 : isS1 Try.prog 28 = true := by kernel_rfl
instance : C1 Try.prog 28 := ⟨s1_28⟩
theorem el_28 : elOkQ Try.prog 28 1 = true := by kernel_rfl
instance : CE Try.prog 28 1 := ⟨el_28⟩
theorem u_28 : Try.prog.underlying 28 = some (.int .i64) := by kernel_rfl
instance : CU Try.prog 28 .i64 := ⟨u_28⟩
theorem z_28 : zeroA Try.prog 28 = some [.v (.int .i64 0)] := by kernel_rfl
instance : CZ Try.prog 28 [.v (.int .i64 0)] := ⟨z_28⟩
theorem s1_30 : isS1 Try.prog 30 = true := by kernel_rfl
instance : C1 Try.prog 30 := ⟨s1_30⟩
theorem el_30 : elOkQ Try.prog 30 1 = true := by kernel_rfl
instance : CE Try.prog 30 1 := ⟨el_30⟩
theorem z_30 : zeroA Try.prog 30 = some [.v .nilFunc] := by kernel_rfl
instance : CZ Try.prog 30 [.v .nilFunc] := ⟨z_30⟩
theorem s1_31 : isS1 Try.prog 31 = true := by kernel_rfl
instance : C1 Try.prog 31 := ⟨s1_31⟩
theorem el_31 : elOkQ Try.prog 31 1 = true := by kernel_rfl
instance : CE Try.prog 31 1 := ⟨el_31⟩
theorem z_31 : zeroA Try.prog 31 = some [.v .nilFunc] := by kernel_rfl
instance : CZ Try.prog 31 [.v .nilFunc] := ⟨z_31⟩
theorem s1_32 : isS1 Try.prog 32 = true := by kernel_rfl
instance : C1 Try.prog 32 := ⟨s1_32⟩
theorem el_32 : elOkQ Try.prog 32 1 = true := by kernel_rfl
instance : CE Try.prog 32 1 := ⟨el_32⟩
theorem z_32 : zeroA Try.prog 32 = some [.v .nilFunc] := by kernel_rfl
instance : CZ Try.prog 32 [.v .nilFunc] := ⟨z_32⟩
theorem s1_33 : isS1 Try.prog 33 = true := by kernel_rfl
instance : C1 Try.prog 33 := ⟨s1_33⟩
theorem el_33 : elOkQ Try.prog 33 1 = true := by kernel_rfl
instance : CE Try.prog 33 1 := ⟨el_33⟩
theorem z_33 : zeroA Try.prog 33 = some [.v .nilFunc] := by kernel_rfl
instance : CZ Try.prog 33 [.v .nilFunc] := ⟨z_33⟩
theorem s1_34 : isS1 Try.prog 34 = true := by kernel_rfl
instance : C1 Try.prog 34 := ⟨s1_34⟩
theorem el_34 : elOkQ Try.prog 34 1 = true := by kernel_rfl
instance : CE Try.prog 34 1 := ⟨el_34⟩
theorem z_34 : zeroA Try.prog 34 = some [.v .nilFunc] := by kernel_rfl
instance : CZ Try.prog 34 [.v .nilFunc] := ⟨z_34⟩
theorem s1_36 : isS1 Try.prog 36 = true := by kernel_rfl
instance : C1 Try.prog 36 := ⟨s1_36⟩
theorem el_36 : elOkQ Try.prog 36 1 = true := by kernel_rfl
instance : CE Try.prog 36 1 := ⟨el_36⟩
theorem z_36 : zeroA Try.prog 36 = some [.v .nilFunc] := by kernel_rfl
instance : CZ Try.prog 36 [.v .nilFunc] := ⟨z_36⟩
theorem s1_38 : isS1 Try.prog 38 = true := by kernel_rfl
instance : C1 Try.prog 38 := ⟨s1_38⟩
theorem el_38 : elOkQ Try.prog 38 1 = true := by kernel_rfl
instance : CE Try.prog 38 1 := ⟨el_38⟩
theorem z_38 : zeroA Try.prog 38 = some [.v .nilFunc] := by kernel_rfl
instance : CZ Try.prog 38 [.v .nilFunc] := ⟨z_38⟩
theorem s1_39 : isS1 Try.prog 39 = true := by kernel_rfl
instance : C1 Try.prog 39 := ⟨s1_39⟩
theorem el_39 : elOkQ Try.prog 39 1 = true := by kernel_rfl
instance : CE Try.prog 39 1 := ⟨el_39⟩
theorem z_39 : zeroA Try.prog 39 = some [.v .nilFunc] := by kernel_rfl
instance : CZ Try.prog 39 [.v .nilFunc] := ⟨z_39⟩
theorem ag_40 : isAg Try.prog 40 3 = true := by kernel_rfl
instance : CA Try.prog 40 3 := ⟨ag_40⟩
theorem el_40 : elOkQ Try.prog 40 3 = true := by kernel_rfl
instance : CE Try.prog 40 3 := ⟨el_40⟩
theorem fad_40_0 : fadOf Try.prog 40 0 = some 0 := by kernel_rfl
instance : CF Try.prog 40 0 0 := ⟨fad_40_0⟩
theorem fad_40_1 : fadOf Try.prog 40 1 = some 1 := by kernel_rfl
instance : CF Try.prog 40 1 1 := ⟨fad_40_1⟩
theorem fad_40_2 : fadOf Try.prog 40 2 = some 2 := by kernel_rfl
instance : CF Try.prog 40 2 2 := ⟨fad_40_2⟩
theorem z_40 : zeroA Try.prog 40 = some [.v (.int .i64 0), .v (.int .i64 0), .v (.int .i64 0)] := by kernel_rfl
instance : CZ Try.prog 40 [.v (.int .i64 0), .v (.int .i64 0), .v (.int .i64 0)] := ⟨z_40⟩
theorem ag_41 : isAg Try.prog 41 3 = true := by kernel_rfl
instance : CA Try.prog 41 3 := ⟨ag_41⟩
theorem el_41 : elOkQ Try.prog 41 3 = true := by kernel_rfl
instance : CE Try.prog 41 3 := ⟨el_41⟩
theorem fad_41_0 : fadOf Try.prog 41 0 = some 0 := by kernel_rfl
instance : CF Try.prog 41 0 0 := ⟨fad_41_0⟩
theorem fad_41_1 : fadOf Try.prog 41 1 = some 1 := by kernel_rfl
instance : CF Try.prog 41 1 1 := ⟨fad_41_1⟩
theorem fad_41_2 : fadOf Try.prog 41 2 = some 2 := by kernel_rfl
instance : CF Try.prog 41 2 2 := ⟨fad_41_2⟩
theorem z_41 : zeroA Try.prog 41 = some [.v (.int .i64 0), .v (.int .i64 0), .v (.int .i64 0)] := by kernel_rfl
instance : CZ Try.prog 41 [.v (.int .i64 0), .v (.int .i64 0), .v (.int .i64 0)] := ⟨z_41⟩
theorem s1_42 : isS1 Try.prog 42 = true := by kernel_rfl
instance : C1 Try.prog 42 := ⟨s1_42⟩
theorem el_42 : elOkQ Try.prog 42 1 = true := by kernel_rfl
instance : CE Try.prog 42 1 := ⟨el_42⟩
theorem z_42 : zeroA Try.prog 42 = some [.v .nilFunc] := by kernel_rfl
instance : CZ Try.prog 42 [.v .nilFunc] := ⟨z_42⟩
theorem s1_43 : isS1 Try.prog 43 = true := by kernel_rfl
instance : C1 Try.prog 43 := ⟨s1_43⟩
theorem el_43 : elOkQ Try.prog 43 1 = true := by kernel_rfl
instance : CE Try.prog 43 1 := ⟨el_43⟩
theorem z_43 : zeroA Try.prog 43 = some [.v .nilFunc] := by kernel_rfl
instance : CZ Try.prog 43 [.v .nilFunc] := ⟨z_43⟩
theorem s1_45 : isS1 Try.prog 45 = true := by kernel_rfl
instance : C1 Try.prog 45 := ⟨s1_45⟩
theorem el_45 : elOkQ Try.prog 45 1 = true := by kernel_rfl
instance : CE Try.prog 45 1 := ⟨el_45⟩
theorem z_45 : zeroA Try.prog 45 = some [.v .nilFunc] := by kernel_rfl
instance : CZ Try.prog 45 [.v .nilFunc] := ⟨z_45⟩
theorem s1_46 : isS1 Try.prog 46 = true := by kernel_rfl
instance : C1 Try.prog 46 := ⟨s1_46⟩
theorem el_46 : elOkQ Try.prog 46 1 = true := by kernel_rfl
instance : CE Try.prog 46 1 := ⟨el_46⟩
theorem u_46 : Try.prog.underlying 46 = some (.int .u64) := by kernel_rfl
instance : CU Try.prog 46 .u64 := ⟨u_46⟩
theorem z_46 : zeroA Try.prog 46 = some [.v (.int .u64 0)] := by kernel_rfl
instance : CZ Try.prog 46 [.v (.int .u64 0)] := ⟨z_46⟩
theorem s1_47 : isS1 Try.prog 47 = true := by kernel_rfl
instance : C1 Try.prog 47 := ⟨s1_47⟩
theorem el_47 : elOkQ Try.prog 47 1 = true := by kernel_rfl
instance : CE Try.prog 47 1 := ⟨el_47⟩
theorem z_47 : zeroA Try.prog 47 = some [.v .nilFunc] := by kernel_rfl
instance : CZ Try.prog 47 [.v .nilFunc] := ⟨z_47⟩
theorem s1_48 : isS1 Try.prog 48 = true := by kernel_rfl
instance : C1 Try.prog 48 := ⟨s1_48⟩
theorem el_48 : elOkQ Try.prog 48 1 = true := by kernel_rfl
instance : CE Try.prog 48 1 := ⟨el_48⟩
theorem z_48 : zeroA Try.prog 48 = some [.v .nilFunc] := by kernel_rfl
instance : CZ Try.prog 48 [.v .nilFunc] := ⟨z_48⟩
theorem s1_50 : isS1 Try.prog 50 = true := by kernel_rfl
instance : C1 Try.prog 50 := ⟨s1_50⟩
theorem el_50 : elOkQ Try.prog 50 1 = true := by kernel_rfl
instance : CE Try.prog 50 1 := ⟨el_50⟩
theorem z_50 : zeroA Try.prog 50 = some [.v .nilFunc] := by kernel_rfl
instance : CZ Try.prog 50 [.v .nilFunc] := ⟨z_50⟩
theorem s1_51 : isS1 Try.prog 51 = true := by kernel_rfl
instance : C1 Try.prog 51 := ⟨s1_51⟩
theorem el_51 : elOkQ Try.prog 51 1 = true := by kernel_rfl
instance : CE Try.prog 51 1 := ⟨el_51⟩
theorem z_51 : zeroA Try.prog 51 = some [.v .nilFunc] := by kernel_rfl
instance : CZ Try.prog 51 [.v .nilFunc] := ⟨z_51⟩
theorem s1_52 : isS1 Try.prog 52 = true := by kernel_rfl
instance : C1 Try.prog 52 := ⟨s1_52⟩
theorem el_52 : elOkQ Try.prog 52 1 = true := by kernel_rfl
instance : CE Try.prog 52 1 := ⟨el_52⟩
theorem z_52 : zeroA Try.prog 52 = some [.v .nilFunc] := by kernel_rfl
instance : CZ Try.prog 52 [.v .nilFunc] := ⟨z_52⟩
theorem s1_53 : isS1 Try.prog 53 = true := by kernel_rfl
instance : C1 Try.prog 53 := ⟨s1_53⟩
theorem el_53 : elOkQ Try.prog 53 1 = true := by kernel_rfl
instance : CE Try.prog 53 1 := ⟨el_53⟩
theorem z_53 : zeroA Try.prog 53 = some [.v .nilFunc] := by kernel_rfl
instance : CZ Try.prog 53 [.v .nilFunc] := ⟨z_53⟩
theorem s1_54 : isS1 Try.prog 54 = true := by kernel_rfl
instance : C1 Try.prog 54 := ⟨s1_54⟩
theorem el_54 : elOkQ Try.prog 54 1 = true := by kernel_rfl
instance : CE Try.prog 54 1 := ⟨el_54⟩
theorem z_54 : zeroA Try.prog 54 = some [.v .nilFunc] := by kernel_rfl
instance : CZ Try.prog 54 [.v .nilFunc] := ⟨z_54⟩
theorem s1_55 : isS1 Try.prog 55 = true := by kernel_rfl
instance : C1 Try.prog 55 := ⟨s1_55⟩
theorem el_55 : elOkQ Try.prog 55 1 = true := by kernel_rfl
instance : CE Try.prog 55 1 := ⟨el_55⟩
theorem z_55 : zeroA Try.prog 55 = some [.v .nilFunc] := by kernel_rfl
instance : CZ Try.prog 55 [.v .nilFunc] := ⟨z_55⟩
theorem s1_56 : isS1 Try.prog 56 = true := by kernel_rfl
instance : C1 Try.prog 56 := ⟨s1_56⟩
theorem el_56 : elOkQ Try.prog 56 1 = true := by kernel_rfl
instance : CE Try.prog 56 1 := ⟨el_56⟩
theorem z_56 : zeroA Try.prog 56 = some [.v .nilFunc] := by kernel_rfl
instance : CZ Try.prog 56 [.v .nilFunc] := ⟨z_56⟩
theorem s1_58 : isS1 Try.prog 58 = true := by kernel_rfl
instance : C1 Try.prog 58 := ⟨s1_58⟩
theorem el_58 : elOkQ Try.prog 58 1 = true := by kernel_rfl
instance : CE Try.prog 58 1 := ⟨el_58⟩
theorem z_58 : zeroA Try.prog 58 = some [.v .nilFunc] := by kernel_rfl
instance : CZ Try.prog 58 [.v .nilFunc] := ⟨z_58⟩
theorem s1_59 : isS1 Try.prog 59 = true := by kernel_rfl
instance : C1 Try.prog 59 := ⟨s1_59⟩
theorem el_59 : elOkQ Try.prog 59 1 = true := by kernel_rfl
instance : CE Try.prog 59 1 := ⟨el_59⟩
theorem z_59 : zeroA Try.prog 59 = some [.v .nilFunc] := by kernel_rfl
instance : CZ Try.prog 59 [.v .nilFunc] := ⟨z_59⟩
theorem s1_60 : isS1 Try.prog 60 = true := by kernel_rfl
instance : C1 Try.prog 60 := ⟨s1_60⟩
theorem el_60 : elOkQ Try.prog 60 1 = true := by kernel_rfl
instance : CE Try.prog 60 1 := ⟨el_60⟩
theorem z_60 : zeroA Try.prog 60 = some [.v .nilFunc] := by kernel_rfl
instance : CZ Try.prog 60 [.v .nilFunc] := ⟨z_60⟩
theorem s1_61 : isS1 Try.prog 61 = true := by kernel_rfl
instance : C1 Try.prog 61 := ⟨s1_61⟩
theorem el_61 : elOkQ Try.prog 61 1 = true := by kernel_rfl
instance : CE Try.prog 61 1 := ⟨el_61⟩
theorem z_61 : zeroA Try.prog 61 = some [.v .nilFunc] := by kernel_rfl
instance : CZ Try.prog 61 [.v .nilFunc] := ⟨z_61⟩
theorem s1_62 : isS1 Try.prog 62 = true := by kernel_rfl
instance : C1 Try.prog 62 := ⟨s1_62⟩
theorem el_62 : elOkQ Try.prog 62 1 = true := by kernel_rfl
instance : CE Try.prog 62 1 := ⟨el_62⟩
theorem z_62 : zeroA Try.prog 62 = some [.v .nilFunc] := by kernel_rfl
instance : CZ Try.prog 62 [.v .nilFunc] := ⟨z_62⟩
theorem s1_63 : isS1 Try.prog 63 = true := by kernel_rfl
instance : C1 Try.prog 63 := ⟨s1_63⟩
theorem el_63 : elOkQ Try.prog 63 1 = true := by kernel_rfl
instance : CE Try.prog 63 1 := ⟨el_63⟩
theorem z_63 : zeroA Try.prog 63 = some [.v .nilFunc] := by kernel_rfl
instance : CZ Try.prog 63 [.v .nilFunc] := ⟨z_63⟩
theorem s1_64 : isS1 Try.prog 64 = true := by kernel_rfl
instance : C1 Try.prog 64 := ⟨s1_64⟩
theorem el_64 : elOkQ Try.prog 64 1 = true := by kernel_rfl
instance : CE Try.prog 64 1 := ⟨el_64⟩
theorem z_64 : zeroA Try.prog 64 = some [.v .nilFunc] := by kernel_rfl
instance : CZ Try.prog 64 [.v .nilFunc] := ⟨z_64⟩
theorem ar_65 : arrOf Try.prog 65 = some (512, 41, 3) := by kernel_rfl
instance : CR Try.prog 65 512 41 3 := ⟨ar_65⟩
theorem z_65 : zeroA Try.prog 65 = some (List.replicate 1536 (.v (.int .i64 0))) := by kernel_rfl
instance : CZ Try.prog 65 (List.replicate 1536 (.v (.int .i64 0))) := ⟨z_65⟩
theorem s1_66 : isS1 Try.prog 66 = true := by kernel_rfl
instance : C1 Try.prog 66 := ⟨s1_66⟩
theorem el_66 : elOkQ Try.prog 66 1 = true := by kernel_rfl
instance : CE Try.prog 66 1 := ⟨el_66⟩
theorem z_66 : zeroA Try.prog 66 = some [.v (.map none)] := by kernel_rfl
instance : CZ Try.prog 66 [.v (.map none)] := ⟨z_66⟩
theorem s1_68 : isS1 Try.prog 68 = true := by kernel_rfl
instance : C1 Try.prog 68 := ⟨s1_68⟩
theorem el_68 : elOkQ Try.prog 68 1 = true := by kernel_rfl
instance : CE Try.prog 68 1 := ⟨el_68⟩
theorem z_68 : zeroA Try.prog 68 = some [.v .nilFunc] := by kernel_rfl
instance : CZ Try.prog 68 [.v .nilFunc] := ⟨z_68⟩
theorem s1_69 : isS1 Try.prog 69 = true := by kernel_rfl
instance : C1 Try.prog 69 := ⟨s1_69⟩
theorem el_69 : elOkQ Try.prog 69 1 = true := by kernel_rfl
instance : CE Try.prog 69 1 := ⟨el_69⟩
theorem sl_69 : sliOf Try.prog 69 = some (4, 1) := by kernel_rfl
instance : CS Try.prog 69 4 1 := ⟨sl_69⟩
theorem z_69 : zeroA Try.prog 69 = some [.v (.slice none 0 0)] := by kernel_rfl
instance : CZ Try.prog 69 [.v (.slice none 0 0)] := ⟨z_69⟩
theorem s1_70 : isS1 Try.prog 70 = true := by kernel_rfl
instance : C1 Try.prog 70 := ⟨s1_70⟩
theorem el_70 : elOkQ Try.prog 70 1 = true := by kernel_rfl
instance : CE Try.prog 70 1 := ⟨el_70⟩
theorem z_70 : zeroA Try.prog 70 = some [.v .nilFunc] := by kernel_rfl
instance : CZ Try.prog 70 [.v .nilFunc] := ⟨z_70⟩
theorem s1_71 : isS1 Try.prog 71 = true := by kernel_rfl
instance : C1 Try.prog 71 := ⟨s1_71⟩
theorem el_71 : elOkQ Try.prog 71 1 = true := by kernel_rfl
instance : CE Try.prog 71 1 := ⟨el_71⟩
theorem z_71 : zeroA Try.prog 71 = some [.v .nilFunc] := by kernel_rfl
instance : CZ Try.prog 71 [.v .nilFunc] := ⟨z_71⟩
theorem s1_72 : isS1 Try.prog 72 = true := by kernel_rfl
instance : C1 Try.prog 72 := ⟨s1_72⟩
theorem el_72 : elOkQ Try.prog 72 1 = true := by kernel_rfl
instance : CE Try.prog 72 1 := ⟨el_72⟩
theorem z_72 : zeroA Try.prog 72 = some [.v .nilFunc] := by kernel_rfl
instance : CZ Try.prog 72 [.v .nilFunc] := ⟨z_72⟩
theorem s1_73 : isS1 Try.prog 73 = true := by kernel_rfl
instance : C1 Try.prog 73 := ⟨s1_73⟩
theorem el_73 : elOkQ Try.prog 73 1 = true := by kernel_rfl
instance : CE Try.prog 73 1 := ⟨el_73⟩
theorem z_73 : zeroA Try.prog 73 = some [.v (.map none)] := by kernel_rfl
instance : CZ Try.prog 73 [.v (.map none)] := ⟨z_73⟩
theorem s1_75 : isS1 Try.prog 75 = true := by kernel_rfl
instance : C1 Try.prog 75 := ⟨s1_75⟩
theorem el_75 : elOkQ Try.prog 75 1 = true := by kernel_rfl
instance : CE Try.prog 75 1 := ⟨el_75⟩
theorem z_75 : zeroA Try.prog 75 = some [.v .nilFunc] := by kernel_rfl
instance : CZ Try.prog 75 [.v .nilFunc] := ⟨z_75⟩
theorem s1_76 : isS1 Try.prog 76 = true := by kernel_rfl
instance : C1 Try.prog 76 := ⟨s1_76⟩
theorem el_76 : elOkQ Try.prog 76 1 = true := by kernel_rfl
instance : CE Try.prog 76 1 := ⟨el_76⟩
theorem z_76 : zeroA Try.prog 76 = some [.v .nilFunc] := by kernel_rfl
instance : CZ Try.prog 76 [.v .nilFunc] := ⟨z_76⟩
theorem s1_77 : isS1 Try.prog 77 = true := by kernel_rfl
instance : C1 Try.prog 77 := ⟨s1_77⟩
theorem el_77 : elOkQ Try.prog 77 1 = true := by kernel_rfl
instance : CE Try.prog 77 1 := ⟨el_77⟩
theorem z_77 : zeroA Try.prog 77 = some [.v .nilFunc] := by kernel_rfl
instance : CZ Try.prog 77 [.v .nilFunc] := ⟨z_77⟩
theorem s1_78 : isS1 Try.prog 78 = true := by kernel_rfl
instance : C1 Try.prog 78 := ⟨s1_78⟩
theorem el_78 : elOkQ Try.prog 78 1 = true := by kernel_rfl
instance : CE Try.prog 78 1 := ⟨el_78⟩
theorem z_78 : zeroA Try.prog 78 = some [.v .nilFunc] := by kernel_rfl
instance : CZ Try.prog 78 [.v .nilFunc] := ⟨z_78⟩
theorem s1_79 : isS1 Try.prog 79 = true := by kernel_rfl
instance : C1 Try.prog 79 := ⟨s1_79⟩
theorem el_79 : elOkQ Try.prog 79 1 = true := by kernel_rfl
instance : CE Try.prog 79 1 := ⟨el_79⟩
theorem z_79 : zeroA Try.prog 79 = some [.v .nilFunc] := by kernel_rfl
instance : CZ Try.prog 79 [.v .nilFunc] := ⟨z_79⟩
theorem ag_80 : isAg Try.prog 80 4 = true := by kernel_rfl
instance : CA Try.prog 80 4 := ⟨ag_80⟩
theorem el_80 : elOkQ Try.prog 80 4 = true := by kernel_rfl
instance : CE Try.prog 80 4 := ⟨el_80⟩
theorem fad_80_0 : fadOf Try.prog 80 0 = some 0 := by kernel_rfl
instance : CF Try.prog 80 0 0 := ⟨fad_80_0⟩
theorem fad_80_1 : fadOf Try.prog 80 1 = some 1 := by kernel_rfl
instance : CF Try.prog 80 1 1 := ⟨fad_80_1⟩
theorem fad_80_2 : fadOf Try.prog 80 2 = some 2 := by kernel_rfl
instance : CF Try.prog 80 2 2 := ⟨fad_80_2⟩
theorem fad_80_3 : fadOf Try.prog 80 3 = some 3 := by kernel_rfl
instance : CF Try.prog 80 3 3 := ⟨fad_80_3⟩
theorem z_80 : zeroA Try.prog 80 = some [.v (.pointer none), .v (.pointer none), .v (.pointer none), .v (.string (mkB []))] := by kernel_rfl
instance : CZ Try.prog 80 [.v (.pointer none), .v (.pointer none), .v (.pointer none), .v (.string (mkB []))] := ⟨z_80⟩
theorem ag_81 : isAg Try.prog 81 4 = true := by kernel_rfl
instance : CA Try.prog 81 4 := ⟨ag_81⟩
theorem el_81 : elOkQ Try.prog 81 4 = true := by kernel_rfl
instance : CE Try.prog 81 4 := ⟨el_81⟩
theorem fad_81_0 : fadOf Try.prog 81 0 = some 0 := by kernel_rfl
instance : CF Try.prog 81 0 0 := ⟨fad_81_0⟩
theorem fad_81_1 : fadOf Try.prog 81 1 = some 1 := by kernel_rfl
instance : CF Try.prog 81 1 1 := ⟨fad_81_1⟩
theorem fad_81_2 : fadOf Try.prog 81 2 = some 2 := by kernel_rfl
instance : CF Try.prog 81 2 2 := ⟨fad_81_2⟩
theorem fad_81_3 : fadOf Try.prog 81 3 = some 3 := by kernel_rfl
instance : CF Try.prog 81 3 3 := ⟨fad_81_3⟩
theorem z_81 : zeroA Try.prog 81 = some [.v (.pointer none), .v (.pointer none), .v (.pointer none), .v (.string (mkB []))] := by kernel_rfl
instance : CZ Try.prog 81 [.v (.pointer none), .v (.pointer none), .v (.pointer none), .v (.string (mkB []))] := ⟨z_81⟩
theorem ar_82 : arrOf Try.prog 82 = some (0, 16, 1) := by kernel_rfl
instance : CR Try.prog 82 0 16 1 := ⟨ar_82⟩
theorem z_82 : zeroA Try.prog 82 = some [] := by kernel_rfl
instance : CZ Try.prog 82 [] := ⟨z_82⟩
theorem z_83 : zeroA Try.prog 83 = some [] := by kernel_rfl
instance : CZ Try.prog 83 [] := ⟨z_83⟩
theorem z_84 : zeroA Try.prog 84 = some [] := by kernel_rfl
instance : CZ Try.prog 84 [] := ⟨z_84⟩
theorem s1_85 : isS1 Try.prog 85 = true := by kernel_rfl
instance : C1 Try.prog 85 := ⟨s1_85⟩
theorem el_85 : elOkQ Try.prog 85 1 = true := by kernel_rfl
instance : CE Try.prog 85 1 := ⟨el_85⟩
theorem z_85 : zeroA Try.prog 85 = some [.v .nilFunc] := by kernel_rfl
instance : CZ Try.prog 85 [.v .nilFunc] := ⟨z_85⟩
theorem s1_86 : isS1 Try.prog 86 = true := by kernel_rfl
instance : C1 Try.prog 86 := ⟨s1_86⟩
theorem el_86 : elOkQ Try.prog 86 1 = true := by kernel_rfl
instance : CE Try.prog 86 1 := ⟨el_86⟩
theorem u_86 : Try.prog.underlying 86 = some (.int .u32) := by kernel_rfl
instance : CU Try.prog 86 .u32 := ⟨u_86⟩
theorem z_86 : zeroA Try.prog 86 = some [.v (.int .u32 0)] := by kernel_rfl
instance : CZ Try.prog 86 [.v (.int .u32 0)] := ⟨z_86⟩
theorem s1_87 : isS1 Try.prog 87 = true := by kernel_rfl
instance : C1 Try.prog 87 := ⟨s1_87⟩
theorem el_87 : elOkQ Try.prog 87 1 = true := by kernel_rfl
instance : CE Try.prog 87 1 := ⟨el_87⟩
theorem u_87 : Try.prog.underlying 87 = some (.int .u8) := by kernel_rfl
instance : CU Try.prog 87 .u8 := ⟨u_87⟩
theorem z_87 : zeroA Try.prog 87 = some [.v (.int .u8 0)] := by kernel_rfl
instance : CZ Try.prog 87 [.v (.int .u8 0)] := ⟨z_87⟩
theorem s1_88 : isS1 Try.prog 88 = true := by kernel_rfl
instance : C1 Try.prog 88 := ⟨s1_88⟩
theorem el_88 : elOkQ Try.prog 88 1 = true := by kernel_rfl
instance : CE Try.prog 88 1 := ⟨el_88⟩
theorem u_88 : Try.prog.underlying 88 = some (.int .u8) := by kernel_rfl
instance : CU Try.prog 88 .u8 := ⟨u_88⟩
theorem z_88 : zeroA Try.prog 88 = some [.v (.int .u8 0)] := by kernel_rfl
instance : CZ Try.prog 88 [.v (.int .u8 0)] := ⟨z_88⟩
theorem s1_89 : isS1 Try.prog 89 = true := by kernel_rfl
instance : C1 Try.prog 89 := ⟨s1_89⟩
theorem el_89 : elOkQ Try.prog 89 1 = true := by kernel_rfl
instance : CE Try.prog 89 1 := ⟨el_89⟩
theorem z_89 : zeroA Try.prog 89 = some [.v .nilFunc] := by kernel_rfl
instance : CZ Try.prog 89 [.v .nilFunc] := ⟨z_89⟩
theorem ok_10 : okFn Try.prog 10 = true := by kernel_rfl
instance : CO Try.prog 10 := ⟨ok_10⟩
theorem ok_11 : okFn Try.prog 11 = true := by kernel_rfl
instance : CO Try.prog 11 := ⟨ok_11⟩
theorem ok_12 : okFn Try.prog 12 = true := by kernel_rfl
instance : CO Try.prog 12 := ⟨ok_12⟩
theorem ok_13 : okFn Try.prog 13 = true := by kernel_rfl
instance : CO Try.prog 13 := ⟨ok_13⟩
theorem ok_14 : okFn Try.prog 14 = true := by kernel_rfl
instance : CO Try.prog 14 := ⟨ok_14⟩
theorem ok_15 : okFn Try.prog 15 = true := by kernel_rfl
instance : CO Try.prog 15 := ⟨ok_15⟩
theorem ok_16 : okFn Try.prog 16 = true := by kernel_rfl
instance : CO Try.prog 16 := ⟨ok_16⟩
theorem ok_17 : okFn Try.prog 17 = true := by kernel_rfl
instance : CO Try.prog 17 := ⟨ok_17⟩
theorem ok_18 : okFn Try.prog 18 = true := by kernel_rfl
instance : CO Try.prog 18 := ⟨ok_18⟩
theorem ok_19 : okFn Try.prog 19 = true := by kernel_rfl
instance : CO Try.prog 19 := ⟨ok_19⟩
theorem ok_20 : okFn Try.prog 20 = true := by kernel_rfl
instance : CO Try.prog 20 := ⟨ok_20⟩
theorem ok_21 : okFn Try.prog 21 = true := by kernel_rfl
instance : CO Try.prog 21 := ⟨ok_21⟩
theorem ok_22 : okFn Try.prog 22 = true := by kernel_rfl
instance : CO Try.prog 22 := ⟨ok_22⟩
theorem ok_23 : okFn Try.prog 23 = true := by kernel_rfl
instance : CO Try.prog 23 := ⟨ok_23⟩
theorem ok_24 : okFn Try.prog 24 = true := by kernel_rfl
instance : CO Try.prog 24 := ⟨ok_24⟩
theorem ok_25 : okFn Try.prog 25 = true := by kernel_rfl
instance : CO Try.prog 25 := ⟨ok_25⟩
theorem ok_26 : okFn Try.prog 26 = true := by kernel_rfl
instance : CO Try.prog 26 := ⟨ok_26⟩
theorem ok_27 : okFn Try.prog 27 = true := by kernel_rfl
instance : CO Try.prog 27 := ⟨ok_27⟩
theorem ok_28 : okFn Try.prog 28 = true := by kernel_rfl
instance : CO Try.prog 28 := ⟨ok_28⟩
theorem ok_29 : okFn Try.prog 29 = true := by kernel_rfl
instance : CO Try.prog 29 := ⟨ok_29⟩
theorem ok_3 : okFn Try.prog 3 = true := by kernel_rfl
instance : CO Try.prog 3 := ⟨ok_3⟩
theorem ok_30 : okFn Try.prog 30 = true := by kernel_rfl
instance : CO Try.prog 30 := ⟨ok_30⟩
theorem ok_31 : okFn Try.prog 31 = true := by kernel_rfl
instance : CO Try.prog 31 := ⟨ok_31⟩
theorem ok_32 : okFn Try.prog 32 = true := by kernel_rfl
instance : CO Try.prog 32 := ⟨ok_32⟩
theorem ok_33 : okFn Try.prog 33 = true := by kernel_rfl
instance : CO Try.prog 33 := ⟨ok_33⟩
theorem ok_34 : okFn Try.prog 34 = true := by kernel_rfl
instance : CO Try.prog 34 := ⟨ok_34⟩
theorem ok_35 : okFn Try.prog 35 = true := by kernel_rfl
instance : CO Try.prog 35 := ⟨ok_35⟩
theorem ok_36 : okFn Try.prog 36 = true := by kernel_rfl
instance : CO Try.prog 36 := ⟨ok_36⟩
theorem ok_37 : okFn Try.prog 37 = true := by kernel_rfl
instance : CO Try.prog 37 := ⟨ok_37⟩
theorem ok_38 : okFn Try.prog 38 = true := by kernel_rfl
instance : CO Try.prog 38 := ⟨ok_38⟩
theorem ok_39 : okFn Try.prog 39 = true := by kernel_rfl
instance : CO Try.prog 39 := ⟨ok_39⟩
theorem ok_4 : okFn Try.prog 4 = true := by kernel_rfl
instance : CO Try.prog 4 := ⟨ok_4⟩
theorem ok_40 : okFn Try.prog 40 = true := by kernel_rfl
instance : CO Try.prog 40 := ⟨ok_40⟩
theorem ok_41 : okFn Try.prog 41 = true := by kernel_rfl
instance : CO Try.prog 41 := ⟨ok_41⟩
theorem ok_42 : okFn Try.prog 42 = true := by kernel_rfl
instance : CO Try.prog 42 := ⟨ok_42⟩
theorem ok_43 : okFn Try.prog 43 = true := by kernel_rfl
instance : CO Try.prog 43 := ⟨ok_43⟩
theorem ok_44 : okFn Try.prog 44 = true := by kernel_rfl
instance : CO Try.prog 44 := ⟨ok_44⟩
theorem ok_45 : okFn Try.prog 45 = true := by kernel_rfl
instance : CO Try.prog 45 := ⟨ok_45⟩
theorem ok_46 : okFn Try.prog 46 = true := by kernel_rfl
instance : CO Try.prog 46 := ⟨ok_46⟩
theorem ok_47 : okFn Try.prog 47 = true := by kernel_rfl
instance : CO Try.prog 47 := ⟨ok_47⟩
theorem ok_48 : okFn Try.prog 48 = true := by kernel_rfl
instance : CO Try.prog 48 := ⟨ok_48⟩
theorem ok_49 : okFn Try.prog 49 = true := by kernel_rfl
instance : CO Try.prog 49 := ⟨ok_49⟩
theorem ok_5 : okFn Try.prog 5 = true := by kernel_rfl
instance : CO Try.prog 5 := ⟨ok_5⟩
theorem ok_50 : okFn Try.prog 50 = true := by kernel_rfl
instance : CO Try.prog 50 := ⟨ok_50⟩
theorem ok_51 : okFn Try.prog 51 = true := by kernel_rfl
instance : CO Try.prog 51 := ⟨ok_51⟩
theorem ok_52 : okFn Try.prog 52 = true := by kernel_rfl
instance : CO Try.prog 52 := ⟨ok_52⟩
theorem ok_53 : okFn Try.prog 53 = true := by kernel_rfl
instance : CO Try.prog 53 := ⟨ok_53⟩
theorem ok_54 : okFn Try.prog 54 = true := by kernel_rfl
instance : CO Try.prog 54 := ⟨ok_54⟩
theorem ok_55 : okFn Try.prog 55 = true := by kernel_rfl
instance : CO Try.prog 55 := ⟨ok_55⟩
theorem ok_56 : okFn Try.prog 56 = true := by kernel_rfl
instance : CO Try.prog 56 := ⟨ok_56⟩
theorem ok_57 : okFn Try.prog 57 = true := by kernel_rfl
instance : CO Try.prog 57 := ⟨ok_57⟩
theorem ok_58 : okFn Try.prog 58 = true := by kernel_rfl
instance : CO Try.prog 58 := ⟨ok_58⟩
theorem ok_59 : okFn Try.prog 59 = true := by kernel_rfl
instance : CO Try.prog 59 := ⟨ok_59⟩
theorem ok_6 : okFn Try.prog 6 = true := by kernel_rfl
instance : CO Try.prog 6 := ⟨ok_6⟩
theorem ok_60 : okFn Try.prog 60 = true := by kernel_rfl
instance : CO Try.prog 60 := ⟨ok_60⟩
theorem ok_61 : okFn Try.prog 61 = true := by kernel_rfl
instance : CO Try.prog 61 := ⟨ok_61⟩
theorem ok_62 : okFn Try.prog 62 = true := by kernel_rfl
instance : CO Try.prog 62 := ⟨ok_62⟩
theorem ok_7 : okFn Try.prog 7 = true := by kernel_rfl
instance : CO Try.prog 7 := ⟨ok_7⟩
theorem ok_8 : okFn Try.prog 8 = true := by kernel_rfl
instance : CO Try.prog 8 := ⟨ok_8⟩
theorem ok_9 : okFn Try.prog 9 = true := by kernel_rfl
instance : CO Try.prog 9 := ⟨ok_9⟩
theorem hm : Try.prog.follows .mixedOrders = true := by kernel_rfl
abbrev U : AV := .v undef
abbrev I (n : Int) : AV := .v (.int .i64 n)
abbrev B (b : Bool) : AV := .v (.bool b)
abbrev nilS : AV := .v (.slice none 0 0)
theorem takeT {α : Type} {l : List α} {d : α} {i : Nat} (h : i < l.length) : l.take (i + 1) = l.take i ++ [l.getD i d] := by
  rw [List.take_add_one, List.getD_eq_getElem?_getD, List.getElem?_eq_getElem h]; rfl
theorem iok : EncOk (encI .i64) 1 := encI_ok .i64
def encB (b : Bool) : List AV := [B b]
theorem encB_ok : EncOk encB 1 := fun _ => ⟨rfl, rfl⟩
instance : EncC encB 1 false := ⟨encB_ok⟩
abbrev WI (z : AV) (l : List Int) : Pc := pcW (encI .i64) 1 3 z l
abbrev WB (z : AV) (l : List Bool) : Pc := pcW encB 1 4 z l
abbrev EI (h : Hp) (s : AV) (l : List Int) : Prop := EL Int (encI .i64) 1 0 h s l
abbrev EB (h : Hp) (s : AV) (l : List Bool) : Prop := EL Bool encB 1 false h s l
abbrev DA (s : AV) (n : Int) : AV := .agg [I n, s]
theorem bs_22z : bslC Try.prog 22 0 [] = some (3, []) := by kernel_rfl
theorem bs_22o (x : Int) : bslC Try.prog 22 1 [(0, I x)] = some (3, [I x]) := by kernel_rfl
instance : BS Try.prog 22 0 [] 3 [] := ⟨bs_22z⟩
instance (x : Int) : BS Try.prog 22 1 [(0, I x)] 3 [I x] := ⟨bs_22o x⟩
theorem mk_22 : mkOf Try.prog 22 = some (3, [I 0], 8) := by kernel_rfl
instance : CM Try.prog 22 3 [I 0] 8 := ⟨mk_22⟩
theorem mk_69 : mkOf Try.prog 69 = some (4, [B false], 1) := by kernel_rfl
instance : CM Try.prog 69 4 [B false] 1 := ⟨mk_69⟩
theorem eqn_22 : bin Try.prog .eql 22 (.v (.slice none 0 0)) (.v (.slice none 0 0)) = some (B true) := by kernel_rfl
theorem eqn_22s (i o n c : Nat) (u : Bool) : bin Try.prog .eql 22 (.sl i o n c u) (.v (.slice none 0 0)) = some (B false) := by kernel_rfl
instance : BN Try.prog .eql 22 (.v (.slice none 0 0)) (.v (.slice none 0 0)) true := ⟨eqn_22⟩
instance (i o n c : Nat) (u : Bool) : BN Try.prog .eql 22 (.sl i o n c u) (.v (.slice none 0 0)) false := ⟨eqn_22s i o n c u⟩
/-! ### Lists of numbers: own, same; numbers modulo -/
theorem mod_any (n m : Int) (h0 : 1 ≤ m) (h1 : m ≤ 1099511627776) : ACalls Try.prog 39 [I n, I m] [] (fun r _ => r = I (n % m) ∧ r.sc 0 = true) := by
  have hb1 := Int.tmod_lt_of_pos n (show 0 < m by omega)
  have hb2 := Int.lt_tmod_of_pos n (show 0 < m by omega)
  have e1 := tmod_lo (n := n) (m := m) (by omega)
  have e2 := tmod_hi (n := n) (m := m) (by omega)
  refine acalls_of_wk hm Try.func39 rfl ?_
  simp only [Try.ntmps39, List.length_cons, List.length_nil, Nat.reduceAdd, Nat.reduceSub, List.reduceReplicate, List.cons_append, List.nil_append]
  show wk _ _ none _ _ ⟨_, []⟩ _
  focus
    with_reducible refine s_seq ?_
    with_reducible refine s_reg ?_
    refine sassign ?_
    simp only [pu', p0', c1', c0', i1', z0', b8_nat]
    with_reducible refine s_end ?_
    with_reducible refine s_then ?_
    with_reducible refine s_seq ?_
    with_reducible refine s_seq ?_
    with_reducible refine s_reg ?_
    refine smove ?_
    simp only [pu', p0', c1', c0', i1', z0', b8_nat]
    refine sLt (fun hb => ?_) (fun hb => ?_)
    replace hb := dT' hb
    (exfalso; omega)
    replace hb := dF' hb
    simp only [pu', p0', c1', c0', i1', z0', b8_nat]
    with_reducible refine s_end ?_
    with_reducible refine s_then ?_
    refine sCF ?_
    with_reducible refine s_skip ?_
    with_reducible refine s_then ?_
    with_reducible refine s_seq ?_
    with_reducible refine s_reg ?_
    refine smove ?_
    simp only [pu', p0', c1', c0', i1', z0', b8_nat]
    refine smove ?_
    simp only [pu', p0', c1', c0', i1', z0', b8_nat]
    refine stmod ?_
    simp only [pu', p0', c1', c0', i1', z0', b8_nat]
    refine sassign ?_
    simp only [pu', p0', c1', c0', i1', z0', b8_nat]
    with_reducible refine s_end ?_
    with_reducible refine s_then ?_
    with_reducible refine s_seq ?_
    with_reducible refine s_seq ?_
    with_reducible refine s_reg ?_
    refine smove ?_
    simp only [pu', p0', c1', c0', i1', z0', b8_nat]
    refine sLt (fun hb => ?_) (fun hb => ?_)
    replace hb := dT' hb
    simp only [pu', p0', c1', c0', i1', z0', b8_nat]
    with_reducible refine s_end ?_
    with_reducible refine s_then ?_
    refine sCT ?_
    with_reducible refine s_reg ?_
    refine smove ?_
    simp only [pu', p0', c1', c0', i1', z0', b8_nat]
    refine smove ?_
    simp only [pu', p0', c1', c0', i1', z0', b8_nat]
    refine sadd ?_
    simp only [pu', p0', c1', c0', i1', z0', b8_nat]
    refine sassign ?_
    simp only [pu', p0', c1', c0', i1', z0', b8_nat]
    with_reducible refine s_end ?_
    with_reducible refine s_then ?_
    with_reducible refine s_seq ?_
    with_reducible refine s_reg ?_
    refine smove ?_
    simp only [pu', p0', c1', c0', i1', z0', b8_nat]
    refine sassign ?_
    simp only [pu', p0', c1', c0', i1', z0', b8_nat]
    with_reducible refine s_end ?_
    with_reducible refine s_then ?_
    with_reducible refine s_ret ?_
    rotate_left 1
    replace hb := dF' hb
    simp only [pu', p0', c1', c0', i1', z0', b8_nat]
    with_reducible refine s_end ?_
    with_reducible refine s_then ?_
    refine sCF ?_
    with_reducible refine s_skip ?_
    with_reducible refine s_then ?_
    with_reducible refine s_seq ?_
    with_reducible refine s_reg ?_
    refine smove ?_
    simp only [pu', p0', c1', c0', i1', z0', b8_nat]
    refine sassign ?_
    simp only [pu', p0', c1', c0', i1', z0', b8_nat]
    with_reducible refine s_end ?_
    with_reducible refine s_then ?_
    with_reducible refine s_ret ?_
    rotate_left 1
  · all_goals try with_reducible refine w_n ?_
    all_goals refine w_1 rfl (by first | exact v_t (by rfl) | exact v_c1 (C1.p) (by rfl) (HA.p) (by rfl) | exact v_cF (CA.p) (by rfl) (HA.p) (by rfl)) ?_
    exact ⟨by rw [e1 (by omega)], rfl⟩
  · all_goals try with_reducible refine w_n ?_
    all_goals refine w_1 rfl (by first | exact v_t (by rfl) | exact v_c1 (C1.p) (by rfl) (HA.p) (by rfl) | exact v_cF (CA.p) (by rfl) (HA.p) (by rfl)) ?_
    exact ⟨by rw [e2 (by omega)], rfl⟩
def pw (n : Int) : Int := 2 ^ n.toNat
/-! ### The highest bit -/
def hiF (n : Int) : Int := if n ≤ 0 then -1 else Nat.log2 n.toNat
theorem hi_half {n : Int} (h : 1 ≤ n) : hiF n = 1 + hiF (n / 2) := by
  unfold hiF
  rw [if_neg (by omega), Nat.log2_def]
  by_cases h2 : n.toNat ≥ 2
  · rw [if_pos h2, if_neg (by omega), show (n / 2).toNat = n.toNat / 2 by omega]; omega
  · rw [if_neg h2, if_pos (by omega)]; omega
theorem hi_bd (n : Int) : -1 ≤ hiF n := by
  unfold hiF
  split <;> omega
theorem hi_lt {n : Int} {k : Nat} (h : n < 2 ^ k) (hk : 0 < k) : hiF n < k := by
  unfold hiF
  split
  · omega
  · have e : ((2 ^ k : Nat) : Int) = 2 ^ k := by simp
    have := (Nat.log2_lt (n := n.toNat) (k := k) (by omega)).2 (by omega)
    omega
theorem rhigh_any (n : Int) (h : n ≤ 4611686018427387904) : ACalls Try.prog 22 [I n] [] (fun r _ => r = I (hiF n) ∧ r.sc 0 = true) := by
  refine acalls_of_wk hm Try.func22 rfl ?_
  simp only [Try.ntmps22, List.length_cons, List.length_nil, Nat.reduceAdd, Nat.reduceSub, List.reduceReplicate, List.cons_append, List.nil_append]
  show wk _ _ none _ _ ⟨_, []⟩ _
  with_reducible refine s_seq ?_
  with_reducible refine s_reg ?_
  refine sassign ?_
  simp only [pu', p0', c1', c0', i1', z0', b8_nat]
  with_reducible refine s_end ?_
  with_reducible refine s_then ?_
  with_reducible refine s_seq ?_
  with_reducible refine s_reg ?_
  refine sassign ?_
  simp only [pu', p0', c1', c0', i1', z0', b8_nat]
  with_reducible refine s_end ?_
  with_reducible refine s_then ?_
  with_reducible refine s_seq ?_
  with_reducible refine s_block ?_
  refine s_loop hm (fun (b : Int × Int) s' => [I b.1, s' 1, s' 2, I b.2, s' 4, s' 5, s' 6, s' 7, s' 8, s' 9, s' 10]) (fun _ => []) (fun b => hiF n = b.2 + 1 + hiF b.1 ∧ b.1 ≤ 4611686018427387904) (fun b => b.1.toNat) (n, -1) (by rfl) rfl ⟨by simp, h⟩ ?_
  rintro ⟨k, c⟩ s' ⟨hk, hk2⟩
  simp only [] at hk hk2 ⊢
  have hb1 := hi_bd k
  have hb2 := hi_lt (n := n) (k := 63) (by omega) (by omega)
  have hb3 := hi_lt (n := k) (k := 63) (by omega) (by omega)
  have hb4 := hi_bd n
  focus
    with_reducible refine s_seq ?_
    with_reducible refine s_seq ?_
    with_reducible refine s_reg ?_
    refine smove ?_
    simp only [pu', p0', c1', c0', i1', z0', b8_nat]
    refine sGt (fun hb => ?_) (fun hb => ?_)
    replace hb := dT' hb
    simp only [pu', p0', c1', c0', i1', z0', b8_nat]
    with_reducible refine s_end ?_
    with_reducible refine s_then ?_
    refine sCT ?_
    with_reducible refine s_skip ?_
    with_reducible refine s_then ?_
    with_reducible refine s_block ?_
    with_reducible refine s_seq ?_
    with_reducible refine s_reg ?_
    refine smove ?_
    simp only [pu', p0', c1', c0', i1', z0', b8_nat]
    refine squo ?_
    simp only [pu', p0', c1', c0', i1', z0', b8_nat]
    refine sassign ?_
    simp only [pu', p0', c1', c0', i1', z0', b8_nat]
    with_reducible refine s_end ?_
    with_reducible refine s_then ?_
    with_reducible refine s_reg ?_
    refine smove ?_
    simp only [pu', p0', c1', c0', i1', z0', b8_nat]
    refine sadd ?_
    simp only [pu', p0', c1', c0', i1', z0', b8_nat]
    refine sassign ?_
    simp only [pu', p0', c1', c0', i1', z0', b8_nat]
    with_reducible refine s_end ?_
    with_reducible refine s_blkN ?_
    rotate_left 1
    replace hb := dF' hb
    simp only [pu', p0', c1', c0', i1', z0', b8_nat]
    with_reducible refine s_end ?_
    with_reducible refine s_then ?_
    refine sCF ?_
    with_reducible refine s_exit ?_
    with_reducible refine s_thenE ?_
    with_reducible refine l_exit ?_
    with_reducible refine s_blkE ?_
    with_reducible refine s_then ?_
    with_reducible refine s_seq ?_
    with_reducible refine s_reg ?_
    refine smove ?_
    simp only [pu', p0', c1', c0', i1', z0', b8_nat]
    refine sassign ?_
    simp only [pu', p0', c1', c0', i1', z0', b8_nat]
    with_reducible refine s_end ?_
    with_reducible refine s_then ?_
    with_reducible refine s_ret ?_
    rotate_left 1
  · have := hi_half (n := k) (by omega)
    refine l_next (k / 2, c + 1) ⟨by simp only []; omega, by simp only []; omega⟩ (by simp only []; omega) (by rfl) rfl
  · ((try with_reducible refine w_n ?_); refine w_1 rfl (by first | exact v_t (by rfl) | exact v_c1 (C1.p) (by rfl) (HA.p) (by rfl) | exact v_cF (CA.p) (by rfl) (HA.p) (by rfl)) ?_)
    have : hiF k = -1 := by rw [hiF, if_pos (by omega)]
    exact ⟨by rw [show c = hiF n by omega], rfl⟩
def hOf (v : Int) (i : Nat) : Int := if i = 0 ∨ v ≤ 0 then -1 else min ((i : Int) - 1) (Nat.log2 v.toNat)
theorem h_yes {v : Int} {i : Nat} (h0 : 0 ≤ v) (h : v / 2 ^ i > 0) : hOf v (i + 1) = i := by
  have e : ((2 ^ i : Nat) : Int) = 2 ^ i := by simp
  have hp : 0 < 2 ^ i := Nat.pow_pos (by omega)
  rw [← e] at h
  have hv : ((2 ^ i : Nat) : Int) ≤ v := by
    rcases Int.lt_or_le v ((2 ^ i : Nat) : Int) with h1 | h1
    · rw [Int.ediv_eq_zero_of_lt h0 h1] at h; omega
    · exact h1
  have h2 : i ≤ Nat.log2 v.toNat := (Nat.le_log2 (by omega)).2 (by omega)
  rw [hOf, if_neg (by omega)]; omega
theorem h_no {v : Int} {i : Nat} (h0 : 0 ≤ v) (h : ¬ v / 2 ^ i > 0) : hOf v (i + 1) = hOf v i := by
  have e : ((2 ^ i : Nat) : Int) = 2 ^ i := by simp
  have hp : 0 < 2 ^ i := Nat.pow_pos (by omega)
  rw [← e] at h
  by_cases hv : v ≤ 0
  · rw [hOf, hOf, if_pos (.inr hv), if_pos (.inr hv)]
  · have hlt : v < ((2 ^ i : Nat) : Int) := by
      rcases Int.lt_or_le v ((2 ^ i : Nat) : Int) with h1 | h1
      · exact h1
      · have h3 : 1 ≤ v / ((2 ^ i : Nat) : Int) := Int.le_ediv_of_mul_le (by omega) (by omega)
        omega
    have h2 : Nat.log2 v.toNat < i := (Nat.log2_lt (by omega)).2 (by omega)
    rw [hOf, hOf, if_neg (by omega), if_neg (by omega)]; omega
theorem h_end {v : Int} (h0 : 0 ≤ v) (h : v < 9223372036854775808) : hOf v 63 = hiF v := by
  unfold hOf hiF
  by_cases hv : v ≤ 0
  · rw [if_pos (.inr hv), if_pos hv]
  · have h2 : Nat.log2 v.toNat < 63 := (Nat.log2_lt (by omega)).2 (by omega)
    rw [if_neg (by omega), if_neg hv]; omega
theorem high_any (n : Int) (h0 : 0 ≤ n) (h : n ≤ 4611686018427387904) : ACalls Try.prog 36 [I n] [] (fun r _ => r = I (hiF n) ∧ r.sc 0 = true) := by
  refine acalls_of_wk hm Try.func36 rfl ?_
  simp only [Try.ntmps36, List.length_cons, List.length_nil, Nat.reduceAdd, Nat.reduceSub, List.reduceReplicate, List.cons_append, List.nil_append]
  show wk _ _ none _ _ ⟨_, []⟩ _
  with_reducible refine s_seq ?_
  with_reducible refine s_reg ?_
  refine sassign ?_
  simp only [pu', p0', c1', c0', i1', z0', b8_nat]
  with_reducible refine s_end ?_
  with_reducible refine s_then ?_
  with_reducible refine s_seq ?_
  with_reducible refine s_reg ?_
  refine sassign ?_
  simp only [pu', p0', c1', c0', i1', z0', b8_nat]
  with_reducible refine s_end ?_
  with_reducible refine s_then ?_
  with_reducible refine s_seq ?_
  with_reducible refine s_seq ?_
  with_reducible refine s_reg ?_
  refine smove ?_
  simp only [pu', p0', c1', c0', i1', z0', b8_nat]
  with_reducible refine s_end ?_
  with_reducible refine s_then ?_
  with_reducible refine s_block ?_
  refine s_loop hm (fun (i : Nat) s' => [I n, s' 1, s' 2, I (hOf n i), s' 4, I i, s' 6, s' 7, s' 8, s' 9, s' 10, s' 11, s' 12, s' 13, s' 14]) (fun _ => []) (fun i => i ≤ 63) (fun i => 63 - i) 0 (by rfl) rfl (by simp) ?_
  intro i s' hi
  focus
    with_reducible refine s_seq ?_
    with_reducible refine s_reg ?_
    refine sLt (fun hb => ?_) (fun hb => ?_)
    replace hb := dT' hb
    simp only [pu', p0', c1', c0', i1', z0', b8_nat]
    with_reducible refine s_end ?_
    with_reducible refine s_then ?_
    with_reducible refine s_seq ?_
    refine sCT ?_
    with_reducible refine s_skip ?_
    with_reducible refine s_then ?_
    with_reducible refine s_seq ?_
    with_reducible refine s_block ?_
    with_reducible refine s_seq ?_
    with_reducible refine s_reg ?_
    refine smove ?_
    simp only [pu', p0', c1', c0', i1', z0', b8_nat]
    refine sassign ?_
    simp only [pu', p0', c1', c0', i1', z0', b8_nat]
    with_reducible refine s_end ?_
    with_reducible refine s_then ?_
    with_reducible refine s_seq ?_
    with_reducible refine s_reg ?_
    refine smove ?_
    simp only [pu', p0', c1', c0', i1', z0', b8_nat]
    refine smove ?_
    simp only [pu', p0', c1', c0', i1', z0', b8_nat]
    refine sshr ?_
    simp only [pu', p0', c1', c0', i1', z0', b8_nat]
    refine sGt (fun hb => ?_) (fun hb => ?_)
    replace hb := dT' hb
    simp only [pu', p0', c1', c0', i1', z0', b8_nat]
    with_reducible refine s_end ?_
    with_reducible refine s_then ?_
    refine sCT ?_
    with_reducible refine s_reg ?_
    refine smove ?_
    simp only [pu', p0', c1', c0', i1', z0', b8_nat]
    refine sassign ?_
    simp only [pu', p0', c1', c0', i1', z0', b8_nat]
    with_reducible refine s_end ?_
    with_reducible refine s_blkN ?_
    with_reducible refine s_then ?_
    with_reducible refine s_reg ?_
    refine sadd ?_
    simp only [pu', p0', c1', c0', i1', z0', b8_nat]
    refine smove ?_
    simp only [pu', p0', c1', c0', i1', z0', b8_nat]
    with_reducible refine s_end ?_
    rotate_left 1
    replace hb := dF' hb
    simp only [pu', p0', c1', c0', i1', z0', b8_nat]
    with_reducible refine s_end ?_
    with_reducible refine s_then ?_
    refine sCF ?_
    with_reducible refine s_skip ?_
    with_reducible refine s_blkN ?_
    with_reducible refine s_then ?_
    with_reducible refine s_reg ?_
    refine sadd ?_
    simp only [pu', p0', c1', c0', i1', z0', b8_nat]
    refine smove ?_
    simp only [pu', p0', c1', c0', i1', z0', b8_nat]
    with_reducible refine s_end ?_
    rotate_left 1
    replace hb := dF' hb
    simp only [pu', p0', c1', c0', i1', z0', b8_nat]
    with_reducible refine s_end ?_
    with_reducible refine s_then ?_
    with_reducible refine s_seq ?_
    refine sCF ?_
    with_reducible refine s_exit ?_
    with_reducible refine s_thenE ?_
    with_reducible refine l_exit ?_
    with_reducible refine s_blkE ?_
    with_reducible refine s_then ?_
    with_reducible refine s_seq ?_
    with_reducible refine s_reg ?_
    refine smove ?_
    simp only [pu', p0', c1', c0', i1', z0', b8_nat]
    refine sassign ?_
    simp only [pu', p0', c1', c0', i1', z0', b8_nat]
    with_reducible refine s_end ?_
    with_reducible refine s_then ?_
    with_reducible refine s_ret ?_
    rotate_left 1
  · refine l_next (i + 1) (by omega) (by omega) ?_ rfl
    rw [h_yes h0 (by omega)]; rfl
  · refine l_next (i + 1) (by omega) (by omega) ?_ rfl
    rw [h_no h0 (by omega)]; rfl
  · ((try with_reducible refine w_n ?_); refine w_1 rfl (by first | exact v_t (by rfl) | exact v_c1 (C1.p) (by rfl) (HA.p) (by rfl) | exact v_cF (CA.p) (by rfl) (HA.p) (by rfl)) ?_)
    rw [show i = 63 by omega, h_end h0 (by omega)]
    exact ⟨rfl, rfl⟩
end Go.Proofs.Ytgbddbiimffplaa
