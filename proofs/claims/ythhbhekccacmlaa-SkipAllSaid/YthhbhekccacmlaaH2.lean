/-
  A part of the proof of a statement of a chapter's seat; conditions: stated at each theorem.
-/
import Derived.Test.YthhbhekccacmlaaH1
import Derived.Test.YthhbhekccacmlaaAzZJ
set_option linter.unusedSimpArgs false
set_option linter.unusedVariables false
set_option linter.unusedSectionVars false
set_option maxRecDepth 100000
set_option maxHeartbeats 4000000
namespace Go.Proofs.Ythhbhekccacmlaa
open Go.Az Go
theorem s1_1 : isS1 Try.prog 1 = true := by kernel_rfl
instance : C1 Try.prog 1 := ⟨s1_1⟩
theorem el_1 : elOkQ Try.prog 1 1 = true := by kernel_rfl
instance : CE Try.prog 1 1 := ⟨el_1⟩
theorem z_1 : zeroA Try.prog 1 = some [.v .nilFunc] := by kernel_rfl
instance : CZ Try.prog 1 [.v .nilFunc] := ⟨z_1⟩
theorem s1_2 : isS1 Try.prog 2 = true := by kernel_rfl
instance : C1 Try.prog 2 := ⟨s1_2⟩
theorem el_2 : elOkQ Try.prog 2 1 = true := by kernel_rfl
instance : CE Try.prog 2 1 := ⟨el_2⟩
theorem u_2 : Try.prog.underlying 2 = some (.int .i64) := by kernel_rfl
instance : CU Try.prog 2 .i64 := ⟨u_2⟩
theorem z_2 : zeroA Try.prog 2 = some [.v (.int .i64 0)] := by kernel_rfl
instance : CZ Try.prog 2 [.v (.int .i64 0)] := ⟨z_2⟩
theorem s1_3 : isS1 Try.prog 3 = true := by kernel_rfl
instance : C1 Try.prog 3 := ⟨s1_3⟩
theorem el_3 : elOkQ Try.prog 3 1 = true := by kernel_rfl
instance : CE Try.prog 3 1 := ⟨el_3⟩
theorem u_3 : Try.prog.underlying 3 = some (.int .i64) := by kernel_rfl
instance : CU Try.prog 3 .i64 := ⟨u_3⟩
theorem z_3 : zeroA Try.prog 3 = some [.v (.int .i64 0)] := by kernel_rfl
instance : CZ Try.prog 3 [.v (.int .i64 0)] := ⟨z_3⟩
theorem s1_4 : isS1 Try.prog 4 = true := by kernel_rfl
instance : C1 Try.prog 4 := ⟨s1_4⟩
theorem el_4 : elOkQ Try.prog 4 1 = true := by kernel_rfl
instance : CE Try.prog 4 1 := ⟨el_4⟩
theorem bo_4 : Try.prog.underlying 4 = some .bool := by kernel_rfl
instance : CB Try.prog 4 := ⟨bo_4⟩
theorem z_4 : zeroA Try.prog 4 = some [.v (.bool false)] := by kernel_rfl
instance : CZ Try.prog 4 [.v (.bool false)] := ⟨z_4⟩
theorem s1_5 : isS1 Try.prog 5 = true := by kernel_rfl
instance : C1 Try.prog 5 := ⟨s1_5⟩
theorem el_5 : elOkQ Try.prog 5 1 = true := by kernel_rfl
instance : CE Try.prog 5 1 := ⟨el_5⟩
theorem u_5 : Try.prog.underlying 5 = some (.int .u8) := by kernel_rfl
instance : CU Try.prog 5 .u8 := ⟨u_5⟩
theorem z_5 : zeroA Try.prog 5 = some [.v (.int .u8 0)] := by kernel_rfl
instance : CZ Try.prog 5 [.v (.int .u8 0)] := ⟨z_5⟩
theorem s1_6 : isS1 Try.prog 6 = true := by kernel_rfl
instance : C1 Try.prog 6 := ⟨s1_6⟩
theorem el_6 : elOkQ Try.prog 6 1 = true := by kernel_rfl
instance : CE Try.prog 6 1 := ⟨el_6⟩
theorem u_6 : Try.prog.underlying 6 = some (.int .u8) := by kernel_rfl
instance : CU Try.prog 6 .u8 := ⟨u_6⟩
theorem z_6 : zeroA Try.prog 6 = some [.v (.int .u8 0)] := by kernel_rfl
instance : CZ Try.prog 6 [.v (.int .u8 0)] := ⟨z_6⟩
theorem ag_7 : isAg Try.prog 7 4 = true := by kernel_rfl
instance : CA Try.prog 7 4 := ⟨ag_7⟩
theorem el_7 : elOkQ Try.prog 7 4 = true := by kernel_rfl
instance : CE Try.prog 7 4 := ⟨el_7⟩
theorem fad_7_0 : fadOf Try.prog 7 0 = some 0 := by kernel_rfl
instance : CF Try.prog 7 0 0 := ⟨fad_7_0⟩
theorem fad_7_1 : fadOf Try.prog 7 1 = some 1 := by kernel_rfl
instance : CF Try.prog 7 1 1 := ⟨fad_7_1⟩
theorem fad_7_2 : fadOf Try.prog 7 2 = some 2 := by kernel_rfl
instance : CF Try.prog 7 2 2 := ⟨fad_7_2⟩
theorem fad_7_3 : fadOf Try.prog 7 3 = some 3 := by kernel_rfl
instance : CF Try.prog 7 3 3 := ⟨fad_7_3⟩
theorem z_7 : zeroA Try.prog 7 = some [.v (.int .i64 0), .v (.int .i64 0), .v (.bool false), .v (.int .u8 0)] := by kernel_rfl
instance : CZ Try.prog 7 [.v (.int .i64 0), .v (.int .i64 0), .v (.bool false), .v (.int .u8 0)] := ⟨z_7⟩
theorem ag_8 : isAg Try.prog 8 4 = true := by kernel_rfl
instance : CA Try.prog 8 4 := ⟨ag_8⟩
theorem el_8 : elOkQ Try.prog 8 4 = true := by kernel_rfl
instance : CE Try.prog 8 4 := ⟨el_8⟩
theorem fad_8_0 : fadOf Try.prog 8 0 = some 0 := by kernel_rfl
instance : CF Try.prog 8 0 0 := ⟨fad_8_0⟩
theorem fad_8_1 : fadOf Try.prog 8 1 = some 1 := by kernel_rfl
instance : CF Try.prog 8 1 1 := ⟨fad_8_1⟩
theorem fad_8_2 : fadOf Try.prog 8 2 = some 2 := by kernel_rfl
instance : CF Try.prog 8 2 2 := ⟨fad_8_2⟩
theorem fad_8_3 : fadOf Try.prog 8 3 = some 3 := by kernel_rfl
instance : CF Try.prog 8 3 3 := ⟨fad_8_3⟩
theorem z_8 : zeroA Try.prog 8 = some [.v (.int .i64 0), .v (.int .i64 0), .v (.bool false), .v (.int .u8 0)] := by kernel_rfl
instance : CZ Try.prog 8 [.v (.int .i64 0), .v (.int .i64 0), .v (.bool false), .v (.int .u8 0)] := ⟨z_8⟩
theorem s1_9 : isS1 Try.prog 9 = true := by kernel_rfl
instance : C1 Try.prog 9 := ⟨s1_9⟩
theorem st_9 : strTy Try.prog 9 = true := by kernel_rfl
instance : CT Try.prog 9 := ⟨st_9⟩
theorem el_9 : elOkQ Try.prog 9 1 = true := by kernel_rfl
instance : CE Try.prog 9 1 := ⟨el_9⟩
theorem z_9 : zeroA Try.prog 9 = some [.v (.string (mkB []))] := by kernel_rfl
instance : CZ Try.prog 9 [.v (.string (mkB []))] := ⟨z_9⟩
theorem s1_10 : isS1 Try.prog 10 = true := by kernel_rfl
instance : C1 Try.prog 10 := ⟨s1_10⟩
theorem st_10 : strTy Try.prog 10 = true := by kernel_rfl
instance : CT Try.prog 10 := ⟨st_10⟩
theorem el_10 : elOkQ Try.prog 10 1 = true := by kernel_rfl
instance : CE Try.prog 10 1 := ⟨el_10⟩
theorem z_10 : zeroA Try.prog 10 = some [.v (.string (mkB []))] := by kernel_rfl
instance : CZ Try.prog 10 [.v (.string (mkB []))] := ⟨z_10⟩
theorem s1_11 : isS1 Try.prog 11 = true := by kernel_rfl
instance : C1 Try.prog 11 := ⟨s1_11⟩
theorem st_11 : strTy Try.prog 11 = true := by kernel_rfl
instance : CT Try.prog 11 := ⟨st_11⟩
theorem el_11 : elOkQ Try.prog 11 1 = true := by kernel_rfl
instance : CE Try.prog 11 1 := ⟨el_11⟩
theorem z_11 : zeroA Try.prog 11 = some [.v (.string (mkB []))] := by kernel_rfl
instance : CZ Try.prog 11 [.v (.string (mkB []))] := ⟨z_11⟩
theorem s1_12 : isS1 Try.prog 12 = true := by kernel_rfl
instance : C1 Try.prog 12 := ⟨s1_12⟩
theorem el_12 : elOkQ Try.prog 12 1 = true := by kernel_rfl
instance : CE Try.prog 12 1 := ⟨el_12⟩
theorem u_12 : Try.prog.underlying 12 = some (.int .u64) := by kernel_rfl
instance : CU Try.prog 12 .u64 := ⟨u_12⟩
theorem z_12 : zeroA Try.prog 12 = some [.v (.int .u64 0)] := by kernel_rfl
instance : CZ Try.prog 12 [.v (.int .u64 0)] := ⟨z_12⟩
theorem ag_13 : isAg Try.prog 13 2 = true := by kernel_rfl
instance : CA Try.prog 13 2 := ⟨ag_13⟩
theorem el_13 : elOkQ Try.prog 13 2 = true := by kernel_rfl
instance : CE Try.prog 13 2 := ⟨el_13⟩
theorem fad_13_0 : fadOf Try.prog 13 0 = some 0 := by kernel_rfl
instance : CF Try.prog 13 0 0 := ⟨fad_13_0⟩
theorem fad_13_1 : fadOf Try.prog 13 1 = some 1 := by kernel_rfl
instance : CF Try.prog 13 1 1 := ⟨fad_13_1⟩
theorem z_13 : zeroA Try.prog 13 = some [.v (.string (mkB [])), .v (.int .u64 0)] := by kernel_rfl
instance : CZ Try.prog 13 [.v (.string (mkB [])), .v (.int .u64 0)] := ⟨z_13⟩
theorem ag_14 : isAg Try.prog 14 2 = true := by kernel_rfl
instance : CA Try.prog 14 2 := ⟨ag_14⟩
theorem el_14 : elOkQ Try.prog 14 2 = true := by kernel_rfl
instance : CE Try.prog 14 2 := ⟨el_14⟩
theorem fad_14_0 : fadOf Try.prog 14 0 = some 0 := by kernel_rfl
instance : CF Try.prog 14 0 0 := ⟨fad_14_0⟩
theorem fad_14_1 : fadOf Try.prog 14 1 = some 1 := by kernel_rfl
instance : CF Try.prog 14 1 1 := ⟨fad_14_1⟩
theorem z_14 : zeroA Try.prog 14 = some [.v (.string (mkB [])), .v (.int .u64 0)] := by kernel_rfl
instance : CZ Try.prog 14 [.v (.string (mkB [])), .v (.int .u64 0)] := ⟨z_14⟩
theorem s1_15 : isS1 Try.prog 15 = true := by kernel_rfl
instance : C1 Try.prog 15 := ⟨s1_15⟩
theorem el_15 : elOkQ Try.prog 15 1 = true := by kernel_rfl
instance : CE Try.prog 15 1 := ⟨el_15⟩
theorem z_15 : zeroA Try.prog 15 = some [.v (.pointer none)] := by kernel_rfl
instance : CZ Try.prog 15 [.v (.pointer none)] := ⟨z_15⟩
theorem s1_16 : isS1 Try.prog 16 = true := by kernel_rfl
instance : C1 Try.prog 16 := ⟨s1_16⟩
theorem el_16 : elOkQ Try.prog 16 1 = true := by kernel_rfl
instance : CE Try.prog 16 1 := ⟨el_16⟩
theorem z_16 : zeroA Try.prog 16 = some [.v (.pointer none)] := by kernel_rfl
instance : CZ Try.prog 16 [.v (.pointer none)] := ⟨z_16⟩
theorem s1_17 : isS1 Try.prog 17 = true := by kernel_rfl
instance : C1 Try.prog 17 := ⟨s1_17⟩
theorem el_17 : elOkQ Try.prog 17 1 = true := by kernel_rfl
instance : CE Try.prog 17 1 := ⟨el_17⟩
theorem z_17 : zeroA Try.prog 17 = some [.v (.pointer none)] := by kernel_rfl
instance : CZ Try.prog 17 [.v (.pointer none)] := ⟨z_17⟩
theorem ag_18 : isAg Try.prog 18 1 = true := by kernel_rfl
instance : CA Try.prog 18 1 := ⟨ag_18⟩
theorem el_18 : elOkQ Try.prog 18 1 = true := by kernel_rfl
instance : CE Try.prog 18 1 := ⟨el_18⟩
theorem fad_18_0 : fadOf Try.prog 18 0 = some 0 := by kernel_rfl
instance : CF Try.prog 18 0 0 := ⟨fad_18_0⟩
theorem z_18 : zeroA Try.prog 18 = some [.v (.pointer none)] := by kernel_rfl
instance : CZ Try.prog 18 [.v (.pointer none)] := ⟨z_18⟩
theorem ag_19 : isAg Try.prog 19 1 = true := by kernel_rfl
instance : CA Try.prog 19 1 := ⟨ag_19⟩
theorem el_19 : elOkQ Try.prog 19 1 = true := by kernel_rfl
instance : CE Try.prog 19 1 := ⟨el_19⟩
theorem fad_19_0 : fadOf Try.prog 19 0 = some 0 := by kernel_rfl
instance : CF Try.prog 19 0 0 := ⟨fad_19_0⟩
theorem z_19 : zeroA Try.prog 19 = some [.v (.pointer none)] := by kernel_rfl
instance : CZ Try.prog 19 [.v (.pointer none)] := ⟨z_19⟩
theorem s1_20 : isS1 Try.prog 20 = true := by kernel_rfl
instance : C1 Try.prog 20 := ⟨s1_20⟩
theorem el_20 : elOkQ Try.prog 20 1 = true := by kernel_rfl
instance : CE Try.prog 20 1 := ⟨el_20⟩
theorem z_20 : zeroA Try.prog 20 = some [.v .nilIface] := by kernel_rfl
instance : CZ Try.prog 20 [.v .nilIface] := ⟨z_20⟩
theorem s1_21 : isS1 Try.prog 21 = true := by kernel_rfl
instance : C1 Try.prog 21 := ⟨s1_21⟩
theorem el_21 : elOkQ Try.prog 21 1 = true := by kernel_rfl
instance : CE Try.prog 21 1 := ⟨el_21⟩
theorem u_21 : Try.prog.underlying 21 = some (.int .i32) := by kernel_rfl
instance : CU Try.prog 21 .i32 := ⟨u_21⟩
theorem z_21 : zeroA Try.prog 21 = some [.v (.int .i32 0)] := by kernel_rfl
instance : CZ Try.prog 21 [.v (.int .i32 0)] := ⟨z_21⟩
theorem s1_22 : isS1 Try.prog 22 = true := by kernel_rfl
instance : C1 Try.prog 22 := ⟨s1_22⟩
theorem el_22 : elOkQ Try.prog 22 1 = true := by kernel_rfl
instance : CE Try.prog 22 1 := ⟨el_22⟩
theorem z_22 : zeroA Try.prog 22 = some [.v .nilFunc] := by kernel_rfl
instance : CZ Try.prog 22 [.v .nilFunc] := ⟨z_22⟩
theorem s1_23 : isS1 Try.prog 23 = true := by kernel_rfl
instance : C1 Try.prog 23 := ⟨s1_23⟩
theorem el_23 : elOkQ Try.prog 23 1 = true := by kernel_rfl
instance : CE Try.prog 23 1 := ⟨el_23⟩
theorem u_23 : Try.prog.underlying 23 = some (.int .i64) := by kernel_rfl
instance : CU Try.prog 23 .i64 := ⟨u_23⟩
theorem z_23 : zeroA Try.prog 23 = some [.v (.int .i64 0)] := by kernel_rfl
instance : CZ Try.prog 23 [.v (.int .i64 0)] := ⟨z_23⟩
theorem s1_25 : isS1 Try.prog 25 = true := by kernel_rfl
instance : C1 Try.prog 25 := ⟨s1_25⟩
theorem el_25 : elOkQ Try.prog 25 1 = true := by kernel_rfl
instance : CE Try.prog 25 1 := ⟨el_25⟩
theorem z_25 : zeroA Try.prog 25 = some [.v .nilFunc] := by kernel_rfl
instance : CZ Try.prog 25 [.v .nilFunc] := ⟨z_25⟩
theorem s1_26 : isS1 Try.prog 26 = true := by kernel_rfl
instance : C1 Try.prog 26 := ⟨s1_26⟩
theorem el_26 : elOkQ Try.prog 26 1 = true := by kernel_rfl
instance : CE Try.prog 26 1 := ⟨el_26⟩
theorem u_26 : Try.prog.underlying 26 = some (.int .u32) := by kernel_rfl
instance : CU Try.prog 26 .u32 := ⟨u_26⟩
theorem z_26 : zeroA Try.prog 26 = some [.v (.int .u32 0)] := by kernel_rfl
instance : CZ Try.prog 26 [.v (.int .u32 0)] := ⟨z_26⟩
theorem s1_28 : isS1 Try.prog 28 = true := by kernel_rfl
instance : C1 Try.prog 28 := ⟨s1_28⟩
theorem el_28 : elOkQ Try.prog 28 1 = true := by kernel_rfl
instance : CE Try.prog 28 1 := ⟨el_28⟩
theorem z_28 : zeroA Try.prog 28 = some [.v .nilFunc] := by kernel_rfl
instance : CZ Try.prog 28 [.v .nilFunc] := ⟨z_28⟩
theorem s1_29 : isS1 Try.prog 29 = true := by kernel_rfl
instance : C1 Try.prog 29 := ⟨s1_29⟩
theorem el_29 : elOkQ Try.prog 29 1 = true := by kernel_rfl
instance : CE Try.prog 29 1 := ⟨el_29⟩
theorem z_29 : zeroA Try.prog 29 = some [.v .nilFunc] := by kernel_rfl
instance : CZ Try.prog 29 [.v .nilFunc] := ⟨z_29⟩
theorem s1_30 : isS1 Try.prog 30 = true := by kernel_rfl
instance : C1 Try.prog 30 := ⟨s1_30⟩
theorem el_30 : elOkQ Try.prog 30 1 = true := by kernel_rfl
instance : CE Try.prog 30 1 := ⟨el_30⟩
theorem z_30 : zeroA Try.prog 30 = some [.v .nilFunc] := by kernel_rfl
instance : CZ Try.prog 30 [.v .nilFunc] := ⟨z_30⟩
theorem ag_31 : isAg Try.prog 31 2 = true := by kernel_rfl
instance : CA Try.prog 31 2 := ⟨ag_31⟩
theorem el_31 : elOkQ Try.prog 31 2 = true := by kernel_rfl
instance : CE Try.prog 31 2 := ⟨el_31⟩
theorem fad_31_0 : fadOf Try.prog 31 0 = some 0 := by kernel_rfl
instance : CF Try.prog 31 0 0 := ⟨fad_31_0⟩
theorem fad_31_1 : fadOf Try.prog 31 1 = some 1 := by kernel_rfl
instance : CF Try.prog 31 1 1 := ⟨fad_31_1⟩
theorem z_31 : zeroA Try.prog 31 = some [.v (.int .i64 0), .v (.int .i64 0)] := by kernel_rfl
instance : CZ Try.prog 31 [.v (.int .i64 0), .v (.int .i64 0)] := ⟨z_31⟩
theorem ag_32 : isAg Try.prog 32 2 = true := by kernel_rfl
instance : CA Try.prog 32 2 := ⟨ag_32⟩
theorem el_32 : elOkQ Try.prog 32 2 = true := by kernel_rfl
instance : CE Try.prog 32 2 := ⟨el_32⟩
theorem fad_32_0 : fadOf Try.prog 32 0 = some 0 := by kernel_rfl
instance : CF Try.prog 32 0 0 := ⟨fad_32_0⟩
theorem fad_32_1 : fadOf Try.prog 32 1 = some 1 := by kernel_rfl
instance : CF Try.prog 32 1 1 := ⟨fad_32_1⟩
theorem z_32 : zeroA Try.prog 32 = some [.v (.int .i64 0), .v (.int .i64 0)] := by kernel_rfl
instance : CZ Try.prog 32 [.v (.int .i64 0), .v (.int .i64 0)] := ⟨z_32⟩
theorem s1_34 : isS1 Try.prog 34 = true := by kernel_rfl
instance : C1 Try.prog 34 := ⟨s1_34⟩
theorem el_34 : elOkQ Try.prog 34 1 = true := by kernel_rfl
instance : CE Try.prog 34 1 := ⟨el_34⟩
theorem z_34 : zeroA Try.prog 34 = some [.v .nilFunc] := by kernel_rfl
instance : CZ Try.prog 34 [.v .nilFunc] := ⟨z_34⟩
theorem s1_35 : isS1 Try.prog 35 = true := by kernel_rfl
instance : C1 Try.prog 35 := ⟨s1_35⟩
theorem el_35 : elOkQ Try.prog 35 1 = true := by kernel_rfl
instance : CE Try.prog 35 1 := ⟨el_35⟩
theorem z_35 : zeroA Try.prog 35 = some [.v .nilFunc] := by kernel_rfl
instance : CZ Try.prog 35 [.v .nilFunc] := ⟨z_35⟩
theorem s1_36 : isS1 Try.prog 36 = true := by kernel_rfl
instance : C1 Try.prog 36 := ⟨s1_36⟩
theorem el_36 : elOkQ Try.prog 36 1 = true := by kernel_rfl
instance : CE Try.prog 36 1 := ⟨el_36⟩
theorem z_36 : zeroA Try.prog 36 = some [.v .nilFunc] := by kernel_rfl
instance : CZ Try.prog 36 [.v .nilFunc] := ⟨z_36⟩
theorem s1_37 : isS1 Try.prog 37 = true := by kernel_rfl
instance : C1 Try.prog 37 := ⟨s1_37⟩
theorem el_37 : elOkQ Try.prog 37 1 = true := by kernel_rfl
instance : CE Try.prog 37 1 := ⟨el_37⟩
theorem sl_37 : sliOf Try.prog 37 = some (3, 1) := by kernel_rfl
instance : CS Try.prog 37 3 1 := ⟨sl_37⟩
theorem z_37 : zeroA Try.prog 37 = some [.v (.slice none 0 0)] := by kernel_rfl
instance : CZ Try.prog 37 [.v (.slice none 0 0)] := ⟨z_37⟩
theorem s1_38 : isS1 Try.prog 38 = true := by kernel_rfl
instance : C1 Try.prog 38 := ⟨s1_38⟩
theorem el_38 : elOkQ Try.prog 38 1 = true := by kernel_rfl
instance : CE Try.prog 38 1 := ⟨el_38⟩
theorem sl_38 : sliOf Try.prog 38 = some (9, 1) := by kernel_rfl
instance : CS Try.prog 38 9 1 := ⟨sl_38⟩
theorem z_38 : zeroA Try.prog 38 = some [.v (.slice none 0 0)] := by kernel_rfl
instance : CZ Try.prog 38 [.v (.slice none 0 0)] := ⟨z_38⟩
theorem s1_40 : isS1 Try.prog 40 = true := by kernel_rfl
instance : C1 Try.prog 40 := ⟨s1_40⟩
theorem el_40 : elOkQ Try.prog 40 1 = true := by kernel_rfl
instance : CE Try.prog 40 1 := ⟨el_40⟩
theorem z_40 : zeroA Try.prog 40 = some [.v .nilFunc] := by kernel_rfl
instance : CZ Try.prog 40 [.v .nilFunc] := ⟨z_40⟩
theorem s1_42 : isS1 Try.prog 42 = true := by kernel_rfl
instance : C1 Try.prog 42 := ⟨s1_42⟩
theorem el_42 : elOkQ Try.prog 42 1 = true := by kernel_rfl
instance : CE Try.prog 42 1 := ⟨el_42⟩
theorem z_42 : zeroA Try.prog 42 = some [.v .nilFunc] := by kernel_rfl
instance : CZ Try.prog 42 [.v .nilFunc] := ⟨z_42⟩
theorem s1_43 : isS1 Try.prog 43 = true := by kernel_rfl
instance : C1 Try.prog 43 := ⟨s1_43⟩
theorem el_43 : elOkQ Try.prog 43 1 = true := by kernel_rfl
instance : CE Try.prog 43 1 := ⟨el_43⟩
theorem z_43 : zeroA Try.prog 43 = some [.v .nilFunc] := by kernel_rfl
instance : CZ Try.prog 43 [.v .nilFunc] := ⟨z_43⟩
theorem s1_45 : isS1 Try.prog 45 = true := by kernel_rfl
instance : C1 Try.prog 45 := ⟨s1_45⟩
theorem el_45 : elOkQ Try.prog 45 1 = true := by kernel_rfl
instance : CE Try.prog 45 1 := ⟨el_45⟩
theorem z_45 : zeroA Try.prog 45 = some [.v .nilFunc] := by kernel_rfl
instance : CZ Try.prog 45 [.v .nilFunc] := ⟨z_45⟩
theorem s1_46 : isS1 Try.prog 46 = true := by kernel_rfl
instance : C1 Try.prog 46 := ⟨s1_46⟩
theorem el_46 : elOkQ Try.prog 46 1 = true := by kernel_rfl
instance : CE Try.prog 46 1 := ⟨el_46⟩
theorem z_46 : zeroA Try.prog 46 = some [.v .nilFunc] := by kernel_rfl
instance : CZ Try.prog 46 [.v .nilFunc] := ⟨z_46⟩
theorem s1_47 : isS1 Try.prog 47 = true := by kernel_rfl
instance : C1 Try.prog 47 := ⟨s1_47⟩
theorem el_47 : elOkQ Try.prog 47 1 = true := by kernel_rfl
instance : CE Try.prog 47 1 := ⟨el_47⟩
theorem z_47 : zeroA Try.prog 47 = some [.v .nilFunc] := by kernel_rfl
instance : CZ Try.prog 47 [.v .nilFunc] := ⟨z_47⟩
theorem s1_48 : isS1 Try.prog 48 = true := by kernel_rfl
instance : C1 Try.prog 48 := ⟨s1_48⟩
theorem el_48 : elOkQ Try.prog 48 1 = true := by kernel_rfl
instance : CE Try.prog 48 1 := ⟨el_48⟩
theorem z_48 : zeroA Try.prog 48 = some [.v .nilFunc] := by kernel_rfl
instance : CZ Try.prog 48 [.v .nilFunc] := ⟨z_48⟩
theorem s1_49 : isS1 Try.prog 49 = true := by kernel_rfl
instance : C1 Try.prog 49 := ⟨s1_49⟩
theorem el_49 : elOkQ Try.prog 49 1 = true := by kernel_rfl
instance : CE Try.prog 49 1 := ⟨el_49⟩
theorem z_49 : zeroA Try.prog 49 = some [.v .nilFunc] := by kernel_rfl
instance : CZ Try.prog 49 [.v .nilFunc] := ⟨z_49⟩
theorem s1_50 : isS1 Try.prog 50 = true := by kernel_rfl
instance : C1 Try.prog 50 := ⟨s1_50⟩
theorem el_50 : elOkQ Try.prog 50 1 = true := by kernel_rfl
instance : CE Try.prog 50 1 := ⟨el_50⟩
theorem z_50 : zeroA Try.prog 50 = some [.v .nilFunc] := by kernel_rfl
instance : CZ Try.prog 50 [.v .nilFunc] := ⟨z_50⟩
theorem s1_51 : isS1 Try.prog 51 = true := by kernel_rfl
instance : C1 Try.prog 51 := ⟨s1_51⟩
theorem el_51 : elOkQ Try.prog 51 1 = true := by kernel_rfl
instance : CE Try.prog 51 1 := ⟨el_51⟩
theorem z_51 : zeroA Try.prog 51 = some [.v .nilFunc] := by kernel_rfl
instance : CZ Try.prog 51 [.v .nilFunc] := ⟨z_51⟩
theorem s1_52 : isS1 Try.prog 52 = true := by kernel_rfl
instance : C1 Try.prog 52 := ⟨s1_52⟩
theorem el_52 : elOkQ Try.prog 52 1 = true := by kernel_rfl
instance : CE Try.prog 52 1 := ⟨el_52⟩
theorem u_52 : Try.prog.underlying 52 = some (.int .u64) := by kernel_rfl
instance : CU Try.prog 52 .u64 := ⟨u_52⟩
theorem z_52 : zeroA Try.prog 52 = some [.v (.int .u64 0)] := by kernel_rfl
instance : CZ Try.prog 52 [.v (.int .u64 0)] := ⟨z_52⟩
theorem s1_53 : isS1 Try.prog 53 = true := by kernel_rfl
instance : C1 Try.prog 53 := ⟨s1_53⟩
theorem el_53 : elOkQ Try.prog 53 1 = true := by kernel_rfl
instance : CE Try.prog 53 1 := ⟨el_53⟩
theorem z_53 : zeroA Try.prog 53 = some [.v (.pointer none)] := by kernel_rfl
instance : CZ Try.prog 53 [.v (.pointer none)] := ⟨z_53⟩
theorem s1_55 : isS1 Try.prog 55 = true := by kernel_rfl
instance : C1 Try.prog 55 := ⟨s1_55⟩
theorem el_55 : elOkQ Try.prog 55 1 = true := by kernel_rfl
instance : CE Try.prog 55 1 := ⟨el_55⟩
theorem z_55 : zeroA Try.prog 55 = some [.v .nilFunc] := by kernel_rfl
instance : CZ Try.prog 55 [.v .nilFunc] := ⟨z_55⟩
theorem ag_56 : isAg Try.prog 56 4 = true := by kernel_rfl
instance : CA Try.prog 56 4 := ⟨ag_56⟩
theorem el_56 : elOkQ Try.prog 56 4 = true := by kernel_rfl
instance : CE Try.prog 56 4 := ⟨el_56⟩
theorem fad_56_0 : fadOf Try.prog 56 0 = some 0 := by kernel_rfl
instance : CF Try.prog 56 0 0 := ⟨fad_56_0⟩
theorem fad_56_1 : fadOf Try.prog 56 1 = some 1 := by kernel_rfl
instance : CF Try.prog 56 1 1 := ⟨fad_56_1⟩
theorem fad_56_2 : fadOf Try.prog 56 2 = some 2 := by kernel_rfl
instance : CF Try.prog 56 2 2 := ⟨fad_56_2⟩
theorem z_56 : zeroA Try.prog 56 = some [.v (.int .i64 0), .v (.string (mkB [])), .v (.int .i64 0), .v (.int .i64 0)] := by kernel_rfl
instance : CZ Try.prog 56 [.v (.int .i64 0), .v (.string (mkB [])), .v (.int .i64 0), .v (.int .i64 0)] := ⟨z_56⟩
theorem ag_57 : isAg Try.prog 57 4 = true := by kernel_rfl
instance : CA Try.prog 57 4 := ⟨ag_57⟩
theorem el_57 : elOkQ Try.prog 57 4 = true := by kernel_rfl
instance : CE Try.prog 57 4 := ⟨el_57⟩
theorem fad_57_0 : fadOf Try.prog 57 0 = some 0 := by kernel_rfl
instance : CF Try.prog 57 0 0 := ⟨fad_57_0⟩
theorem fad_57_1 : fadOf Try.prog 57 1 = some 1 := by kernel_rfl
instance : CF Try.prog 57 1 1 := ⟨fad_57_1⟩
theorem fad_57_2 : fadOf Try.prog 57 2 = some 2 := by kernel_rfl
instance : CF Try.prog 57 2 2 := ⟨fad_57_2⟩
theorem z_57 : zeroA Try.prog 57 = some [.v (.int .i64 0), .v (.string (mkB [])), .v (.int .i64 0), .v (.int .i64 0)] := by kernel_rfl
instance : CZ Try.prog 57 [.v (.int .i64 0), .v (.string (mkB [])), .v (.int .i64 0), .v (.int .i64 0)] := ⟨z_57⟩
theorem s1_58 : isS1 Try.prog 58 = true := by kernel_rfl
instance : C1 Try.prog 58 := ⟨s1_58⟩
theorem el_58 : elOkQ Try.prog 58 1 = true := by kernel_rfl
instance : CE Try.prog 58 1 := ⟨el_58⟩
theorem z_58 : zeroA Try.prog 58 = some [.v .nilFunc] := by kernel_rfl
instance : CZ Try.prog 58 [.v .nilFunc] := ⟨z_58⟩
theorem ag_59 : isAg Try.prog 59 2 = true := by kernel_rfl
instance : CA Try.prog 59 2 := ⟨ag_59⟩
theorem el_59 : elOkQ Try.prog 59 2 = true := by kernel_rfl
instance : CE Try.prog 59 2 := ⟨el_59⟩
theorem fad_59_0 : fadOf Try.prog 59 0 = some 0 := by kernel_rfl
instance : CF Try.prog 59 0 0 := ⟨fad_59_0⟩
theorem fad_59_1 : fadOf Try.prog 59 1 = some 1 := by kernel_rfl
instance : CF Try.prog 59 1 1 := ⟨fad_59_1⟩
theorem z_59 : zeroA Try.prog 59 = some [.v (.string (mkB [])), .v (.int .i64 0)] := by kernel_rfl
instance : CZ Try.prog 59 [.v (.string (mkB [])), .v (.int .i64 0)] := ⟨z_59⟩
theorem ag_60 : isAg Try.prog 60 2 = true := by kernel_rfl
instance : CA Try.prog 60 2 := ⟨ag_60⟩
theorem el_60 : elOkQ Try.prog 60 2 = true := by kernel_rfl
instance : CE Try.prog 60 2 := ⟨el_60⟩
theorem fad_60_0 : fadOf Try.prog 60 0 = some 0 := by kernel_rfl
instance : CF Try.prog 60 0 0 := ⟨fad_60_0⟩
theorem fad_60_1 : fadOf Try.prog 60 1 = some 1 := by kernel_rfl
instance : CF Try.prog 60 1 1 := ⟨fad_60_1⟩
theorem z_60 : zeroA Try.prog 60 = some [.v (.string (mkB [])), .v (.int .i64 0)] := by kernel_rfl
instance : CZ Try.prog 60 [.v (.string (mkB [])), .v (.int .i64 0)] := ⟨z_60⟩
theorem ag_61 : isAg Try.prog 61 2 = true := by kernel_rfl
instance : CA Try.prog 61 2 := ⟨ag_61⟩
theorem el_61 : elOkQ Try.prog 61 2 = true := by kernel_rfl
instance : CE Try.prog 61 2 := ⟨el_61⟩
theorem fad_61_0 : fadOf Try.prog 61 0 = some 0 := by kernel_rfl
instance : CF Try.prog 61 0 0 := ⟨fad_61_0⟩
theorem z_61 : zeroA Try.prog 61 = some [.v (.string (mkB [])), .v (.int .i64 0)] := by kernel_rfl
instance : CZ Try.prog 61 [.v (.string (mkB [])), .v (.int .i64 0)] := ⟨z_61⟩
theorem ag_62 : isAg Try.prog 62 2 = true := by kernel_rfl
instance : CA Try.prog 62 2 := ⟨ag_62⟩
theorem el_62 : elOkQ Try.prog 62 2 = true := by kernel_rfl
instance : CE Try.prog 62 2 := ⟨el_62⟩
theorem fad_62_0 : fadOf Try.prog 62 0 = some 0 := by kernel_rfl
instance : CF Try.prog 62 0 0 := ⟨fad_62_0⟩
theorem z_62 : zeroA Try.prog 62 = some [.v (.string (mkB [])), .v (.int .i64 0)] := by kernel_rfl
instance : CZ Try.prog 62 [.v (.string (mkB [])), .v (.int .i64 0)] := ⟨z_62⟩
theorem s1_63 : isS1 Try.prog 63 = true := by kernel_rfl
instance : C1 Try.prog 63 := ⟨s1_63⟩
theorem el_63 : elOkQ Try.prog 63 1 = true := by kernel_rfl
instance : CE Try.prog 63 1 := ⟨el_63⟩
theorem z_63 : zeroA Try.prog 63 = some [.v .nilFunc] := by kernel_rfl
instance : CZ Try.prog 63 [.v .nilFunc] := ⟨z_63⟩
theorem s1_64 : isS1 Try.prog 64 = true := by kernel_rfl
instance : C1 Try.prog 64 := ⟨s1_64⟩
theorem el_64 : elOkQ Try.prog 64 1 = true := by kernel_rfl
instance : CE Try.prog 64 1 := ⟨el_64⟩
theorem z_64 : zeroA Try.prog 64 = some [.v .nilFunc] := by kernel_rfl
instance : CZ Try.prog 64 [.v .nilFunc] := ⟨z_64⟩
theorem s1_65 : isS1 Try.prog 65 = true := by kernel_rfl
instance : C1 Try.prog 65 := ⟨s1_65⟩
theorem el_65 : elOkQ Try.prog 65 1 = true := by kernel_rfl
instance : CE Try.prog 65 1 := ⟨el_65⟩
theorem z_65 : zeroA Try.prog 65 = some [.v .nilFunc] := by kernel_rfl
instance : CZ Try.prog 65 [.v .nilFunc] := ⟨z_65⟩
theorem s1_66 : isS1 Try.prog 66 = true := by kernel_rfl
instance : C1 Try.prog 66 := ⟨s1_66⟩
theorem el_66 : elOkQ Try.prog 66 1 = true := by kernel_rfl
instance : CE Try.prog 66 1 := ⟨el_66⟩
theorem z_66 : zeroA Try.prog 66 = some [.v .nilFunc] := by kernel_rfl
instance : CZ Try.prog 66 [.v .nilFunc] := ⟨z_66⟩
theorem s1_68 : isS1 Try.prog 68 = true := by kernel_rfl
instance : C1 Try.prog 68 := ⟨s1_68⟩
theorem el_68 : elOkQ Try.prog 68 1 = true := by kernel_rfl
instance : CE Try.prog 68 1 := ⟨el_68⟩
theorem z_68 : zeroA Try.prog 68 = some [.v .nilFunc] := by kernel_rfl
instance : CZ Try.prog 68 [.v .nilFunc] := ⟨z_68⟩
theorem s1_69 : isS1 Try.prog 69 = true := by kernel_rfl
instance : C1 Try.prog 69 := ⟨s1_69⟩
theorem el_69 : elOkQ Try.prog 69 1 = true := by kernel_rfl
instance : CE Try.prog 69 1 := ⟨el_69⟩
theorem u_69 : Try.prog.underlying 69 = some (.int .u64) := by kernel_rfl
instance : CU Try.prog 69 .u64 := ⟨u_69⟩
theorem z_69 : zeroA Try.prog 69 = some [.v (.int .u64 0)] := by kernel_rfl
instance : CZ Try.prog 69 [.v (.int .u64 0)] := ⟨z_69⟩
theorem s1_70 : isS1 Try.prog 70 = true := by kernel_rfl
instance : C1 Try.prog 70 := ⟨s1_70⟩
theorem el_70 : elOkQ Try.prog 70 1 = true := by kernel_rfl
instance : CE Try.prog 70 1 := ⟨el_70⟩
theorem sl_70 : sliOf Try.prog 70 = some (5, 1) := by kernel_rfl
instance : CS Try.prog 70 5 1 := ⟨sl_70⟩
theorem z_70 : zeroA Try.prog 70 = some [.v (.slice none 0 0)] := by kernel_rfl
instance : CZ Try.prog 70 [.v (.slice none 0 0)] := ⟨z_70⟩
theorem s1_71 : isS1 Try.prog 71 = true := by kernel_rfl
instance : C1 Try.prog 71 := ⟨s1_71⟩
theorem el_71 : elOkQ Try.prog 71 1 = true := by kernel_rfl
instance : CE Try.prog 71 1 := ⟨el_71⟩
theorem z_71 : zeroA Try.prog 71 = some [.v .nilFunc] := by kernel_rfl
instance : CZ Try.prog 71 [.v .nilFunc] := ⟨z_71⟩
theorem s1_72 : isS1 Try.prog 72 = true := by kernel_rfl
instance : C1 Try.prog 72 := ⟨s1_72⟩
theorem el_72 : elOkQ Try.prog 72 1 = true := by kernel_rfl
instance : CE Try.prog 72 1 := ⟨el_72⟩
theorem z_72 : zeroA Try.prog 72 = some [.v .nilFunc] := by kernel_rfl
instance : CZ Try.prog 72 [.v .nilFunc] := ⟨z_72⟩
theorem s1_73 : isS1 Try.prog 73 = true := by kernel_rfl
instance : C1 Try.prog 73 := ⟨s1_73⟩
theorem el_73 : elOkQ Try.prog 73 1 = true := by kernel_rfl
instance : CE Try.prog 73 1 := ⟨el_73⟩
theorem z_73 : zeroA Try.prog 73 = some [.v .nilFunc] := by kernel_rfl
instance : CZ Try.prog 73 [.v .nilFunc] := ⟨z_73⟩
theorem s1_74 : isS1 Try.prog 74 = true := by kernel_rfl
instance : C1 Try.prog 74 := ⟨s1_74⟩
theorem el_74 : elOkQ Try.prog 74 1 = true := by kernel_rfl
instance : CE Try.prog 74 1 := ⟨el_74⟩
theorem z_74 : zeroA Try.prog 74 = some [.v .nilFunc] := by kernel_rfl
instance : CZ Try.prog 74 [.v .nilFunc] := ⟨z_74⟩
theorem s1_75 : isS1 Try.prog 75 = true := by kernel_rfl
instance : C1 Try.prog 75 := ⟨s1_75⟩
theorem el_75 : elOkQ Try.prog 75 1 = true := by kernel_rfl
instance : CE Try.prog 75 1 := ⟨el_75⟩
theorem z_75 : zeroA Try.prog 75 = some [.v (.pointer none)] := by kernel_rfl
instance : CZ Try.prog 75 [.v (.pointer none)] := ⟨z_75⟩
theorem ag_76 : isAg Try.prog 76 4 = true := by kernel_rfl
instance : CA Try.prog 76 4 := ⟨ag_76⟩
theorem el_76 : elOkQ Try.prog 76 4 = true := by kernel_rfl
instance : CE Try.prog 76 4 := ⟨el_76⟩
theorem fad_76_0 : fadOf Try.prog 76 0 = some 0 := by kernel_rfl
instance : CF Try.prog 76 0 0 := ⟨fad_76_0⟩
theorem fad_76_1 : fadOf Try.prog 76 1 = some 1 := by kernel_rfl
instance : CF Try.prog 76 1 1 := ⟨fad_76_1⟩
theorem fad_76_2 : fadOf Try.prog 76 2 = some 2 := by kernel_rfl
instance : CF Try.prog 76 2 2 := ⟨fad_76_2⟩
theorem fad_76_3 : fadOf Try.prog 76 3 = some 3 := by kernel_rfl
instance : CF Try.prog 76 3 3 := ⟨fad_76_3⟩
theorem z_76 : zeroA Try.prog 76 = some [.v (.pointer none), .v (.pointer none), .v (.pointer none), .v (.string (mkB []))] := by kernel_rfl
instance : CZ Try.prog 76 [.v (.pointer none), .v (.pointer none), .v (.pointer none), .v (.string (mkB []))] := ⟨z_76⟩
theorem ag_77 : isAg Try.prog 77 4 = true := by kernel_rfl
instance : CA Try.prog 77 4 := ⟨ag_77⟩
theorem el_77 : elOkQ Try.prog 77 4 = true := by kernel_rfl
instance : CE Try.prog 77 4 := ⟨el_77⟩
theorem fad_77_0 : fadOf Try.prog 77 0 = some 0 := by kernel_rfl
instance : CF Try.prog 77 0 0 := ⟨fad_77_0⟩
theorem fad_77_1 : fadOf Try.prog 77 1 = some 1 := by kernel_rfl
instance : CF Try.prog 77 1 1 := ⟨fad_77_1⟩
theorem fad_77_2 : fadOf Try.prog 77 2 = some 2 := by kernel_rfl
instance : CF Try.prog 77 2 2 := ⟨fad_77_2⟩
theorem fad_77_3 : fadOf Try.prog 77 3 = some 3 := by kernel_rfl
instance : CF Try.prog 77 3 3 := ⟨fad_77_3⟩
theorem z_77 : zeroA Try.prog 77 = some [.v (.pointer none), .v (.pointer none), .v (.pointer none), .v (.string (mkB []))] := by kernel_rfl
instance : CZ Try.prog 77 [.v (.pointer none), .v (.pointer none), .v (.pointer none), .v (.string (mkB []))] := ⟨z_77⟩
theorem ar_78 : arrOf Try.prog 78 = some (0, 16, 1) := by kernel_rfl
instance : CR Try.prog 78 0 16 1 := ⟨ar_78⟩
theorem z_78 : zeroA Try.prog 78 = some [] := by kernel_rfl
instance : CZ Try.prog 78 [] := ⟨z_78⟩
theorem z_79 : zeroA Try.prog 79 = some [] := by kernel_rfl
instance : CZ Try.prog 79 [] := ⟨z_79⟩
theorem z_80 : zeroA Try.prog 80 = some [] := by kernel_rfl
instance : CZ Try.prog 80 [] := ⟨z_80⟩
theorem s1_81 : isS1 Try.prog 81 = true := by kernel_rfl
instance : C1 Try.prog 81 := ⟨s1_81⟩
theorem el_81 : elOkQ Try.prog 81 1 = true := by kernel_rfl
instance : CE Try.prog 81 1 := ⟨el_81⟩
theorem u_81 : Try.prog.underlying 81 = some (.int .u8) := by kernel_rfl
instance : CU Try.prog 81 .u8 := ⟨u_81⟩
theorem z_81 : zeroA Try.prog 81 = some [.v (.int .u8 0)] := by kernel_rfl
instance : CZ Try.prog 81 [.v (.int .u8 0)] := ⟨z_81⟩
theorem s1_82 : isS1 Try.prog 82 = true := by kernel_rfl
instance : C1 Try.prog 82 := ⟨s1_82⟩
theorem el_82 : elOkQ Try.prog 82 1 = true := by kernel_rfl
instance : CE Try.prog 82 1 := ⟨el_82⟩
theorem u_82 : Try.prog.underlying 82 = some (.int .u8) := by kernel_rfl
instance : CU Try.prog 82 .u8 := ⟨u_82⟩
theorem z_82 : zeroA Try.prog 82 = some [.v (.int .u8 0)] := by kernel_rfl
instance : CZ Try.prog 82 [.v (.int .u8 0)] := ⟨z_82⟩
theorem s1_83 : isS1 Try.prog 83 = true := by kernel_rfl
instance : C1 Try.prog 83 := ⟨s1_83⟩
theorem el_83 : elOkQ Try.prog 83 1 = true := by kernel_rfl
instance : CE Try.prog 83 1 := ⟨el_83⟩
theorem z_83 : zeroA Try.prog 83 = some [.v .nilFunc] := by kernel_rfl
instance : CZ Try.prog 83 [.v .nilFunc] := ⟨z_83⟩
theorem ok_10 : okFn Try.prog 10 = true := by kernel_rfl
instance : CO Try.prog 10 := ⟨ok_10⟩
theorem ok_11 : okFn Try.prog 11 = true := by kernel_rfl
instance : CO Try.prog 11 := ⟨ok_11⟩
theorem ok_12 : okFn Try.prog 12 = true := by kernel_rfl
instance : CO Try.prog 12 := ⟨ok_12⟩
theorem ok_13 : okFn Try.prog 13 = true := by kernel_rfl
instance : CO Try.prog 13 := ⟨ok_13⟩
theorem ok_14 : okFn Try.prog 14 = true := by kernel_rfl
instance : CO Try.prog 14 := ⟨ok_14⟩
theorem ok_15 : okFn Try.prog 15 = true := by kernel_rfl
instance : CO Try.prog 15 := ⟨ok_15⟩
theorem ok_16 : okFn Try.prog 16 = true := by kernel_rfl
instance : CO Try.prog 16 := ⟨ok_16⟩
theorem ok_17 : okFn Try.prog 17 = true := by kernel_rfl
instance : CO Try.prog 17 := ⟨ok_17⟩
theorem ok_18 : okFn Try.prog 18 = true := by kernel_rfl
instance : CO Try.prog 18 := ⟨ok_18⟩
theorem ok_19 : okFn Try.prog 19 = true := by kernel_rfl
instance : CO Try.prog 19 := ⟨ok_19⟩
theorem ok_20 : okFn Try.prog 20 = true := by kernel_rfl
instance : CO Try.prog 20 := ⟨ok_20⟩
theorem ok_21 : okFn Try.prog 21 = true := by kernel_rfl
instance : CO Try.prog 21 := ⟨ok_21⟩
theorem ok_22 : okFn Try.prog 22 = true := by kernel_rfl
instance : CO Try.prog 22 := ⟨ok_22⟩
theorem ok_23 : okFn Try.prog 23 = true := by kernel_rfl
instance : CO Try.prog 23 := ⟨ok_23⟩
theorem ok_24 : okFn Try.prog 24 = true := by kernel_rfl
instance : CO Try.prog 24 := ⟨ok_24⟩
theorem ok_25 : okFn Try.prog 25 = true := by kernel_rfl
instance : CO Try.prog 25 := ⟨ok_25⟩
theorem ok_26 : okFn Try.prog 26 = true := by kernel_rfl
instance : CO Try.prog 26 := ⟨ok_26⟩
theorem ok_27 : okFn Try.prog 27 = true := by kernel_rfl
instance : CO Try.prog 27 := ⟨ok_27⟩
theorem ok_28 : okFn Try.prog 28 = true := by kernel_rfl
instance : CO Try.prog 28 := ⟨ok_28⟩
theorem ok_29 : okFn Try.prog 29 = true := by kernel_rfl
instance : CO Try.prog 29 := ⟨ok_29⟩
theorem ok_3 : okFn Try.prog 3 = true := by kernel_rfl
instance : CO Try.prog 3 := ⟨ok_3⟩
theorem ok_30 : okFn Try.prog 30 = true := by kernel_rfl
instance : CO Try.prog 30 := ⟨ok_30⟩
theorem ok_31 : okFn Try.prog 31 = true := by kernel_rfl
instance : CO Try.prog 31 := ⟨ok_31⟩
theorem ok_32 : okFn Try.prog 32 = true := by kernel_rfl
instance : CO Try.prog 32 := ⟨ok_32⟩
theorem ok_33 : okFn Try.prog 33 = true := by kernel_rfl
instance : CO Try.prog 33 := ⟨ok_33⟩
theorem ok_34 : okFn Try.prog 34 = true := by kernel_rfl
instance : CO Try.prog 34 := ⟨ok_34⟩
theorem ok_35 : okFn Try.prog 35 = true := by kernel_rfl
instance : CO Try.prog 35 := ⟨ok_35⟩
theorem ok_36 : okFn Try.prog 36 = true := by kernel_rfl
instance : CO Try.prog 36 := ⟨ok_36⟩
theorem ok_37 : okFn Try.prog 37 = true := by kernel_rfl
instance : CO Try.prog 37 := ⟨ok_37⟩
theorem ok_38 : okFn Try.prog 38 = true := by kernel_rfl
instance : CO Try.prog 38 := ⟨ok_38⟩
theorem ok_4 : okFn Try.prog 4 = true := by kernel_rfl
instance : CO Try.prog 4 := ⟨ok_4⟩
theorem ok_5 : okFn Try.prog 5 = true := by kernel_rfl
instance : CO Try.prog 5 := ⟨ok_5⟩
theorem ok_6 : okFn Try.prog 6 = true := by kernel_rfl
instance : CO Try.prog 6 := ⟨ok_6⟩
theorem ok_7 : okFn Try.prog 7 = true := by kernel_rfl
instance : CO Try.prog 7 := ⟨ok_7⟩
theorem ok_8 : okFn Try.prog 8 = true := by kernel_rfl
instance : CO Try.prog 8 := ⟨ok_8⟩
theorem ok_9 : okFn Try.prog 9 = true := by kernel_rfl
instance : CO Try.prog 9 := ⟨ok_9⟩
/-! ### Numbers of four bytes -/
def le4 (n : Int) : List UInt8 := [b8 n, b8 (n / 2 ^ 8), b8 (n / 2 ^ 16), b8 (n / 2 ^ 24)]
theorem le4_len (n : Int) : (le4 n).length = 4 := rfl
theorem b8_mod (n : Int) : b8 (n % 256) = b8 n := by
  rw [b8, b8, Int.emod_emod_of_dvd n (by decide)]
theorem bs_70_4 (a b c d : UInt8) : bslC Try.prog 70 4 [(0, U8 a), (1, U8 b), (2, U8 c), (3, U8 d)] = some (5, [U8 a, U8 b, U8 c, U8 d]) := by kernel_rfl
theorem bs_70_1 (a : UInt8) : bslC Try.prog 70 1 [(0, U8 a)] = some (5, [U8 a]) := by kernel_rfl
instance (a b c d : UInt8) : BS Try.prog 70 4 [(0, U8 a), (1, U8 b), (2, U8 c), (3, U8 d)] 5 [U8 a, U8 b, U8 c, U8 d] := ⟨bs_70_4 a b c d⟩
instance (a : UInt8) : BS Try.prog 70 1 [(0, U8 a)] 5 [U8 a] := ⟨bs_70_1 a⟩
theorem little_any (n : Int) (h0 : 0 ≤ n) : ACalls Try.prog 27 [W32 n] [] (fun r _ => r = St (le4 n) ∧ r.sc 0 = true) := by
  refine acalls_of_wk hm Try.func27 rfl ?_
  simp only [Try.ntmps27, List.length_cons, List.length_nil, Nat.reduceAdd, Nat.reduceSub, List.reduceReplicate, List.cons_append, List.nil_append]
  show wk _ _ none _ _ ⟨_, []⟩ _
  with_reducible refine s_seq ?_
  with_reducible refine s_reg ?_
  refine sassign ?_
  simp only [pu', p0', c1', c0', i1', z0', b8_nat]
  with_reducible refine s_end ?_
  with_reducible refine s_then ?_
  with_reducible refine s_seq ?_
  with_reducible refine s_reg ?_
  refine smove ?_
  simp only [pu', p0', c1', c0', i1', z0', b8_nat]
  refine sconvB ?_
  simp only [pu', p0', c1', c0', i1', z0', b8_nat]
  refine smove ?_
  simp only [pu', p0', c1', c0', i1', z0', b8_nat]
  refine sshr ?_
  simp only [pu', p0', c1', c0', i1', z0', b8_nat]
  refine sconvB ?_
  simp only [pu', p0', c1', c0', i1', z0', b8_nat]
  refine smove ?_
  simp only [pu', p0', c1', c0', i1', z0', b8_nat]
  refine sshr ?_
  simp only [pu', p0', c1', c0', i1', z0', b8_nat]
  refine sconvB ?_
  simp only [pu', p0', c1', c0', i1', z0', b8_nat]
  refine smove ?_
  simp only [pu', p0', c1', c0', i1', z0', b8_nat]
  refine sshr ?_
  simp only [pu', p0', c1', c0', i1', z0', b8_nat]
  refine sconvB ?_
  simp only [pu', p0', c1', c0', i1', z0', b8_nat]
  refine sbsl ?_
  simp only [pu', p0', c1', c0', i1', n0', n3', n1', n2', a2', a1', a0', n4', Nat.reduceAdd, z0', n5', sa0, sa1, sa2, sa3, sa4, sa5, sa6, sa7, sa8, sa9, sa10, sa11]
  refine sconvS ?_
  simp only [pu', p0', c1', c0', i1', z0', b8_nat]
  refine sassign ?_
  simp only [pu', p0', c1', c0', i1', z0', b8_nat]
  with_reducible refine s_end ?_
  with_reducible refine s_then ?_
  with_reducible refine s_ret ?_
  all_goals try with_reducible refine w_n ?_
  all_goals refine w_1 rfl (by first | exact v_t (by rfl) | exact v_c1 (C1.p) (by rfl) (HA.p) (by rfl) | exact v_cF (CA.p) (by rfl) (HA.p) (by rfl)) ?_
  exact ⟨rfl, rfl⟩
def nn (n : Int) : Nat → Int
  | 0 => n
  | k + 1 => nn n k / 256
theorem nn_pos {n : Int} (h : 0 ≤ n) : ∀ k, 0 ≤ nn n k ∧ nn n k ≤ n
  | 0 => ⟨h, Int.le_refl _⟩
  | k + 1 => by
    have := nn_pos h k
    simp only [nn]
    omega
theorem nn_2 (n : Int) : nn n 2 = n / 2 ^ 16 := by simp only [nn]; omega
theorem nn_3 (n : Int) : nn n 3 = n / 2 ^ 24 := by simp only [nn]; omega
theorem nn_4 (n : Int) : nn n 4 = n / 4294967296 := by simp only [nn]; omega
theorem le4_next (n : Int) (k : Nat) (hk : k < 4) : (le4 n).take k ++ [b8 (nn n k % 256)] = (le4 n).take (k + 1) := by
  rw [b8_mod]
  have : k = 0 ∨ k = 1 ∨ k = 2 ∨ k = 3 := by omega
  rcases this with rfl | rfl | rfl | rfl
  · rfl
  · rfl
  · rw [nn_2]; rfl
  · rw [nn_3]; rfl
theorem field_any (n : Int) (h0 : 0 ≤ n) (h1 : n < 4294967296) : ACalls Try.prog 34 [W64 n, I 4] [] (fun r _ => r = .tup [St (le4 n), I 0] ∧ r.sc 0 = true) := by
  refine acalls_back ?_
  refine acalls_of_wk hm Try.func34 rfl ?_
  simp only [Try.ntmps34, List.length_cons, List.length_nil, Nat.reduceAdd, Nat.reduceSub, List.reduceReplicate, List.cons_append, List.nil_append]
  show wk _ _ none _ _ ⟨_, []⟩ _
  with_reducible refine s_seq ?_
  with_reducible refine s_reg ?_
  refine sassign ?_
  simp only [pu', p0', c1', c0', i1', z0', b8_nat]
  refine sassign ?_
  simp only [pu', p0', c1', c0', i1', z0', b8_nat]
  with_reducible refine s_end ?_
  with_reducible refine s_then ?_
  with_reducible refine s_seq ?_
  with_reducible refine s_seq ?_
  with_reducible refine s_reg ?_
  refine smove ?_
  simp only [pu', p0', c1', c0', i1', z0', b8_nat]
  refine sLt (fun hb => ?_) (fun hb => ?_)
  replace hb := dT' hb
  (exfalso; omega)
  replace hb := dF' hb
  simp only [pu', p0', c1', c0', i1', z0', b8_nat]
  refine smove ?_
  simp only [pu', p0', c1', c0', i1', z0', b8_nat]
  refine smove ?_
  simp only [pu', p0', c1', c0', i1', z0', b8_nat]
  refine sGt (fun hb => ?_) (fun hb => ?_)
  replace hb := dT' hb
  (exfalso; omega)
  replace hb := dF' hb
  simp only [pu', p0', c1', c0', i1', z0', b8_nat]
  refine spickF ?_
  simp only [pu', p0', c1', c0', i1', z0', b8_nat]
  with_reducible refine s_end ?_
  with_reducible refine s_then ?_
  refine sCF ?_
  with_reducible refine s_skip ?_
  with_reducible refine s_then ?_
  with_reducible refine s_seq ?_
  with_reducible refine s_reg ?_
  refine sassign ?_
  simp only [pu', p0', c1', c0', i1', z0', b8_nat]
  with_reducible refine s_end ?_
  with_reducible refine s_then ?_
  with_reducible refine s_seq ?_
  with_reducible refine s_seq ?_
  with_reducible refine s_reg ?_
  refine sassign ?_
  simp only [pu', p0', c1', c0', i1', z0', b8_nat]
  with_reducible refine s_end ?_
  with_reducible refine s_then ?_
  with_reducible refine s_block ?_
  refine s_loop hm (fun (b : Nat × Hp) s' => [W64 (nn n b.1), I 4, s' 2, s' 3, s' 4, s' 5, St ((le4 n).take b.1), I b.1, s' 8, s' 9, s' 10, s' 11, s' 12, s' 13, s' 14, s' 15, s' 16, s' 17, s' 18, s' 19, s' 20, s' 21, s' 22, s' 23, s' 24, s' 25, s' 26, s' 27, s' 28, s' 29, s' 30]) (fun b => b.2) (fun b => b.1 ≤ 4) (fun b => 4 - b.1) (0, []) (by rfl) rfl (by simp) ?_
  rintro ⟨k, H⟩ s' hk
  simp only [] at hk ⊢
  have hp := nn_pos h0 k
  have hl : ((le4 n).take k).length ≤ 4 := List.length_take_le' _ _
  have hz : 4 ≤ k → nn n k = 0 := fun h => by rw [show k = 4 by omega, nn_4]; omega
  focus
    with_reducible refine s_seq ?_
    with_reducible refine s_seq ?_
    with_reducible refine s_reg ?_
    refine smove ?_
    simp only [pu', p0', c1', c0', i1', z0', b8_nat]
    refine smove ?_
    simp only [pu', p0', c1', c0', i1', z0', b8_nat]
    refine sLt (fun hb => ?_) (fun hb => ?_)
    replace hb := dT' hb
    simp only [pu', p0', c1', c0', i1', z0', b8_nat]
    with_reducible refine s_end ?_
    with_reducible refine s_then ?_
    refine sCT ?_
    with_reducible refine s_skip ?_
    with_reducible refine s_then ?_
    with_reducible refine s_seq ?_
    with_reducible refine s_block ?_
    with_reducible refine s_seq ?_
    with_reducible refine s_reg ?_
    refine smove ?_
    simp only [pu', p0', c1', c0', i1', z0', b8_nat]
    refine smove ?_
    simp only [pu', p0', c1', c0', i1', z0', b8_nat]
    refine srem ?_
    simp only [pu', p0', c1', c0', i1', z0', b8_nat]
    refine sconvB ?_
    simp only [pu', p0', c1', c0', i1', z0', b8_nat]
    refine sbsl ?_
    simp only [pu', p0', c1', c0', i1', n0', n3', n1', n2', a2', a1', a0', n4', Nat.reduceAdd, z0', n5', sa0, sa1, sa2, sa3, sa4, sa5, sa6, sa7, sa8, sa9, sa10, sa11]
    refine sconvS ?_
    simp only [pu', p0', c1', c0', i1', z0', b8_nat]
    refine saddS ?_
    simp only [pu', p0', c1', c0', i1', z0', b8_nat]
    refine sassign ?_
    simp only [pu', p0', c1', c0', i1', z0', b8_nat]
    with_reducible refine s_end ?_
    with_reducible refine s_then ?_
    with_reducible refine s_reg ?_
    refine smove ?_
    simp only [pu', p0', c1', c0', i1', z0', b8_nat]
    refine squo ?_
    simp only [pu', p0', c1', c0', i1', z0', b8_nat]
    refine sassign ?_
    simp only [pu', p0', c1', c0', i1', z0', b8_nat]
    with_reducible refine s_end ?_
    with_reducible refine s_blkN ?_
    with_reducible refine s_then ?_
    with_reducible refine s_reg ?_
    refine smove ?_
    simp only [pu', p0', c1', c0', i1', z0', b8_nat]
    refine sadd ?_
    simp only [pu', p0', c1', c0', i1', z0', b8_nat]
    refine sassign ?_
    simp only [pu', p0', c1', c0', i1', z0', b8_nat]
    with_reducible refine s_end ?_
    rotate_left 1
    replace hb := dF' hb
    simp only [pu', p0', c1', c0', i1', z0', b8_nat]
    with_reducible refine s_end ?_
    with_reducible refine s_then ?_
    refine sCF ?_
    with_reducible refine s_exit ?_
    with_reducible refine s_thenE ?_
    with_reducible refine l_exit ?_
    with_reducible refine s_blkE ?_
    with_reducible refine s_then ?_
    with_reducible refine s_seq ?_
    with_reducible refine s_seq ?_
    with_reducible refine s_reg ?_
    refine smove ?_
    simp only [pu', p0', c1', c0', i1', z0', b8_nat]
    refine sGt (fun hb => ?_) (fun hb => ?_)
    replace hb := dT' hb
    (exfalso; omega)
    replace hb := dF' hb
    simp only [pu', p0', c1', c0', i1', z0', b8_nat]
    with_reducible refine s_end ?_
    with_reducible refine s_then ?_
    refine sCF ?_
    with_reducible refine s_skip ?_
    with_reducible refine s_then ?_
    with_reducible refine s_seq ?_
    with_reducible refine s_reg ?_
    refine smove ?_
    simp only [pu', p0', c1', c0', i1', z0', b8_nat]
    refine sassign ?_
    simp only [pu', p0', c1', c0', i1', z0', b8_nat]
    refine sassign ?_
    simp only [pu', p0', c1', c0', i1', z0', b8_nat]
    with_reducible refine s_end ?_
    with_reducible refine s_then ?_
    with_reducible refine s_ret ?_
    rotate_left 1
  · refine l_next (k + 1, _) (by simp only []; omega) (by simp only []; omega) ?_ (by rfl)
    rw [le4_next n k (by omega)]; rfl
  · ((try with_reducible refine w_n ?_); refine w_2 rfl (by first | exact v_t (by rfl) | exact v_c1 (C1.p) (by rfl) (HA.p) (by rfl) | exact v_cF (CA.p) (by rfl) (HA.p) (by rfl)) (by first | exact v_t (by rfl) | exact v_c1 (C1.p) (by rfl) (HA.p) (by rfl) | exact v_cF (CA.p) (by rfl) (HA.p) (by rfl)) ?_)
    rw [show k = 4 by omega]
    exact ⟨rfl, ext_app _ _, rfl, rfl⟩
theorem fld_any (n : Int) (h0 : 0 ≤ n) (h1 : n < 4294967296) : ACalls Try.prog 28 [W64 n] [] (fun r _ => r = St (le4 n) ∧ r.sc 0 = true) := by
  refine acalls_of_wk hm Try.func28 rfl ?_
  simp only [Try.ntmps28, List.length_cons, List.length_nil, Nat.reduceAdd, Nat.reduceSub, List.reduceReplicate, List.cons_append, List.nil_append]
  show wk _ _ none _ _ ⟨_, []⟩ _
  with_reducible refine s_seq ?_
  with_reducible refine s_reg ?_
  refine sassign ?_
  simp only [pu', p0', c1', c0', i1', z0', b8_nat]
  with_reducible refine s_end ?_
  with_reducible refine s_then ?_
  with_reducible refine s_seq ?_
  with_reducible refine s_reg ?_
  refine smove ?_
  simp only [pu', p0', c1', c0', i1', z0', b8_nat]
  refine sK (hx := rfl) (field_any n h0 h1) ?_
  simp only [pu', p0', c1', c0', i1', z0', b8_nat]
  refine smove ?_
  simp only [pu', p0', c1', c0', i1', z0', b8_nat]
  refine sext ?_
  simp only [pu', p0', c1', c0', i1', z0', b8_nat]
  refine sext ?_
  simp only [pu', p0', c1', c0', i1', z0', b8_nat]
  refine sassign ?_
  simp only [pu', p0', c1', c0', i1', z0', b8_nat]
  refine sassign ?_
  simp only [pu', p0', c1', c0', i1', z0', b8_nat]
  with_reducible refine s_end ?_
  with_reducible refine s_then ?_
  with_reducible refine s_seq ?_
  with_reducible refine s_reg ?_
  refine smove ?_
  simp only [pu', p0', c1', c0', i1', z0', b8_nat]
  refine sassign ?_
  simp only [pu', p0', c1', c0', i1', z0', b8_nat]
  with_reducible refine s_end ?_
  with_reducible refine s_then ?_
  with_reducible refine s_ret ?_
  all_goals try with_reducible refine w_n ?_
  all_goals refine w_1 rfl (by first | exact v_t (by rfl) | exact v_c1 (C1.p) (by rfl) (HA.p) (by rfl) | exact v_cF (CA.p) (by rfl) (HA.p) (by rfl)) ?_
  exact ⟨rfl, rfl⟩
/-! ### Magic, Write -/
def magR (k : Int) : AV := if k < 0 ∨ 16 ≤ k then .tup [W32 0, I 11] else .tup [W32 (407710288 + k), I 0]
theorem mag_no {k : Int} (h : k < 0 ∨ 16 ≤ k) : magR k = .tup [W32 0, I 11] := if_pos h
theorem mag_ok {k : Int} (h : ¬ (k < 0 ∨ 16 ≤ k)) : magR k = .tup [W32 (407710288 + k), I 0] := if_neg h
theorem magic_any (k : Int) : ACalls Try.prog 11 [I k] [] (fun r _ => r = magR k ∧ r.sc 0 = true) := by
  refine acalls_of_wk hm Try.func11 rfl ?_
  simp only [Try.ntmps11, List.length_cons, List.length_nil, Nat.reduceAdd, Nat.reduceSub, List.reduceReplicate, List.cons_append, List.nil_append]
  show wk _ _ none _ _ ⟨_, []⟩ _
  focus
    with_reducible refine s_seq ?_
    with_reducible refine s_reg ?_
    refine sassign ?_
    simp only [pu', p0', c1', c0', i1', z0', b8_nat]
    refine sassign ?_
    simp only [pu', p0', c1', c0', i1', z0', b8_nat]
    with_reducible refine s_end ?_
    with_reducible refine s_then ?_
    with_reducible refine s_seq ?_
    with_reducible refine s_seq ?_
    with_reducible refine s_reg ?_
    refine smove ?_
    simp only [pu', p0', c1', c0', i1', z0', b8_nat]
    refine sLt (fun hb => ?_) (fun hb => ?_)
    replace hb := dT' hb
    simp only [pu', p0', c1', c0', i1', z0', b8_nat]
    refine smove ?_
    simp only [pu', p0', c1', c0', i1', z0', b8_nat]
    refine sN ?_
    simp only [pu', p0', c1', c0', i1', z0', b8_nat]
    refine sN ?_
    simp only [pu', p0', c1', c0', i1', z0', b8_nat]
    refine spickT ?_
    simp only [pu', p0', c1', c0', i1', z0', b8_nat]
    with_reducible refine s_end ?_
    with_reducible refine s_then ?_
    refine sCT ?_
    with_reducible refine s_seq ?_
    with_reducible refine s_reg ?_
    refine sassign ?_
    simp only [pu', p0', c1', c0', i1', z0', b8_nat]
    refine sassign ?_
    simp only [pu', p0', c1', c0', i1', z0', b8_nat]
    with_reducible refine s_end ?_
    with_reducible refine s_then ?_
    with_reducible refine s_ret ?_
    with_reducible refine s_thenR ?_
    rotate_left 1
    replace hb := dF' hb
    simp only [pu', p0', c1', c0', i1', z0', b8_nat]
    refine smove ?_
    simp only [pu', p0', c1', c0', i1', z0', b8_nat]
    refine smove ?_
    simp only [pu', p0', c1', c0', i1', z0', b8_nat]
    refine sGe (fun hb => ?_) (fun hb => ?_)
    replace hb := dT' hb
    simp only [pu', p0', c1', c0', i1', z0', b8_nat]
    refine spickF ?_
    simp only [pu', p0', c1', c0', i1', z0', b8_nat]
    with_reducible refine s_end ?_
    with_reducible refine s_then ?_
    refine sCT ?_
    with_reducible refine s_seq ?_
    with_reducible refine s_reg ?_
    refine sassign ?_
    simp only [pu', p0', c1', c0', i1', z0', b8_nat]
    refine sassign ?_
    simp only [pu', p0', c1', c0', i1', z0', b8_nat]
    with_reducible refine s_end ?_
    with_reducible refine s_then ?_
    with_reducible refine s_ret ?_
    with_reducible refine s_thenR ?_
    rotate_left 1
    replace hb := dF' hb
    simp only [pu', p0', c1', c0', i1', z0', b8_nat]
    refine spickF ?_
    simp only [pu', p0', c1', c0', i1', z0', b8_nat]
    with_reducible refine s_end ?_
    with_reducible refine s_then ?_
    refine sCF ?_
    with_reducible refine s_skip ?_
    with_reducible refine s_then ?_
    with_reducible refine s_seq ?_
    with_reducible refine s_reg ?_
    refine smove ?_
    simp only [pu', p0', c1', c0', i1', z0', b8_nat]
    refine sconv ?_
    simp only [pu', p0', c1', c0', i1', z0', b8_nat]
    refine sadd ?_
    simp only [pu', p0', c1', c0', i1', z0', b8_nat]
    refine sassign ?_
    simp only [pu', p0', c1', c0', i1', z0', b8_nat]
    refine sassign ?_
    simp only [pu', p0', c1', c0', i1', z0', b8_nat]
    with_reducible refine s_end ?_
    with_reducible refine s_then ?_
    with_reducible refine s_ret ?_
    rotate_left 1
  all_goals try with_reducible refine w_n ?_
  all_goals refine w_2 rfl (by first | exact v_t (by rfl) | exact v_c1 (C1.p) (by rfl) (HA.p) (by rfl) | exact v_cF (CA.p) (by rfl) (HA.p) (by rfl)) (by first | exact v_t (by rfl) | exact v_c1 (C1.p) (by rfl) (HA.p) (by rfl) | exact v_cF (CA.p) (by rfl) (HA.p) (by rfl)) ?_
  all_goals first
    | (rw [mag_no (by omega)]; exact ⟨rfl, rfl⟩)
    | (rw [mag_ok (by omega)]; exact ⟨rfl, rfl⟩)
theorem rmagic_any (k : Int) : ACalls Try.prog 12 [I k] [] (fun r _ => r = magR k ∧ r.sc 0 = true) := by
  refine acalls_of_wk hm Try.func12 rfl ?_
  simp only [Try.ntmps12, List.length_cons, List.length_nil, Nat.reduceAdd, Nat.reduceSub, List.reduceReplicate, List.cons_append, List.nil_append]
  show wk _ _ none _ _ ⟨_, []⟩ _
  focus
    with_reducible refine s_seq ?_
    with_reducible refine s_reg ?_
    refine sassign ?_
    simp only [pu', p0', c1', c0', i1', z0', b8_nat]
    refine sassign ?_
    simp only [pu', p0', c1', c0', i1', z0', b8_nat]
    with_reducible refine s_end ?_
    with_reducible refine s_then ?_
    with_reducible refine s_seq ?_
    with_reducible refine s_seq ?_
    with_reducible refine s_reg ?_
    refine smove ?_
    simp only [pu', p0', c1', c0', i1', z0', b8_nat]
    refine sLt (fun hb => ?_) (fun hb => ?_)
    replace hb := dT' hb
    simp only [pu', p0', c1', c0', i1', z0', b8_nat]
    refine smove ?_
    simp only [pu', p0', c1', c0', i1', z0', b8_nat]
    refine sN ?_
    simp only [pu', p0', c1', c0', i1', z0', b8_nat]
    refine sN ?_
    simp only [pu', p0', c1', c0', i1', z0', b8_nat]
    refine spickT ?_
    simp only [pu', p0', c1', c0', i1', z0', b8_nat]
    with_reducible refine s_end ?_
    with_reducible refine s_then ?_
    refine sCT ?_
    with_reducible refine s_seq ?_
    with_reducible refine s_reg ?_
    refine sassign ?_
    simp only [pu', p0', c1', c0', i1', z0', b8_nat]
    refine sassign ?_
    simp only [pu', p0', c1', c0', i1', z0', b8_nat]
    with_reducible refine s_end ?_
    with_reducible refine s_then ?_
    with_reducible refine s_ret ?_
    with_reducible refine s_thenR ?_
    rotate_left 1
    replace hb := dF' hb
    simp only [pu', p0', c1', c0', i1', z0', b8_nat]
    refine smove ?_
    simp only [pu', p0', c1', c0', i1', z0', b8_nat]
    refine smove ?_
    simp only [pu', p0', c1', c0', i1', z0', b8_nat]
    refine sGt (fun hb => ?_) (fun hb => ?_)
    replace hb := dT' hb
    simp only [pu', p0', c1', c0', i1', z0', b8_nat]
    refine spickF ?_
    simp only [pu', p0', c1', c0', i1', z0', b8_nat]
    with_reducible refine s_end ?_
    with_reducible refine s_then ?_
    refine sCT ?_
    with_reducible refine s_seq ?_
    with_reducible refine s_reg ?_
    refine sassign ?_
    simp only [pu', p0', c1', c0', i1', z0', b8_nat]
    refine sassign ?_
    simp only [pu', p0', c1', c0', i1', z0', b8_nat]
    with_reducible refine s_end ?_
    with_reducible refine s_then ?_
    with_reducible refine s_ret ?_
    with_reducible refine s_thenR ?_
    rotate_left 1
    replace hb := dF' hb
    simp only [pu', p0', c1', c0', i1', z0', b8_nat]
    refine spickF ?_
    simp only [pu', p0', c1', c0', i1', z0', b8_nat]
    with_reducible refine s_end ?_
    with_reducible refine s_then ?_
    refine sCF ?_
    with_reducible refine s_skip ?_
    with_reducible refine s_then ?_
    with_reducible refine s_seq ?_
    with_reducible refine s_reg ?_
    refine smove ?_
    simp only [pu', p0', c1', c0', i1', z0', b8_nat]
    refine sconv ?_
    simp only [pu', p0', c1', c0', i1', z0', b8_nat]
    refine sadd ?_
    simp only [pu', p0', c1', c0', i1', z0', b8_nat]
    refine sassign ?_
    simp only [pu', p0', c1', c0', i1', z0', b8_nat]
    refine sassign ?_
    simp only [pu', p0', c1', c0', i1', z0', b8_nat]
    with_reducible refine s_end ?_
    with_reducible refine s_then ?_
    with_reducible refine s_ret ?_
    rotate_left 1
  all_goals try with_reducible refine w_n ?_
  all_goals refine w_2 rfl (by first | exact v_t (by rfl) | exact v_c1 (C1.p) (by rfl) (HA.p) (by rfl) | exact v_cF (CA.p) (by rfl) (HA.p) (by rfl)) (by first | exact v_t (by rfl) | exact v_c1 (C1.p) (by rfl) (HA.p) (by rfl) | exact v_cF (CA.p) (by rfl) (HA.p) (by rfl)) ?_
  all_goals first
    | (rw [mag_no (by omega)]; exact ⟨rfl, rfl⟩)
    | (rw [mag_ok (by omega)]; exact ⟨rfl, rfl⟩)
def wrt (k : Int) (l : List UInt8) : List UInt8 := le4 (407710288 + k) ++ le4 l.length ++ l
def wrR (k : Int) (l : List UInt8) : AV := if k < 0 ∨ 16 ≤ k then .tup [St [], I 11] else if 1048576 < l.length then .tup [St [], I 4] else .tup [St (wrt k l), I 0]
theorem wr_no {k : Int} {l : List UInt8} (h : k < 0 ∨ 16 ≤ k) : wrR k l = .tup [St [], I 11] := if_pos h
theorem wr_long {k : Int} {l : List UInt8} (h : ¬ (k < 0 ∨ 16 ≤ k)) (h1 : 1048576 < l.length) : wrR k l = .tup [St [], I 4] := by rw [wrR, if_neg h, if_pos h1]
theorem wr_ok {k : Int} {l : List UInt8} (h : ¬ (k < 0 ∨ 16 ≤ k)) (h1 : ¬ 1048576 < l.length) : wrR k l = .tup [St (le4 (407710288 + k) ++ le4 l.length ++ l), I 0] := by rw [wrR, if_neg h, if_neg h1]; rfl
theorem write_any (k : Int) (l : List UInt8) : ACalls Try.prog 9 [I k, St l] [] (fun r _ => r = wrR k l ∧ r.sc 0 = true) := by
  have m := magic_any k
  by_cases hk : k < 0 ∨ 16 ≤ k
  · rw [mag_no hk] at m
    rw [wr_no hk]
    refine acalls_of_wk hm Try.func9 rfl ?_
    simp only [Try.ntmps9, List.length_cons, List.length_nil, Nat.reduceAdd, Nat.reduceSub, List.reduceReplicate, List.cons_append, List.nil_append]
    show wk _ _ none _ _ ⟨_, []⟩ _
    focus
      with_reducible refine s_seq ?_
      with_reducible refine s_reg ?_
      refine sassign ?_
      simp only [pu', p0', c1', c0', i1', z0', b8_nat]
      refine sassign ?_
      simp only [pu', p0', c1', c0', i1', z0', b8_nat]
      with_reducible refine s_end ?_
      with_reducible refine s_then ?_
      with_reducible refine s_seq ?_
      with_reducible refine s_reg ?_
      refine smove ?_
      simp only [pu', p0', c1', c0', i1', z0', b8_nat]
      refine sK (hx := rfl) (m) ?_
      simp only [pu', p0', c1', c0', i1', z0', b8_nat]
      refine smove ?_
      simp only [pu', p0', c1', c0', i1', z0', b8_nat]
      refine sext ?_
      simp only [pu', p0', c1', c0', i1', z0', b8_nat]
      refine sext ?_
      simp only [pu', p0', c1', c0', i1', z0', b8_nat]
      refine sassign ?_
      simp only [pu', p0', c1', c0', i1', z0', b8_nat]
      refine sassign ?_
      simp only [pu', p0', c1', c0', i1', z0', b8_nat]
      with_reducible refine s_end ?_
      with_reducible refine s_then ?_
      with_reducible refine s_seq ?_
      with_reducible refine s_seq ?_
      with_reducible refine s_reg ?_
      refine smove ?_
      simp only [pu', p0', c1', c0', i1', z0', b8_nat]
      refine sNe (fun hb => ?_) (fun hb => ?_)
      replace hb := dT' hb
      simp only [pu', p0', c1', c0', i1', z0', b8_nat]
      with_reducible refine s_end ?_
      with_reducible refine s_then ?_
      refine sCT ?_
      with_reducible refine s_seq ?_
      with_reducible refine s_reg ?_
      refine smove ?_
      simp only [pu', p0', c1', c0', i1', z0', b8_nat]
      refine sassign ?_
      simp only [pu', p0', c1', c0', i1', z0', b8_nat]
      refine sassign ?_
      simp only [pu', p0', c1', c0', i1', z0', b8_nat]
      with_reducible refine s_end ?_
      with_reducible refine s_then ?_
      with_reducible refine s_ret ?_
      with_reducible refine s_thenR ?_
      rotate_left 1
      replace hb := dF' hb
      (exfalso; omega)
    all_goals try with_reducible refine w_n ?_
    all_goals refine w_2 rfl (by first | exact v_t (by rfl) | exact v_c1 (C1.p) (by rfl) (HA.p) (by rfl) | exact v_cF (CA.p) (by rfl) (HA.p) (by rfl)) (by first | exact v_t (by rfl) | exact v_c1 (C1.p) (by rfl) (HA.p) (by rfl) | exact v_cF (CA.p) (by rfl) (HA.p) (by rfl)) ?_
    exact ⟨rfl, rfl⟩
  · rw [mag_ok hk] at m
    have e1 := le4_len (407710288 + k)
    have e2 := le4_len l.length
    refine acalls_of_wk hm Try.func9 rfl ?_
    simp only [Try.ntmps9, List.length_cons, List.length_nil, Nat.reduceAdd, Nat.reduceSub, List.reduceReplicate, List.cons_append, List.nil_append]
    show wk _ _ none _ _ ⟨_, []⟩ _
    focus
      with_reducible refine s_seq ?_
      with_reducible refine s_reg ?_
      refine sassign ?_
      simp only [pu', p0', c1', c0', i1', z0', b8_nat]
      refine sassign ?_
      simp only [pu', p0', c1', c0', i1', z0', b8_nat]
      with_reducible refine s_end ?_
      with_reducible refine s_then ?_
      with_reducible refine s_seq ?_
      with_reducible refine s_reg ?_
      refine smove ?_
      simp only [pu', p0', c1', c0', i1', z0', b8_nat]
      refine sK (hx := rfl) (m) ?_
      simp only [pu', p0', c1', c0', i1', z0', b8_nat]
      refine smove ?_
      simp only [pu', p0', c1', c0', i1', z0', b8_nat]
      refine sext ?_
      simp only [pu', p0', c1', c0', i1', z0', b8_nat]
      refine sext ?_
      simp only [pu', p0', c1', c0', i1', z0', b8_nat]
      refine sassign ?_
      simp only [pu', p0', c1', c0', i1', z0', b8_nat]
      refine sassign ?_
      simp only [pu', p0', c1', c0', i1', z0', b8_nat]
      with_reducible refine s_end ?_
      with_reducible refine s_then ?_
      with_reducible refine s_seq ?_
      with_reducible refine s_seq ?_
      with_reducible refine s_reg ?_
      refine smove ?_
      simp only [pu', p0', c1', c0', i1', z0', b8_nat]
      refine sNe (fun hb => ?_) (fun hb => ?_)
      replace hb := dT' hb
      (exfalso; omega)
      replace hb := dF' hb
      simp only [pu', p0', c1', c0', i1', z0', b8_nat]
      with_reducible refine s_end ?_
      with_reducible refine s_then ?_
      refine sCF ?_
      with_reducible refine s_skip ?_
      with_reducible refine s_then ?_
      with_reducible refine s_seq ?_
      with_reducible refine s_seq ?_
      with_reducible refine s_reg ?_
      refine smove ?_
      simp only [pu', p0', c1', c0', i1', z0', b8_nat]
      refine slenS ?_
      simp only [pu', p0', c1', c0', i1', z0', b8_nat]
      refine sGt (fun hb => ?_) (fun hb => ?_)
      replace hb := dT' hb
      simp only [pu', p0', c1', c0', i1', z0', b8_nat]
      with_reducible refine s_end ?_
      with_reducible refine s_then ?_
      refine sCT ?_
      with_reducible refine s_seq ?_
      with_reducible refine s_reg ?_
      refine sassign ?_
      simp only [pu', p0', c1', c0', i1', z0', b8_nat]
      refine sassign ?_
      simp only [pu', p0', c1', c0', i1', z0', b8_nat]
      with_reducible refine s_end ?_
      with_reducible refine s_then ?_
      with_reducible refine s_ret ?_
      with_reducible refine s_thenR ?_
      rotate_left 1
      replace hb := dF' hb
      simp only [pu', p0', c1', c0', i1', z0', b8_nat]
      with_reducible refine s_end ?_
      with_reducible refine s_then ?_
      refine sCF ?_
      with_reducible refine s_skip ?_
      with_reducible refine s_then ?_
      with_reducible refine s_seq ?_
      with_reducible refine s_reg ?_
      refine smove ?_
      simp only [pu', p0', c1', c0', i1', z0', b8_nat]
      refine sK (hx := rfl) (little_any _ (by omega)) ?_
      simp only [pu', p0', c1', c0', i1', z0', b8_nat]
      refine smove ?_
      simp only [pu', p0', c1', c0', i1', z0', b8_nat]
      refine slenS ?_
      simp only [pu', p0', c1', c0', i1', z0', b8_nat]
      refine sconv ?_
      simp only [pu', p0', c1', c0', i1', z0', b8_nat]
      refine sK (hx := rfl) (little_any _ (by omega)) ?_
      simp only [pu', p0', c1', c0', i1', z0', b8_nat]
      refine saddS ?_
      simp only [pu', p0', c1', c0', i1', z0', b8_nat]
      refine smove ?_
      simp only [pu', p0', c1', c0', i1', z0', b8_nat]
      refine saddS ?_
      simp only [pu', p0', c1', c0', i1', z0', b8_nat]
      refine sassign ?_
      simp only [pu', p0', c1', c0', i1', z0', b8_nat]
      refine sassign ?_
      simp only [pu', p0', c1', c0', i1', z0', b8_nat]
      with_reducible refine s_end ?_
      with_reducible refine s_then ?_
      with_reducible refine s_ret ?_
      rotate_left 1
    · all_goals try with_reducible refine w_n ?_
      all_goals refine w_2 rfl (by first | exact v_t (by rfl) | exact v_c1 (C1.p) (by rfl) (HA.p) (by rfl) | exact v_cF (CA.p) (by rfl) (HA.p) (by rfl)) (by first | exact v_t (by rfl) | exact v_c1 (C1.p) (by rfl) (HA.p) (by rfl) | exact v_cF (CA.p) (by rfl) (HA.p) (by rfl)) ?_
      rw [wr_long hk (by omega)]
      exact ⟨rfl, rfl⟩
    · all_goals try with_reducible refine w_n ?_
      all_goals refine w_2 rfl (by first | exact v_t (by rfl) | exact v_c1 (C1.p) (by rfl) (HA.p) (by rfl) | exact v_cF (CA.p) (by rfl) (HA.p) (by rfl)) (by first | exact v_t (by rfl) | exact v_c1 (C1.p) (by rfl) (HA.p) (by rfl) | exact v_cF (CA.p) (by rfl) (HA.p) (by rfl)) ?_
      rw [wr_ok hk (by omega)]
      exact ⟨rfl, rfl⟩
theorem rwrite_any (k : Int) (l : List UInt8) : ACalls Try.prog 10 [I k, St l] [] (fun r _ => r = wrR k l ∧ r.sc 0 = true) := by
  have m := rmagic_any k
  by_cases hk : k < 0 ∨ 16 ≤ k
  · rw [mag_no hk] at m
    rw [wr_no hk]
    refine acalls_of_wk hm Try.func10 rfl ?_
    simp only [Try.ntmps10, List.length_cons, List.length_nil, Nat.reduceAdd, Nat.reduceSub, List.reduceReplicate, List.cons_append, List.nil_append]
    show wk _ _ none _ _ ⟨_, []⟩ _
    focus
      with_reducible refine s_seq ?_
      with_reducible refine s_reg ?_
      refine sassign ?_
      simp only [pu', p0', c1', c0', i1', z0', b8_nat]
      refine sassign ?_
      simp only [pu', p0', c1', c0', i1', z0', b8_nat]
      with_reducible refine s_end ?_
      with_reducible refine s_then ?_
      with_reducible refine s_seq ?_
      with_reducible refine s_reg ?_
      refine smove ?_
      simp only [pu', p0', c1', c0', i1', z0', b8_nat]
      refine sK (hx := rfl) (m) ?_
      simp only [pu', p0', c1', c0', i1', z0', b8_nat]
      refine smove ?_
      simp only [pu', p0', c1', c0', i1', z0', b8_nat]
      refine sext ?_
      simp only [pu', p0', c1', c0', i1', z0', b8_nat]
      refine sext ?_
      simp only [pu', p0', c1', c0', i1', z0', b8_nat]
      refine sassign ?_
      simp only [pu', p0', c1', c0', i1', z0', b8_nat]
      refine sassign ?_
      simp only [pu', p0', c1', c0', i1', z0', b8_nat]
      with_reducible refine s_end ?_
      with_reducible refine s_then ?_
      with_reducible refine s_seq ?_
      with_reducible refine s_seq ?_
      with_reducible refine s_reg ?_
      refine smove ?_
      simp only [pu', p0', c1', c0', i1', z0', b8_nat]
      refine sNe (fun hb => ?_) (fun hb => ?_)
      replace hb := dT' hb
      simp only [pu', p0', c1', c0', i1', z0', b8_nat]
      with_reducible refine s_end ?_
      with_reducible refine s_then ?_
      refine sCT ?_
      with_reducible refine s_seq ?_
      with_reducible refine s_reg ?_
      refine smove ?_
      simp only [pu', p0', c1', c0', i1', z0', b8_nat]
      refine sassign ?_
      simp only [pu', p0', c1', c0', i1', z0', b8_nat]
      refine sassign ?_
      simp only [pu', p0', c1', c0', i1', z0', b8_nat]
      with_reducible refine s_end ?_
      with_reducible refine s_then ?_
      with_reducible refine s_ret ?_
      with_reducible refine s_thenR ?_
      rotate_left 1
      replace hb := dF' hb
      (exfalso; omega)
    all_goals try with_reducible refine w_n ?_
    all_goals refine w_2 rfl (by first | exact v_t (by rfl) | exact v_c1 (C1.p) (by rfl) (HA.p) (by rfl) | exact v_cF (CA.p) (by rfl) (HA.p) (by rfl)) (by first | exact v_t (by rfl) | exact v_c1 (C1.p) (by rfl) (HA.p) (by rfl) | exact v_cF (CA.p) (by rfl) (HA.p) (by rfl)) ?_
    exact ⟨rfl, rfl⟩
  · rw [mag_ok hk] at m
    have e1 := le4_len (407710288 + k)
    have e2 := le4_len l.length
    refine acalls_of_wk hm Try.func10 rfl ?_
    simp only [Try.ntmps10, List.length_cons, List.length_nil, Nat.reduceAdd, Nat.reduceSub, List.reduceReplicate, List.cons_append, List.nil_append]
    show wk _ _ none _ _ ⟨_, []⟩ _
    focus
      with_reducible refine s_seq ?_
      with_reducible refine s_reg ?_
      refine sassign ?_
      simp only [pu', p0', c1', c0', i1', z0', b8_nat]
      refine sassign ?_
      simp only [pu', p0', c1', c0', i1', z0', b8_nat]
      with_reducible refine s_end ?_
      with_reducible refine s_then ?_
      with_reducible refine s_seq ?_
      with_reducible refine s_reg ?_
      refine smove ?_
      simp only [pu', p0', c1', c0', i1', z0', b8_nat]
      refine sK (hx := rfl) (m) ?_
      simp only [pu', p0', c1', c0', i1', z0', b8_nat]
      refine smove ?_
      simp only [pu', p0', c1', c0', i1', z0', b8_nat]
      refine sext ?_
      simp only [pu', p0', c1', c0', i1', z0', b8_nat]
      refine sext ?_
      simp only [pu', p0', c1', c0', i1', z0', b8_nat]
      refine sassign ?_
      simp only [pu', p0', c1', c0', i1', z0', b8_nat]
      refine sassign ?_
      simp only [pu', p0', c1', c0', i1', z0', b8_nat]
      with_reducible refine s_end ?_
      with_reducible refine s_then ?_
      with_reducible refine s_seq ?_
      with_reducible refine s_seq ?_
      with_reducible refine s_reg ?_
      refine smove ?_
      simp only [pu', p0', c1', c0', i1', z0', b8_nat]
      refine sNe (fun hb => ?_) (fun hb => ?_)
      replace hb := dT' hb
      (exfalso; omega)
      replace hb := dF' hb
      simp only [pu', p0', c1', c0', i1', z0', b8_nat]
      with_reducible refine s_end ?_
      with_reducible refine s_then ?_
      refine sCF ?_
      with_reducible refine s_skip ?_
      with_reducible refine s_then ?_
      with_reducible refine s_seq ?_
      with_reducible refine s_seq ?_
      with_reducible refine s_reg ?_
      refine smove ?_
      simp only [pu', p0', c1', c0', i1', z0', b8_nat]
      refine slenS ?_
      simp only [pu', p0', c1', c0', i1', z0', b8_nat]
      refine sGt (fun hb => ?_) (fun hb => ?_)
      replace hb := dT' hb
      simp only [pu', p0', c1', c0', i1', z0', b8_nat]
      with_reducible refine s_end ?_
      with_reducible refine s_then ?_
      refine sCT ?_
      with_reducible refine s_seq ?_
      with_reducible refine s_reg ?_
      refine sassign ?_
      simp only [pu', p0', c1', c0', i1', z0', b8_nat]
      refine sassign ?_
      simp only [pu', p0', c1', c0', i1', z0', b8_nat]
      with_reducible refine s_end ?_
      with_reducible refine s_then ?_
      with_reducible refine s_ret ?_
      with_reducible refine s_thenR ?_
      rotate_left 1
      replace hb := dF' hb
      simp only [pu', p0', c1', c0', i1', z0', b8_nat]
      with_reducible refine s_end ?_
      with_reducible refine s_then ?_
      refine sCF ?_
      with_reducible refine s_skip ?_
      with_reducible refine s_then ?_
      with_reducible refine s_seq ?_
      with_reducible refine s_reg ?_
      refine smove ?_
      simp only [pu', p0', c1', c0', i1', z0', b8_nat]
      refine sconv ?_
      simp only [pu', p0', c1', c0', i1', z0', b8_nat]
      refine sK (hx := rfl) (fld_any _ (by omega) (by omega)) ?_
      simp only [pu', p0', c1', c0', i1', z0', b8_nat]
      refine smove ?_
      simp only [pu', p0', c1', c0', i1', z0', b8_nat]
      refine slenS ?_
      simp only [pu', p0', c1', c0', i1', z0', b8_nat]
      refine sconv ?_
      simp only [pu', p0', c1', c0', i1', z0', b8_nat]
      refine sK (hx := rfl) (fld_any _ (by omega) (by omega)) ?_
      simp only [pu', p0', c1', c0', i1', z0', b8_nat]
      refine saddS ?_
      simp only [pu', p0', c1', c0', i1', z0', b8_nat]
      refine smove ?_
      simp only [pu', p0', c1', c0', i1', z0', b8_nat]
      refine saddS ?_
      simp only [pu', p0', c1', c0', i1', z0', b8_nat]
      refine sassign ?_
      simp only [pu', p0', c1', c0', i1', z0', b8_nat]
      refine sassign ?_
      simp only [pu', p0', c1', c0', i1', z0', b8_nat]
      with_reducible refine s_end ?_
      with_reducible refine s_then ?_
      with_reducible refine s_ret ?_
      rotate_left 1
    · all_goals try with_reducible refine w_n ?_
      all_goals refine w_2 rfl (by first | exact v_t (by rfl) | exact v_c1 (C1.p) (by rfl) (HA.p) (by rfl) | exact v_cF (CA.p) (by rfl) (HA.p) (by rfl)) (by first | exact v_t (by rfl) | exact v_c1 (C1.p) (by rfl) (HA.p) (by rfl) | exact v_cF (CA.p) (by rfl) (HA.p) (by rfl)) ?_
      rw [wr_long hk (by omega)]
      exact ⟨rfl, rfl⟩
    · all_goals try with_reducible refine w_n ?_
      all_goals refine w_2 rfl (by first | exact v_t (by rfl) | exact v_c1 (C1.p) (by rfl) (HA.p) (by rfl) | exact v_cF (CA.p) (by rfl) (HA.p) (by rfl)) (by first | exact v_t (by rfl) | exact v_c1 (C1.p) (by rfl) (HA.p) (by rfl) | exact v_cF (CA.p) (by rfl) (HA.p) (by rfl)) ?_
      rw [wr_ok hk (by omega)]
      exact ⟨rfl, rfl⟩
theorem wrR_shape (k : Int) (l : List UInt8) : ∃ x e, wrR k l = .tup [St x, I e] := by
  unfold wrR
  repeat' split
  all_goals exact ⟨_, _, rfl⟩
theorem magR_shape (k : Int) : ∃ x e, magR k = .tup [W32 x, I e] := by
  unfold magR
  split
  all_goals exact ⟨_, _, rfl⟩
theorem law3 (k : Int) (l : List UInt8) : ACalls Try.prog 3 [I k, St l] [] (fun r _ => r = B true) := by
  have m := magic_any k
  have rm := rmagic_any k
  have w := write_any k l
  have rw' := rwrite_any k l
  obtain ⟨x1, e1, h1⟩ := wrR_shape k l
  obtain ⟨x2, e2, h2⟩ := magR_shape k
  rw [h1] at w rw'
  rw [h2] at m rm
  have hl : (l.length : Int) ≤ 9223372036854775807 ∨ True := .inr trivial
  refine acalls_of_wk hm Try.func3 rfl ?_
  simp only [Try.ntmps3, List.length_cons, List.length_nil, Nat.reduceAdd, Nat.reduceSub, List.reduceReplicate, List.cons_append, List.nil_append]
  show wk _ _ none _ _ ⟨_, []⟩ _
  focus
    with_reducible refine s_seq ?_
    with_reducible refine s_reg ?_
    refine sassign ?_
    simp only [pu', p0', c1', c0', i1', z0', b8_nat]
    with_reducible refine s_end ?_
    with_reducible refine s_then ?_
    with_reducible refine s_seq ?_
    with_reducible refine s_seq ?_
    with_reducible refine s_reg ?_
    refine smove ?_
    simp only [pu', p0', c1', c0', i1', z0', b8_nat]
    refine slenS ?_
    simp only [pu', p0', c1', c0', i1', z0', b8_nat]
    refine sGt (fun hb => ?_) (fun hb => ?_)
    replace hb := dT' hb
    simp only [pu', p0', c1', c0', i1', z0', b8_nat]
    refine smove ?_
    simp only [pu', p0', c1', c0', i1', z0', b8_nat]
    refine smove ?_
    simp only [pu', p0', c1', c0', i1', z0', b8_nat]
    refine slenS ?_
    simp only [pu', p0', c1', c0', i1', z0', b8_nat]
    refine sLt (fun hb => ?_) (fun hb => ?_)
    replace hb := dT' hb
    simp only [pu', p0', c1', c0', i1', z0', b8_nat]
    refine smove ?_
    simp only [pu', p0', c1', c0', i1', z0', b8_nat]
    refine sN ?_
    simp only [pu', p0', c1', c0', i1', z0', b8_nat]
    refine sN ?_
    simp only [pu', p0', c1', c0', i1', z0', b8_nat]
    refine sN ?_
    simp only [pu', p0', c1', c0', i1', z0', b8_nat]
    refine spickT ?_
    simp only [pu', p0', c1', c0', i1', z0', b8_nat]
    refine spickT ?_
    simp only [pu', p0', c1', c0', i1', z0', b8_nat]
    with_reducible refine s_end ?_
    with_reducible refine s_then ?_
    refine sCT ?_
    with_reducible refine s_seq ?_
    with_reducible refine s_reg ?_
    refine sK (hx := rfl) (awake_any) ?_
    simp only [pu', p0', c1', c0', i1', z0', b8_nat]
    refine sassign ?_
    simp only [pu', p0', c1', c0', i1', z0', b8_nat]
    with_reducible refine s_end ?_
    with_reducible refine s_then ?_
    with_reducible refine s_ret ?_
    with_reducible refine s_thenR ?_
    rotate_left 1
    replace hb := dF' hb
    simp only [pu', p0', c1', c0', i1', z0', b8_nat]
    refine smove ?_
    simp only [pu', p0', c1', c0', i1', z0', b8_nat]
    refine smove ?_
    simp only [pu', p0', c1', c0', i1', z0', b8_nat]
    refine slenS ?_
    simp only [pu', p0', c1', c0', i1', z0', b8_nat]
    refine sGt (fun hb => ?_) (fun hb => ?_)
    replace hb := dT' hb
    simp only [pu', p0', c1', c0', i1', z0', b8_nat]
    refine spickF ?_
    simp only [pu', p0', c1', c0', i1', z0', b8_nat]
    refine spickT ?_
    simp only [pu', p0', c1', c0', i1', z0', b8_nat]
    with_reducible refine s_end ?_
    with_reducible refine s_then ?_
    refine sCT ?_
    with_reducible refine s_seq ?_
    with_reducible refine s_reg ?_
    refine sK (hx := rfl) (awake_any) ?_
    simp only [pu', p0', c1', c0', i1', z0', b8_nat]
    refine sassign ?_
    simp only [pu', p0', c1', c0', i1', z0', b8_nat]
    with_reducible refine s_end ?_
    with_reducible refine s_then ?_
    with_reducible refine s_ret ?_
    with_reducible refine s_thenR ?_
    rotate_left 1
    replace hb := dF' hb
    simp only [pu', p0', c1', c0', i1', z0', b8_nat]
    refine spickF ?_
    simp only [pu', p0', c1', c0', i1', z0', b8_nat]
    refine spickT ?_
    simp only [pu', p0', c1', c0', i1', z0', b8_nat]
    with_reducible refine s_end ?_
    with_reducible refine s_then ?_
    refine sCF ?_
    with_reducible refine s_skip ?_
    with_reducible refine s_then ?_
    with_reducible refine s_seq ?_
    with_reducible refine s_reg ?_
    refine smove ?_
    simp only [pu', p0', c1', c0', i1', z0', b8_nat]
    refine smove ?_
    simp only [pu', p0', c1', c0', i1', z0', b8_nat]
    refine sK (hx := rfl) (w) ?_
    simp only [pu', p0', c1', c0', i1', z0', b8_nat]
    refine smove ?_
    simp only [pu', p0', c1', c0', i1', z0', b8_nat]
    refine sext ?_
    simp only [pu', p0', c1', c0', i1', z0', b8_nat]
    refine sext ?_
    simp only [pu', p0', c1', c0', i1', z0', b8_nat]
    refine sassign ?_
    simp only [pu', p0', c1', c0', i1', z0', b8_nat]
    refine sassign ?_
    simp only [pu', p0', c1', c0', i1', z0', b8_nat]
    with_reducible refine s_end ?_
    with_reducible refine s_then ?_
    with_reducible refine s_seq ?_
    with_reducible refine s_reg ?_
    refine smove ?_
    simp only [pu', p0', c1', c0', i1', z0', b8_nat]
    refine smove ?_
    simp only [pu', p0', c1', c0', i1', z0', b8_nat]
    refine sK (hx := rfl) (rw') ?_
    simp only [pu', p0', c1', c0', i1', z0', b8_nat]
    refine smove ?_
    simp only [pu', p0', c1', c0', i1', z0', b8_nat]
    refine sext ?_
    simp only [pu', p0', c1', c0', i1', z0', b8_nat]
    refine sext ?_
    simp only [pu', p0', c1', c0', i1', z0', b8_nat]
    refine sassign ?_
    simp only [pu', p0', c1', c0', i1', z0', b8_nat]
    refine sassign ?_
    simp only [pu', p0', c1', c0', i1', z0', b8_nat]
    with_reducible refine s_end ?_
    with_reducible refine s_then ?_
    with_reducible refine s_seq ?_
    with_reducible refine s_reg ?_
    refine smove ?_
    simp only [pu', p0', c1', c0', i1', z0', b8_nat]
    refine sK (hx := rfl) (m) ?_
    simp only [pu', p0', c1', c0', i1', z0', b8_nat]
    refine smove ?_
    simp only [pu', p0', c1', c0', i1', z0', b8_nat]
    refine sext ?_
    simp only [pu', p0', c1', c0', i1', z0', b8_nat]
    refine sext ?_
    simp only [pu', p0', c1', c0', i1', z0', b8_nat]
    refine sassign ?_
    simp only [pu', p0', c1', c0', i1', z0', b8_nat]
    refine sassign ?_
    simp only [pu', p0', c1', c0', i1', z0', b8_nat]
    with_reducible refine s_end ?_
    with_reducible refine s_then ?_
    with_reducible refine s_seq ?_
    with_reducible refine s_reg ?_
    refine smove ?_
    simp only [pu', p0', c1', c0', i1', z0', b8_nat]
    refine sK (hx := rfl) (rm) ?_
    simp only [pu', p0', c1', c0', i1', z0', b8_nat]
    refine smove ?_
    simp only [pu', p0', c1', c0', i1', z0', b8_nat]
    refine sext ?_
    simp only [pu', p0', c1', c0', i1', z0', b8_nat]
    refine sext ?_
    simp only [pu', p0', c1', c0', i1', z0', b8_nat]
    refine sassign ?_
    simp only [pu', p0', c1', c0', i1', z0', b8_nat]
    refine sassign ?_
    simp only [pu', p0', c1', c0', i1', z0', b8_nat]
    with_reducible refine s_end ?_
    with_reducible refine s_then ?_
    with_reducible refine s_seq ?_
    with_reducible refine s_reg ?_
    refine smove ?_
    simp only [pu', p0', c1', c0', i1', z0', b8_nat]
    refine smove ?_
    simp only [pu', p0', c1', c0', i1', z0', b8_nat]
    refine seqS (fun hb => ?_) (fun hb => ?_)
    replace hb := dT' hb
    simp only [pu', p0', c1', c0', i1', z0', b8_nat]
    refine smove ?_
    simp only [pu', p0', c1', c0', i1', z0', b8_nat]
    refine smove ?_
    simp only [pu', p0', c1', c0', i1', z0', b8_nat]
    refine smove ?_
    simp only [pu', p0', c1', c0', i1', z0', b8_nat]
    refine sEq (fun hb => ?_) (fun hb => ?_)
    replace hb := dT' hb
    simp only [pu', p0', c1', c0', i1', z0', b8_nat]
    refine spickT ?_
    simp only [pu', p0', c1', c0', i1', z0', b8_nat]
    refine smove ?_
    simp only [pu', p0', c1', c0', i1', z0', b8_nat]
    refine smove ?_
    simp only [pu', p0', c1', c0', i1', z0', b8_nat]
    refine smove ?_
    simp only [pu', p0', c1', c0', i1', z0', b8_nat]
    refine sEq (fun hb => ?_) (fun hb => ?_)
    replace hb := dT' hb
    simp only [pu', p0', c1', c0', i1', z0', b8_nat]
    refine spickT ?_
    simp only [pu', p0', c1', c0', i1', z0', b8_nat]
    refine smove ?_
    simp only [pu', p0', c1', c0', i1', z0', b8_nat]
    refine smove ?_
    simp only [pu', p0', c1', c0', i1', z0', b8_nat]
    refine smove ?_
    simp only [pu', p0', c1', c0', i1', z0', b8_nat]
    refine sEq (fun hb => ?_) (fun hb => ?_)
    replace hb := dT' hb
    simp only [pu', p0', c1', c0', i1', z0', b8_nat]
    refine spickT ?_
    simp only [pu', p0', c1', c0', i1', z0', b8_nat]
    refine smove ?_
    simp only [pu', p0', c1', c0', i1', z0', b8_nat]
    refine sK (hx := rfl) (awake_any) ?_
    simp only [pu', p0', c1', c0', i1', z0', b8_nat]
    refine spickT ?_
    simp only [pu', p0', c1', c0', i1', z0', b8_nat]
    refine sassign ?_
    simp only [pu', p0', c1', c0', i1', z0', b8_nat]
    with_reducible refine s_end ?_
    with_reducible refine s_then ?_
    with_reducible refine s_ret ?_
    rotate_left 1
    replace hb := dF' hb
    exact absurd rfl hb
    replace hb := dF' hb
    exact absurd rfl hb
    replace hb := dF' hb
    exact absurd rfl hb
    replace hb := dF' hb
    exact absurd rfl hb
    replace hb := dF' hb
    simp only [pu', p0', c1', c0', i1', z0', b8_nat]
    refine smove ?_
    simp only [pu', p0', c1', c0', i1', z0', b8_nat]
    refine sN ?_
    simp only [pu', p0', c1', c0', i1', z0', b8_nat]
    refine sN ?_
    simp only [pu', p0', c1', c0', i1', z0', b8_nat]
    refine sN ?_
    simp only [pu', p0', c1', c0', i1', z0', b8_nat]
    refine sN ?_
    simp only [pu', p0', c1', c0', i1', z0', b8_nat]
    refine sN ?_
    simp only [pu', p0', c1', c0', i1', z0', b8_nat]
    refine sN ?_
    simp only [pu', p0', c1', c0', i1', z0', b8_nat]
    refine sN ?_
    simp only [pu', p0', c1', c0', i1', z0', b8_nat]
    refine sN ?_
    simp only [pu', p0', c1', c0', i1', z0', b8_nat]
    refine spickF ?_
    simp only [pu', p0', c1', c0', i1', z0', b8_nat]
    with_reducible refine s_end ?_
    with_reducible refine s_then ?_
    refine sCF ?_
    with_reducible refine s_skip ?_
    with_reducible refine s_then ?_
    with_reducible refine s_seq ?_
    with_reducible refine s_reg ?_
    refine smove ?_
    simp only [pu', p0', c1', c0', i1', z0', b8_nat]
    refine smove ?_
    simp only [pu', p0', c1', c0', i1', z0', b8_nat]
    refine sK (hx := rfl) (w) ?_
    simp only [pu', p0', c1', c0', i1', z0', b8_nat]
    refine smove ?_
    simp only [pu', p0', c1', c0', i1', z0', b8_nat]
    refine sext ?_
    simp only [pu', p0', c1', c0', i1', z0', b8_nat]
    refine sext ?_
    simp only [pu', p0', c1', c0', i1', z0', b8_nat]
    refine sassign ?_
    simp only [pu', p0', c1', c0', i1', z0', b8_nat]
    refine sassign ?_
    simp only [pu', p0', c1', c0', i1', z0', b8_nat]
    with_reducible refine s_end ?_
    with_reducible refine s_then ?_
    with_reducible refine s_seq ?_
    with_reducible refine s_reg ?_
    refine smove ?_
    simp only [pu', p0', c1', c0', i1', z0', b8_nat]
    refine smove ?_
    simp only [pu', p0', c1', c0', i1', z0', b8_nat]
    refine sK (hx := rfl) (rw') ?_
    simp only [pu', p0', c1', c0', i1', z0', b8_nat]
    refine smove ?_
    simp only [pu', p0', c1', c0', i1', z0', b8_nat]
    refine sext ?_
    simp only [pu', p0', c1', c0', i1', z0', b8_nat]
    refine sext ?_
    simp only [pu', p0', c1', c0', i1', z0', b8_nat]
    refine sassign ?_
    simp only [pu', p0', c1', c0', i1', z0', b8_nat]
    refine sassign ?_
    simp only [pu', p0', c1', c0', i1', z0', b8_nat]
    with_reducible refine s_end ?_
    with_reducible refine s_then ?_
    with_reducible refine s_seq ?_
    with_reducible refine s_reg ?_
    refine smove ?_
    simp only [pu', p0', c1', c0', i1', z0', b8_nat]
    refine sK (hx := rfl) (m) ?_
    simp only [pu', p0', c1', c0', i1', z0', b8_nat]
    refine smove ?_
    simp only [pu', p0', c1', c0', i1', z0', b8_nat]
    refine sext ?_
    simp only [pu', p0', c1', c0', i1', z0', b8_nat]
    refine sext ?_
    simp only [pu', p0', c1', c0', i1', z0', b8_nat]
    refine sassign ?_
    simp only [pu', p0', c1', c0', i1', z0', b8_nat]
    refine sassign ?_
    simp only [pu', p0', c1', c0', i1', z0', b8_nat]
    with_reducible refine s_end ?_
    with_reducible refine s_then ?_
    with_reducible refine s_seq ?_
    with_reducible refine s_reg ?_
    refine smove ?_
    simp only [pu', p0', c1', c0', i1', z0', b8_nat]
    refine sK (hx := rfl) (rm) ?_
    simp only [pu', p0', c1', c0', i1', z0', b8_nat]
    refine smove ?_
    simp only [pu', p0', c1', c0', i1', z0', b8_nat]
    refine sext ?_
    simp only [pu', p0', c1', c0', i1', z0', b8_nat]
    refine sext ?_
    simp only [pu', p0', c1', c0', i1', z0', b8_nat]
    refine sassign ?_
    simp only [pu', p0', c1', c0', i1', z0', b8_nat]
    refine sassign ?_
    simp only [pu', p0', c1', c0', i1', z0', b8_nat]
    with_reducible refine s_end ?_
    with_reducible refine s_then ?_
    with_reducible refine s_seq ?_
    with_reducible refine s_reg ?_
    refine smove ?_
    simp only [pu', p0', c1', c0', i1', z0', b8_nat]
    refine smove ?_
    simp only [pu', p0', c1', c0', i1', z0', b8_nat]
    refine seqS (fun hb => ?_) (fun hb => ?_)
    replace hb := dT' hb
    simp only [pu', p0', c1', c0', i1', z0', b8_nat]
    refine smove ?_
    simp only [pu', p0', c1', c0', i1', z0', b8_nat]
    refine smove ?_
    simp only [pu', p0', c1', c0', i1', z0', b8_nat]
    refine smove ?_
    simp only [pu', p0', c1', c0', i1', z0', b8_nat]
    refine sEq (fun hb => ?_) (fun hb => ?_)
    replace hb := dT' hb
    simp only [pu', p0', c1', c0', i1', z0', b8_nat]
    refine spickT ?_
    simp only [pu', p0', c1', c0', i1', z0', b8_nat]
    refine smove ?_
    simp only [pu', p0', c1', c0', i1', z0', b8_nat]
    refine smove ?_
    simp only [pu', p0', c1', c0', i1', z0', b8_nat]
    refine smove ?_
    simp only [pu', p0', c1', c0', i1', z0', b8_nat]
    refine sEq (fun hb => ?_) (fun hb => ?_)
    replace hb := dT' hb
    simp only [pu', p0', c1', c0', i1', z0', b8_nat]
    refine spickT ?_
    simp only [pu', p0', c1', c0', i1', z0', b8_nat]
    refine smove ?_
    simp only [pu', p0', c1', c0', i1', z0', b8_nat]
    refine smove ?_
    simp only [pu', p0', c1', c0', i1', z0', b8_nat]
    refine smove ?_
    simp only [pu', p0', c1', c0', i1', z0', b8_nat]
    refine sEq (fun hb => ?_) (fun hb => ?_)
    replace hb := dT' hb
    simp only [pu', p0', c1', c0', i1', z0', b8_nat]
    refine spickT ?_
    simp only [pu', p0', c1', c0', i1', z0', b8_nat]
    refine smove ?_
    simp only [pu', p0', c1', c0', i1', z0', b8_nat]
    refine sK (hx := rfl) (awake_any) ?_
    simp only [pu', p0', c1', c0', i1', z0', b8_nat]
    refine spickT ?_
    simp only [pu', p0', c1', c0', i1', z0', b8_nat]
    refine sassign ?_
    simp only [pu', p0', c1', c0', i1', z0', b8_nat]
    with_reducible refine s_end ?_
    with_reducible refine s_then ?_
    with_reducible refine s_ret ?_
    rotate_left 1
    replace hb := dF' hb
    exact absurd rfl hb
    replace hb := dF' hb
    exact absurd rfl hb
    replace hb := dF' hb
    exact absurd rfl hb
    replace hb := dF' hb
    exact absurd rfl hb
  all_goals try with_reducible refine w_n ?_
  all_goals refine w_1 rfl (by first | exact v_t (by rfl) | exact v_c1 (C1.p) (by rfl) (HA.p) (by rfl) | exact v_cF (CA.p) (by rfl) (HA.p) (by rfl)) ?_
  all_goals rfl
end Go.Proofs.Ythhbhekccacmlaa
