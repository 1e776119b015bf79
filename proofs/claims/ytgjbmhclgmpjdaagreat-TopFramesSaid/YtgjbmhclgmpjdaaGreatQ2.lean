/-
  A part of the proof of a statement of a chapter's seat; conditions: stated at each theorem.
-/
import Derived.Test.YtgjbmhclgmpjdaaGreatQ1
set_option linter.unusedVariables false
set_option linter.unusedSectionVars false
set_option linter.unusedSimpArgs false
set_option linter.unusedVariables false
set_option maxRecDepth 100000
set_option maxHeartbeats 8000000
namespace Go.Proofs.YtgjbmhclgmpjdaaGreat
open Go.Az Go
theorem s1_1 : isS1 Tryz.prog 1 = true := by kernel_rfl
instance : C1 Tryz.prog 1 := ⟨s1_1⟩
theorem el_1 : elOkQ Tryz.prog 1 1 = true := by kernel_rfl
instance : CE Tryz.prog 1 1 := ⟨el_1⟩
theorem z_1 : zeroA Tryz.prog 1 = some [.v .nilFunc] := by kernel_rfl
instance : CZ Tryz.prog 1 [.v .nilFunc] := ⟨z_1⟩
theorem s1_2 : isS1 Tryz.prog 2 = true := by kernel_rfl
instance : C1 Tryz.prog 2 := ⟨s1_2⟩
theorem el_2 : elOkQ Tryz.prog 2 1 = true := by kernel_rfl
instance : CE Tryz.prog 2 1 := ⟨el_2⟩
theorem u_2 : Tryz.prog.underlying 2 = some (.int .i64) := by kernel_rfl
instance : CU Tryz.prog 2 .i64 := ⟨u_2⟩
theorem z_2 : zeroA Tryz.prog 2 = some [.v (.int .i64 0)] := by kernel_rfl
instance : CZ Tryz.prog 2 [.v (.int .i64 0)] := ⟨z_2⟩
theorem s1_3 : isS1 Tryz.prog 3 = true := by kernel_rfl
instance : C1 Tryz.prog 3 := ⟨s1_3⟩
theorem el_3 : elOkQ Tryz.prog 3 1 = true := by kernel_rfl
instance : CE Tryz.prog 3 1 := ⟨el_3⟩
theorem u_3 : Tryz.prog.underlying 3 = some (.int .i64) := by kernel_rfl
instance : CU Tryz.prog 3 .i64 := ⟨u_3⟩
theorem z_3 : zeroA Tryz.prog 3 = some [.v (.int .i64 0)] := by kernel_rfl
instance : CZ Tryz.prog 3 [.v (.int .i64 0)] := ⟨z_3⟩
theorem s1_4 : isS1 Tryz.prog 4 = true := by kernel_rfl
instance : C1 Tryz.prog 4 := ⟨s1_4⟩
theorem el_4 : elOkQ Tryz.prog 4 1 = true := by kernel_rfl
instance : CE Tryz.prog 4 1 := ⟨el_4⟩
theorem bo_4 : Tryz.prog.underlying 4 = some .bool := by kernel_rfl
instance : CB Tryz.prog 4 := ⟨bo_4⟩
theorem z_4 : zeroA Tryz.prog 4 = some [.v (.bool false)] := by kernel_rfl
instance : CZ Tryz.prog 4 [.v (.bool false)] := ⟨z_4⟩
theorem s1_5 : isS1 Tryz.prog 5 = true := by kernel_rfl
instance : C1 Tryz.prog 5 := ⟨s1_5⟩
theorem el_5 : elOkQ Tryz.prog 5 1 = true := by kernel_rfl
instance : CE Tryz.prog 5 1 := ⟨el_5⟩
theorem u_5 : Tryz.prog.underlying 5 = some (.int .u8) := by kernel_rfl
instance : CU Tryz.prog 5 .u8 := ⟨u_5⟩
theorem z_5 : zeroA Tryz.prog 5 = some [.v (.int .u8 0)] := by kernel_rfl
instance : CZ Tryz.prog 5 [.v (.int .u8 0)] := ⟨z_5⟩
theorem s1_6 : isS1 Tryz.prog 6 = true := by kernel_rfl
instance : C1 Tryz.prog 6 := ⟨s1_6⟩
theorem el_6 : elOkQ Tryz.prog 6 1 = true := by kernel_rfl
instance : CE Tryz.prog 6 1 := ⟨el_6⟩
theorem u_6 : Tryz.prog.underlying 6 = some (.int .u8) := by kernel_rfl
instance : CU Tryz.prog 6 .u8 := ⟨u_6⟩
theorem z_6 : zeroA Tryz.prog 6 = some [.v (.int .u8 0)] := by kernel_rfl
instance : CZ Tryz.prog 6 [.v (.int .u8 0)] := ⟨z_6⟩
theorem ag_7 : isAg Tryz.prog 7 4 = true := by kernel_rfl
instance : CA Tryz.prog 7 4 := ⟨ag_7⟩
theorem el_7 : elOkQ Tryz.prog 7 4 = true := by kernel_rfl
instance : CE Tryz.prog 7 4 := ⟨el_7⟩
theorem fad_7_0 : fadOf Tryz.prog 7 0 = some 0 := by kernel_rfl
instance : CF Tryz.prog 7 0 0 := ⟨fad_7_0⟩
theorem fad_7_1 : fadOf Tryz.prog 7 1 = some 1 := by kernel_rfl
instance : CF Tryz.prog 7 1 1 := ⟨fad_7_1⟩
theorem fad_7_2 : fadOf Tryz.prog 7 2 = some 2 := by kernel_rfl
instance : CF Tryz.prog 7 2 2 := ⟨fad_7_2⟩
theorem fad_7_3 : fadOf Tryz.prog 7 3 = some 3 := by kernel_rfl
instance : CF Tryz.prog 7 3 3 := ⟨fad_7_3⟩
theorem z_7 : zeroA Tryz.prog 7 = some [.v (.int .i64 0), .v (.int .i64 0), .v (.bool false), .v (.int .u8 0)] := by kernel_rfl
instance : CZ Tryz.prog 7 [.v (.int .i64 0), .v (.int .i64 0), .v (.bool false), .v (.int .u8 0)] := ⟨z_7⟩
theorem ag_8 : isAg Tryz.prog 8 4 = true := by kernel_rfl
instance : CA Tryz.prog 8 4 := ⟨ag_8⟩
theorem el_8 : elOkQ Tryz.prog 8 4 = true := by kernel_rfl
instance : CE Tryz.prog 8 4 := ⟨el_8⟩
theorem fad_8_0 : fadOf Tryz.prog 8 0 = some 0 := by kernel_rfl
instance : CF Tryz.prog 8 0 0 := ⟨fad_8_0⟩
theorem fad_8_1 : fadOf Tryz.prog 8 1 = some 1 := by kernel_rfl
instance : CF Tryz.prog 8 1 1 := ⟨fad_8_1⟩
theorem fad_8_2 : fadOf Tryz.prog 8 2 = some 2 := by kernel_rfl
instance : CF Tryz.prog 8 2 2 := ⟨fad_8_2⟩
theorem fad_8_3 : fadOf Tryz.prog 8 3 = some 3 := by kernel_rfl
instance : CF Tryz.prog 8 3 3 := ⟨fad_8_3⟩
theorem z_8 : zeroA Tryz.prog 8 = some [.v (.int .i64 0), .v (.int .i64 0), .v (.bool false), .v (.int .u8 0)] := by kernel_rfl
instance : CZ Tryz.prog 8 [.v (.int .i64 0), .v (.int .i64 0), .v (.bool false), .v (.int .u8 0)] := ⟨z_8⟩
theorem s1_9 : isS1 Tryz.prog 9 = true := by kernel_rfl
instance : C1 Tryz.prog 9 := ⟨s1_9⟩
theorem st_9 : strTy Tryz.prog 9 = true := by kernel_rfl
instance : CT Tryz.prog 9 := ⟨st_9⟩
theorem el_9 : elOkQ Tryz.prog 9 1 = true := by kernel_rfl
instance : CE Tryz.prog 9 1 := ⟨el_9⟩
theorem z_9 : zeroA Tryz.prog 9 = some [.v (.string (mkB []))] := by kernel_rfl
instance : CZ Tryz.prog 9 [.v (.string (mkB []))] := ⟨z_9⟩
theorem s1_10 : isS1 Tryz.prog 10 = true := by kernel_rfl
instance : C1 Tryz.prog 10 := ⟨s1_10⟩
theorem st_10 : strTy Tryz.prog 10 = true := by kernel_rfl
instance : CT Tryz.prog 10 := ⟨st_10⟩
theorem el_10 : elOkQ Tryz.prog 10 1 = true := by kernel_rfl
instance : CE Tryz.prog 10 1 := ⟨el_10⟩
theorem z_10 : zeroA Tryz.prog 10 = some [.v (.string (mkB []))] := by kernel_rfl
instance : CZ Tryz.prog 10 [.v (.string (mkB []))] := ⟨z_10⟩
theorem s1_11 : isS1 Tryz.prog 11 = true := by kernel_rfl
instance : C1 Tryz.prog 11 := ⟨s1_11⟩
theorem st_11 : strTy Tryz.prog 11 = true := by kernel_rfl
instance : CT Tryz.prog 11 := ⟨st_11⟩
theorem el_11 : elOkQ Tryz.prog 11 1 = true := by kernel_rfl
instance : CE Tryz.prog 11 1 := ⟨el_11⟩
theorem z_11 : zeroA Tryz.prog 11 = some [.v (.string (mkB []))] := by kernel_rfl
instance : CZ Tryz.prog 11 [.v (.string (mkB []))] := ⟨z_11⟩
theorem s1_12 : isS1 Tryz.prog 12 = true := by kernel_rfl
instance : C1 Tryz.prog 12 := ⟨s1_12⟩
theorem el_12 : elOkQ Tryz.prog 12 1 = true := by kernel_rfl
instance : CE Tryz.prog 12 1 := ⟨el_12⟩
theorem u_12 : Tryz.prog.underlying 12 = some (.int .u64) := by kernel_rfl
instance : CU Tryz.prog 12 .u64 := ⟨u_12⟩
theorem z_12 : zeroA Tryz.prog 12 = some [.v (.int .u64 0)] := by kernel_rfl
instance : CZ Tryz.prog 12 [.v (.int .u64 0)] := ⟨z_12⟩
theorem ag_13 : isAg Tryz.prog 13 2 = true := by kernel_rfl
instance : CA Tryz.prog 13 2 := ⟨ag_13⟩
theorem el_13 : elOkQ Tryz.prog 13 2 = true := by kernel_rfl
instance : CE Tryz.prog 13 2 := ⟨el_13⟩
theorem fad_13_0 : fadOf Tryz.prog 13 0 = some 0 := by kernel_rfl
instance : CF Tryz.prog 13 0 0 := ⟨fad_13_0⟩
theorem fad_13_1 : fadOf Tryz.prog 13 1 = some 1 := by kernel_rfl
instance : CF Tryz.prog 13 1 1 := ⟨fad_13_1⟩
theorem z_13 : zeroA Tryz.prog 13 = some [.v (.string (mkB [])), .v (.int .u64 0)] := by kernel_rfl
instance : CZ Tryz.prog 13 [.v (.string (mkB [])), .v (.int .u64 0)] := ⟨z_13⟩
theorem ag_14 : isAg Tryz.prog 14 2 = true := by kernel_rfl
instance : CA Tryz.prog 14 2 := ⟨ag_14⟩
theorem el_14 : elOkQ Tryz.prog 14 2 = true := by kernel_rfl
instance : CE Tryz.prog 14 2 := ⟨el_14⟩
theorem fad_14_0 : fadOf Tryz.prog 14 0 = some 0 := by kernel_rfl
instance : CF Tryz.prog 14 0 0 := ⟨fad_14_0⟩
theorem fad_14_1 : fadOf Tryz.prog 14 1 = some 1 := by kernel_rfl
instance : CF Tryz.prog 14 1 1 := ⟨fad_14_1⟩
theorem z_14 : zeroA Tryz.prog 14 = some [.v (.string (mkB [])), .v (.int .u64 0)] := by kernel_rfl
instance : CZ Tryz.prog 14 [.v (.string (mkB [])), .v (.int .u64 0)] := ⟨z_14⟩
theorem s1_15 : isS1 Tryz.prog 15 = true := by kernel_rfl
instance : C1 Tryz.prog 15 := ⟨s1_15⟩
theorem el_15 : elOkQ Tryz.prog 15 1 = true := by kernel_rfl
instance : CE Tryz.prog 15 1 := ⟨el_15⟩
theorem z_15 : zeroA Tryz.prog 15 = some [.v (.pointer none)] := by kernel_rfl
instance : CZ Tryz.prog 15 [.v (.pointer none)] := ⟨z_15⟩
theorem s1_16 : isS1 Tryz.prog 16 = true := by kernel_rfl
instance : C1 Tryz.prog 16 := ⟨s1_16⟩
theorem el_16 : elOkQ Tryz.prog 16 1 = true := by kernel_rfl
instance : CE Tryz.prog 16 1 := ⟨el_16⟩
theorem z_16 : zeroA Tryz.prog 16 = some [.v (.pointer none)] := by kernel_rfl
instance : CZ Tryz.prog 16 [.v (.pointer none)] := ⟨z_16⟩
theorem s1_17 : isS1 Tryz.prog 17 = true := by kernel_rfl
instance : C1 Tryz.prog 17 := ⟨s1_17⟩
theorem el_17 : elOkQ Tryz.prog 17 1 = true := by kernel_rfl
instance : CE Tryz.prog 17 1 := ⟨el_17⟩
theorem z_17 : zeroA Tryz.prog 17 = some [.v (.pointer none)] := by kernel_rfl
instance : CZ Tryz.prog 17 [.v (.pointer none)] := ⟨z_17⟩
theorem ag_18 : isAg Tryz.prog 18 1 = true := by kernel_rfl
instance : CA Tryz.prog 18 1 := ⟨ag_18⟩
theorem el_18 : elOkQ Tryz.prog 18 1 = true := by kernel_rfl
instance : CE Tryz.prog 18 1 := ⟨el_18⟩
theorem fad_18_0 : fadOf Tryz.prog 18 0 = some 0 := by kernel_rfl
instance : CF Tryz.prog 18 0 0 := ⟨fad_18_0⟩
theorem z_18 : zeroA Tryz.prog 18 = some [.v (.pointer none)] := by kernel_rfl
instance : CZ Tryz.prog 18 [.v (.pointer none)] := ⟨z_18⟩
theorem ag_19 : isAg Tryz.prog 19 1 = true := by kernel_rfl
instance : CA Tryz.prog 19 1 := ⟨ag_19⟩
theorem el_19 : elOkQ Tryz.prog 19 1 = true := by kernel_rfl
instance : CE Tryz.prog 19 1 := ⟨el_19⟩
theorem fad_19_0 : fadOf Tryz.prog 19 0 = some 0 := by kernel_rfl
instance : CF Tryz.prog 19 0 0 := ⟨fad_19_0⟩
theorem z_19 : zeroA Tryz.prog 19 = some [.v (.pointer none)] := by kernel_rfl
instance : CZ Tryz.prog 19 [.v (.pointer none)] := ⟨z_19⟩
theorem s1_20 : isS1 Tryz.prog 20 = true := by kernel_rfl
instance : C1 Tryz.prog 20 := ⟨s1_20⟩
theorem el_20 : elOkQ Tryz.prog 20 1 = true := by kernel_rfl
instance : CE Tryz.prog 20 1 := ⟨el_20⟩
theorem z_20 : zeroA Tryz.prog 20 = some [.v .nilIface] := by kernel_rfl
instance : CZ Tryz.prog 20 [.v .nilIface] := ⟨z_20⟩
theorem s1_21 : isS1 Tryz.prog 21 = true := by kernel_rfl
instance : C1 Tryz.prog 21 := ⟨s1_21⟩
theorem el_21 : elOkQ Tryz.prog 21 1 = true := by kernel_rfl
instance : CE Tryz.prog 21 1 := ⟨el_21⟩
theorem u_21 : Tryz.prog.underlying 21 = some (.int .i32) := by kernel_rfl
instance : CU Tryz.prog 21 .i32 := ⟨u_21⟩
theorem z_21 : zeroA Tryz.prog 21 = some [.v (.int .i32 0)] := by kernel_rfl
instance : CZ Tryz.prog 21 [.v (.int .i32 0)] := ⟨z_21⟩
theorem s1_22 : isS1 Tryz.prog 22 = true := by kernel_rfl
instance : C1 Tryz.prog 22 := ⟨s1_22⟩
theorem el_22 : elOkQ Tryz.prog 22 1 = true := by kernel_rfl
instance : CE Tryz.prog 22 1 := ⟨el_22⟩
theorem sl_22 : sliOf Tryz.prog 22 = some (3, 1) := by kernel_rfl
instance : CS Tryz.prog 22 3 1 := ⟨sl_22⟩
theorem z_22 : zeroA Tryz.prog 22 = some [.v (.slice none 0 0)] := by kernel_rfl
instance : CZ Tryz.prog 22 [.v (.slice none 0 0)] := ⟨z_22⟩
theorem s1_23 : isS1 Tryz.prog 23 = true := by kernel_rfl
instance : C1 Tryz.prog 23 := ⟨s1_23⟩
theorem el_23 : elOkQ Tryz.prog 23 1 = true := by kernel_rfl
instance : CE Tryz.prog 23 1 := ⟨el_23⟩
theorem z_23 : zeroA Tryz.prog 23 = some [.v .nilFunc] := by kernel_rfl
instance : CZ Tryz.prog 23 [.v .nilFunc] := ⟨z_23⟩
theorem s1_24 : isS1 Tryz.prog 24 = true := by kernel_rfl
instance : C1 Tryz.prog 24 := ⟨s1_24⟩
theorem el_24 : elOkQ Tryz.prog 24 1 = true := by kernel_rfl
instance : CE Tryz.prog 24 1 := ⟨el_24⟩
theorem z_24 : zeroA Tryz.prog 24 = some [.v .nilFunc] := by kernel_rfl
instance : CZ Tryz.prog 24 [.v .nilFunc] := ⟨z_24⟩
theorem s1_25 : isS1 Tryz.prog 25 = true := by kernel_rfl
instance : C1 Tryz.prog 25 := ⟨s1_25⟩
theorem el_25 : elOkQ Tryz.prog 25 1 = true := by kernel_rfl
instance : CE Tryz.prog 25 1 := ⟨el_25⟩
theorem u_25 : Tryz.prog.underlying 25 = some (.int .i64) := by kernel_rfl
instance : CU Tryz.prog 25 .i64 := ⟨u_25⟩
theorem z_25 : zeroA Tryz.prog 25 = some [.v (.int .i64 0)] := by kernel_rfl
instance : CZ Tryz.prog 25 [.v (.int .i64 0)] := ⟨z_25⟩
theorem ag_26 : isAg Tryz.prog 26 2 = true := by kernel_rfl
instance : CA Tryz.prog 26 2 := ⟨ag_26⟩
theorem el_26 : elOkQ Tryz.prog 26 2 = true := by kernel_rfl
instance : CE Tryz.prog 26 2 := ⟨el_26⟩
theorem fad_26_0 : fadOf Tryz.prog 26 0 = some 0 := by kernel_rfl
instance : CF Tryz.prog 26 0 0 := ⟨fad_26_0⟩
theorem fad_26_1 : fadOf Tryz.prog 26 1 = some 1 := by kernel_rfl
instance : CF Tryz.prog 26 1 1 := ⟨fad_26_1⟩
theorem z_26 : zeroA Tryz.prog 26 = some [.v (.int .i64 0), .v (.int .i64 0)] := by kernel_rfl
instance : CZ Tryz.prog 26 [.v (.int .i64 0), .v (.int .i64 0)] := ⟨z_26⟩
theorem ag_27 : isAg Tryz.prog 27 2 = true := by kernel_rfl
instance : CA Tryz.prog 27 2 := ⟨ag_27⟩
theorem el_27 : elOkQ Tryz.prog 27 2 = true := by kernel_rfl
instance : CE Tryz.prog 27 2 := ⟨el_27⟩
theorem fad_27_0 : fadOf Tryz.prog 27 0 = some 0 := by kernel_rfl
instance : CF Tryz.prog 27 0 0 := ⟨fad_27_0⟩
theorem fad_27_1 : fadOf Tryz.prog 27 1 = some 1 := by kernel_rfl
instance : CF Tryz.prog 27 1 1 := ⟨fad_27_1⟩
theorem z_27 : zeroA Tryz.prog 27 = some [.v (.int .i64 0), .v (.int .i64 0)] := by kernel_rfl
instance : CZ Tryz.prog 27 [.v (.int .i64 0), .v (.int .i64 0)] := ⟨z_27⟩
theorem s1_29 : isS1 Tryz.prog 29 = true := by kernel_rfl
instance : C1 Tryz.prog 29 := ⟨s1_29⟩
theorem el_29 : elOkQ Tryz.prog 29 1 = true := by kernel_rfl
instance : CE Tryz.prog 29 1 := ⟨el_29⟩
theorem z_29 : zeroA Tryz.prog 29 = some [.v .nilFunc] := by kernel_rfl
instance : CZ Tryz.prog 29 [.v .nilFunc] := ⟨z_29⟩
theorem s1_30 : isS1 Tryz.prog 30 = true := by kernel_rfl
instance : C1 Tryz.prog 30 := ⟨s1_30⟩
theorem el_30 : elOkQ Tryz.prog 30 1 = true := by kernel_rfl
instance : CE Tryz.prog 30 1 := ⟨el_30⟩
theorem z_30 : zeroA Tryz.prog 30 = some [.v .nilFunc] := by kernel_rfl
instance : CZ Tryz.prog 30 [.v .nilFunc] := ⟨z_30⟩
theorem s1_31 : isS1 Tryz.prog 31 = true := by kernel_rfl
instance : C1 Tryz.prog 31 := ⟨s1_31⟩
theorem el_31 : elOkQ Tryz.prog 31 1 = true := by kernel_rfl
instance : CE Tryz.prog 31 1 := ⟨el_31⟩
theorem z_31 : zeroA Tryz.prog 31 = some [.v .nilFunc] := by kernel_rfl
instance : CZ Tryz.prog 31 [.v .nilFunc] := ⟨z_31⟩
theorem s1_32 : isS1 Tryz.prog 32 = true := by kernel_rfl
instance : C1 Tryz.prog 32 := ⟨s1_32⟩
theorem el_32 : elOkQ Tryz.prog 32 1 = true := by kernel_rfl
instance : CE Tryz.prog 32 1 := ⟨el_32⟩
theorem z_32 : zeroA Tryz.prog 32 = some [.v .nilFunc] := by kernel_rfl
instance : CZ Tryz.prog 32 [.v .nilFunc] := ⟨z_32⟩
theorem s1_34 : isS1 Tryz.prog 34 = true := by kernel_rfl
instance : C1 Tryz.prog 34 := ⟨s1_34⟩
theorem el_34 : elOkQ Tryz.prog 34 1 = true := by kernel_rfl
instance : CE Tryz.prog 34 1 := ⟨el_34⟩
theorem z_34 : zeroA Tryz.prog 34 = some [.v .nilFunc] := by kernel_rfl
instance : CZ Tryz.prog 34 [.v .nilFunc] := ⟨z_34⟩
theorem s1_35 : isS1 Tryz.prog 35 = true := by kernel_rfl
instance : C1 Tryz.prog 35 := ⟨s1_35⟩
theorem el_35 : elOkQ Tryz.prog 35 1 = true := by kernel_rfl
instance : CE Tryz.prog 35 1 := ⟨el_35⟩
theorem z_35 : zeroA Tryz.prog 35 = some [.v .nilFunc] := by kernel_rfl
instance : CZ Tryz.prog 35 [.v .nilFunc] := ⟨z_35⟩
theorem s1_36 : isS1 Tryz.prog 36 = true := by kernel_rfl
instance : C1 Tryz.prog 36 := ⟨s1_36⟩
theorem el_36 : elOkQ Tryz.prog 36 1 = true := by kernel_rfl
instance : CE Tryz.prog 36 1 := ⟨el_36⟩
theorem sl_36 : sliOf Tryz.prog 36 = some (9, 1) := by kernel_rfl
instance : CS Tryz.prog 36 9 1 := ⟨sl_36⟩
theorem z_36 : zeroA Tryz.prog 36 = some [.v (.slice none 0 0)] := by kernel_rfl
instance : CZ Tryz.prog 36 [.v (.slice none 0 0)] := ⟨z_36⟩
theorem s1_37 : isS1 Tryz.prog 37 = true := by kernel_rfl
instance : C1 Tryz.prog 37 := ⟨s1_37⟩
theorem el_37 : elOkQ Tryz.prog 37 1 = true := by kernel_rfl
instance : CE Tryz.prog 37 1 := ⟨el_37⟩
theorem z_37 : zeroA Tryz.prog 37 = some [.v .nilFunc] := by kernel_rfl
instance : CZ Tryz.prog 37 [.v .nilFunc] := ⟨z_37⟩
theorem s1_38 : isS1 Tryz.prog 38 = true := by kernel_rfl
instance : C1 Tryz.prog 38 := ⟨s1_38⟩
theorem el_38 : elOkQ Tryz.prog 38 1 = true := by kernel_rfl
instance : CE Tryz.prog 38 1 := ⟨el_38⟩
theorem z_38 : zeroA Tryz.prog 38 = some [.v .nilFunc] := by kernel_rfl
instance : CZ Tryz.prog 38 [.v .nilFunc] := ⟨z_38⟩
theorem s1_40 : isS1 Tryz.prog 40 = true := by kernel_rfl
instance : C1 Tryz.prog 40 := ⟨s1_40⟩
theorem el_40 : elOkQ Tryz.prog 40 1 = true := by kernel_rfl
instance : CE Tryz.prog 40 1 := ⟨el_40⟩
theorem z_40 : zeroA Tryz.prog 40 = some [.v .nilFunc] := by kernel_rfl
instance : CZ Tryz.prog 40 [.v .nilFunc] := ⟨z_40⟩
theorem s1_41 : isS1 Tryz.prog 41 = true := by kernel_rfl
instance : C1 Tryz.prog 41 := ⟨s1_41⟩
theorem el_41 : elOkQ Tryz.prog 41 1 = true := by kernel_rfl
instance : CE Tryz.prog 41 1 := ⟨el_41⟩
theorem z_41 : zeroA Tryz.prog 41 = some [.v .nilFunc] := by kernel_rfl
instance : CZ Tryz.prog 41 [.v .nilFunc] := ⟨z_41⟩
theorem s1_42 : isS1 Tryz.prog 42 = true := by kernel_rfl
instance : C1 Tryz.prog 42 := ⟨s1_42⟩
theorem el_42 : elOkQ Tryz.prog 42 1 = true := by kernel_rfl
instance : CE Tryz.prog 42 1 := ⟨el_42⟩
theorem u_42 : Tryz.prog.underlying 42 = some (.int .u32) := by kernel_rfl
instance : CU Tryz.prog 42 .u32 := ⟨u_42⟩
theorem z_42 : zeroA Tryz.prog 42 = some [.v (.int .u32 0)] := by kernel_rfl
instance : CZ Tryz.prog 42 [.v (.int .u32 0)] := ⟨z_42⟩
theorem s1_44 : isS1 Tryz.prog 44 = true := by kernel_rfl
instance : C1 Tryz.prog 44 := ⟨s1_44⟩
theorem el_44 : elOkQ Tryz.prog 44 1 = true := by kernel_rfl
instance : CE Tryz.prog 44 1 := ⟨el_44⟩
theorem z_44 : zeroA Tryz.prog 44 = some [.v .nilFunc] := by kernel_rfl
instance : CZ Tryz.prog 44 [.v .nilFunc] := ⟨z_44⟩
theorem s1_45 : isS1 Tryz.prog 45 = true := by kernel_rfl
instance : C1 Tryz.prog 45 := ⟨s1_45⟩
theorem el_45 : elOkQ Tryz.prog 45 1 = true := by kernel_rfl
instance : CE Tryz.prog 45 1 := ⟨el_45⟩
theorem z_45 : zeroA Tryz.prog 45 = some [.v .nilFunc] := by kernel_rfl
instance : CZ Tryz.prog 45 [.v .nilFunc] := ⟨z_45⟩
theorem s1_46 : isS1 Tryz.prog 46 = true := by kernel_rfl
instance : C1 Tryz.prog 46 := ⟨s1_46⟩
theorem el_46 : elOkQ Tryz.prog 46 1 = true := by kernel_rfl
instance : CE Tryz.prog 46 1 := ⟨el_46⟩
theorem sl_46 : sliOf Tryz.prog 46 = some (5, 1) := by kernel_rfl
instance : CS Tryz.prog 46 5 1 := ⟨sl_46⟩
theorem z_46 : zeroA Tryz.prog 46 = some [.v (.slice none 0 0)] := by kernel_rfl
instance : CZ Tryz.prog 46 [.v (.slice none 0 0)] := ⟨z_46⟩
theorem s1_47 : isS1 Tryz.prog 47 = true := by kernel_rfl
instance : C1 Tryz.prog 47 := ⟨s1_47⟩
theorem el_47 : elOkQ Tryz.prog 47 1 = true := by kernel_rfl
instance : CE Tryz.prog 47 1 := ⟨el_47⟩
theorem z_47 : zeroA Tryz.prog 47 = some [.v .nilFunc] := by kernel_rfl
instance : CZ Tryz.prog 47 [.v .nilFunc] := ⟨z_47⟩
theorem s1_48 : isS1 Tryz.prog 48 = true := by kernel_rfl
instance : C1 Tryz.prog 48 := ⟨s1_48⟩
theorem el_48 : elOkQ Tryz.prog 48 1 = true := by kernel_rfl
instance : CE Tryz.prog 48 1 := ⟨el_48⟩
theorem z_48 : zeroA Tryz.prog 48 = some [.v .nilFunc] := by kernel_rfl
instance : CZ Tryz.prog 48 [.v .nilFunc] := ⟨z_48⟩
theorem s1_49 : isS1 Tryz.prog 49 = true := by kernel_rfl
instance : C1 Tryz.prog 49 := ⟨s1_49⟩
theorem el_49 : elOkQ Tryz.prog 49 1 = true := by kernel_rfl
instance : CE Tryz.prog 49 1 := ⟨el_49⟩
theorem z_49 : zeroA Tryz.prog 49 = some [.v .nilFunc] := by kernel_rfl
instance : CZ Tryz.prog 49 [.v .nilFunc] := ⟨z_49⟩
theorem ag_50 : isAg Tryz.prog 50 5 = true := by kernel_rfl
instance : CA Tryz.prog 50 5 := ⟨ag_50⟩
theorem el_50 : elOkQ Tryz.prog 50 5 = true := by kernel_rfl
instance : CE Tryz.prog 50 5 := ⟨el_50⟩
theorem fad_50_0 : fadOf Tryz.prog 50 0 = some 0 := by kernel_rfl
instance : CF Tryz.prog 50 0 0 := ⟨fad_50_0⟩
theorem fad_50_1 : fadOf Tryz.prog 50 1 = some 1 := by kernel_rfl
instance : CF Tryz.prog 50 1 1 := ⟨fad_50_1⟩
theorem fad_50_2 : fadOf Tryz.prog 50 2 = some 2 := by kernel_rfl
instance : CF Tryz.prog 50 2 2 := ⟨fad_50_2⟩
theorem fad_50_3 : fadOf Tryz.prog 50 3 = some 3 := by kernel_rfl
instance : CF Tryz.prog 50 3 3 := ⟨fad_50_3⟩
theorem z_50 : zeroA Tryz.prog 50 = some [.v (.int .i64 0), .v (.int .i64 0), .v (.string (mkB [])), .v (.int .i64 0), .v (.int .i64 0)] := by kernel_rfl
instance : CZ Tryz.prog 50 [.v (.int .i64 0), .v (.int .i64 0), .v (.string (mkB [])), .v (.int .i64 0), .v (.int .i64 0)] := ⟨z_50⟩
theorem ag_51 : isAg Tryz.prog 51 5 = true := by kernel_rfl
instance : CA Tryz.prog 51 5 := ⟨ag_51⟩
theorem el_51 : elOkQ Tryz.prog 51 5 = true := by kernel_rfl
instance : CE Tryz.prog 51 5 := ⟨el_51⟩
theorem fad_51_0 : fadOf Tryz.prog 51 0 = some 0 := by kernel_rfl
instance : CF Tryz.prog 51 0 0 := ⟨fad_51_0⟩
theorem fad_51_1 : fadOf Tryz.prog 51 1 = some 1 := by kernel_rfl
instance : CF Tryz.prog 51 1 1 := ⟨fad_51_1⟩
theorem fad_51_2 : fadOf Tryz.prog 51 2 = some 2 := by kernel_rfl
instance : CF Tryz.prog 51 2 2 := ⟨fad_51_2⟩
theorem fad_51_3 : fadOf Tryz.prog 51 3 = some 3 := by kernel_rfl
instance : CF Tryz.prog 51 3 3 := ⟨fad_51_3⟩
theorem z_51 : zeroA Tryz.prog 51 = some [.v (.int .i64 0), .v (.int .i64 0), .v (.string (mkB [])), .v (.int .i64 0), .v (.int .i64 0)] := by kernel_rfl
instance : CZ Tryz.prog 51 [.v (.int .i64 0), .v (.int .i64 0), .v (.string (mkB [])), .v (.int .i64 0), .v (.int .i64 0)] := ⟨z_51⟩
theorem s1_52 : isS1 Tryz.prog 52 = true := by kernel_rfl
instance : C1 Tryz.prog 52 := ⟨s1_52⟩
theorem el_52 : elOkQ Tryz.prog 52 1 = true := by kernel_rfl
instance : CE Tryz.prog 52 1 := ⟨el_52⟩
theorem u_52 : Tryz.prog.underlying 52 = some (.int .u64) := by kernel_rfl
instance : CU Tryz.prog 52 .u64 := ⟨u_52⟩
theorem z_52 : zeroA Tryz.prog 52 = some [.v (.int .u64 0)] := by kernel_rfl
instance : CZ Tryz.prog 52 [.v (.int .u64 0)] := ⟨z_52⟩
theorem s1_54 : isS1 Tryz.prog 54 = true := by kernel_rfl
instance : C1 Tryz.prog 54 := ⟨s1_54⟩
theorem el_54 : elOkQ Tryz.prog 54 1 = true := by kernel_rfl
instance : CE Tryz.prog 54 1 := ⟨el_54⟩
theorem z_54 : zeroA Tryz.prog 54 = some [.v .nilIface] := by kernel_rfl
instance : CZ Tryz.prog 54 [.v .nilIface] := ⟨z_54⟩
theorem s1_55 : isS1 Tryz.prog 55 = true := by kernel_rfl
instance : C1 Tryz.prog 55 := ⟨s1_55⟩
theorem el_55 : elOkQ Tryz.prog 55 1 = true := by kernel_rfl
instance : CE Tryz.prog 55 1 := ⟨el_55⟩
theorem z_55 : zeroA Tryz.prog 55 = some [.v .nilIface] := by kernel_rfl
instance : CZ Tryz.prog 55 [.v .nilIface] := ⟨z_55⟩
theorem s1_56 : isS1 Tryz.prog 56 = true := by kernel_rfl
instance : C1 Tryz.prog 56 := ⟨s1_56⟩
theorem el_56 : elOkQ Tryz.prog 56 1 = true := by kernel_rfl
instance : CE Tryz.prog 56 1 := ⟨el_56⟩
theorem z_56 : zeroA Tryz.prog 56 = some [.v .nilFunc] := by kernel_rfl
instance : CZ Tryz.prog 56 [.v .nilFunc] := ⟨z_56⟩
theorem s1_57 : isS1 Tryz.prog 57 = true := by kernel_rfl
instance : C1 Tryz.prog 57 := ⟨s1_57⟩
theorem el_57 : elOkQ Tryz.prog 57 1 = true := by kernel_rfl
instance : CE Tryz.prog 57 1 := ⟨el_57⟩
theorem z_57 : zeroA Tryz.prog 57 = some [.v .nilFunc] := by kernel_rfl
instance : CZ Tryz.prog 57 [.v .nilFunc] := ⟨z_57⟩
theorem s1_58 : isS1 Tryz.prog 58 = true := by kernel_rfl
instance : C1 Tryz.prog 58 := ⟨s1_58⟩
theorem el_58 : elOkQ Tryz.prog 58 1 = true := by kernel_rfl
instance : CE Tryz.prog 58 1 := ⟨el_58⟩
theorem z_58 : zeroA Tryz.prog 58 = some [.v .nilFunc] := by kernel_rfl
instance : CZ Tryz.prog 58 [.v .nilFunc] := ⟨z_58⟩
theorem s1_59 : isS1 Tryz.prog 59 = true := by kernel_rfl
instance : C1 Tryz.prog 59 := ⟨s1_59⟩
theorem el_59 : elOkQ Tryz.prog 59 1 = true := by kernel_rfl
instance : CE Tryz.prog 59 1 := ⟨el_59⟩
theorem z_59 : zeroA Tryz.prog 59 = some [.v .nilFunc] := by kernel_rfl
instance : CZ Tryz.prog 59 [.v .nilFunc] := ⟨z_59⟩
theorem s1_61 : isS1 Tryz.prog 61 = true := by kernel_rfl
instance : C1 Tryz.prog 61 := ⟨s1_61⟩
theorem el_61 : elOkQ Tryz.prog 61 1 = true := by kernel_rfl
instance : CE Tryz.prog 61 1 := ⟨el_61⟩
theorem z_61 : zeroA Tryz.prog 61 = some [.v .nilFunc] := by kernel_rfl
instance : CZ Tryz.prog 61 [.v .nilFunc] := ⟨z_61⟩
theorem z_62 : zeroA Tryz.prog 62 = some [] := by kernel_rfl
instance : CZ Tryz.prog 62 [] := ⟨z_62⟩
theorem z_63 : zeroA Tryz.prog 63 = some [] := by kernel_rfl
instance : CZ Tryz.prog 63 [] := ⟨z_63⟩
theorem z_64 : zeroA Tryz.prog 64 = some [] := by kernel_rfl
instance : CZ Tryz.prog 64 [] := ⟨z_64⟩
theorem s1_65 : isS1 Tryz.prog 65 = true := by kernel_rfl
instance : C1 Tryz.prog 65 := ⟨s1_65⟩
theorem el_65 : elOkQ Tryz.prog 65 1 = true := by kernel_rfl
instance : CE Tryz.prog 65 1 := ⟨el_65⟩
theorem z_65 : zeroA Tryz.prog 65 = some [.v (.pointer none)] := by kernel_rfl
instance : CZ Tryz.prog 65 [.v (.pointer none)] := ⟨z_65⟩
theorem s1_67 : isS1 Tryz.prog 67 = true := by kernel_rfl
instance : C1 Tryz.prog 67 := ⟨s1_67⟩
theorem el_67 : elOkQ Tryz.prog 67 1 = true := by kernel_rfl
instance : CE Tryz.prog 67 1 := ⟨el_67⟩
theorem z_67 : zeroA Tryz.prog 67 = some [.v .nilFunc] := by kernel_rfl
instance : CZ Tryz.prog 67 [.v .nilFunc] := ⟨z_67⟩
theorem s1_68 : isS1 Tryz.prog 68 = true := by kernel_rfl
instance : C1 Tryz.prog 68 := ⟨s1_68⟩
theorem el_68 : elOkQ Tryz.prog 68 1 = true := by kernel_rfl
instance : CE Tryz.prog 68 1 := ⟨el_68⟩
theorem z_68 : zeroA Tryz.prog 68 = some [.v .nilFunc] := by kernel_rfl
instance : CZ Tryz.prog 68 [.v .nilFunc] := ⟨z_68⟩
theorem ag_69 : isAg Tryz.prog 69 2 = true := by kernel_rfl
instance : CA Tryz.prog 69 2 := ⟨ag_69⟩
theorem el_69 : elOkQ Tryz.prog 69 2 = true := by kernel_rfl
instance : CE Tryz.prog 69 2 := ⟨el_69⟩
theorem fad_69_0 : fadOf Tryz.prog 69 0 = some 0 := by kernel_rfl
instance : CF Tryz.prog 69 0 0 := ⟨fad_69_0⟩
theorem fad_69_1 : fadOf Tryz.prog 69 1 = some 1 := by kernel_rfl
instance : CF Tryz.prog 69 1 1 := ⟨fad_69_1⟩
theorem z_69 : zeroA Tryz.prog 69 = some [.v (.string (mkB [])), .v (.int .i64 0)] := by kernel_rfl
instance : CZ Tryz.prog 69 [.v (.string (mkB [])), .v (.int .i64 0)] := ⟨z_69⟩
theorem ag_70 : isAg Tryz.prog 70 2 = true := by kernel_rfl
instance : CA Tryz.prog 70 2 := ⟨ag_70⟩
theorem el_70 : elOkQ Tryz.prog 70 2 = true := by kernel_rfl
instance : CE Tryz.prog 70 2 := ⟨el_70⟩
theorem fad_70_0 : fadOf Tryz.prog 70 0 = some 0 := by kernel_rfl
instance : CF Tryz.prog 70 0 0 := ⟨fad_70_0⟩
theorem fad_70_1 : fadOf Tryz.prog 70 1 = some 1 := by kernel_rfl
instance : CF Tryz.prog 70 1 1 := ⟨fad_70_1⟩
theorem z_70 : zeroA Tryz.prog 70 = some [.v (.string (mkB [])), .v (.int .i64 0)] := by kernel_rfl
instance : CZ Tryz.prog 70 [.v (.string (mkB [])), .v (.int .i64 0)] := ⟨z_70⟩
theorem ag_71 : isAg Tryz.prog 71 2 = true := by kernel_rfl
instance : CA Tryz.prog 71 2 := ⟨ag_71⟩
theorem el_71 : elOkQ Tryz.prog 71 2 = true := by kernel_rfl
instance : CE Tryz.prog 71 2 := ⟨el_71⟩
theorem fad_71_0 : fadOf Tryz.prog 71 0 = some 0 := by kernel_rfl
instance : CF Tryz.prog 71 0 0 := ⟨fad_71_0⟩
theorem z_71 : zeroA Tryz.prog 71 = some [.v (.string (mkB [])), .v (.int .i64 0)] := by kernel_rfl
instance : CZ Tryz.prog 71 [.v (.string (mkB [])), .v (.int .i64 0)] := ⟨z_71⟩
theorem ag_72 : isAg Tryz.prog 72 2 = true := by kernel_rfl
instance : CA Tryz.prog 72 2 := ⟨ag_72⟩
theorem el_72 : elOkQ Tryz.prog 72 2 = true := by kernel_rfl
instance : CE Tryz.prog 72 2 := ⟨el_72⟩
theorem fad_72_0 : fadOf Tryz.prog 72 0 = some 0 := by kernel_rfl
instance : CF Tryz.prog 72 0 0 := ⟨fad_72_0⟩
theorem z_72 : zeroA Tryz.prog 72 = some [.v (.string (mkB [])), .v (.int .i64 0)] := by kernel_rfl
instance : CZ Tryz.prog 72 [.v (.string (mkB [])), .v (.int .i64 0)] := ⟨z_72⟩
theorem s1_73 : isS1 Tryz.prog 73 = true := by kernel_rfl
instance : C1 Tryz.prog 73 := ⟨s1_73⟩
theorem el_73 : elOkQ Tryz.prog 73 1 = true := by kernel_rfl
instance : CE Tryz.prog 73 1 := ⟨el_73⟩
theorem z_73 : zeroA Tryz.prog 73 = some [.v .nilFunc] := by kernel_rfl
instance : CZ Tryz.prog 73 [.v .nilFunc] := ⟨z_73⟩
theorem s1_74 : isS1 Tryz.prog 74 = true := by kernel_rfl
instance : C1 Tryz.prog 74 := ⟨s1_74⟩
theorem el_74 : elOkQ Tryz.prog 74 1 = true := by kernel_rfl
instance : CE Tryz.prog 74 1 := ⟨el_74⟩
theorem z_74 : zeroA Tryz.prog 74 = some [.v .nilFunc] := by kernel_rfl
instance : CZ Tryz.prog 74 [.v .nilFunc] := ⟨z_74⟩
theorem s1_75 : isS1 Tryz.prog 75 = true := by kernel_rfl
instance : C1 Tryz.prog 75 := ⟨s1_75⟩
theorem el_75 : elOkQ Tryz.prog 75 1 = true := by kernel_rfl
instance : CE Tryz.prog 75 1 := ⟨el_75⟩
theorem z_75 : zeroA Tryz.prog 75 = some [.v (.pointer none)] := by kernel_rfl
instance : CZ Tryz.prog 75 [.v (.pointer none)] := ⟨z_75⟩
theorem ag_76 : isAg Tryz.prog 76 4 = true := by kernel_rfl
instance : CA Tryz.prog 76 4 := ⟨ag_76⟩
theorem el_76 : elOkQ Tryz.prog 76 4 = true := by kernel_rfl
instance : CE Tryz.prog 76 4 := ⟨el_76⟩
theorem fad_76_0 : fadOf Tryz.prog 76 0 = some 0 := by kernel_rfl
instance : CF Tryz.prog 76 0 0 := ⟨fad_76_0⟩
theorem fad_76_1 : fadOf Tryz.prog 76 1 = some 1 := by kernel_rfl
instance : CF Tryz.prog 76 1 1 := ⟨fad_76_1⟩
theorem fad_76_2 : fadOf Tryz.prog 76 2 = some 2 := by kernel_rfl
instance : CF Tryz.prog 76 2 2 := ⟨fad_76_2⟩
theorem fad_76_3 : fadOf Tryz.prog 76 3 = some 3 := by kernel_rfl
instance : CF Tryz.prog 76 3 3 := ⟨fad_76_3⟩
theorem z_76 : zeroA Tryz.prog 76 = some [.v (.pointer none), .v (.pointer none), .v (.pointer none), .v (.string (mkB []))] := by kernel_rfl
instance : CZ Tryz.prog 76 [.v (.pointer none), .v (.pointer none), .v (.pointer none), .v (.string (mkB []))] := ⟨z_76⟩
theorem ag_77 : isAg Tryz.prog 77 4 = true := by kernel_rfl
instance : CA Tryz.prog 77 4 := ⟨ag_77⟩
theorem el_77 : elOkQ Tryz.prog 77 4 = true := by kernel_rfl
instance : CE Tryz.prog 77 4 := ⟨el_77⟩
theorem fad_77_0 : fadOf Tryz.prog 77 0 = some 0 := by kernel_rfl
instance : CF Tryz.prog 77 0 0 := ⟨fad_77_0⟩
theorem fad_77_1 : fadOf Tryz.prog 77 1 = some 1 := by kernel_rfl
instance : CF Tryz.prog 77 1 1 := ⟨fad_77_1⟩
theorem fad_77_2 : fadOf Tryz.prog 77 2 = some 2 := by kernel_rfl
instance : CF Tryz.prog 77 2 2 := ⟨fad_77_2⟩
theorem fad_77_3 : fadOf Tryz.prog 77 3 = some 3 := by kernel_rfl
instance : CF Tryz.prog 77 3 3 := ⟨fad_77_3⟩
theorem z_77 : zeroA Tryz.prog 77 = some [.v (.pointer none), .v (.pointer none), .v (.pointer none), .v (.string (mkB []))] := by kernel_rfl
instance : CZ Tryz.prog 77 [.v (.pointer none), .v (.pointer none), .v (.pointer none), .v (.string (mkB []))] := ⟨z_77⟩
theorem ar_78 : arrOf Tryz.prog 78 = some (0, 16, 1) := by kernel_rfl
instance : CR Tryz.prog 78 0 16 1 := ⟨ar_78⟩
theorem z_78 : zeroA Tryz.prog 78 = some [] := by kernel_rfl
instance : CZ Tryz.prog 78 [] := ⟨z_78⟩
theorem z_79 : zeroA Tryz.prog 79 = some [] := by kernel_rfl
instance : CZ Tryz.prog 79 [] := ⟨z_79⟩
theorem z_80 : zeroA Tryz.prog 80 = some [] := by kernel_rfl
instance : CZ Tryz.prog 80 [] := ⟨z_80⟩
theorem s1_81 : isS1 Tryz.prog 81 = true := by kernel_rfl
instance : C1 Tryz.prog 81 := ⟨s1_81⟩
theorem el_81 : elOkQ Tryz.prog 81 1 = true := by kernel_rfl
instance : CE Tryz.prog 81 1 := ⟨el_81⟩
theorem u_81 : Tryz.prog.underlying 81 = some (.int .u8) := by kernel_rfl
instance : CU Tryz.prog 81 .u8 := ⟨u_81⟩
theorem z_81 : zeroA Tryz.prog 81 = some [.v (.int .u8 0)] := by kernel_rfl
instance : CZ Tryz.prog 81 [.v (.int .u8 0)] := ⟨z_81⟩
theorem s1_82 : isS1 Tryz.prog 82 = true := by kernel_rfl
instance : C1 Tryz.prog 82 := ⟨s1_82⟩
theorem el_82 : elOkQ Tryz.prog 82 1 = true := by kernel_rfl
instance : CE Tryz.prog 82 1 := ⟨el_82⟩
theorem u_82 : Tryz.prog.underlying 82 = some (.int .u8) := by kernel_rfl
instance : CU Tryz.prog 82 .u8 := ⟨u_82⟩
theorem z_82 : zeroA Tryz.prog 82 = some [.v (.int .u8 0)] := by kernel_rfl
instance : CZ Tryz.prog 82 [.v (.int .u8 0)] := ⟨z_82⟩
theorem s1_83 : isS1 Tryz.prog 83 = true := by kernel_rfl
instance : C1 Tryz.prog 83 := ⟨s1_83⟩
theorem el_83 : elOkQ Tryz.prog 83 1 = true := by kernel_rfl
instance : CE Tryz.prog 83 1 := ⟨el_83⟩
theorem z_83 : zeroA Tryz.prog 83 = some [.v .nilFunc] := by kernel_rfl
instance : CZ Tryz.prog 83 [.v .nilFunc] := ⟨z_83⟩
theorem s1_84 : isS1 Tryz.prog 84 = true := by kernel_rfl
instance : C1 Tryz.prog 84 := ⟨s1_84⟩
theorem el_84 : elOkQ Tryz.prog 84 1 = true := by kernel_rfl
instance : CE Tryz.prog 84 1 := ⟨el_84⟩
theorem z_84 : zeroA Tryz.prog 84 = some [.v (.pointer none)] := by kernel_rfl
instance : CZ Tryz.prog 84 [.v (.pointer none)] := ⟨z_84⟩
theorem s1_85 : isS1 Tryz.prog 85 = true := by kernel_rfl
instance : C1 Tryz.prog 85 := ⟨s1_85⟩
theorem el_85 : elOkQ Tryz.prog 85 1 = true := by kernel_rfl
instance : CE Tryz.prog 85 1 := ⟨el_85⟩
theorem u_85 : Tryz.prog.underlying 85 = some (.int .i32) := by kernel_rfl
instance : CU Tryz.prog 85 .i32 := ⟨u_85⟩
theorem z_85 : zeroA Tryz.prog 85 = some [.v (.int .i32 0)] := by kernel_rfl
instance : CZ Tryz.prog 85 [.v (.int .i32 0)] := ⟨z_85⟩
theorem s1_86 : isS1 Tryz.prog 86 = true := by kernel_rfl
instance : C1 Tryz.prog 86 := ⟨s1_86⟩
theorem el_86 : elOkQ Tryz.prog 86 1 = true := by kernel_rfl
instance : CE Tryz.prog 86 1 := ⟨el_86⟩
theorem u_86 : Tryz.prog.underlying 86 = some (.int .i32) := by kernel_rfl
instance : CU Tryz.prog 86 .i32 := ⟨u_86⟩
theorem z_86 : zeroA Tryz.prog 86 = some [.v (.int .i32 0)] := by kernel_rfl
instance : CZ Tryz.prog 86 [.v (.int .i32 0)] := ⟨z_86⟩
theorem ag_87 : isAg Tryz.prog 87 11 = true := by kernel_rfl
instance : CA Tryz.prog 87 11 := ⟨ag_87⟩
theorem fad_87_0 : fadOf Tryz.prog 87 0 = some 0 := by kernel_rfl
instance : CF Tryz.prog 87 0 0 := ⟨fad_87_0⟩
theorem fad_87_1 : fadOf Tryz.prog 87 1 = some 1 := by kernel_rfl
instance : CF Tryz.prog 87 1 1 := ⟨fad_87_1⟩
theorem fad_87_2 : fadOf Tryz.prog 87 2 = some 2 := by kernel_rfl
instance : CF Tryz.prog 87 2 2 := ⟨fad_87_2⟩
theorem fad_87_3 : fadOf Tryz.prog 87 3 = some 3 := by kernel_rfl
instance : CF Tryz.prog 87 3 3 := ⟨fad_87_3⟩
theorem fad_87_4 : fadOf Tryz.prog 87 4 = some 4 := by kernel_rfl
instance : CF Tryz.prog 87 4 4 := ⟨fad_87_4⟩
theorem fad_87_5 : fadOf Tryz.prog 87 5 = some 5 := by kernel_rfl
instance : CF Tryz.prog 87 5 5 := ⟨fad_87_5⟩
theorem fad_87_6 : fadOf Tryz.prog 87 6 = some 6 := by kernel_rfl
instance : CF Tryz.prog 87 6 6 := ⟨fad_87_6⟩
theorem fad_87_7 : fadOf Tryz.prog 87 7 = some 7 := by kernel_rfl
instance : CF Tryz.prog 87 7 7 := ⟨fad_87_7⟩
theorem z_87 : zeroA Tryz.prog 87 = some [.v (.int .u64 0), .v (.int .u64 0), .v (.int .u32 0), .v (.int .u8 0), .v (.int .u8 0), .v (.int .u8 0), .v (.int .u8 0), .v .nilFunc, .v (.pointer none), .v (.int .i32 0), .v (.int .i32 0)] := by kernel_rfl
instance : CZ Tryz.prog 87 [.v (.int .u64 0), .v (.int .u64 0), .v (.int .u32 0), .v (.int .u8 0), .v (.int .u8 0), .v (.int .u8 0), .v (.int .u8 0), .v .nilFunc, .v (.pointer none), .v (.int .i32 0), .v (.int .i32 0)] := ⟨z_87⟩
theorem ag_88 : isAg Tryz.prog 88 11 = true := by kernel_rfl
instance : CA Tryz.prog 88 11 := ⟨ag_88⟩
theorem fad_88_0 : fadOf Tryz.prog 88 0 = some 0 := by kernel_rfl
instance : CF Tryz.prog 88 0 0 := ⟨fad_88_0⟩
theorem fad_88_1 : fadOf Tryz.prog 88 1 = some 1 := by kernel_rfl
instance : CF Tryz.prog 88 1 1 := ⟨fad_88_1⟩
theorem fad_88_2 : fadOf Tryz.prog 88 2 = some 2 := by kernel_rfl
instance : CF Tryz.prog 88 2 2 := ⟨fad_88_2⟩
theorem fad_88_3 : fadOf Tryz.prog 88 3 = some 3 := by kernel_rfl
instance : CF Tryz.prog 88 3 3 := ⟨fad_88_3⟩
theorem fad_88_4 : fadOf Tryz.prog 88 4 = some 4 := by kernel_rfl
instance : CF Tryz.prog 88 4 4 := ⟨fad_88_4⟩
theorem fad_88_5 : fadOf Tryz.prog 88 5 = some 5 := by kernel_rfl
instance : CF Tryz.prog 88 5 5 := ⟨fad_88_5⟩
theorem fad_88_6 : fadOf Tryz.prog 88 6 = some 6 := by kernel_rfl
instance : CF Tryz.prog 88 6 6 := ⟨fad_88_6⟩
theorem fad_88_7 : fadOf Tryz.prog 88 7 = some 7 := by kernel_rfl
instance : CF Tryz.prog 88 7 7 := ⟨fad_88_7⟩
theorem z_88 : zeroA Tryz.prog 88 = some [.v (.int .u64 0), .v (.int .u64 0), .v (.int .u32 0), .v (.int .u8 0), .v (.int .u8 0), .v (.int .u8 0), .v (.int .u8 0), .v .nilFunc, .v (.pointer none), .v (.int .i32 0), .v (.int .i32 0)] := by kernel_rfl
instance : CZ Tryz.prog 88 [.v (.int .u64 0), .v (.int .u64 0), .v (.int .u32 0), .v (.int .u8 0), .v (.int .u8 0), .v (.int .u8 0), .v (.int .u8 0), .v .nilFunc, .v (.pointer none), .v (.int .i32 0), .v (.int .i32 0)] := ⟨z_88⟩
theorem s1_90 : isS1 Tryz.prog 90 = true := by kernel_rfl
instance : C1 Tryz.prog 90 := ⟨s1_90⟩
theorem el_90 : elOkQ Tryz.prog 90 1 = true := by kernel_rfl
instance : CE Tryz.prog 90 1 := ⟨el_90⟩
theorem z_90 : zeroA Tryz.prog 90 = some [.v .nilFunc] := by kernel_rfl
instance : CZ Tryz.prog 90 [.v .nilFunc] := ⟨z_90⟩
theorem ag_91 : isAg Tryz.prog 91 4 = true := by kernel_rfl
instance : CA Tryz.prog 91 4 := ⟨ag_91⟩
theorem el_91 : elOkQ Tryz.prog 91 4 = true := by kernel_rfl
instance : CE Tryz.prog 91 4 := ⟨el_91⟩
theorem fad_91_0 : fadOf Tryz.prog 91 0 = some 0 := by kernel_rfl
instance : CF Tryz.prog 91 0 0 := ⟨fad_91_0⟩
theorem fad_91_1 : fadOf Tryz.prog 91 1 = some 1 := by kernel_rfl
instance : CF Tryz.prog 91 1 1 := ⟨fad_91_1⟩
theorem fad_91_2 : fadOf Tryz.prog 91 2 = some 2 := by kernel_rfl
instance : CF Tryz.prog 91 2 2 := ⟨fad_91_2⟩
theorem z_91 : zeroA Tryz.prog 91 = some [.v (.int .i64 0), .v (.string (mkB [])), .v (.int .i64 0), .v (.int .i64 0)] := by kernel_rfl
instance : CZ Tryz.prog 91 [.v (.int .i64 0), .v (.string (mkB [])), .v (.int .i64 0), .v (.int .i64 0)] := ⟨z_91⟩
theorem ag_92 : isAg Tryz.prog 92 4 = true := by kernel_rfl
instance : CA Tryz.prog 92 4 := ⟨ag_92⟩
theorem el_92 : elOkQ Tryz.prog 92 4 = true := by kernel_rfl
instance : CE Tryz.prog 92 4 := ⟨el_92⟩
theorem fad_92_0 : fadOf Tryz.prog 92 0 = some 0 := by kernel_rfl
instance : CF Tryz.prog 92 0 0 := ⟨fad_92_0⟩
theorem fad_92_1 : fadOf Tryz.prog 92 1 = some 1 := by kernel_rfl
instance : CF Tryz.prog 92 1 1 := ⟨fad_92_1⟩
theorem fad_92_2 : fadOf Tryz.prog 92 2 = some 2 := by kernel_rfl
instance : CF Tryz.prog 92 2 2 := ⟨fad_92_2⟩
theorem z_92 : zeroA Tryz.prog 92 = some [.v (.int .i64 0), .v (.string (mkB [])), .v (.int .i64 0), .v (.int .i64 0)] := by kernel_rfl
instance : CZ Tryz.prog 92 [.v (.int .i64 0), .v (.string (mkB [])), .v (.int .i64 0), .v (.int .i64 0)] := ⟨z_92⟩
theorem s1_93 : isS1 Tryz.prog 93 = true := by kernel_rfl
instance : C1 Tryz.prog 93 := ⟨s1_93⟩
theorem el_93 : elOkQ Tryz.prog 93 1 = true := by kernel_rfl
instance : CE Tryz.prog 93 1 := ⟨el_93⟩
theorem z_93 : zeroA Tryz.prog 93 = some [.v .nilFunc] := by kernel_rfl
instance : CZ Tryz.prog 93 [.v .nilFunc] := ⟨z_93⟩
theorem s1_94 : isS1 Tryz.prog 94 = true := by kernel_rfl
instance : C1 Tryz.prog 94 := ⟨s1_94⟩
theorem el_94 : elOkQ Tryz.prog 94 1 = true := by kernel_rfl
instance : CE Tryz.prog 94 1 := ⟨el_94⟩
theorem u_94 : Tryz.prog.underlying 94 = some (.int .u64) := by kernel_rfl
instance : CU Tryz.prog 94 .u64 := ⟨u_94⟩
theorem z_94 : zeroA Tryz.prog 94 = some [.v (.int .u64 0)] := by kernel_rfl
instance : CZ Tryz.prog 94 [.v (.int .u64 0)] := ⟨z_94⟩
theorem ag_95 : isAg Tryz.prog 95 4 = true := by kernel_rfl
instance : CA Tryz.prog 95 4 := ⟨ag_95⟩
theorem el_95 : elOkQ Tryz.prog 95 4 = true := by kernel_rfl
instance : CE Tryz.prog 95 4 := ⟨el_95⟩
theorem fad_95_0 : fadOf Tryz.prog 95 0 = some 0 := by kernel_rfl
instance : CF Tryz.prog 95 0 0 := ⟨fad_95_0⟩
theorem fad_95_1 : fadOf Tryz.prog 95 1 = some 1 := by kernel_rfl
instance : CF Tryz.prog 95 1 1 := ⟨fad_95_1⟩
theorem fad_95_2 : fadOf Tryz.prog 95 2 = some 2 := by kernel_rfl
instance : CF Tryz.prog 95 2 2 := ⟨fad_95_2⟩
theorem fad_95_3 : fadOf Tryz.prog 95 3 = some 3 := by kernel_rfl
instance : CF Tryz.prog 95 3 3 := ⟨fad_95_3⟩
theorem z_95 : zeroA Tryz.prog 95 = some [.v (.int .i64 0), .v (.int .i64 0), .v (.bool false), .v (.bool false)] := by kernel_rfl
instance : CZ Tryz.prog 95 [.v (.int .i64 0), .v (.int .i64 0), .v (.bool false), .v (.bool false)] := ⟨z_95⟩
theorem ag_96 : isAg Tryz.prog 96 4 = true := by kernel_rfl
instance : CA Tryz.prog 96 4 := ⟨ag_96⟩
theorem el_96 : elOkQ Tryz.prog 96 4 = true := by kernel_rfl
instance : CE Tryz.prog 96 4 := ⟨el_96⟩
theorem fad_96_0 : fadOf Tryz.prog 96 0 = some 0 := by kernel_rfl
instance : CF Tryz.prog 96 0 0 := ⟨fad_96_0⟩
theorem fad_96_1 : fadOf Tryz.prog 96 1 = some 1 := by kernel_rfl
instance : CF Tryz.prog 96 1 1 := ⟨fad_96_1⟩
theorem fad_96_2 : fadOf Tryz.prog 96 2 = some 2 := by kernel_rfl
instance : CF Tryz.prog 96 2 2 := ⟨fad_96_2⟩
theorem fad_96_3 : fadOf Tryz.prog 96 3 = some 3 := by kernel_rfl
instance : CF Tryz.prog 96 3 3 := ⟨fad_96_3⟩
theorem z_96 : zeroA Tryz.prog 96 = some [.v (.int .i64 0), .v (.int .i64 0), .v (.bool false), .v (.bool false)] := by kernel_rfl
instance : CZ Tryz.prog 96 [.v (.int .i64 0), .v (.int .i64 0), .v (.bool false), .v (.bool false)] := ⟨z_96⟩
theorem s1_98 : isS1 Tryz.prog 98 = true := by kernel_rfl
instance : C1 Tryz.prog 98 := ⟨s1_98⟩
theorem el_98 : elOkQ Tryz.prog 98 1 = true := by kernel_rfl
instance : CE Tryz.prog 98 1 := ⟨el_98⟩
theorem z_98 : zeroA Tryz.prog 98 = some [.v .nilFunc] := by kernel_rfl
instance : CZ Tryz.prog 98 [.v .nilFunc] := ⟨z_98⟩
theorem s1_99 : isS1 Tryz.prog 99 = true := by kernel_rfl
instance : C1 Tryz.prog 99 := ⟨s1_99⟩
theorem el_99 : elOkQ Tryz.prog 99 1 = true := by kernel_rfl
instance : CE Tryz.prog 99 1 := ⟨el_99⟩
theorem z_99 : zeroA Tryz.prog 99 = some [.v .nilFunc] := by kernel_rfl
instance : CZ Tryz.prog 99 [.v .nilFunc] := ⟨z_99⟩
theorem s1_100 : isS1 Tryz.prog 100 = true := by kernel_rfl
instance : C1 Tryz.prog 100 := ⟨s1_100⟩
theorem el_100 : elOkQ Tryz.prog 100 1 = true := by kernel_rfl
instance : CE Tryz.prog 100 1 := ⟨el_100⟩
theorem z_100 : zeroA Tryz.prog 100 = some [.v .nilFunc] := by kernel_rfl
instance : CZ Tryz.prog 100 [.v .nilFunc] := ⟨z_100⟩
theorem s1_101 : isS1 Tryz.prog 101 = true := by kernel_rfl
instance : C1 Tryz.prog 101 := ⟨s1_101⟩
theorem el_101 : elOkQ Tryz.prog 101 1 = true := by kernel_rfl
instance : CE Tryz.prog 101 1 := ⟨el_101⟩
theorem z_101 : zeroA Tryz.prog 101 = some [.v .nilFunc] := by kernel_rfl
instance : CZ Tryz.prog 101 [.v .nilFunc] := ⟨z_101⟩
theorem s1_102 : isS1 Tryz.prog 102 = true := by kernel_rfl
instance : C1 Tryz.prog 102 := ⟨s1_102⟩
theorem el_102 : elOkQ Tryz.prog 102 1 = true := by kernel_rfl
instance : CE Tryz.prog 102 1 := ⟨el_102⟩
theorem z_102 : zeroA Tryz.prog 102 = some [.v .nilFunc] := by kernel_rfl
instance : CZ Tryz.prog 102 [.v .nilFunc] := ⟨z_102⟩
theorem s1_103 : isS1 Tryz.prog 103 = true := by kernel_rfl
instance : C1 Tryz.prog 103 := ⟨s1_103⟩
theorem el_103 : elOkQ Tryz.prog 103 1 = true := by kernel_rfl
instance : CE Tryz.prog 103 1 := ⟨el_103⟩
theorem z_103 : zeroA Tryz.prog 103 = some [.v .nilFunc] := by kernel_rfl
instance : CZ Tryz.prog 103 [.v .nilFunc] := ⟨z_103⟩
theorem s1_104 : isS1 Tryz.prog 104 = true := by kernel_rfl
instance : C1 Tryz.prog 104 := ⟨s1_104⟩
theorem el_104 : elOkQ Tryz.prog 104 1 = true := by kernel_rfl
instance : CE Tryz.prog 104 1 := ⟨el_104⟩
theorem z_104 : zeroA Tryz.prog 104 = some [.v .nilFunc] := by kernel_rfl
instance : CZ Tryz.prog 104 [.v .nilFunc] := ⟨z_104⟩
theorem s1_105 : isS1 Tryz.prog 105 = true := by kernel_rfl
instance : C1 Tryz.prog 105 := ⟨s1_105⟩
theorem el_105 : elOkQ Tryz.prog 105 1 = true := by kernel_rfl
instance : CE Tryz.prog 105 1 := ⟨el_105⟩
theorem z_105 : zeroA Tryz.prog 105 = some [.v .nilFunc] := by kernel_rfl
instance : CZ Tryz.prog 105 [.v .nilFunc] := ⟨z_105⟩
theorem s1_106 : isS1 Tryz.prog 106 = true := by kernel_rfl
instance : C1 Tryz.prog 106 := ⟨s1_106⟩
theorem el_106 : elOkQ Tryz.prog 106 1 = true := by kernel_rfl
instance : CE Tryz.prog 106 1 := ⟨el_106⟩
theorem z_106 : zeroA Tryz.prog 106 = some [.v .nilFunc] := by kernel_rfl
instance : CZ Tryz.prog 106 [.v .nilFunc] := ⟨z_106⟩
theorem ag_107 : isAg Tryz.prog 107 3 = true := by kernel_rfl
instance : CA Tryz.prog 107 3 := ⟨ag_107⟩
theorem el_107 : elOkQ Tryz.prog 107 3 = true := by kernel_rfl
instance : CE Tryz.prog 107 3 := ⟨el_107⟩
theorem ar_107 : arrOf Tryz.prog 107 = some (3, 3, 1) := by kernel_rfl
instance : CR Tryz.prog 107 3 3 1 := ⟨ar_107⟩
theorem z_107 : zeroA Tryz.prog 107 = some [.v (.int .i64 0), .v (.int .i64 0), .v (.int .i64 0)] := by kernel_rfl
instance : CZ Tryz.prog 107 [.v (.int .i64 0), .v (.int .i64 0), .v (.int .i64 0)] := ⟨z_107⟩
theorem ag_108 : isAg Tryz.prog 108 3 = true := by kernel_rfl
instance : CA Tryz.prog 108 3 := ⟨ag_108⟩
theorem el_108 : elOkQ Tryz.prog 108 3 = true := by kernel_rfl
instance : CE Tryz.prog 108 3 := ⟨el_108⟩
theorem ar_108 : arrOf Tryz.prog 108 = some (3, 3, 1) := by kernel_rfl
instance : CR Tryz.prog 108 3 3 1 := ⟨ar_108⟩
theorem z_108 : zeroA Tryz.prog 108 = some [.v (.int .i64 0), .v (.int .i64 0), .v (.int .i64 0)] := by kernel_rfl
instance : CZ Tryz.prog 108 [.v (.int .i64 0), .v (.int .i64 0), .v (.int .i64 0)] := ⟨z_108⟩
theorem ag_109 : isAg Tryz.prog 109 2 = true := by kernel_rfl
instance : CA Tryz.prog 109 2 := ⟨ag_109⟩
theorem el_109 : elOkQ Tryz.prog 109 2 = true := by kernel_rfl
instance : CE Tryz.prog 109 2 := ⟨el_109⟩
theorem fad_109_0 : fadOf Tryz.prog 109 0 = some 0 := by kernel_rfl
instance : CF Tryz.prog 109 0 0 := ⟨fad_109_0⟩
theorem fad_109_1 : fadOf Tryz.prog 109 1 = some 1 := by kernel_rfl
instance : CF Tryz.prog 109 1 1 := ⟨fad_109_1⟩
theorem z_109 : zeroA Tryz.prog 109 = some [.v (.int .i64 0), .v (.slice none 0 0)] := by kernel_rfl
instance : CZ Tryz.prog 109 [.v (.int .i64 0), .v (.slice none 0 0)] := ⟨z_109⟩
theorem ag_110 : isAg Tryz.prog 110 2 = true := by kernel_rfl
instance : CA Tryz.prog 110 2 := ⟨ag_110⟩
theorem el_110 : elOkQ Tryz.prog 110 2 = true := by kernel_rfl
instance : CE Tryz.prog 110 2 := ⟨el_110⟩
theorem fad_110_0 : fadOf Tryz.prog 110 0 = some 0 := by kernel_rfl
instance : CF Tryz.prog 110 0 0 := ⟨fad_110_0⟩
theorem fad_110_1 : fadOf Tryz.prog 110 1 = some 1 := by kernel_rfl
instance : CF Tryz.prog 110 1 1 := ⟨fad_110_1⟩
theorem z_110 : zeroA Tryz.prog 110 = some [.v (.int .i64 0), .v (.slice none 0 0)] := by kernel_rfl
instance : CZ Tryz.prog 110 [.v (.int .i64 0), .v (.slice none 0 0)] := ⟨z_110⟩
theorem ag_111 : isAg Tryz.prog 111 4 = true := by kernel_rfl
instance : CA Tryz.prog 111 4 := ⟨ag_111⟩
theorem el_111 : elOkQ Tryz.prog 111 4 = true := by kernel_rfl
instance : CE Tryz.prog 111 4 := ⟨el_111⟩
theorem fad_111_0 : fadOf Tryz.prog 111 0 = some 0 := by kernel_rfl
instance : CF Tryz.prog 111 0 0 := ⟨fad_111_0⟩
theorem fad_111_1 : fadOf Tryz.prog 111 1 = some 1 := by kernel_rfl
instance : CF Tryz.prog 111 1 1 := ⟨fad_111_1⟩
theorem fad_111_2 : fadOf Tryz.prog 111 2 = some 2 := by kernel_rfl
instance : CF Tryz.prog 111 2 2 := ⟨fad_111_2⟩
theorem z_111 : zeroA Tryz.prog 111 = some [.v (.int .i64 0), .v (.int .i64 0), .v (.int .i64 0), .v (.slice none 0 0)] := by kernel_rfl
instance : CZ Tryz.prog 111 [.v (.int .i64 0), .v (.int .i64 0), .v (.int .i64 0), .v (.slice none 0 0)] := ⟨z_111⟩
theorem ag_112 : isAg Tryz.prog 112 4 = true := by kernel_rfl
instance : CA Tryz.prog 112 4 := ⟨ag_112⟩
theorem el_112 : elOkQ Tryz.prog 112 4 = true := by kernel_rfl
instance : CE Tryz.prog 112 4 := ⟨el_112⟩
theorem fad_112_0 : fadOf Tryz.prog 112 0 = some 0 := by kernel_rfl
instance : CF Tryz.prog 112 0 0 := ⟨fad_112_0⟩
theorem fad_112_1 : fadOf Tryz.prog 112 1 = some 1 := by kernel_rfl
instance : CF Tryz.prog 112 1 1 := ⟨fad_112_1⟩
theorem fad_112_2 : fadOf Tryz.prog 112 2 = some 2 := by kernel_rfl
instance : CF Tryz.prog 112 2 2 := ⟨fad_112_2⟩
theorem z_112 : zeroA Tryz.prog 112 = some [.v (.int .i64 0), .v (.int .i64 0), .v (.int .i64 0), .v (.slice none 0 0)] := by kernel_rfl
instance : CZ Tryz.prog 112 [.v (.int .i64 0), .v (.int .i64 0), .v (.int .i64 0), .v (.slice none 0 0)] := ⟨z_112⟩
theorem ag_113 : isAg Tryz.prog 113 12 = true := by kernel_rfl
instance : CA Tryz.prog 113 12 := ⟨ag_113⟩
theorem ar_113 : arrOf Tryz.prog 113 = some (3, 112, 4) := by kernel_rfl
instance : CR Tryz.prog 113 3 112 4 := ⟨ar_113⟩
theorem z_113 : zeroA Tryz.prog 113 = some [.v (.int .i64 0), .v (.int .i64 0), .v (.int .i64 0), .v (.slice none 0 0), .v (.int .i64 0), .v (.int .i64 0), .v (.int .i64 0), .v (.slice none 0 0), .v (.int .i64 0), .v (.int .i64 0), .v (.int .i64 0), .v (.slice none 0 0)] := by kernel_rfl
instance : CZ Tryz.prog 113 [.v (.int .i64 0), .v (.int .i64 0), .v (.int .i64 0), .v (.slice none 0 0), .v (.int .i64 0), .v (.int .i64 0), .v (.int .i64 0), .v (.slice none 0 0), .v (.int .i64 0), .v (.int .i64 0), .v (.int .i64 0), .v (.slice none 0 0)] := ⟨z_113⟩
theorem ag_114 : isAg Tryz.prog 114 16 = true := by kernel_rfl
instance : CA Tryz.prog 114 16 := ⟨ag_114⟩
theorem fad_114_0 : fadOf Tryz.prog 114 0 = some 0 := by kernel_rfl
instance : CF Tryz.prog 114 0 0 := ⟨fad_114_0⟩
theorem fad_114_1 : fadOf Tryz.prog 114 1 = some 3 := by kernel_rfl
instance : CF Tryz.prog 114 1 3 := ⟨fad_114_1⟩
theorem fad_114_2 : fadOf Tryz.prog 114 2 = some 4 := by kernel_rfl
instance : CF Tryz.prog 114 2 4 := ⟨fad_114_2⟩
theorem z_114 : zeroA Tryz.prog 114 = some [.v (.int .i64 0), .v (.int .i64 0), .v (.int .i64 0), .v (.slice none 0 0), .v (.int .i64 0), .v (.int .i64 0), .v (.int .i64 0), .v (.slice none 0 0), .v (.int .i64 0), .v (.int .i64 0), .v (.int .i64 0), .v (.slice none 0 0), .v (.int .i64 0), .v (.int .i64 0), .v (.int .i64 0), .v (.slice none 0 0)] := by kernel_rfl
instance : CZ Tryz.prog 114 [.v (.int .i64 0), .v (.int .i64 0), .v (.int .i64 0), .v (.slice none 0 0), .v (.int .i64 0), .v (.int .i64 0), .v (.int .i64 0), .v (.slice none 0 0), .v (.int .i64 0), .v (.int .i64 0), .v (.int .i64 0), .v (.slice none 0 0), .v (.int .i64 0), .v (.int .i64 0), .v (.int .i64 0), .v (.slice none 0 0)] := ⟨z_114⟩
theorem ag_115 : isAg Tryz.prog 115 16 = true := by kernel_rfl
instance : CA Tryz.prog 115 16 := ⟨ag_115⟩
theorem fad_115_0 : fadOf Tryz.prog 115 0 = some 0 := by kernel_rfl
instance : CF Tryz.prog 115 0 0 := ⟨fad_115_0⟩
theorem fad_115_1 : fadOf Tryz.prog 115 1 = some 3 := by kernel_rfl
instance : CF Tryz.prog 115 1 3 := ⟨fad_115_1⟩
theorem fad_115_2 : fadOf Tryz.prog 115 2 = some 4 := by kernel_rfl
instance : CF Tryz.prog 115 2 4 := ⟨fad_115_2⟩
theorem z_115 : zeroA Tryz.prog 115 = some [.v (.int .i64 0), .v (.int .i64 0), .v (.int .i64 0), .v (.slice none 0 0), .v (.int .i64 0), .v (.int .i64 0), .v (.int .i64 0), .v (.slice none 0 0), .v (.int .i64 0), .v (.int .i64 0), .v (.int .i64 0), .v (.slice none 0 0), .v (.int .i64 0), .v (.int .i64 0), .v (.int .i64 0), .v (.slice none 0 0)] := by kernel_rfl
instance : CZ Tryz.prog 115 [.v (.int .i64 0), .v (.int .i64 0), .v (.int .i64 0), .v (.slice none 0 0), .v (.int .i64 0), .v (.int .i64 0), .v (.int .i64 0), .v (.slice none 0 0), .v (.int .i64 0), .v (.int .i64 0), .v (.int .i64 0), .v (.slice none 0 0), .v (.int .i64 0), .v (.int .i64 0), .v (.int .i64 0), .v (.slice none 0 0)] := ⟨z_115⟩
theorem s1_116 : isS1 Tryz.prog 116 = true := by kernel_rfl
instance : C1 Tryz.prog 116 := ⟨s1_116⟩
theorem el_116 : elOkQ Tryz.prog 116 1 = true := by kernel_rfl
instance : CE Tryz.prog 116 1 := ⟨el_116⟩
theorem z_116 : zeroA Tryz.prog 116 = some [.v .nilFunc] := by kernel_rfl
instance : CZ Tryz.prog 116 [.v .nilFunc] := ⟨z_116⟩
theorem s1_118 : isS1 Tryz.prog 118 = true := by kernel_rfl
instance : C1 Tryz.prog 118 := ⟨s1_118⟩
theorem el_118 : elOkQ Tryz.prog 118 1 = true := by kernel_rfl
instance : CE Tryz.prog 118 1 := ⟨el_118⟩
theorem z_118 : zeroA Tryz.prog 118 = some [.v .nilFunc] := by kernel_rfl
instance : CZ Tryz.prog 118 [.v .nilFunc] := ⟨z_118⟩
theorem s1_119 : isS1 Tryz.prog 119 = true := by kernel_rfl
instance : C1 Tryz.prog 119 := ⟨s1_119⟩
theorem el_119 : elOkQ Tryz.prog 119 1 = true := by kernel_rfl
instance : CE Tryz.prog 119 1 := ⟨el_119⟩
theorem z_119 : zeroA Tryz.prog 119 = some [.v .nilFunc] := by kernel_rfl
instance : CZ Tryz.prog 119 [.v .nilFunc] := ⟨z_119⟩
theorem s1_121 : isS1 Tryz.prog 121 = true := by kernel_rfl
instance : C1 Tryz.prog 121 := ⟨s1_121⟩
theorem el_121 : elOkQ Tryz.prog 121 1 = true := by kernel_rfl
instance : CE Tryz.prog 121 1 := ⟨el_121⟩
theorem z_121 : zeroA Tryz.prog 121 = some [.v .nilFunc] := by kernel_rfl
instance : CZ Tryz.prog 121 [.v .nilFunc] := ⟨z_121⟩
theorem s1_122 : isS1 Tryz.prog 122 = true := by kernel_rfl
instance : C1 Tryz.prog 122 := ⟨s1_122⟩
theorem el_122 : elOkQ Tryz.prog 122 1 = true := by kernel_rfl
instance : CE Tryz.prog 122 1 := ⟨el_122⟩
theorem z_122 : zeroA Tryz.prog 122 = some [.v (.pointer none)] := by kernel_rfl
instance : CZ Tryz.prog 122 [.v (.pointer none)] := ⟨z_122⟩
theorem ag_123 : isAg Tryz.prog 123 4 = true := by kernel_rfl
instance : CA Tryz.prog 123 4 := ⟨ag_123⟩
theorem el_123 : elOkQ Tryz.prog 123 4 = true := by kernel_rfl
instance : CE Tryz.prog 123 4 := ⟨el_123⟩
theorem fad_123_0 : fadOf Tryz.prog 123 0 = some 0 := by kernel_rfl
instance : CF Tryz.prog 123 0 0 := ⟨fad_123_0⟩
theorem fad_123_1 : fadOf Tryz.prog 123 1 = some 1 := by kernel_rfl
instance : CF Tryz.prog 123 1 1 := ⟨fad_123_1⟩
theorem fad_123_2 : fadOf Tryz.prog 123 2 = some 2 := by kernel_rfl
instance : CF Tryz.prog 123 2 2 := ⟨fad_123_2⟩
theorem z_123 : zeroA Tryz.prog 123 = some [.v (.string (mkB [])), .v (.int .i64 0), .v (.int .i64 0), .v (.int .i64 0)] := by kernel_rfl
instance : CZ Tryz.prog 123 [.v (.string (mkB [])), .v (.int .i64 0), .v (.int .i64 0), .v (.int .i64 0)] := ⟨z_123⟩
theorem ag_124 : isAg Tryz.prog 124 4 = true := by kernel_rfl
instance : CA Tryz.prog 124 4 := ⟨ag_124⟩
theorem el_124 : elOkQ Tryz.prog 124 4 = true := by kernel_rfl
instance : CE Tryz.prog 124 4 := ⟨el_124⟩
theorem fad_124_0 : fadOf Tryz.prog 124 0 = some 0 := by kernel_rfl
instance : CF Tryz.prog 124 0 0 := ⟨fad_124_0⟩
theorem fad_124_1 : fadOf Tryz.prog 124 1 = some 1 := by kernel_rfl
instance : CF Tryz.prog 124 1 1 := ⟨fad_124_1⟩
theorem fad_124_2 : fadOf Tryz.prog 124 2 = some 2 := by kernel_rfl
instance : CF Tryz.prog 124 2 2 := ⟨fad_124_2⟩
theorem z_124 : zeroA Tryz.prog 124 = some [.v (.string (mkB [])), .v (.int .i64 0), .v (.int .i64 0), .v (.int .i64 0)] := by kernel_rfl
instance : CZ Tryz.prog 124 [.v (.string (mkB [])), .v (.int .i64 0), .v (.int .i64 0), .v (.int .i64 0)] := ⟨z_124⟩
theorem s1_125 : isS1 Tryz.prog 125 = true := by kernel_rfl
instance : C1 Tryz.prog 125 := ⟨s1_125⟩
theorem el_125 : elOkQ Tryz.prog 125 1 = true := by kernel_rfl
instance : CE Tryz.prog 125 1 := ⟨el_125⟩
theorem z_125 : zeroA Tryz.prog 125 = some [.v .nilFunc] := by kernel_rfl
instance : CZ Tryz.prog 125 [.v .nilFunc] := ⟨z_125⟩
theorem ag_126 : isAg Tryz.prog 126 4 = true := by kernel_rfl
instance : CA Tryz.prog 126 4 := ⟨ag_126⟩
theorem el_126 : elOkQ Tryz.prog 126 4 = true := by kernel_rfl
instance : CE Tryz.prog 126 4 := ⟨el_126⟩
theorem fad_126_0 : fadOf Tryz.prog 126 0 = some 0 := by kernel_rfl
instance : CF Tryz.prog 126 0 0 := ⟨fad_126_0⟩
theorem z_126 : zeroA Tryz.prog 126 = some [.v (.string (mkB [])), .v (.int .i64 0), .v (.int .i64 0), .v (.int .i64 0)] := by kernel_rfl
instance : CZ Tryz.prog 126 [.v (.string (mkB [])), .v (.int .i64 0), .v (.int .i64 0), .v (.int .i64 0)] := ⟨z_126⟩
theorem ag_127 : isAg Tryz.prog 127 4 = true := by kernel_rfl
instance : CA Tryz.prog 127 4 := ⟨ag_127⟩
theorem el_127 : elOkQ Tryz.prog 127 4 = true := by kernel_rfl
instance : CE Tryz.prog 127 4 := ⟨el_127⟩
theorem fad_127_0 : fadOf Tryz.prog 127 0 = some 0 := by kernel_rfl
instance : CF Tryz.prog 127 0 0 := ⟨fad_127_0⟩
theorem z_127 : zeroA Tryz.prog 127 = some [.v (.string (mkB [])), .v (.int .i64 0), .v (.int .i64 0), .v (.int .i64 0)] := by kernel_rfl
instance : CZ Tryz.prog 127 [.v (.string (mkB [])), .v (.int .i64 0), .v (.int .i64 0), .v (.int .i64 0)] := ⟨z_127⟩
theorem s1_128 : isS1 Tryz.prog 128 = true := by kernel_rfl
instance : C1 Tryz.prog 128 := ⟨s1_128⟩
theorem el_128 : elOkQ Tryz.prog 128 1 = true := by kernel_rfl
instance : CE Tryz.prog 128 1 := ⟨el_128⟩
theorem z_128 : zeroA Tryz.prog 128 = some [.v .nilFunc] := by kernel_rfl
instance : CZ Tryz.prog 128 [.v .nilFunc] := ⟨z_128⟩
theorem s1_129 : isS1 Tryz.prog 129 = true := by kernel_rfl
instance : C1 Tryz.prog 129 := ⟨s1_129⟩
theorem el_129 : elOkQ Tryz.prog 129 1 = true := by kernel_rfl
instance : CE Tryz.prog 129 1 := ⟨el_129⟩
theorem z_129 : zeroA Tryz.prog 129 = some [.v .nilFunc] := by kernel_rfl
instance : CZ Tryz.prog 129 [.v .nilFunc] := ⟨z_129⟩
theorem s1_130 : isS1 Tryz.prog 130 = true := by kernel_rfl
instance : C1 Tryz.prog 130 := ⟨s1_130⟩
theorem el_130 : elOkQ Tryz.prog 130 1 = true := by kernel_rfl
instance : CE Tryz.prog 130 1 := ⟨el_130⟩
theorem z_130 : zeroA Tryz.prog 130 = some [.v .nilFunc] := by kernel_rfl
instance : CZ Tryz.prog 130 [.v .nilFunc] := ⟨z_130⟩
theorem ag_131 : isAg Tryz.prog 131 4 = true := by kernel_rfl
instance : CA Tryz.prog 131 4 := ⟨ag_131⟩
theorem el_131 : elOkQ Tryz.prog 131 4 = true := by kernel_rfl
instance : CE Tryz.prog 131 4 := ⟨el_131⟩
theorem ar_131 : arrOf Tryz.prog 131 = some (4, 3, 1) := by kernel_rfl
instance : CR Tryz.prog 131 4 3 1 := ⟨ar_131⟩
theorem z_131 : zeroA Tryz.prog 131 = some [.v (.int .i64 0), .v (.int .i64 0), .v (.int .i64 0), .v (.int .i64 0)] := by kernel_rfl
instance : CZ Tryz.prog 131 [.v (.int .i64 0), .v (.int .i64 0), .v (.int .i64 0), .v (.int .i64 0)] := ⟨z_131⟩
theorem s1_132 : isS1 Tryz.prog 132 = true := by kernel_rfl
instance : C1 Tryz.prog 132 := ⟨s1_132⟩
theorem el_132 : elOkQ Tryz.prog 132 1 = true := by kernel_rfl
instance : CE Tryz.prog 132 1 := ⟨el_132⟩
theorem z_132 : zeroA Tryz.prog 132 = some [.v .nilFunc] := by kernel_rfl
instance : CZ Tryz.prog 132 [.v .nilFunc] := ⟨z_132⟩
theorem s1_133 : isS1 Tryz.prog 133 = true := by kernel_rfl
instance : C1 Tryz.prog 133 := ⟨s1_133⟩
theorem el_133 : elOkQ Tryz.prog 133 1 = true := by kernel_rfl
instance : CE Tryz.prog 133 1 := ⟨el_133⟩
theorem z_133 : zeroA Tryz.prog 133 = some [.v .nilFunc] := by kernel_rfl
instance : CZ Tryz.prog 133 [.v .nilFunc] := ⟨z_133⟩
theorem s1_134 : isS1 Tryz.prog 134 = true := by kernel_rfl
instance : C1 Tryz.prog 134 := ⟨s1_134⟩
theorem el_134 : elOkQ Tryz.prog 134 1 = true := by kernel_rfl
instance : CE Tryz.prog 134 1 := ⟨el_134⟩
theorem z_134 : zeroA Tryz.prog 134 = some [.v .nilFunc] := by kernel_rfl
instance : CZ Tryz.prog 134 [.v .nilFunc] := ⟨z_134⟩
theorem ag_135 : isAg Tryz.prog 135 2 = true := by kernel_rfl
instance : CA Tryz.prog 135 2 := ⟨ag_135⟩
theorem el_135 : elOkQ Tryz.prog 135 2 = true := by kernel_rfl
instance : CE Tryz.prog 135 2 := ⟨el_135⟩
theorem fad_135_0 : fadOf Tryz.prog 135 0 = some 0 := by kernel_rfl
instance : CF Tryz.prog 135 0 0 := ⟨fad_135_0⟩
theorem z_135 : zeroA Tryz.prog 135 = some [.v (.int .i64 0), .v (.int .i64 0)] := by kernel_rfl
instance : CZ Tryz.prog 135 [.v (.int .i64 0), .v (.int .i64 0)] := ⟨z_135⟩
theorem ag_136 : isAg Tryz.prog 136 2 = true := by kernel_rfl
instance : CA Tryz.prog 136 2 := ⟨ag_136⟩
theorem el_136 : elOkQ Tryz.prog 136 2 = true := by kernel_rfl
instance : CE Tryz.prog 136 2 := ⟨el_136⟩
theorem fad_136_0 : fadOf Tryz.prog 136 0 = some 0 := by kernel_rfl
instance : CF Tryz.prog 136 0 0 := ⟨fad_136_0⟩
theorem z_136 : zeroA Tryz.prog 136 = some [.v (.int .i64 0), .v (.int .i64 0)] := by kernel_rfl
instance : CZ Tryz.prog 136 [.v (.int .i64 0), .v (.int .i64 0)] := ⟨z_136⟩
theorem s1_138 : isS1 Tryz.prog 138 = true := by kernel_rfl
instance : C1 Tryz.prog 138 := ⟨s1_138⟩
theorem el_138 : elOkQ Tryz.prog 138 1 = true := by kernel_rfl
instance : CE Tryz.prog 138 1 := ⟨el_138⟩
theorem z_138 : zeroA Tryz.prog 138 = some [.v (.pointer none)] := by kernel_rfl
instance : CZ Tryz.prog 138 [.v (.pointer none)] := ⟨z_138⟩
theorem ag_139 : isAg Tryz.prog 139 4 = true := by kernel_rfl
instance : CA Tryz.prog 139 4 := ⟨ag_139⟩
theorem el_139 : elOkQ Tryz.prog 139 4 = true := by kernel_rfl
instance : CE Tryz.prog 139 4 := ⟨el_139⟩
theorem fad_139_0 : fadOf Tryz.prog 139 0 = some 0 := by kernel_rfl
instance : CF Tryz.prog 139 0 0 := ⟨fad_139_0⟩
theorem z_139 : zeroA Tryz.prog 139 = some [.v (.string (mkB [])), .v (.int .i64 0), .v (.int .i64 0), .v (.int .i64 0)] := by kernel_rfl
instance : CZ Tryz.prog 139 [.v (.string (mkB [])), .v (.int .i64 0), .v (.int .i64 0), .v (.int .i64 0)] := ⟨z_139⟩
theorem s1_141 : isS1 Tryz.prog 141 = true := by kernel_rfl
instance : C1 Tryz.prog 141 := ⟨s1_141⟩
theorem el_141 : elOkQ Tryz.prog 141 1 = true := by kernel_rfl
instance : CE Tryz.prog 141 1 := ⟨el_141⟩
theorem z_141 : zeroA Tryz.prog 141 = some [.v .nilFunc] := by kernel_rfl
instance : CZ Tryz.prog 141 [.v .nilFunc] := ⟨z_141⟩
theorem s1_142 : isS1 Tryz.prog 142 = true := by kernel_rfl
instance : C1 Tryz.prog 142 := ⟨s1_142⟩
theorem el_142 : elOkQ Tryz.prog 142 1 = true := by kernel_rfl
instance : CE Tryz.prog 142 1 := ⟨el_142⟩
theorem z_142 : zeroA Tryz.prog 142 = some [.v .nilFunc] := by kernel_rfl
instance : CZ Tryz.prog 142 [.v .nilFunc] := ⟨z_142⟩
theorem s1_144 : isS1 Tryz.prog 144 = true := by kernel_rfl
instance : C1 Tryz.prog 144 := ⟨s1_144⟩
theorem el_144 : elOkQ Tryz.prog 144 1 = true := by kernel_rfl
instance : CE Tryz.prog 144 1 := ⟨el_144⟩
theorem z_144 : zeroA Tryz.prog 144 = some [.v .nilFunc] := by kernel_rfl
instance : CZ Tryz.prog 144 [.v .nilFunc] := ⟨z_144⟩
theorem s1_145 : isS1 Tryz.prog 145 = true := by kernel_rfl
instance : C1 Tryz.prog 145 := ⟨s1_145⟩
theorem el_145 : elOkQ Tryz.prog 145 1 = true := by kernel_rfl
instance : CE Tryz.prog 145 1 := ⟨el_145⟩
theorem z_145 : zeroA Tryz.prog 145 = some [.v .nilFunc] := by kernel_rfl
instance : CZ Tryz.prog 145 [.v .nilFunc] := ⟨z_145⟩
theorem s1_146 : isS1 Tryz.prog 146 = true := by kernel_rfl
instance : C1 Tryz.prog 146 := ⟨s1_146⟩
theorem el_146 : elOkQ Tryz.prog 146 1 = true := by kernel_rfl
instance : CE Tryz.prog 146 1 := ⟨el_146⟩
theorem z_146 : zeroA Tryz.prog 146 = some [.v .nilFunc] := by kernel_rfl
instance : CZ Tryz.prog 146 [.v .nilFunc] := ⟨z_146⟩
theorem s1_148 : isS1 Tryz.prog 148 = true := by kernel_rfl
instance : C1 Tryz.prog 148 := ⟨s1_148⟩
theorem el_148 : elOkQ Tryz.prog 148 1 = true := by kernel_rfl
instance : CE Tryz.prog 148 1 := ⟨el_148⟩
theorem z_148 : zeroA Tryz.prog 148 = some [.v .nilFunc] := by kernel_rfl
instance : CZ Tryz.prog 148 [.v .nilFunc] := ⟨z_148⟩
theorem s1_149 : isS1 Tryz.prog 149 = true := by kernel_rfl
instance : C1 Tryz.prog 149 := ⟨s1_149⟩
theorem el_149 : elOkQ Tryz.prog 149 1 = true := by kernel_rfl
instance : CE Tryz.prog 149 1 := ⟨el_149⟩
theorem z_149 : zeroA Tryz.prog 149 = some [.v .nilFunc] := by kernel_rfl
instance : CZ Tryz.prog 149 [.v .nilFunc] := ⟨z_149⟩
theorem s1_150 : isS1 Tryz.prog 150 = true := by kernel_rfl
instance : C1 Tryz.prog 150 := ⟨s1_150⟩
theorem el_150 : elOkQ Tryz.prog 150 1 = true := by kernel_rfl
instance : CE Tryz.prog 150 1 := ⟨el_150⟩
theorem z_150 : zeroA Tryz.prog 150 = some [.v .nilFunc] := by kernel_rfl
instance : CZ Tryz.prog 150 [.v .nilFunc] := ⟨z_150⟩
theorem s1_151 : isS1 Tryz.prog 151 = true := by kernel_rfl
instance : C1 Tryz.prog 151 := ⟨s1_151⟩
theorem el_151 : elOkQ Tryz.prog 151 1 = true := by kernel_rfl
instance : CE Tryz.prog 151 1 := ⟨el_151⟩
theorem z_151 : zeroA Tryz.prog 151 = some [.v .nilFunc] := by kernel_rfl
instance : CZ Tryz.prog 151 [.v .nilFunc] := ⟨z_151⟩
theorem s1_152 : isS1 Tryz.prog 152 = true := by kernel_rfl
instance : C1 Tryz.prog 152 := ⟨s1_152⟩
theorem el_152 : elOkQ Tryz.prog 152 1 = true := by kernel_rfl
instance : CE Tryz.prog 152 1 := ⟨el_152⟩
theorem z_152 : zeroA Tryz.prog 152 = some [.v .nilFunc] := by kernel_rfl
instance : CZ Tryz.prog 152 [.v .nilFunc] := ⟨z_152⟩
theorem s1_154 : isS1 Tryz.prog 154 = true := by kernel_rfl
instance : C1 Tryz.prog 154 := ⟨s1_154⟩
theorem el_154 : elOkQ Tryz.prog 154 1 = true := by kernel_rfl
instance : CE Tryz.prog 154 1 := ⟨el_154⟩
theorem z_154 : zeroA Tryz.prog 154 = some [.v .nilFunc] := by kernel_rfl
instance : CZ Tryz.prog 154 [.v .nilFunc] := ⟨z_154⟩
theorem s1_156 : isS1 Tryz.prog 156 = true := by kernel_rfl
instance : C1 Tryz.prog 156 := ⟨s1_156⟩
theorem el_156 : elOkQ Tryz.prog 156 1 = true := by kernel_rfl
instance : CE Tryz.prog 156 1 := ⟨el_156⟩
theorem z_156 : zeroA Tryz.prog 156 = some [.v .nilFunc] := by kernel_rfl
instance : CZ Tryz.prog 156 [.v .nilFunc] := ⟨z_156⟩
theorem s1_157 : isS1 Tryz.prog 157 = true := by kernel_rfl
instance : C1 Tryz.prog 157 := ⟨s1_157⟩
theorem el_157 : elOkQ Tryz.prog 157 1 = true := by kernel_rfl
instance : CE Tryz.prog 157 1 := ⟨el_157⟩
theorem z_157 : zeroA Tryz.prog 157 = some [.v .nilFunc] := by kernel_rfl
instance : CZ Tryz.prog 157 [.v .nilFunc] := ⟨z_157⟩
theorem s1_158 : isS1 Tryz.prog 158 = true := by kernel_rfl
instance : C1 Tryz.prog 158 := ⟨s1_158⟩
theorem el_158 : elOkQ Tryz.prog 158 1 = true := by kernel_rfl
instance : CE Tryz.prog 158 1 := ⟨el_158⟩
theorem z_158 : zeroA Tryz.prog 158 = some [.v .nilFunc] := by kernel_rfl
instance : CZ Tryz.prog 158 [.v .nilFunc] := ⟨z_158⟩
theorem s1_159 : isS1 Tryz.prog 159 = true := by kernel_rfl
instance : C1 Tryz.prog 159 := ⟨s1_159⟩
theorem el_159 : elOkQ Tryz.prog 159 1 = true := by kernel_rfl
instance : CE Tryz.prog 159 1 := ⟨el_159⟩
theorem z_159 : zeroA Tryz.prog 159 = some [.v .nilFunc] := by kernel_rfl
instance : CZ Tryz.prog 159 [.v .nilFunc] := ⟨z_159⟩
theorem s1_160 : isS1 Tryz.prog 160 = true := by kernel_rfl
instance : C1 Tryz.prog 160 := ⟨s1_160⟩
theorem el_160 : elOkQ Tryz.prog 160 1 = true := by kernel_rfl
instance : CE Tryz.prog 160 1 := ⟨el_160⟩
theorem z_160 : zeroA Tryz.prog 160 = some [.v .nilFunc] := by kernel_rfl
instance : CZ Tryz.prog 160 [.v .nilFunc] := ⟨z_160⟩
theorem s1_161 : isS1 Tryz.prog 161 = true := by kernel_rfl
instance : C1 Tryz.prog 161 := ⟨s1_161⟩
theorem el_161 : elOkQ Tryz.prog 161 1 = true := by kernel_rfl
instance : CE Tryz.prog 161 1 := ⟨el_161⟩
theorem z_161 : zeroA Tryz.prog 161 = some [.v (.pointer none)] := by kernel_rfl
instance : CZ Tryz.prog 161 [.v (.pointer none)] := ⟨z_161⟩
theorem s1_162 : isS1 Tryz.prog 162 = true := by kernel_rfl
instance : C1 Tryz.prog 162 := ⟨s1_162⟩
theorem el_162 : elOkQ Tryz.prog 162 1 = true := by kernel_rfl
instance : CE Tryz.prog 162 1 := ⟨el_162⟩
theorem z_162 : zeroA Tryz.prog 162 = some [.v .nilFunc] := by kernel_rfl
instance : CZ Tryz.prog 162 [.v .nilFunc] := ⟨z_162⟩
theorem s1_163 : isS1 Tryz.prog 163 = true := by kernel_rfl
instance : C1 Tryz.prog 163 := ⟨s1_163⟩
theorem el_163 : elOkQ Tryz.prog 163 1 = true := by kernel_rfl
instance : CE Tryz.prog 163 1 := ⟨el_163⟩
theorem z_163 : zeroA Tryz.prog 163 = some [.v .nilFunc] := by kernel_rfl
instance : CZ Tryz.prog 163 [.v .nilFunc] := ⟨z_163⟩
theorem ag_164 : isAg Tryz.prog 164 4 = true := by kernel_rfl
instance : CA Tryz.prog 164 4 := ⟨ag_164⟩
theorem el_164 : elOkQ Tryz.prog 164 4 = true := by kernel_rfl
instance : CE Tryz.prog 164 4 := ⟨el_164⟩
theorem fad_164_0 : fadOf Tryz.prog 164 0 = some 0 := by kernel_rfl
instance : CF Tryz.prog 164 0 0 := ⟨fad_164_0⟩
theorem z_164 : zeroA Tryz.prog 164 = some [.v (.string (mkB [])), .v (.int .i64 0), .v (.int .i64 0), .v (.int .i64 0)] := by kernel_rfl
instance : CZ Tryz.prog 164 [.v (.string (mkB [])), .v (.int .i64 0), .v (.int .i64 0), .v (.int .i64 0)] := ⟨z_164⟩
theorem ok_10 : okFn Tryz.prog 10 = true := by kernel_rfl
instance : CO Tryz.prog 10 := ⟨ok_10⟩
theorem ok_100 : okFn Tryz.prog 100 = true := by kernel_rfl
instance : CO Tryz.prog 100 := ⟨ok_100⟩
theorem ok_101 : okFn Tryz.prog 101 = true := by kernel_rfl
instance : CO Tryz.prog 101 := ⟨ok_101⟩
theorem ok_102 : okFn Tryz.prog 102 = true := by kernel_rfl
instance : CO Tryz.prog 102 := ⟨ok_102⟩
theorem ok_103 : okFn Tryz.prog 103 = true := by kernel_rfl
instance : CO Tryz.prog 103 := ⟨ok_103⟩
theorem ok_104 : okFn Tryz.prog 104 = true := by kernel_rfl
instance : CO Tryz.prog 104 := ⟨ok_104⟩
theorem ok_105 : okFn Tryz.prog 105 = true := by kernel_rfl
instance : CO Tryz.prog 105 := ⟨ok_105⟩
theorem ok_106 : okFn Tryz.prog 106 = true := by kernel_rfl
instance : CO Tryz.prog 106 := ⟨ok_106⟩
theorem ok_107 : okFn Tryz.prog 107 = true := by kernel_rfl
instance : CO Tryz.prog 107 := ⟨ok_107⟩
theorem ok_108 : okFn Tryz.prog 108 = true := by kernel_rfl
instance : CO Tryz.prog 108 := ⟨ok_108⟩
theorem ok_109 : okFn Tryz.prog 109 = true := by kernel_rfl
instance : CO Tryz.prog 109 := ⟨ok_109⟩
theorem ok_11 : okFn Tryz.prog 11 = true := by kernel_rfl
instance : CO Tryz.prog 11 := ⟨ok_11⟩
theorem ok_110 : okFn Tryz.prog 110 = true := by kernel_rfl
instance : CO Tryz.prog 110 := ⟨ok_110⟩
theorem ok_111 : okFn Tryz.prog 111 = true := by kernel_rfl
instance : CO Tryz.prog 111 := ⟨ok_111⟩
theorem ok_112 : okFn Tryz.prog 112 = true := by kernel_rfl
instance : CO Tryz.prog 112 := ⟨ok_112⟩
theorem ok_113 : okFn Tryz.prog 113 = true := by kernel_rfl
instance : CO Tryz.prog 113 := ⟨ok_113⟩
theorem ok_114 : okFn Tryz.prog 114 = true := by kernel_rfl
instance : CO Tryz.prog 114 := ⟨ok_114⟩
theorem ok_115 : okFn Tryz.prog 115 = true := by kernel_rfl
instance : CO Tryz.prog 115 := ⟨ok_115⟩
theorem ok_116 : okFn Tryz.prog 116 = true := by kernel_rfl
instance : CO Tryz.prog 116 := ⟨ok_116⟩
theorem ok_117 : okFn Tryz.prog 117 = true := by kernel_rfl
instance : CO Tryz.prog 117 := ⟨ok_117⟩
theorem ok_118 : okFn Tryz.prog 118 = true := by kernel_rfl
instance : CO Tryz.prog 118 := ⟨ok_118⟩
theorem ok_119 : okFn Tryz.prog 119 = true := by kernel_rfl
instance : CO Tryz.prog 119 := ⟨ok_119⟩
theorem ok_12 : okFn Tryz.prog 12 = true := by kernel_rfl
instance : CO Tryz.prog 12 := ⟨ok_12⟩
theorem ok_120 : okFn Tryz.prog 120 = true := by kernel_rfl
instance : CO Tryz.prog 120 := ⟨ok_120⟩
theorem ok_121 : okFn Tryz.prog 121 = true := by kernel_rfl
instance : CO Tryz.prog 121 := ⟨ok_121⟩
theorem ok_122 : okFn Tryz.prog 122 = true := by kernel_rfl
instance : CO Tryz.prog 122 := ⟨ok_122⟩
theorem ok_123 : okFn Tryz.prog 123 = true := by kernel_rfl
instance : CO Tryz.prog 123 := ⟨ok_123⟩
theorem ok_124 : okFn Tryz.prog 124 = true := by kernel_rfl
instance : CO Tryz.prog 124 := ⟨ok_124⟩
theorem ok_125 : okFn Tryz.prog 125 = true := by kernel_rfl
instance : CO Tryz.prog 125 := ⟨ok_125⟩
theorem ok_126 : okFn Tryz.prog 126 = true := by kernel_rfl
instance : CO Tryz.prog 126 := ⟨ok_126⟩
theorem ok_127 : okFn Tryz.prog 127 = true := by kernel_rfl
instance : CO Tryz.prog 127 := ⟨ok_127⟩
theorem ok_128 : okFn Tryz.prog 128 = true := by kernel_rfl
instance : CO Tryz.prog 128 := ⟨ok_128⟩
theorem ok_129 : okFn Tryz.prog 129 = true := by kernel_rfl
instance : CO Tryz.prog 129 := ⟨ok_129⟩
theorem ok_13 : okFn Tryz.prog 13 = true := by kernel_rfl
instance : CO Tryz.prog 13 := ⟨ok_13⟩
theorem ok_130 : okFn Tryz.prog 130 = true := by kernel_rfl
instance : CO Tryz.prog 130 := ⟨ok_130⟩
theorem ok_131 : okFn Tryz.prog 131 = true := by kernel_rfl
instance : CO Tryz.prog 131 := ⟨ok_131⟩
theorem ok_132 : okFn Tryz.prog 132 = true := by kernel_rfl
instance : CO Tryz.prog 132 := ⟨ok_132⟩
theorem ok_133 : okFn Tryz.prog 133 = true := by kernel_rfl
instance : CO Tryz.prog 133 := ⟨ok_133⟩
theorem ok_134 : okFn Tryz.prog 134 = true := by kernel_rfl
instance : CO Tryz.prog 134 := ⟨ok_134⟩
theorem ok_135 : okFn Tryz.prog 135 = true := by kernel_rfl
instance : CO Tryz.prog 135 := ⟨ok_135⟩
theorem ok_136 : okFn Tryz.prog 136 = true := by kernel_rfl
instance : CO Tryz.prog 136 := ⟨ok_136⟩
theorem ok_137 : okFn Tryz.prog 137 = true := by kernel_rfl
instance : CO Tryz.prog 137 := ⟨ok_137⟩
theorem ok_138 : okFn Tryz.prog 138 = true := by kernel_rfl
instance : CO Tryz.prog 138 := ⟨ok_138⟩
theorem ok_139 : okFn Tryz.prog 139 = true := by kernel_rfl
instance : CO Tryz.prog 139 := ⟨ok_139⟩
theorem ok_14 : okFn Tryz.prog 14 = true := by kernel_rfl
instance : CO Tryz.prog 14 := ⟨ok_14⟩
theorem ok_140 : okFn Tryz.prog 140 = true := by kernel_rfl
instance : CO Tryz.prog 140 := ⟨ok_140⟩
theorem ok_141 : okFn Tryz.prog 141 = true := by kernel_rfl
instance : CO Tryz.prog 141 := ⟨ok_141⟩
theorem ok_142 : okFn Tryz.prog 142 = true := by kernel_rfl
instance : CO Tryz.prog 142 := ⟨ok_142⟩
theorem ok_145 : okFn Tryz.prog 145 = true := by kernel_rfl
instance : CO Tryz.prog 145 := ⟨ok_145⟩
theorem ok_146 : okFn Tryz.prog 146 = true := by kernel_rfl
instance : CO Tryz.prog 146 := ⟨ok_146⟩
theorem ok_147 : okFn Tryz.prog 147 = true := by kernel_rfl
instance : CO Tryz.prog 147 := ⟨ok_147⟩
theorem ok_148 : okFn Tryz.prog 148 = true := by kernel_rfl
instance : CO Tryz.prog 148 := ⟨ok_148⟩
theorem ok_149 : okFn Tryz.prog 149 = true := by kernel_rfl
instance : CO Tryz.prog 149 := ⟨ok_149⟩
theorem ok_15 : okFn Tryz.prog 15 = true := by kernel_rfl
instance : CO Tryz.prog 15 := ⟨ok_15⟩
theorem ok_150 : okFn Tryz.prog 150 = true := by kernel_rfl
instance : CO Tryz.prog 150 := ⟨ok_150⟩
theorem ok_151 : okFn Tryz.prog 151 = true := by kernel_rfl
instance : CO Tryz.prog 151 := ⟨ok_151⟩
theorem ok_152 : okFn Tryz.prog 152 = true := by kernel_rfl
instance : CO Tryz.prog 152 := ⟨ok_152⟩
theorem ok_153 : okFn Tryz.prog 153 = true := by kernel_rfl
instance : CO Tryz.prog 153 := ⟨ok_153⟩
theorem ok_154 : okFn Tryz.prog 154 = true := by kernel_rfl
instance : CO Tryz.prog 154 := ⟨ok_154⟩
theorem ok_155 : okFn Tryz.prog 155 = true := by kernel_rfl
instance : CO Tryz.prog 155 := ⟨ok_155⟩
theorem ok_156 : okFn Tryz.prog 156 = true := by kernel_rfl
instance : CO Tryz.prog 156 := ⟨ok_156⟩
theorem ok_157 : okFn Tryz.prog 157 = true := by kernel_rfl
instance : CO Tryz.prog 157 := ⟨ok_157⟩
theorem ok_158 : okFn Tryz.prog 158 = true := by kernel_rfl
instance : CO Tryz.prog 158 := ⟨ok_158⟩
theorem ok_159 : okFn Tryz.prog 159 = true := by kernel_rfl
instance : CO Tryz.prog 159 := ⟨ok_159⟩
theorem ok_16 : okFn Tryz.prog 16 = true := by kernel_rfl
instance : CO Tryz.prog 16 := ⟨ok_16⟩
theorem ok_160 : okFn Tryz.prog 160 = true := by kernel_rfl
instance : CO Tryz.prog 160 := ⟨ok_160⟩
theorem ok_161 : okFn Tryz.prog 161 = true := by kernel_rfl
instance : CO Tryz.prog 161 := ⟨ok_161⟩
theorem ok_162 : okFn Tryz.prog 162 = true := by kernel_rfl
instance : CO Tryz.prog 162 := ⟨ok_162⟩
theorem ok_163 : okFn Tryz.prog 163 = true := by kernel_rfl
instance : CO Tryz.prog 163 := ⟨ok_163⟩
theorem ok_164 : okFn Tryz.prog 164 = true := by kernel_rfl
instance : CO Tryz.prog 164 := ⟨ok_164⟩
theorem ok_165 : okFn Tryz.prog 165 = true := by kernel_rfl
instance : CO Tryz.prog 165 := ⟨ok_165⟩
theorem ok_166 : okFn Tryz.prog 166 = true := by kernel_rfl
instance : CO Tryz.prog 166 := ⟨ok_166⟩
theorem ok_167 : okFn Tryz.prog 167 = true := by kernel_rfl
instance : CO Tryz.prog 167 := ⟨ok_167⟩
theorem ok_168 : okFn Tryz.prog 168 = true := by kernel_rfl
instance : CO Tryz.prog 168 := ⟨ok_168⟩
theorem ok_169 : okFn Tryz.prog 169 = true := by kernel_rfl
instance : CO Tryz.prog 169 := ⟨ok_169⟩
theorem ok_17 : okFn Tryz.prog 17 = true := by kernel_rfl
instance : CO Tryz.prog 17 := ⟨ok_17⟩
theorem ok_170 : okFn Tryz.prog 170 = true := by kernel_rfl
instance : CO Tryz.prog 170 := ⟨ok_170⟩
theorem ok_171 : okFn Tryz.prog 171 = true := by kernel_rfl
instance : CO Tryz.prog 171 := ⟨ok_171⟩
theorem ok_172 : okFn Tryz.prog 172 = true := by kernel_rfl
instance : CO Tryz.prog 172 := ⟨ok_172⟩
theorem ok_173 : okFn Tryz.prog 173 = true := by kernel_rfl
instance : CO Tryz.prog 173 := ⟨ok_173⟩
theorem ok_174 : okFn Tryz.prog 174 = true := by kernel_rfl
instance : CO Tryz.prog 174 := ⟨ok_174⟩
theorem ok_175 : okFn Tryz.prog 175 = true := by kernel_rfl
instance : CO Tryz.prog 175 := ⟨ok_175⟩
theorem ok_176 : okFn Tryz.prog 176 = true := by kernel_rfl
instance : CO Tryz.prog 176 := ⟨ok_176⟩
theorem ok_177 : okFn Tryz.prog 177 = true := by kernel_rfl
instance : CO Tryz.prog 177 := ⟨ok_177⟩
theorem ok_178 : okFn Tryz.prog 178 = true := by kernel_rfl
instance : CO Tryz.prog 178 := ⟨ok_178⟩
theorem ok_179 : okFn Tryz.prog 179 = true := by kernel_rfl
instance : CO Tryz.prog 179 := ⟨ok_179⟩
theorem ok_18 : okFn Tryz.prog 18 = true := by kernel_rfl
instance : CO Tryz.prog 18 := ⟨ok_18⟩
theorem ok_180 : okFn Tryz.prog 180 = true := by kernel_rfl
instance : CO Tryz.prog 180 := ⟨ok_180⟩
theorem ok_181 : okFn Tryz.prog 181 = true := by kernel_rfl
instance : CO Tryz.prog 181 := ⟨ok_181⟩
theorem ok_182 : okFn Tryz.prog 182 = true := by kernel_rfl
instance : CO Tryz.prog 182 := ⟨ok_182⟩
theorem ok_183 : okFn Tryz.prog 183 = true := by kernel_rfl
instance : CO Tryz.prog 183 := ⟨ok_183⟩
theorem ok_184 : okFn Tryz.prog 184 = true := by kernel_rfl
instance : CO Tryz.prog 184 := ⟨ok_184⟩
theorem ok_185 : okFn Tryz.prog 185 = true := by kernel_rfl
instance : CO Tryz.prog 185 := ⟨ok_185⟩
theorem ok_186 : okFn Tryz.prog 186 = true := by kernel_rfl
instance : CO Tryz.prog 186 := ⟨ok_186⟩
theorem ok_187 : okFn Tryz.prog 187 = true := by kernel_rfl
instance : CO Tryz.prog 187 := ⟨ok_187⟩
theorem ok_188 : okFn Tryz.prog 188 = true := by kernel_rfl
instance : CO Tryz.prog 188 := ⟨ok_188⟩
theorem ok_189 : okFn Tryz.prog 189 = true := by kernel_rfl
instance : CO Tryz.prog 189 := ⟨ok_189⟩
theorem ok_19 : okFn Tryz.prog 19 = true := by kernel_rfl
instance : CO Tryz.prog 19 := ⟨ok_19⟩
theorem ok_190 : okFn Tryz.prog 190 = true := by kernel_rfl
instance : CO Tryz.prog 190 := ⟨ok_190⟩
theorem ok_191 : okFn Tryz.prog 191 = true := by kernel_rfl
instance : CO Tryz.prog 191 := ⟨ok_191⟩
theorem ok_192 : okFn Tryz.prog 192 = true := by kernel_rfl
instance : CO Tryz.prog 192 := ⟨ok_192⟩
theorem ok_193 : okFn Tryz.prog 193 = true := by kernel_rfl
instance : CO Tryz.prog 193 := ⟨ok_193⟩
theorem ok_194 : okFn Tryz.prog 194 = true := by kernel_rfl
instance : CO Tryz.prog 194 := ⟨ok_194⟩
theorem ok_198 : okFn Tryz.prog 198 = true := by kernel_rfl
instance : CO Tryz.prog 198 := ⟨ok_198⟩
theorem ok_199 : okFn Tryz.prog 199 = true := by kernel_rfl
instance : CO Tryz.prog 199 := ⟨ok_199⟩
theorem ok_20 : okFn Tryz.prog 20 = true := by kernel_rfl
instance : CO Tryz.prog 20 := ⟨ok_20⟩
theorem ok_200 : okFn Tryz.prog 200 = true := by kernel_rfl
instance : CO Tryz.prog 200 := ⟨ok_200⟩
theorem ok_201 : okFn Tryz.prog 201 = true := by kernel_rfl
instance : CO Tryz.prog 201 := ⟨ok_201⟩
theorem ok_202 : okFn Tryz.prog 202 = true := by kernel_rfl
instance : CO Tryz.prog 202 := ⟨ok_202⟩
theorem ok_203 : okFn Tryz.prog 203 = true := by kernel_rfl
instance : CO Tryz.prog 203 := ⟨ok_203⟩
theorem ok_204 : okFn Tryz.prog 204 = true := by kernel_rfl
instance : CO Tryz.prog 204 := ⟨ok_204⟩
theorem ok_205 : okFn Tryz.prog 205 = true := by kernel_rfl
instance : CO Tryz.prog 205 := ⟨ok_205⟩
theorem ok_206 : okFn Tryz.prog 206 = true := by kernel_rfl
instance : CO Tryz.prog 206 := ⟨ok_206⟩
theorem ok_207 : okFn Tryz.prog 207 = true := by kernel_rfl
instance : CO Tryz.prog 207 := ⟨ok_207⟩
theorem ok_208 : okFn Tryz.prog 208 = true := by kernel_rfl
instance : CO Tryz.prog 208 := ⟨ok_208⟩
theorem ok_209 : okFn Tryz.prog 209 = true := by kernel_rfl
instance : CO Tryz.prog 209 := ⟨ok_209⟩
theorem ok_21 : okFn Tryz.prog 21 = true := by kernel_rfl
instance : CO Tryz.prog 21 := ⟨ok_21⟩
theorem ok_210 : okFn Tryz.prog 210 = true := by kernel_rfl
instance : CO Tryz.prog 210 := ⟨ok_210⟩
theorem ok_211 : okFn Tryz.prog 211 = true := by kernel_rfl
instance : CO Tryz.prog 211 := ⟨ok_211⟩
theorem ok_212 : okFn Tryz.prog 212 = true := by kernel_rfl
instance : CO Tryz.prog 212 := ⟨ok_212⟩
theorem ok_213 : okFn Tryz.prog 213 = true := by kernel_rfl
instance : CO Tryz.prog 213 := ⟨ok_213⟩
theorem ok_215 : okFn Tryz.prog 215 = true := by kernel_rfl
instance : CO Tryz.prog 215 := ⟨ok_215⟩
theorem ok_216 : okFn Tryz.prog 216 = true := by kernel_rfl
instance : CO Tryz.prog 216 := ⟨ok_216⟩
theorem ok_217 : okFn Tryz.prog 217 = true := by kernel_rfl
instance : CO Tryz.prog 217 := ⟨ok_217⟩
theorem ok_218 : okFn Tryz.prog 218 = true := by kernel_rfl
instance : CO Tryz.prog 218 := ⟨ok_218⟩
theorem ok_219 : okFn Tryz.prog 219 = true := by kernel_rfl
instance : CO Tryz.prog 219 := ⟨ok_219⟩
theorem ok_22 : okFn Tryz.prog 22 = true := by kernel_rfl
instance : CO Tryz.prog 22 := ⟨ok_22⟩
theorem ok_220 : okFn Tryz.prog 220 = true := by kernel_rfl
instance : CO Tryz.prog 220 := ⟨ok_220⟩
theorem ok_221 : okFn Tryz.prog 221 = true := by kernel_rfl
instance : CO Tryz.prog 221 := ⟨ok_221⟩
theorem ok_222 : okFn Tryz.prog 222 = true := by kernel_rfl
instance : CO Tryz.prog 222 := ⟨ok_222⟩
theorem ok_223 : okFn Tryz.prog 223 = true := by kernel_rfl
instance : CO Tryz.prog 223 := ⟨ok_223⟩
theorem ok_224 : okFn Tryz.prog 224 = true := by kernel_rfl
instance : CO Tryz.prog 224 := ⟨ok_224⟩
theorem ok_225 : okFn Tryz.prog 225 = true := by kernel_rfl
instance : CO Tryz.prog 225 := ⟨ok_225⟩
theorem ok_228 : okFn Tryz.prog 228 = true := by kernel_rfl
instance : CO Tryz.prog 228 := ⟨ok_228⟩
theorem ok_229 : okFn Tryz.prog 229 = true := by kernel_rfl
instance : CO Tryz.prog 229 := ⟨ok_229⟩
theorem ok_23 : okFn Tryz.prog 23 = true := by kernel_rfl
instance : CO Tryz.prog 23 := ⟨ok_23⟩
theorem ok_230 : okFn Tryz.prog 230 = true := by kernel_rfl
instance : CO Tryz.prog 230 := ⟨ok_230⟩
theorem ok_231 : okFn Tryz.prog 231 = true := by kernel_rfl
instance : CO Tryz.prog 231 := ⟨ok_231⟩
theorem ok_232 : okFn Tryz.prog 232 = true := by kernel_rfl
instance : CO Tryz.prog 232 := ⟨ok_232⟩
theorem ok_233 : okFn Tryz.prog 233 = true := by kernel_rfl
instance : CO Tryz.prog 233 := ⟨ok_233⟩
theorem ok_234 : okFn Tryz.prog 234 = true := by kernel_rfl
instance : CO Tryz.prog 234 := ⟨ok_234⟩
theorem ok_235 : okFn Tryz.prog 235 = true := by kernel_rfl
instance : CO Tryz.prog 235 := ⟨ok_235⟩
theorem ok_236 : okFn Tryz.prog 236 = true := by kernel_rfl
instance : CO Tryz.prog 236 := ⟨ok_236⟩
theorem ok_237 : okFn Tryz.prog 237 = true := by kernel_rfl
instance : CO Tryz.prog 237 := ⟨ok_237⟩
theorem ok_238 : okFn Tryz.prog 238 = true := by kernel_rfl
instance : CO Tryz.prog 238 := ⟨ok_238⟩
theorem ok_239 : okFn Tryz.prog 239 = true := by kernel_rfl
instance : CO Tryz.prog 239 := ⟨ok_239⟩
theorem ok_24 : okFn Tryz.prog 24 = true := by kernel_rfl
instance : CO Tryz.prog 24 := ⟨ok_24⟩
theorem ok_240 : okFn Tryz.prog 240 = true := by kernel_rfl
instance : CO Tryz.prog 240 := ⟨ok_240⟩
theorem ok_241 : okFn Tryz.prog 241 = true := by kernel_rfl
instance : CO Tryz.prog 241 := ⟨ok_241⟩
theorem ok_242 : okFn Tryz.prog 242 = true := by kernel_rfl
instance : CO Tryz.prog 242 := ⟨ok_242⟩
theorem ok_243 : okFn Tryz.prog 243 = true := by kernel_rfl
instance : CO Tryz.prog 243 := ⟨ok_243⟩
theorem ok_244 : okFn Tryz.prog 244 = true := by kernel_rfl
instance : CO Tryz.prog 244 := ⟨ok_244⟩
theorem ok_245 : okFn Tryz.prog 245 = true := by kernel_rfl
instance : CO Tryz.prog 245 := ⟨ok_245⟩
theorem ok_246 : okFn Tryz.prog 246 = true := by kernel_rfl
instance : CO Tryz.prog 246 := ⟨ok_246⟩
theorem ok_247 : okFn Tryz.prog 247 = true := by kernel_rfl
instance : CO Tryz.prog 247 := ⟨ok_247⟩
theorem ok_248 : okFn Tryz.prog 248 = true := by kernel_rfl
instance : CO Tryz.prog 248 := ⟨ok_248⟩
theorem ok_249 : okFn Tryz.prog 249 = true := by kernel_rfl
instance : CO Tryz.prog 249 := ⟨ok_249⟩
theorem ok_25 : okFn Tryz.prog 25 = true := by kernel_rfl
instance : CO Tryz.prog 25 := ⟨ok_25⟩
theorem ok_250 : okFn Tryz.prog 250 = true := by kernel_rfl
instance : CO Tryz.prog 250 := ⟨ok_250⟩
theorem ok_251 : okFn Tryz.prog 251 = true := by kernel_rfl
instance : CO Tryz.prog 251 := ⟨ok_251⟩
theorem ok_252 : okFn Tryz.prog 252 = true := by kernel_rfl
instance : CO Tryz.prog 252 := ⟨ok_252⟩
theorem ok_253 : okFn Tryz.prog 253 = true := by kernel_rfl
instance : CO Tryz.prog 253 := ⟨ok_253⟩
theorem ok_254 : okFn Tryz.prog 254 = true := by kernel_rfl
instance : CO Tryz.prog 254 := ⟨ok_254⟩
theorem ok_255 : okFn Tryz.prog 255 = true := by kernel_rfl
instance : CO Tryz.prog 255 := ⟨ok_255⟩
theorem ok_256 : okFn Tryz.prog 256 = true := by kernel_rfl
instance : CO Tryz.prog 256 := ⟨ok_256⟩
theorem ok_257 : okFn Tryz.prog 257 = true := by kernel_rfl
instance : CO Tryz.prog 257 := ⟨ok_257⟩
theorem ok_258 : okFn Tryz.prog 258 = true := by kernel_rfl
instance : CO Tryz.prog 258 := ⟨ok_258⟩
theorem ok_259 : okFn Tryz.prog 259 = true := by kernel_rfl
instance : CO Tryz.prog 259 := ⟨ok_259⟩
theorem ok_26 : okFn Tryz.prog 26 = true := by kernel_rfl
instance : CO Tryz.prog 26 := ⟨ok_26⟩
theorem ok_260 : okFn Tryz.prog 260 = true := by kernel_rfl
instance : CO Tryz.prog 260 := ⟨ok_260⟩
theorem ok_261 : okFn Tryz.prog 261 = true := by kernel_rfl
instance : CO Tryz.prog 261 := ⟨ok_261⟩
theorem ok_262 : okFn Tryz.prog 262 = true := by kernel_rfl
instance : CO Tryz.prog 262 := ⟨ok_262⟩
theorem ok_263 : okFn Tryz.prog 263 = true := by kernel_rfl
instance : CO Tryz.prog 263 := ⟨ok_263⟩
theorem ok_264 : okFn Tryz.prog 264 = true := by kernel_rfl
instance : CO Tryz.prog 264 := ⟨ok_264⟩
theorem ok_265 : okFn Tryz.prog 265 = true := by kernel_rfl
instance : CO Tryz.prog 265 := ⟨ok_265⟩
theorem ok_270 : okFn Tryz.prog 270 = true := by kernel_rfl
instance : CO Tryz.prog 270 := ⟨ok_270⟩
theorem ok_273 : okFn Tryz.prog 273 = true := by kernel_rfl
instance : CO Tryz.prog 273 := ⟨ok_273⟩
theorem ok_3 : okFn Tryz.prog 3 = true := by kernel_rfl
instance : CO Tryz.prog 3 := ⟨ok_3⟩
theorem ok_4 : okFn Tryz.prog 4 = true := by kernel_rfl
instance : CO Tryz.prog 4 := ⟨ok_4⟩
theorem ok_43 : okFn Tryz.prog 43 = true := by kernel_rfl
instance : CO Tryz.prog 43 := ⟨ok_43⟩
theorem ok_44 : okFn Tryz.prog 44 = true := by kernel_rfl
instance : CO Tryz.prog 44 := ⟨ok_44⟩
theorem ok_45 : okFn Tryz.prog 45 = true := by kernel_rfl
instance : CO Tryz.prog 45 := ⟨ok_45⟩
theorem ok_46 : okFn Tryz.prog 46 = true := by kernel_rfl
instance : CO Tryz.prog 46 := ⟨ok_46⟩
theorem ok_47 : okFn Tryz.prog 47 = true := by kernel_rfl
instance : CO Tryz.prog 47 := ⟨ok_47⟩
theorem ok_48 : okFn Tryz.prog 48 = true := by kernel_rfl
instance : CO Tryz.prog 48 := ⟨ok_48⟩
theorem ok_49 : okFn Tryz.prog 49 = true := by kernel_rfl
instance : CO Tryz.prog 49 := ⟨ok_49⟩
theorem ok_5 : okFn Tryz.prog 5 = true := by kernel_rfl
instance : CO Tryz.prog 5 := ⟨ok_5⟩
theorem ok_50 : okFn Tryz.prog 50 = true := by kernel_rfl
instance : CO Tryz.prog 50 := ⟨ok_50⟩
theorem ok_51 : okFn Tryz.prog 51 = true := by kernel_rfl
instance : CO Tryz.prog 51 := ⟨ok_51⟩
theorem ok_52 : okFn Tryz.prog 52 = true := by kernel_rfl
instance : CO Tryz.prog 52 := ⟨ok_52⟩
theorem ok_53 : okFn Tryz.prog 53 = true := by kernel_rfl
instance : CO Tryz.prog 53 := ⟨ok_53⟩
theorem ok_54 : okFn Tryz.prog 54 = true := by kernel_rfl
instance : CO Tryz.prog 54 := ⟨ok_54⟩
theorem ok_55 : okFn Tryz.prog 55 = true := by kernel_rfl
instance : CO Tryz.prog 55 := ⟨ok_55⟩
theorem ok_56 : okFn Tryz.prog 56 = true := by kernel_rfl
instance : CO Tryz.prog 56 := ⟨ok_56⟩
theorem ok_57 : okFn Tryz.prog 57 = true := by kernel_rfl
instance : CO Tryz.prog 57 := ⟨ok_57⟩
theorem ok_58 : okFn Tryz.prog 58 = true := by kernel_rfl
instance : CO Tryz.prog 58 := ⟨ok_58⟩
theorem ok_59 : okFn Tryz.prog 59 = true := by kernel_rfl
instance : CO Tryz.prog 59 := ⟨ok_59⟩
theorem ok_6 : okFn Tryz.prog 6 = true := by kernel_rfl
instance : CO Tryz.prog 6 := ⟨ok_6⟩
theorem ok_60 : okFn Tryz.prog 60 = true := by kernel_rfl
instance : CO Tryz.prog 60 := ⟨ok_60⟩
theorem ok_61 : okFn Tryz.prog 61 = true := by kernel_rfl
instance : CO Tryz.prog 61 := ⟨ok_61⟩
theorem ok_62 : okFn Tryz.prog 62 = true := by kernel_rfl
instance : CO Tryz.prog 62 := ⟨ok_62⟩
theorem ok_63 : okFn Tryz.prog 63 = true := by kernel_rfl
instance : CO Tryz.prog 63 := ⟨ok_63⟩
theorem ok_64 : okFn Tryz.prog 64 = true := by kernel_rfl
instance : CO Tryz.prog 64 := ⟨ok_64⟩
theorem ok_65 : okFn Tryz.prog 65 = true := by kernel_rfl
instance : CO Tryz.prog 65 := ⟨ok_65⟩
theorem ok_66 : okFn Tryz.prog 66 = true := by kernel_rfl
instance : CO Tryz.prog 66 := ⟨ok_66⟩
theorem ok_67 : okFn Tryz.prog 67 = true := by kernel_rfl
instance : CO Tryz.prog 67 := ⟨ok_67⟩
theorem ok_68 : okFn Tryz.prog 68 = true := by kernel_rfl
instance : CO Tryz.prog 68 := ⟨ok_68⟩
theorem ok_69 : okFn Tryz.prog 69 = true := by kernel_rfl
instance : CO Tryz.prog 69 := ⟨ok_69⟩
theorem ok_7 : okFn Tryz.prog 7 = true := by kernel_rfl
instance : CO Tryz.prog 7 := ⟨ok_7⟩
theorem ok_70 : okFn Tryz.prog 70 = true := by kernel_rfl
instance : CO Tryz.prog 70 := ⟨ok_70⟩
theorem ok_71 : okFn Tryz.prog 71 = true := by kernel_rfl
instance : CO Tryz.prog 71 := ⟨ok_71⟩
theorem ok_72 : okFn Tryz.prog 72 = true := by kernel_rfl
instance : CO Tryz.prog 72 := ⟨ok_72⟩
theorem ok_73 : okFn Tryz.prog 73 = true := by kernel_rfl
instance : CO Tryz.prog 73 := ⟨ok_73⟩
theorem ok_74 : okFn Tryz.prog 74 = true := by kernel_rfl
instance : CO Tryz.prog 74 := ⟨ok_74⟩
theorem ok_75 : okFn Tryz.prog 75 = true := by kernel_rfl
instance : CO Tryz.prog 75 := ⟨ok_75⟩
theorem ok_76 : okFn Tryz.prog 76 = true := by kernel_rfl
instance : CO Tryz.prog 76 := ⟨ok_76⟩
theorem ok_77 : okFn Tryz.prog 77 = true := by kernel_rfl
instance : CO Tryz.prog 77 := ⟨ok_77⟩
theorem ok_78 : okFn Tryz.prog 78 = true := by kernel_rfl
instance : CO Tryz.prog 78 := ⟨ok_78⟩
theorem ok_79 : okFn Tryz.prog 79 = true := by kernel_rfl
instance : CO Tryz.prog 79 := ⟨ok_79⟩
theorem ok_8 : okFn Tryz.prog 8 = true := by kernel_rfl
instance : CO Tryz.prog 8 := ⟨ok_8⟩
theorem ok_80 : okFn Tryz.prog 80 = true := by kernel_rfl
instance : CO Tryz.prog 80 := ⟨ok_80⟩
theorem ok_81 : okFn Tryz.prog 81 = true := by kernel_rfl
instance : CO Tryz.prog 81 := ⟨ok_81⟩
theorem ok_82 : okFn Tryz.prog 82 = true := by kernel_rfl
instance : CO Tryz.prog 82 := ⟨ok_82⟩
theorem ok_83 : okFn Tryz.prog 83 = true := by kernel_rfl
instance : CO Tryz.prog 83 := ⟨ok_83⟩
theorem ok_84 : okFn Tryz.prog 84 = true := by kernel_rfl
instance : CO Tryz.prog 84 := ⟨ok_84⟩
theorem ok_85 : okFn Tryz.prog 85 = true := by kernel_rfl
instance : CO Tryz.prog 85 := ⟨ok_85⟩
theorem ok_86 : okFn Tryz.prog 86 = true := by kernel_rfl
instance : CO Tryz.prog 86 := ⟨ok_86⟩
theorem ok_87 : okFn Tryz.prog 87 = true := by kernel_rfl
instance : CO Tryz.prog 87 := ⟨ok_87⟩
theorem ok_88 : okFn Tryz.prog 88 = true := by kernel_rfl
instance : CO Tryz.prog 88 := ⟨ok_88⟩
theorem ok_89 : okFn Tryz.prog 89 = true := by kernel_rfl
instance : CO Tryz.prog 89 := ⟨ok_89⟩
theorem ok_9 : okFn Tryz.prog 9 = true := by kernel_rfl
instance : CO Tryz.prog 9 := ⟨ok_9⟩
theorem ok_90 : okFn Tryz.prog 90 = true := by kernel_rfl
instance : CO Tryz.prog 90 := ⟨ok_90⟩
theorem ok_91 : okFn Tryz.prog 91 = true := by kernel_rfl
instance : CO Tryz.prog 91 := ⟨ok_91⟩
theorem ok_92 : okFn Tryz.prog 92 = true := by kernel_rfl
instance : CO Tryz.prog 92 := ⟨ok_92⟩
theorem ok_93 : okFn Tryz.prog 93 = true := by kernel_rfl
instance : CO Tryz.prog 93 := ⟨ok_93⟩
theorem ok_94 : okFn Tryz.prog 94 = true := by kernel_rfl
instance : CO Tryz.prog 94 := ⟨ok_94⟩
theorem ok_95 : okFn Tryz.prog 95 = true := by kernel_rfl
instance : CO Tryz.prog 95 := ⟨ok_95⟩
theorem ok_96 : okFn Tryz.prog 96 = true := by kernel_rfl
instance : CO Tryz.prog 96 := ⟨ok_96⟩
theorem ok_97 : okFn Tryz.prog 97 = true := by kernel_rfl
instance : CO Tryz.prog 97 := ⟨ok_97⟩
theorem ok_98 : okFn Tryz.prog 98 = true := by kernel_rfl
instance : CO Tryz.prog 98 := ⟨ok_98⟩
/-! ### Numbers of four bytes -/
def le4 (n : Int) : List UInt8 := [b8 n, b8 (n / 2 ^ 8), b8 (n / 2 ^ 16), b8 (n / 2 ^ 24)]
theorem le4_len (n : Int) : (le4 n).length = 4 := rfl
theorem b8_mod (n : Int) : b8 (n % 256) = b8 n := by
  rw [b8, b8, Int.emod_emod_of_dvd n (by decide)]
theorem bs_46_4 (a b c d : UInt8) : bslC Tryz.prog 46 4 [(0, U8 a), (1, U8 b), (2, U8 c), (3, U8 d)] = some (5, [U8 a, U8 b, U8 c, U8 d]) := by kernel_rfl
theorem bs_46_1 (a : UInt8) : bslC Tryz.prog 46 1 [(0, U8 a)] = some (5, [U8 a]) := by kernel_rfl
instance (a b c d : UInt8) : BS Tryz.prog 46 4 [(0, U8 a), (1, U8 b), (2, U8 c), (3, U8 d)] 5 [U8 a, U8 b, U8 c, U8 d] := ⟨bs_46_4 a b c d⟩
instance (a : UInt8) : BS Tryz.prog 46 1 [(0, U8 a)] 5 [U8 a] := ⟨bs_46_1 a⟩
theorem little_any (n : Int) (h0 : 0 ≤ n) : ACalls Tryz.prog 16 [W32 n] [] (fun r _ => r = St (le4 n) ∧ r.sc 0 = true) := by
  refine acalls_of_wk hm Tryz.func16 rfl ?_
  simp only [Tryz.ntmps16, List.length_cons, List.length_nil, Nat.reduceAdd, Nat.reduceSub, List.reduceReplicate, List.cons_append, List.nil_append]
  show wk _ _ none _ _ ⟨_, []⟩ _
  with_reducible refine s_seq ?_
  with_reducible refine s_reg ?_
  refine sassign ?_
  simp only [pu', p0', c1', c0', i1', z0', b8_nat]
  with_reducible refine s_end ?_
  with_reducible refine s_then ?_
  with_reducible refine s_seq ?_
  with_reducible refine s_reg ?_
  refine smove ?_
  simp only [pu', p0', c1', c0', i1', z0', b8_nat]
  refine sconvB ?_
  simp only [pu', p0', c1', c0', i1', z0', b8_nat]
  refine smove ?_
  simp only [pu', p0', c1', c0', i1', z0', b8_nat]
  refine sshr ?_
  simp only [pu', p0', c1', c0', i1', z0', b8_nat]
  refine sconvB ?_
  simp only [pu', p0', c1', c0', i1', z0', b8_nat]
  refine smove ?_
  simp only [pu', p0', c1', c0', i1', z0', b8_nat]
  refine sshr ?_
  simp only [pu', p0', c1', c0', i1', z0', b8_nat]
  refine sconvB ?_
  simp only [pu', p0', c1', c0', i1', z0', b8_nat]
  refine smove ?_
  simp only [pu', p0', c1', c0', i1', z0', b8_nat]
  refine sshr ?_
  simp only [pu', p0', c1', c0', i1', z0', b8_nat]
  refine sconvB ?_
  simp only [pu', p0', c1', c0', i1', z0', b8_nat]
  refine sbsl ?_
  simp only [pu', p0', c1', c0', i1', n0', n3', n1', n2', a2', a1', a0', n4', Nat.reduceAdd, z0', n5', sa0, sa1, sa2, sa3, sa4, sa5, sa6, sa7, sa8, sa9, sa10, sa11]
  refine sconvS ?_
  simp only [pu', p0', c1', c0', i1', z0', b8_nat]
  refine sassign ?_
  simp only [pu', p0', c1', c0', i1', z0', b8_nat]
  with_reducible refine s_end ?_
  with_reducible refine s_then ?_
  with_reducible refine s_ret ?_
  all_goals try with_reducible refine w_n ?_
  all_goals refine w_1 rfl (by first | exact v_t (by rfl) | exact v_c1 (C1.p) (by rfl) (HA.p) (by rfl) | exact v_cF (CA.p) (by rfl) (HA.p) (by rfl)) ?_
  exact ⟨rfl, rfl⟩
/-! ### Magic, Write -/
def magR (k : Int) : AV := if k < 0 ∨ 16 ≤ k then .tup [W32 0, I 11] else .tup [W32 (407710288 + k), I 0]
theorem mag_no {k : Int} (h : k < 0 ∨ 16 ≤ k) : magR k = .tup [W32 0, I 11] := if_pos h
theorem mag_ok {k : Int} (h : ¬ (k < 0 ∨ 16 ≤ k)) : magR k = .tup [W32 (407710288 + k), I 0] := if_neg h
theorem magic_any (k : Int) : ACalls Tryz.prog 15 [I k] [] (fun r _ => r = magR k ∧ r.sc 0 = true) := by
  refine acalls_of_wk hm Tryz.func15 rfl ?_
  simp only [Tryz.ntmps15, List.length_cons, List.length_nil, Nat.reduceAdd, Nat.reduceSub, List.reduceReplicate, List.cons_append, List.nil_append]
  show wk _ _ none _ _ ⟨_, []⟩ _
  focus
    with_reducible refine s_seq ?_
    with_reducible refine s_reg ?_
    refine sassign ?_
    simp only [pu', p0', c1', c0', i1', z0', b8_nat]
    refine sassign ?_
    simp only [pu', p0', c1', c0', i1', z0', b8_nat]
    with_reducible refine s_end ?_
    with_reducible refine s_then ?_
    with_reducible refine s_seq ?_
    with_reducible refine s_seq ?_
    with_reducible refine s_reg ?_
    refine smove ?_
    simp only [pu', p0', c1', c0', i1', z0', b8_nat]
    refine sLt (fun hb => ?_) (fun hb => ?_)
    replace hb := dT' hb
    simp only [pu', p0', c1', c0', i1', z0', b8_nat]
    refine smove ?_
    simp only [pu', p0', c1', c0', i1', z0', b8_nat]
    (with_reducible refine s_gN ?_ ?_; exact wG rfl rfl rfl rfl rfl)
    simp only [pu', p0', c1', c0', i1', z0', b8_nat]
    (with_reducible refine s_gN ?_ ?_; exact wG rfl rfl rfl rfl rfl)
    simp only [pu', p0', c1', c0', i1', z0', b8_nat]
    refine spickT ?_
    simp only [pu', p0', c1', c0', i1', z0', b8_nat]
    with_reducible refine s_end ?_
    with_reducible refine s_then ?_
    refine sCT ?_
    with_reducible refine s_seq ?_
    with_reducible refine s_reg ?_
    refine sassign ?_
    simp only [pu', p0', c1', c0', i1', z0', b8_nat]
    refine sassign ?_
    simp only [pu', p0', c1', c0', i1', z0', b8_nat]
    with_reducible refine s_end ?_
    with_reducible refine s_then ?_
    with_reducible refine s_ret ?_
    with_reducible refine s_thenR ?_
    rotate_left 1
    replace hb := dF' hb
    simp only [pu', p0', c1', c0', i1', z0', b8_nat]
    refine smove ?_
    simp only [pu', p0', c1', c0', i1', z0', b8_nat]
    refine smove ?_
    simp only [pu', p0', c1', c0', i1', z0', b8_nat]
    refine sGe (fun hb => ?_) (fun hb => ?_)
    replace hb := dT' hb
    simp only [pu', p0', c1', c0', i1', z0', b8_nat]
    refine spickF ?_
    simp only [pu', p0', c1', c0', i1', z0', b8_nat]
    with_reducible refine s_end ?_
    with_reducible refine s_then ?_
    refine sCT ?_
    with_reducible refine s_seq ?_
    with_reducible refine s_reg ?_
    refine sassign ?_
    simp only [pu', p0', c1', c0', i1', z0', b8_nat]
    refine sassign ?_
    simp only [pu', p0', c1', c0', i1', z0', b8_nat]
    with_reducible refine s_end ?_
    with_reducible refine s_then ?_
    with_reducible refine s_ret ?_
    with_reducible refine s_thenR ?_
    rotate_left 1
    replace hb := dF' hb
    simp only [pu', p0', c1', c0', i1', z0', b8_nat]
    refine spickF ?_
    simp only [pu', p0', c1', c0', i1', z0', b8_nat]
    with_reducible refine s_end ?_
    with_reducible refine s_then ?_
    refine sCF ?_
    with_reducible refine s_skip ?_
    with_reducible refine s_then ?_
    with_reducible refine s_seq ?_
    with_reducible refine s_reg ?_
    refine smove ?_
    simp only [pu', p0', c1', c0', i1', z0', b8_nat]
    refine sconv ?_
    simp only [pu', p0', c1', c0', i1', z0', b8_nat]
    refine sadd ?_
    simp only [pu', p0', c1', c0', i1', z0', b8_nat]
    refine sassign ?_
    simp only [pu', p0', c1', c0', i1', z0', b8_nat]
    refine sassign ?_
    simp only [pu', p0', c1', c0', i1', z0', b8_nat]
    with_reducible refine s_end ?_
    with_reducible refine s_then ?_
    with_reducible refine s_ret ?_
    rotate_left 1
  all_goals try with_reducible refine w_n ?_
  all_goals refine w_2 rfl (by first | exact v_t (by rfl) | exact v_c1 (C1.p) (by rfl) (HA.p) (by rfl) | exact v_cF (CA.p) (by rfl) (HA.p) (by rfl)) (by first | exact v_t (by rfl) | exact v_c1 (C1.p) (by rfl) (HA.p) (by rfl) | exact v_cF (CA.p) (by rfl) (HA.p) (by rfl)) ?_
  all_goals first
    | (rw [mag_no (by omega)]; exact ⟨rfl, rfl⟩)
    | (rw [mag_ok (by omega)]; exact ⟨rfl, rfl⟩)
def wrt (k : Int) (l : List UInt8) : List UInt8 := le4 (407710288 + k) ++ le4 l.length ++ l
def wrR (k : Int) (l : List UInt8) : AV := if k < 0 ∨ 16 ≤ k then .tup [St [], I 11] else if 1048576 < l.length then .tup [St [], I 4] else .tup [St (wrt k l), I 0]
theorem wr_no {k : Int} {l : List UInt8} (h : k < 0 ∨ 16 ≤ k) : wrR k l = .tup [St [], I 11] := if_pos h
theorem wr_long {k : Int} {l : List UInt8} (h : ¬ (k < 0 ∨ 16 ≤ k)) (h1 : 1048576 < l.length) : wrR k l = .tup [St [], I 4] := by rw [wrR, if_neg h, if_pos h1]
theorem wr_ok {k : Int} {l : List UInt8} (h : ¬ (k < 0 ∨ 16 ≤ k)) (h1 : ¬ 1048576 < l.length) : wrR k l = .tup [St (le4 (407710288 + k) ++ le4 l.length ++ l), I 0] := by rw [wrR, if_neg h, if_neg h1]; rfl
theorem write_any (k : Int) (l : List UInt8) : ACalls Tryz.prog 10 [I k, St l] [] (fun r _ => r = wrR k l ∧ r.sc 0 = true) := by
  have m := magic_any k
  by_cases hk : k < 0 ∨ 16 ≤ k
  · rw [mag_no hk] at m
    rw [wr_no hk]
    refine acalls_of_wk hm Tryz.func10 rfl ?_
    simp only [Tryz.ntmps10, List.length_cons, List.length_nil, Nat.reduceAdd, Nat.reduceSub, List.reduceReplicate, List.cons_append, List.nil_append]
    show wk _ _ none _ _ ⟨_, []⟩ _
    focus
      with_reducible refine s_seq ?_
      with_reducible refine s_reg ?_
      refine sassign ?_
      simp only [pu', p0', c1', c0', i1', z0', b8_nat]
      refine sassign ?_
      simp only [pu', p0', c1', c0', i1', z0', b8_nat]
      with_reducible refine s_end ?_
      with_reducible refine s_then ?_
      with_reducible refine s_seq ?_
      with_reducible refine s_reg ?_
      refine smove ?_
      simp only [pu', p0', c1', c0', i1', z0', b8_nat]
      refine sK (hx := rfl) (m) ?_
      simp only [pu', p0', c1', c0', i1', z0', b8_nat]
      refine smove ?_
      simp only [pu', p0', c1', c0', i1', z0', b8_nat]
      refine sext ?_
      simp only [pu', p0', c1', c0', i1', z0', b8_nat]
      refine sext ?_
      simp only [pu', p0', c1', c0', i1', z0', b8_nat]
      refine sassign ?_
      simp only [pu', p0', c1', c0', i1', z0', b8_nat]
      refine sassign ?_
      simp only [pu', p0', c1', c0', i1', z0', b8_nat]
      with_reducible refine s_end ?_
      with_reducible refine s_then ?_
      with_reducible refine s_seq ?_
      with_reducible refine s_seq ?_
      with_reducible refine s_reg ?_
      refine smove ?_
      simp only [pu', p0', c1', c0', i1', z0', b8_nat]
      refine sNe (fun hb => ?_) (fun hb => ?_)
      replace hb := dT' hb
      simp only [pu', p0', c1', c0', i1', z0', b8_nat]
      with_reducible refine s_end ?_
      with_reducible refine s_then ?_
      refine sCT ?_
      with_reducible refine s_seq ?_
      with_reducible refine s_reg ?_
      refine smove ?_
      simp only [pu', p0', c1', c0', i1', z0', b8_nat]
      refine sassign ?_
      simp only [pu', p0', c1', c0', i1', z0', b8_nat]
      refine sassign ?_
      simp only [pu', p0', c1', c0', i1', z0', b8_nat]
      with_reducible refine s_end ?_
      with_reducible refine s_then ?_
      with_reducible refine s_ret ?_
      with_reducible refine s_thenR ?_
      rotate_left 1
      replace hb := dF' hb
      (exfalso; omega)
    all_goals try with_reducible refine w_n ?_
    all_goals refine w_2 rfl (by first | exact v_t (by rfl) | exact v_c1 (C1.p) (by rfl) (HA.p) (by rfl) | exact v_cF (CA.p) (by rfl) (HA.p) (by rfl)) (by first | exact v_t (by rfl) | exact v_c1 (C1.p) (by rfl) (HA.p) (by rfl) | exact v_cF (CA.p) (by rfl) (HA.p) (by rfl)) ?_
    exact ⟨rfl, rfl⟩
  · rw [mag_ok hk] at m
    have e1 := le4_len (407710288 + k)
    have e2 := le4_len l.length
    refine acalls_of_wk hm Tryz.func10 rfl ?_
    simp only [Tryz.ntmps10, List.length_cons, List.length_nil, Nat.reduceAdd, Nat.reduceSub, List.reduceReplicate, List.cons_append, List.nil_append]
    show wk _ _ none _ _ ⟨_, []⟩ _
    focus
      with_reducible refine s_seq ?_
      with_reducible refine s_reg ?_
      refine sassign ?_
      simp only [pu', p0', c1', c0', i1', z0', b8_nat]
      refine sassign ?_
      simp only [pu', p0', c1', c0', i1', z0', b8_nat]
      with_reducible refine s_end ?_
      with_reducible refine s_then ?_
      with_reducible refine s_seq ?_
      with_reducible refine s_reg ?_
      refine smove ?_
      simp only [pu', p0', c1', c0', i1', z0', b8_nat]
      refine sK (hx := rfl) (m) ?_
      simp only [pu', p0', c1', c0', i1', z0', b8_nat]
      refine smove ?_
      simp only [pu', p0', c1', c0', i1', z0', b8_nat]
      refine sext ?_
      simp only [pu', p0', c1', c0', i1', z0', b8_nat]
      refine sext ?_
      simp only [pu', p0', c1', c0', i1', z0', b8_nat]
      refine sassign ?_
      simp only [pu', p0', c1', c0', i1', z0', b8_nat]
      refine sassign ?_
      simp only [pu', p0', c1', c0', i1', z0', b8_nat]
      with_reducible refine s_end ?_
      with_reducible refine s_then ?_
      with_reducible refine s_seq ?_
      with_reducible refine s_seq ?_
      with_reducible refine s_reg ?_
      refine smove ?_
      simp only [pu', p0', c1', c0', i1', z0', b8_nat]
      refine sNe (fun hb => ?_) (fun hb => ?_)
      replace hb := dT' hb
      (exfalso; omega)
      replace hb := dF' hb
      simp only [pu', p0', c1', c0', i1', z0', b8_nat]
      with_reducible refine s_end ?_
      with_reducible refine s_then ?_
      refine sCF ?_
      with_reducible refine s_skip ?_
      with_reducible refine s_then ?_
      with_reducible refine s_seq ?_
      with_reducible refine s_seq ?_
      with_reducible refine s_reg ?_
      refine smove ?_
      simp only [pu', p0', c1', c0', i1', z0', b8_nat]
      refine slenS ?_
      simp only [pu', p0', c1', c0', i1', z0', b8_nat]
      refine sGt (fun hb => ?_) (fun hb => ?_)
      replace hb := dT' hb
      simp only [pu', p0', c1', c0', i1', z0', b8_nat]
      with_reducible refine s_end ?_
      with_reducible refine s_then ?_
      refine sCT ?_
      with_reducible refine s_seq ?_
      with_reducible refine s_reg ?_
      refine sassign ?_
      simp only [pu', p0', c1', c0', i1', z0', b8_nat]
      refine sassign ?_
      simp only [pu', p0', c1', c0', i1', z0', b8_nat]
      with_reducible refine s_end ?_
      with_reducible refine s_then ?_
      with_reducible refine s_ret ?_
      with_reducible refine s_thenR ?_
      rotate_left 1
      replace hb := dF' hb
      simp only [pu', p0', c1', c0', i1', z0', b8_nat]
      with_reducible refine s_end ?_
      with_reducible refine s_then ?_
      refine sCF ?_
      with_reducible refine s_skip ?_
      with_reducible refine s_then ?_
      with_reducible refine s_seq ?_
      with_reducible refine s_reg ?_
      refine smove ?_
      simp only [pu', p0', c1', c0', i1', z0', b8_nat]
      refine sK (hx := rfl) (little_any _ (by omega)) ?_
      simp only [pu', p0', c1', c0', i1', z0', b8_nat]
      refine smove ?_
      simp only [pu', p0', c1', c0', i1', z0', b8_nat]
      refine slenS ?_
      simp only [pu', p0', c1', c0', i1', z0', b8_nat]
      refine sconv ?_
      simp only [pu', p0', c1', c0', i1', z0', b8_nat]
      refine sK (hx := rfl) (little_any _ (by omega)) ?_
      simp only [pu', p0', c1', c0', i1', z0', b8_nat]
      refine saddS ?_
      simp only [pu', p0', c1', c0', i1', z0', b8_nat]
      refine smove ?_
      simp only [pu', p0', c1', c0', i1', z0', b8_nat]
      refine saddS ?_
      simp only [pu', p0', c1', c0', i1', z0', b8_nat]
      refine sassign ?_
      simp only [pu', p0', c1', c0', i1', z0', b8_nat]
      refine sassign ?_
      simp only [pu', p0', c1', c0', i1', z0', b8_nat]
      with_reducible refine s_end ?_
      with_reducible refine s_then ?_
      with_reducible refine s_ret ?_
      rotate_left 1
    · all_goals try with_reducible refine w_n ?_
      all_goals refine w_2 rfl (by first | exact v_t (by rfl) | exact v_c1 (C1.p) (by rfl) (HA.p) (by rfl) | exact v_cF (CA.p) (by rfl) (HA.p) (by rfl)) (by first | exact v_t (by rfl) | exact v_c1 (C1.p) (by rfl) (HA.p) (by rfl) | exact v_cF (CA.p) (by rfl) (HA.p) (by rfl)) ?_
      rw [wr_long hk (by omega)]
      exact ⟨rfl, rfl⟩
    · all_goals try with_reducible refine w_n ?_
      all_goals refine w_2 rfl (by first | exact v_t (by rfl) | exact v_c1 (C1.p) (by rfl) (HA.p) (by rfl) | exact v_cF (CA.p) (by rfl) (HA.p) (by rfl)) (by first | exact v_t (by rfl) | exact v_c1 (C1.p) (by rfl) (HA.p) (by rfl) | exact v_cF (CA.p) (by rfl) (HA.p) (by rfl)) ?_
      rw [wr_ok hk (by omega)]
      exact ⟨rfl, rfl⟩
theorem wrR_shape (k : Int) (l : List UInt8) : ∃ x e, wrR k l = .tup [St x, I e] := by
  unfold wrR
  repeat' split
  all_goals exact ⟨_, _, rfl⟩
theorem magR_shape (k : Int) : ∃ x e, magR k = .tup [W32 x, I e] := by
  unfold magR
  split
  all_goals exact ⟨_, _, rfl⟩
end Go.Proofs.YtgjbmhclgmpjdaaGreat
