/-
  A part of the proof of a statement of a chapter's seat; conditions: stated at each theorem.
-/
import Derived.Test.YtfhbbpdnmdbjbaaK1
import Derived.Test.YtfhbbpdnmdbjbaaAzZF
set_option linter.unusedSimpArgs false
set_option linter.unusedVariables false
set_option maxRecDepth 100000
set_option maxHeartbeats 4000000
namespace Go.Proofs.Ytfhbbpdnmdbjbaa
open Go.Az Go
theorem s1_1 : isS1 Try.prog 1 = true := by kernel_rfl
theorem el_1 : elOkQ Try.prog 1 1 = true := by kernel_rfl
theorem z_1 : zeroA Try.prog 1 = some [.v .nilFunc] := by kernel_rfl
theorem s1_2 : isS1 Try.prog 2 = true := by kernel_rfl
theorem el_2 : elOkQ Try.prog 2 1 = true := by kernel_rfl
theorem u_2 : Try.prog.underlying 2 = some (.int .i64) := by kernel_rfl
theorem z_2 : zeroA Try.prog 2 = some [.v (.int .i64 0)] := by kernel_rfl
theorem s1_3 : isS1 Try.prog 3 = true := by kernel_rfl
theorem el_3 : elOkQ Try.prog 3 1 = true := by kernel_rfl
theorem u_3 : Try.prog.underlying 3 = some (.int .i64) := by kernel_rfl
theorem z_3 : zeroA Try.prog 3 = some [.v (.int .i64 0)] := by kernel_rfl
theorem s1_4 : isS1 Try.prog 4 = true := by kernel_rfl
theorem el_4 : elOkQ Try.prog 4 1 = true := by kernel_rfl
theorem bo_4 : Try.prog.underlying 4 = some .bool := by kernel_rfl
theorem z_4 : zeroA Try.prog 4 = some [.v (.bool false)] := by kernel_rfl
theorem s1_5 : isS1 Try.prog 5 = true := by kernel_rfl
theorem el_5 : elOkQ Try.prog 5 1 = true := by kernel_rfl
theorem u_5 : Try.prog.underlying 5 = some (.int .u8) := by kernel_rfl
theorem z_5 : zeroA Try.prog 5 = some [.v (.int .u8 0)] := by kernel_rfl
theorem s1_6 : isS1 Try.prog 6 = true := by kernel_rfl
theorem el_6 : elOkQ Try.prog 6 1 = true := by kernel_rfl
theorem u_6 : Try.prog.underlying 6 = some (.int .u8) := by kernel_rfl
theorem z_6 : zeroA Try.prog 6 = some [.v (.int .u8 0)] := by kernel_rfl
theorem ag_7 : isAg Try.prog 7 4 = true := by kernel_rfl
theorem el_7 : elOkQ Try.prog 7 4 = true := by kernel_rfl
theorem fad_7_0 : fadOf Try.prog 7 0 = some 0 := by kernel_rfl
theorem fad_7_1 : fadOf Try.prog 7 1 = some 1 := by kernel_rfl
theorem fad_7_2 : fadOf Try.prog 7 2 = some 2 := by kernel_rfl
theorem fad_7_3 : fadOf Try.prog 7 3 = some 3 := by kernel_rfl
theorem z_7 : zeroA Try.prog 7 = some [.v (.int .i64 0), .v (.int .i64 0), .v (.bool false), .v (.int .u8 0)] := by kernel_rfl
theorem ag_8 : isAg Try.prog 8 4 = true := by kernel_rfl
theorem el_8 : elOkQ Try.prog 8 4 = true := by kernel_rfl
theorem fad_8_0 : fadOf Try.prog 8 0 = some 0 := by kernel_rfl
theorem fad_8_1 : fadOf Try.prog 8 1 = some 1 := by kernel_rfl
theorem fad_8_2 : fadOf Try.prog 8 2 = some 2 := by kernel_rfl
theorem fad_8_3 : fadOf Try.prog 8 3 = some 3 := by kernel_rfl
theorem z_8 : zeroA Try.prog 8 = some [.v (.int .i64 0), .v (.int .i64 0), .v (.bool false), .v (.int .u8 0)] := by kernel_rfl
theorem s1_9 : isS1 Try.prog 9 = true := by kernel_rfl
theorem st_9 : strTy Try.prog 9 = true := by kernel_rfl
theorem el_9 : elOkQ Try.prog 9 1 = true := by kernel_rfl
theorem z_9 : zeroA Try.prog 9 = some [.v (.string (mkB []))] := by kernel_rfl
theorem s1_10 : isS1 Try.prog 10 = true := by kernel_rfl
theorem st_10 : strTy Try.prog 10 = true := by kernel_rfl
theorem el_10 : elOkQ Try.prog 10 1 = true := by kernel_rfl
theorem z_10 : zeroA Try.prog 10 = some [.v (.string (mkB []))] := by kernel_rfl
theorem s1_11 : isS1 Try.prog 11 = true := by kernel_rfl
theorem st_11 : strTy Try.prog 11 = true := by kernel_rfl
theorem el_11 : elOkQ Try.prog 11 1 = true := by kernel_rfl
theorem z_11 : zeroA Try.prog 11 = some [.v (.string (mkB []))] := by kernel_rfl
theorem s1_12 : isS1 Try.prog 12 = true := by kernel_rfl
theorem el_12 : elOkQ Try.prog 12 1 = true := by kernel_rfl
theorem u_12 : Try.prog.underlying 12 = some (.int .u64) := by kernel_rfl
theorem z_12 : zeroA Try.prog 12 = some [.v (.int .u64 0)] := by kernel_rfl
theorem ag_13 : isAg Try.prog 13 2 = true := by kernel_rfl
theorem el_13 : elOkQ Try.prog 13 2 = true := by kernel_rfl
theorem fad_13_0 : fadOf Try.prog 13 0 = some 0 := by kernel_rfl
theorem fad_13_1 : fadOf Try.prog 13 1 = some 1 := by kernel_rfl
theorem z_13 : zeroA Try.prog 13 = some [.v (.string (mkB [])), .v (.int .u64 0)] := by kernel_rfl
theorem ag_14 : isAg Try.prog 14 2 = true := by kernel_rfl
theorem el_14 : elOkQ Try.prog 14 2 = true := by kernel_rfl
theorem fad_14_0 : fadOf Try.prog 14 0 = some 0 := by kernel_rfl
theorem fad_14_1 : fadOf Try.prog 14 1 = some 1 := by kernel_rfl
theorem z_14 : zeroA Try.prog 14 = some [.v (.string (mkB [])), .v (.int .u64 0)] := by kernel_rfl
theorem s1_15 : isS1 Try.prog 15 = true := by kernel_rfl
theorem el_15 : elOkQ Try.prog 15 1 = true := by kernel_rfl
theorem z_15 : zeroA Try.prog 15 = some [.v (.pointer none)] := by kernel_rfl
theorem s1_16 : isS1 Try.prog 16 = true := by kernel_rfl
theorem el_16 : elOkQ Try.prog 16 1 = true := by kernel_rfl
theorem z_16 : zeroA Try.prog 16 = some [.v (.pointer none)] := by kernel_rfl
theorem s1_17 : isS1 Try.prog 17 = true := by kernel_rfl
theorem el_17 : elOkQ Try.prog 17 1 = true := by kernel_rfl
theorem z_17 : zeroA Try.prog 17 = some [.v (.pointer none)] := by kernel_rfl
theorem ag_18 : isAg Try.prog 18 1 = true := by kernel_rfl
theorem el_18 : elOkQ Try.prog 18 1 = true := by kernel_rfl
theorem fad_18_0 : fadOf Try.prog 18 0 = some 0 := by kernel_rfl
theorem z_18 : zeroA Try.prog 18 = some [.v (.pointer none)] := by kernel_rfl
theorem ag_19 : isAg Try.prog 19 1 = true := by kernel_rfl
theorem el_19 : elOkQ Try.prog 19 1 = true := by kernel_rfl
theorem fad_19_0 : fadOf Try.prog 19 0 = some 0 := by kernel_rfl
theorem z_19 : zeroA Try.prog 19 = some [.v (.pointer none)] := by kernel_rfl
theorem s1_20 : isS1 Try.prog 20 = true := by kernel_rfl
theorem el_20 : elOkQ Try.prog 20 1 = true := by kernel_rfl
theorem z_20 : zeroA Try.prog 20 = some [.v .nilIface] := by kernel_rfl
theorem s1_21 : isS1 Try.prog 21 = true := by kernel_rfl
theorem el_21 : elOkQ Try.prog 21 1 = true := by kernel_rfl
theorem u_21 : Try.prog.underlying 21 = some (.int .i32) := by kernel_rfl
theorem z_21 : zeroA Try.prog 21 = some [.v (.int .i32 0)] := by kernel_rfl
theorem ag_22 : isAg Try.prog 22 4 = true := by kernel_rfl
theorem el_22 : elOkQ Try.prog 22 4 = true := by kernel_rfl
theorem fad_22_0 : fadOf Try.prog 22 0 = some 0 := by kernel_rfl
theorem fad_22_1 : fadOf Try.prog 22 1 = some 1 := by kernel_rfl
theorem fad_22_2 : fadOf Try.prog 22 2 = some 2 := by kernel_rfl
theorem fad_22_3 : fadOf Try.prog 22 3 = some 3 := by kernel_rfl
theorem z_22 : zeroA Try.prog 22 = some [.v (.int .i64 0), .v (.bool false), .v (.bool false), .v (.int .i64 0)] := by kernel_rfl
theorem ag_23 : isAg Try.prog 23 4 = true := by kernel_rfl
theorem el_23 : elOkQ Try.prog 23 4 = true := by kernel_rfl
theorem fad_23_0 : fadOf Try.prog 23 0 = some 0 := by kernel_rfl
theorem fad_23_1 : fadOf Try.prog 23 1 = some 1 := by kernel_rfl
theorem fad_23_2 : fadOf Try.prog 23 2 = some 2 := by kernel_rfl
theorem fad_23_3 : fadOf Try.prog 23 3 = some 3 := by kernel_rfl
theorem z_23 : zeroA Try.prog 23 = some [.v (.int .i64 0), .v (.bool false), .v (.bool false), .v (.int .i64 0)] := by kernel_rfl
theorem s1_24 : isS1 Try.prog 24 = true := by kernel_rfl
theorem el_24 : elOkQ Try.prog 24 1 = true := by kernel_rfl
theorem u_24 : Try.prog.underlying 24 = some (.int .i64) := by kernel_rfl
theorem z_24 : zeroA Try.prog 24 = some [.v (.int .i64 0)] := by kernel_rfl
theorem s1_26 : isS1 Try.prog 26 = true := by kernel_rfl
theorem el_26 : elOkQ Try.prog 26 1 = true := by kernel_rfl
theorem z_26 : zeroA Try.prog 26 = some [.v .nilFunc] := by kernel_rfl
theorem s1_28 : isS1 Try.prog 28 = true := by kernel_rfl
theorem el_28 : elOkQ Try.prog 28 1 = true := by kernel_rfl
theorem z_28 : zeroA Try.prog 28 = some [.v .nilFunc] := by kernel_rfl
theorem ag_29 : isAg Try.prog 29 2 = true := by kernel_rfl
theorem el_29 : elOkQ Try.prog 29 2 = true := by kernel_rfl
theorem fad_29_0 : fadOf Try.prog 29 0 = some 0 := by kernel_rfl
theorem fad_29_1 : fadOf Try.prog 29 1 = some 1 := by kernel_rfl
theorem z_29 : zeroA Try.prog 29 = some [.v (.int .i64 0), .v (.int .i64 0)] := by kernel_rfl
theorem ag_30 : isAg Try.prog 30 2 = true := by kernel_rfl
theorem el_30 : elOkQ Try.prog 30 2 = true := by kernel_rfl
theorem fad_30_0 : fadOf Try.prog 30 0 = some 0 := by kernel_rfl
theorem fad_30_1 : fadOf Try.prog 30 1 = some 1 := by kernel_rfl
theorem z_30 : zeroA Try.prog 30 = some [.v (.int .i64 0), .v (.int .i64 0)] := by kernel_rfl
theorem s1_31 : isS1 Try.prog 31 = true := by kernel_rfl
theorem el_31 : elOkQ Try.prog 31 1 = true := by kernel_rfl
theorem z_31 : zeroA Try.prog 31 = some [.v .nilFunc] := by kernel_rfl
theorem s1_32 : isS1 Try.prog 32 = true := by kernel_rfl
theorem el_32 : elOkQ Try.prog 32 1 = true := by kernel_rfl
theorem z_32 : zeroA Try.prog 32 = some [.v .nilFunc] := by kernel_rfl
theorem s1_33 : isS1 Try.prog 33 = true := by kernel_rfl
theorem el_33 : elOkQ Try.prog 33 1 = true := by kernel_rfl
theorem z_33 : zeroA Try.prog 33 = some [.v .nilFunc] := by kernel_rfl
theorem s1_34 : isS1 Try.prog 34 = true := by kernel_rfl
theorem el_34 : elOkQ Try.prog 34 1 = true := by kernel_rfl
theorem sl_34 : sliOf Try.prog 34 = some (23, 4) := by kernel_rfl
theorem z_34 : zeroA Try.prog 34 = some [.v (.slice none 0 0)] := by kernel_rfl
theorem s1_35 : isS1 Try.prog 35 = true := by kernel_rfl
theorem el_35 : elOkQ Try.prog 35 1 = true := by kernel_rfl
theorem z_35 : zeroA Try.prog 35 = some [.v .nilFunc] := by kernel_rfl
theorem s1_37 : isS1 Try.prog 37 = true := by kernel_rfl
theorem el_37 : elOkQ Try.prog 37 1 = true := by kernel_rfl
theorem z_37 : zeroA Try.prog 37 = some [.v .nilFunc] := by kernel_rfl
theorem s1_38 : isS1 Try.prog 38 = true := by kernel_rfl
theorem el_38 : elOkQ Try.prog 38 1 = true := by kernel_rfl
theorem z_38 : zeroA Try.prog 38 = some [.v .nilFunc] := by kernel_rfl
theorem s1_39 : isS1 Try.prog 39 = true := by kernel_rfl
theorem el_39 : elOkQ Try.prog 39 1 = true := by kernel_rfl
theorem z_39 : zeroA Try.prog 39 = some [.v .nilFunc] := by kernel_rfl
theorem s1_41 : isS1 Try.prog 41 = true := by kernel_rfl
theorem el_41 : elOkQ Try.prog 41 1 = true := by kernel_rfl
theorem z_41 : zeroA Try.prog 41 = some [.v .nilFunc] := by kernel_rfl
theorem s1_43 : isS1 Try.prog 43 = true := by kernel_rfl
theorem el_43 : elOkQ Try.prog 43 1 = true := by kernel_rfl
theorem z_43 : zeroA Try.prog 43 = some [.v .nilFunc] := by kernel_rfl
theorem s1_45 : isS1 Try.prog 45 = true := by kernel_rfl
theorem el_45 : elOkQ Try.prog 45 1 = true := by kernel_rfl
theorem z_45 : zeroA Try.prog 45 = some [.v .nilFunc] := by kernel_rfl
theorem s1_46 : isS1 Try.prog 46 = true := by kernel_rfl
theorem el_46 : elOkQ Try.prog 46 1 = true := by kernel_rfl
theorem z_46 : zeroA Try.prog 46 = some [.v .nilFunc] := by kernel_rfl
theorem s1_47 : isS1 Try.prog 47 = true := by kernel_rfl
theorem el_47 : elOkQ Try.prog 47 1 = true := by kernel_rfl
theorem z_47 : zeroA Try.prog 47 = some [.v .nilFunc] := by kernel_rfl
theorem s1_48 : isS1 Try.prog 48 = true := by kernel_rfl
theorem el_48 : elOkQ Try.prog 48 1 = true := by kernel_rfl
theorem z_48 : zeroA Try.prog 48 = some [.v .nilFunc] := by kernel_rfl
theorem s1_49 : isS1 Try.prog 49 = true := by kernel_rfl
theorem el_49 : elOkQ Try.prog 49 1 = true := by kernel_rfl
theorem z_49 : zeroA Try.prog 49 = some [.v .nilFunc] := by kernel_rfl
theorem s1_50 : isS1 Try.prog 50 = true := by kernel_rfl
theorem el_50 : elOkQ Try.prog 50 1 = true := by kernel_rfl
theorem sl_50 : sliOf Try.prog 50 = some (3, 1) := by kernel_rfl
theorem z_50 : zeroA Try.prog 50 = some [.v (.slice none 0 0)] := by kernel_rfl
theorem s1_51 : isS1 Try.prog 51 = true := by kernel_rfl
theorem el_51 : elOkQ Try.prog 51 1 = true := by kernel_rfl
theorem z_51 : zeroA Try.prog 51 = some [.v .nilFunc] := by kernel_rfl
theorem s1_52 : isS1 Try.prog 52 = true := by kernel_rfl
theorem el_52 : elOkQ Try.prog 52 1 = true := by kernel_rfl
theorem sl_52 : sliOf Try.prog 52 = some (30, 2) := by kernel_rfl
theorem z_52 : zeroA Try.prog 52 = some [.v (.slice none 0 0)] := by kernel_rfl
theorem s1_53 : isS1 Try.prog 53 = true := by kernel_rfl
theorem el_53 : elOkQ Try.prog 53 1 = true := by kernel_rfl
theorem z_53 : zeroA Try.prog 53 = some [.v .nilFunc] := by kernel_rfl
theorem s1_54 : isS1 Try.prog 54 = true := by kernel_rfl
theorem el_54 : elOkQ Try.prog 54 1 = true := by kernel_rfl
theorem z_54 : zeroA Try.prog 54 = some [.v .nilFunc] := by kernel_rfl
theorem s1_55 : isS1 Try.prog 55 = true := by kernel_rfl
theorem el_55 : elOkQ Try.prog 55 1 = true := by kernel_rfl
theorem z_55 : zeroA Try.prog 55 = some [.v .nilFunc] := by kernel_rfl
theorem s1_56 : isS1 Try.prog 56 = true := by kernel_rfl
theorem el_56 : elOkQ Try.prog 56 1 = true := by kernel_rfl
theorem z_56 : zeroA Try.prog 56 = some [.v .nilFunc] := by kernel_rfl
theorem s1_57 : isS1 Try.prog 57 = true := by kernel_rfl
theorem el_57 : elOkQ Try.prog 57 1 = true := by kernel_rfl
theorem u_57 : Try.prog.underlying 57 = some (.int .i64) := by kernel_rfl
theorem z_57 : zeroA Try.prog 57 = some [.v (.int .i64 0)] := by kernel_rfl
theorem s1_58 : isS1 Try.prog 58 = true := by kernel_rfl
theorem el_58 : elOkQ Try.prog 58 1 = true := by kernel_rfl
theorem z_58 : zeroA Try.prog 58 = some [.v .nilIface] := by kernel_rfl
theorem s1_59 : isS1 Try.prog 59 = true := by kernel_rfl
theorem el_59 : elOkQ Try.prog 59 1 = true := by kernel_rfl
theorem z_59 : zeroA Try.prog 59 = some [.v .nilIface] := by kernel_rfl
theorem s1_60 : isS1 Try.prog 60 = true := by kernel_rfl
theorem el_60 : elOkQ Try.prog 60 1 = true := by kernel_rfl
theorem z_60 : zeroA Try.prog 60 = some [.v .nilFunc] := by kernel_rfl
theorem s1_61 : isS1 Try.prog 61 = true := by kernel_rfl
theorem el_61 : elOkQ Try.prog 61 1 = true := by kernel_rfl
theorem sl_61 : sliOf Try.prog 61 = some (9, 1) := by kernel_rfl
theorem z_61 : zeroA Try.prog 61 = some [.v (.slice none 0 0)] := by kernel_rfl
theorem s1_62 : isS1 Try.prog 62 = true := by kernel_rfl
theorem el_62 : elOkQ Try.prog 62 1 = true := by kernel_rfl
theorem z_62 : zeroA Try.prog 62 = some [.v (.pointer none)] := by kernel_rfl
theorem s1_63 : isS1 Try.prog 63 = true := by kernel_rfl
theorem el_63 : elOkQ Try.prog 63 1 = true := by kernel_rfl
theorem z_63 : zeroA Try.prog 63 = some [.v .nilFunc] := by kernel_rfl
theorem s1_64 : isS1 Try.prog 64 = true := by kernel_rfl
theorem el_64 : elOkQ Try.prog 64 1 = true := by kernel_rfl
theorem z_64 : zeroA Try.prog 64 = some [.v .nilFunc] := by kernel_rfl
theorem s1_65 : isS1 Try.prog 65 = true := by kernel_rfl
theorem el_65 : elOkQ Try.prog 65 1 = true := by kernel_rfl
theorem z_65 : zeroA Try.prog 65 = some [.v .nilFunc] := by kernel_rfl
theorem ag_66 : isAg Try.prog 66 4 = true := by kernel_rfl
theorem el_66 : elOkQ Try.prog 66 4 = true := by kernel_rfl
theorem fad_66_0 : fadOf Try.prog 66 0 = some 0 := by kernel_rfl
theorem fad_66_1 : fadOf Try.prog 66 1 = some 1 := by kernel_rfl
theorem fad_66_2 : fadOf Try.prog 66 2 = some 2 := by kernel_rfl
theorem fad_66_3 : fadOf Try.prog 66 3 = some 3 := by kernel_rfl
theorem z_66 : zeroA Try.prog 66 = some [.v (.pointer none), .v (.pointer none), .v (.pointer none), .v (.string (mkB []))] := by kernel_rfl
theorem ag_67 : isAg Try.prog 67 4 = true := by kernel_rfl
theorem el_67 : elOkQ Try.prog 67 4 = true := by kernel_rfl
theorem fad_67_0 : fadOf Try.prog 67 0 = some 0 := by kernel_rfl
theorem fad_67_1 : fadOf Try.prog 67 1 = some 1 := by kernel_rfl
theorem fad_67_2 : fadOf Try.prog 67 2 = some 2 := by kernel_rfl
theorem fad_67_3 : fadOf Try.prog 67 3 = some 3 := by kernel_rfl
theorem z_67 : zeroA Try.prog 67 = some [.v (.pointer none), .v (.pointer none), .v (.pointer none), .v (.string (mkB []))] := by kernel_rfl
theorem ar_68 : arrOf Try.prog 68 = some (0, 16, 1) := by kernel_rfl
theorem z_68 : zeroA Try.prog 68 = some [] := by kernel_rfl
theorem z_69 : zeroA Try.prog 69 = some [] := by kernel_rfl
theorem z_70 : zeroA Try.prog 70 = some [] := by kernel_rfl
theorem s1_71 : isS1 Try.prog 71 = true := by kernel_rfl
theorem el_71 : elOkQ Try.prog 71 1 = true := by kernel_rfl
theorem z_71 : zeroA Try.prog 71 = some [.v .nilFunc] := by kernel_rfl
theorem s1_72 : isS1 Try.prog 72 = true := by kernel_rfl
theorem el_72 : elOkQ Try.prog 72 1 = true := by kernel_rfl
theorem u_72 : Try.prog.underlying 72 = some (.int .u32) := by kernel_rfl
theorem z_72 : zeroA Try.prog 72 = some [.v (.int .u32 0)] := by kernel_rfl
theorem s1_73 : isS1 Try.prog 73 = true := by kernel_rfl
theorem el_73 : elOkQ Try.prog 73 1 = true := by kernel_rfl
theorem u_73 : Try.prog.underlying 73 = some (.int .u8) := by kernel_rfl
theorem z_73 : zeroA Try.prog 73 = some [.v (.int .u8 0)] := by kernel_rfl
theorem s1_74 : isS1 Try.prog 74 = true := by kernel_rfl
theorem el_74 : elOkQ Try.prog 74 1 = true := by kernel_rfl
theorem u_74 : Try.prog.underlying 74 = some (.int .u8) := by kernel_rfl
theorem z_74 : zeroA Try.prog 74 = some [.v (.int .u8 0)] := by kernel_rfl
theorem s1_75 : isS1 Try.prog 75 = true := by kernel_rfl
theorem el_75 : elOkQ Try.prog 75 1 = true := by kernel_rfl
theorem z_75 : zeroA Try.prog 75 = some [.v .nilFunc] := by kernel_rfl
theorem s1_76 : isS1 Try.prog 76 = true := by kernel_rfl
theorem el_76 : elOkQ Try.prog 76 1 = true := by kernel_rfl
theorem z_76 : zeroA Try.prog 76 = some [.v (.pointer none)] := by kernel_rfl
theorem s1_77 : isS1 Try.prog 77 = true := by kernel_rfl
theorem el_77 : elOkQ Try.prog 77 1 = true := by kernel_rfl
theorem u_77 : Try.prog.underlying 77 = some (.int .i32) := by kernel_rfl
theorem z_77 : zeroA Try.prog 77 = some [.v (.int .i32 0)] := by kernel_rfl
theorem s1_78 : isS1 Try.prog 78 = true := by kernel_rfl
theorem el_78 : elOkQ Try.prog 78 1 = true := by kernel_rfl
theorem u_78 : Try.prog.underlying 78 = some (.int .i32) := by kernel_rfl
theorem z_78 : zeroA Try.prog 78 = some [.v (.int .i32 0)] := by kernel_rfl
theorem ag_79 : isAg Try.prog 79 11 = true := by kernel_rfl
theorem fad_79_0 : fadOf Try.prog 79 0 = some 0 := by kernel_rfl
theorem fad_79_1 : fadOf Try.prog 79 1 = some 1 := by kernel_rfl
theorem fad_79_2 : fadOf Try.prog 79 2 = some 2 := by kernel_rfl
theorem fad_79_3 : fadOf Try.prog 79 3 = some 3 := by kernel_rfl
theorem fad_79_4 : fadOf Try.prog 79 4 = some 4 := by kernel_rfl
theorem fad_79_5 : fadOf Try.prog 79 5 = some 5 := by kernel_rfl
theorem fad_79_6 : fadOf Try.prog 79 6 = some 6 := by kernel_rfl
theorem fad_79_7 : fadOf Try.prog 79 7 = some 7 := by kernel_rfl
theorem z_79 : zeroA Try.prog 79 = some [.v (.int .u64 0), .v (.int .u64 0), .v (.int .u32 0), .v (.int .u8 0), .v (.int .u8 0), .v (.int .u8 0), .v (.int .u8 0), .v .nilFunc, .v (.pointer none), .v (.int .i32 0), .v (.int .i32 0)] := by kernel_rfl
theorem ag_80 : isAg Try.prog 80 11 = true := by kernel_rfl
theorem fad_80_0 : fadOf Try.prog 80 0 = some 0 := by kernel_rfl
theorem fad_80_1 : fadOf Try.prog 80 1 = some 1 := by kernel_rfl
theorem fad_80_2 : fadOf Try.prog 80 2 = some 2 := by kernel_rfl
theorem fad_80_3 : fadOf Try.prog 80 3 = some 3 := by kernel_rfl
theorem fad_80_4 : fadOf Try.prog 80 4 = some 4 := by kernel_rfl
theorem fad_80_5 : fadOf Try.prog 80 5 = some 5 := by kernel_rfl
theorem fad_80_6 : fadOf Try.prog 80 6 = some 6 := by kernel_rfl
theorem fad_80_7 : fadOf Try.prog 80 7 = some 7 := by kernel_rfl
theorem z_80 : zeroA Try.prog 80 = some [.v (.int .u64 0), .v (.int .u64 0), .v (.int .u32 0), .v (.int .u8 0), .v (.int .u8 0), .v (.int .u8 0), .v (.int .u8 0), .v .nilFunc, .v (.pointer none), .v (.int .i32 0), .v (.int .i32 0)] := by kernel_rfl
theorem ag_81 : isAg Try.prog 81 5 = true := by kernel_rfl
theorem ar_81 : arrOf Try.prog 81 = some (5, 9, 1) := by kernel_rfl
theorem z_81 : zeroA Try.prog 81 = some [.v (.string (mkB [])), .v (.string (mkB [])), .v (.string (mkB [])), .v (.string (mkB [])), .v (.string (mkB []))] := by kernel_rfl
theorem s1_82 : isS1 Try.prog 82 = true := by kernel_rfl
theorem el_82 : elOkQ Try.prog 82 1 = true := by kernel_rfl
theorem z_82 : zeroA Try.prog 82 = some [.v (.pointer none)] := by kernel_rfl
theorem ok_10 : okFn Try.prog 10 = true := by kernel_rfl
theorem ok_11 : okFn Try.prog 11 = true := by kernel_rfl
theorem ok_12 : okFn Try.prog 12 = true := by kernel_rfl
theorem ok_13 : okFn Try.prog 13 = true := by kernel_rfl
theorem ok_14 : okFn Try.prog 14 = true := by kernel_rfl
theorem ok_15 : okFn Try.prog 15 = true := by kernel_rfl
theorem ok_16 : okFn Try.prog 16 = true := by kernel_rfl
theorem ok_17 : okFn Try.prog 17 = true := by kernel_rfl
theorem ok_18 : okFn Try.prog 18 = true := by kernel_rfl
theorem ok_19 : okFn Try.prog 19 = true := by kernel_rfl
theorem ok_20 : okFn Try.prog 20 = true := by kernel_rfl
theorem ok_21 : okFn Try.prog 21 = true := by kernel_rfl
theorem ok_22 : okFn Try.prog 22 = true := by kernel_rfl
theorem ok_23 : okFn Try.prog 23 = true := by kernel_rfl
theorem ok_24 : okFn Try.prog 24 = true := by kernel_rfl
theorem ok_25 : okFn Try.prog 25 = true := by kernel_rfl
theorem ok_26 : okFn Try.prog 26 = true := by kernel_rfl
theorem ok_27 : okFn Try.prog 27 = true := by kernel_rfl
theorem ok_28 : okFn Try.prog 28 = true := by kernel_rfl
theorem ok_29 : okFn Try.prog 29 = true := by kernel_rfl
theorem ok_3 : okFn Try.prog 3 = true := by kernel_rfl
theorem ok_30 : okFn Try.prog 30 = true := by kernel_rfl
theorem ok_31 : okFn Try.prog 31 = true := by kernel_rfl
theorem ok_32 : okFn Try.prog 32 = true := by kernel_rfl
theorem ok_33 : okFn Try.prog 33 = true := by kernel_rfl
theorem ok_34 : okFn Try.prog 34 = true := by kernel_rfl
theorem ok_35 : okFn Try.prog 35 = true := by kernel_rfl
theorem ok_36 : okFn Try.prog 36 = true := by kernel_rfl
theorem ok_37 : okFn Try.prog 37 = true := by kernel_rfl
theorem ok_38 : okFn Try.prog 38 = true := by kernel_rfl
theorem ok_39 : okFn Try.prog 39 = true := by kernel_rfl
theorem ok_4 : okFn Try.prog 4 = true := by kernel_rfl
theorem ok_40 : okFn Try.prog 40 = true := by kernel_rfl
theorem ok_41 : okFn Try.prog 41 = true := by kernel_rfl
theorem ok_42 : okFn Try.prog 42 = true := by kernel_rfl
theorem ok_43 : okFn Try.prog 43 = true := by kernel_rfl
theorem ok_5 : okFn Try.prog 5 = true := by kernel_rfl
theorem ok_6 : okFn Try.prog 6 = true := by kernel_rfl
theorem ok_60 : okFn Try.prog 60 = true := by kernel_rfl
theorem ok_7 : okFn Try.prog 7 = true := by kernel_rfl
theorem ok_8 : okFn Try.prog 8 = true := by kernel_rfl
theorem ok_9 : okFn Try.prog 9 = true := by kernel_rfl
structure Tk where
  u : Int
  f : Bool
  o : Bool
  a : Int
def encT (t : Tk) : List AV := [I t.u, B t.f, B t.o, I t.a]
theorem encT_ok : EncOk encT 4 := fun _ => ⟨rfl, rfl⟩
def tk0 : Tk := ⟨0, false, false, 0⟩
abbrev TA (t : Tk) : AV := .agg (encT t)
abbrev WA (j d : Int) : AV := .agg [I j, I d]
theorem bd_23z : bld Try.prog 23 [] = some (TA tk0) := by kernel_rfl
theorem bd_23 (u : Int) : bld Try.prog 23 [(0, I u), (1, B true)] = some (TA ⟨u, true, false, 0⟩) := by kernel_rfl
theorem bd_30 (j : Int) : bld Try.prog 30 [(0, I j)] = some (WA j 0) := by kernel_rfl
theorem bd_30z : bld Try.prog 30 [] = some (WA 0 0) := by kernel_rfl
theorem eq_30 (a b c d : Int) : bin Try.prog .eql 30 (WA a b) (WA c d) = some (B (a == c && (b == d && true))) := by kernel_rfl
theorem ne_30 (a b c d : Int) : bin Try.prog .neq 30 (WA a b) (WA c d) = some (B (!(a == c && (b == d && true)))) := by kernel_rfl
theorem eq_23 (x y : Tk) : bin Try.prog .eql 23 (TA x) (TA y) = some (B (x.u == y.u && (x.f == y.f && (x.o == y.o && (x.a == y.a && true))))) := by kernel_rfl
theorem ne_23 (x y : Tk) : bin Try.prog .neq 23 (TA x) (TA y) = some (B (!(x.u == y.u && (x.f == y.f && (x.o == y.o && (x.a == y.a && true)))))) := by kernel_rfl
def taskR (u : Int) : AV := if u < 1 ∨ 1099511627776 < u then .tup [TA tk0, I 2] else .tup [TA ⟨u, true, false, 0⟩, I 0]
theorem taskR_no {u : Int} (h : u < 1 ∨ 1099511627776 < u) : taskR u = .tup [TA tk0, I 2] := if_pos h
theorem taskR_yes {u : Int} (h : ¬ (u < 1 ∨ 1099511627776 < u)) : taskR u = .tup [TA ⟨u, true, false, 0⟩, I 0] := if_neg h
theorem task_any (u : Int) : ACalls Try.prog 8 [I u] [] (fun r _ => r = taskR u ∧ r.sc 0 = true) := by
  refine acalls_of_wk hm Try.func8 rfl ?_
  simp only [Try.ntmps8, List.length_cons, List.length_nil, Nat.reduceAdd, Nat.reduceSub, List.reduceReplicate, List.cons_append, List.nil_append]
  show wk _ _ none _ _ ⟨_, []⟩ _
  repeat' (first
    | with_reducible refine s_seq ?_
    | with_reducible refine s_then ?_
    | with_reducible refine s_thenR ?_
    | with_reducible refine s_thenE ?_
    | with_reducible refine s_skip ?_
    | with_reducible refine s_ret ?_
    | with_reducible refine s_block ?_
    | with_reducible refine s_blkN ?_
    | with_reducible refine s_blkR ?_
    | with_reducible refine s_blkE ?_
    | with_reducible refine l_exit ?_
    | with_reducible refine l_ret ?_
    | with_reducible refine s_end ?_
    | with_reducible refine s_reg ?_
    | with_reducible refine s_blkX (by rfl) ?_
    | with_reducible refine s_exit ?_
    | ((with_reducible refine is_cond ?_); first | refine s_condT (by first | exact e_t (by rfl) | exact e_c | exact e_f) ?_ | refine s_condF (by first | exact e_t (by rfl) | exact e_c | exact e_f) ?_)
    | ((with_reducible refine is_sG _ ?_); refine s_gN (by rfl) ?_; simp only [Fr.put, List.set_cons_succ, List.set_cons_zero])
    | ((with_reducible refine is_s (.move _) ?_); refine s_gL (by rfl) (x_move (by first | exact e_t (by rfl) | exact e_c | exact e_f)) ?_; simp only [Fr.put, List.set_cons_succ, List.set_cons_zero])
    | ((with_reducible refine is_s (.assign _) ?_); refine s_gL (by rfl) (x_assign (by first | exact e_t (by rfl) | exact e_c | exact e_f)) ?_; simp only [Fr.put, List.set_cons_succ, List.set_cons_zero])
    | ((with_reducible refine is_s (.pick _ _ _) ?_); refine s_gL (by rfl) (x_pickT (by first | exact e_t (by rfl) | exact e_c | exact e_f) (by first | exact e_t (by rfl) | exact e_c | exact e_f)) ?_; simp only [Fr.put, List.set_cons_succ, List.set_cons_zero])
    | ((with_reducible refine is_s (.pick _ _ _) ?_); refine s_gL (by rfl) (x_pickF (by first | exact e_t (by rfl) | exact e_c | exact e_f) (by first | exact e_t (by rfl) | exact e_c | exact e_f)) ?_; simp only [Fr.put, List.set_cons_succ, List.set_cons_zero])
    | ((with_reducible refine is_s (.binOp .lss _ _ _ _) ?_); refine s_gB (by rfl) (x_lt (by first | exact e_t (by rfl) | exact e_c | exact e_f) (by first | exact e_t (by rfl) | exact e_c | exact e_f)) (fun hb => ?_) (fun hb => ?_) <;> simp only [decide_eq_true_eq, decide_eq_false_iff_not, Bool.not_eq_true', Bool.not_eq_false', not_true_eq_false, not_false_eq_true] at hb <;> first | (exfalso; omega) | (exfalso; simp_all; done) | (simp only [Fr.put, List.set_cons_succ, List.set_cons_zero]))
    | ((with_reducible refine is_s (.binOp .gtr _ _ _ _) ?_); refine s_gB (by rfl) (x_gt (by first | exact e_t (by rfl) | exact e_c | exact e_f) (by first | exact e_t (by rfl) | exact e_c | exact e_f)) (fun hb => ?_) (fun hb => ?_) <;> simp only [decide_eq_true_eq, decide_eq_false_iff_not, Bool.not_eq_true', Bool.not_eq_false', not_true_eq_false, not_false_eq_true] at hb <;> first | (exfalso; omega) | (exfalso; simp_all; done) | (simp only [Fr.put, List.set_cons_succ, List.set_cons_zero]))
    | ((with_reducible refine is_s (.build _ _) ?_); refine s_gL (by rfl) (x_build (by rfl) (bd_23z)) ?_; simp only [Fr.put, List.set_cons_succ, List.set_cons_zero])
    | ((with_reducible refine is_s (.build _ _) ?_); refine s_gL (by rfl) (x_build (by rfl) (bd_23 _)) ?_; simp only [Fr.put, List.set_cons_succ, List.set_cons_zero])
    | ((with_reducible refine is_s (.build _ _) ?_); refine s_gL (by rfl) (x_build (by rfl) (bd_30 _)) ?_; simp only [Fr.put, List.set_cons_succ, List.set_cons_zero])
    | ((with_reducible refine is_s (.build _ _) ?_); refine s_gL (by rfl) (x_build (by rfl) (bd_30z)) ?_; simp only [Fr.put, List.set_cons_succ, List.set_cons_zero])
    | ((with_reducible refine is_s (.binOp _ _ _ _ _) ?_); refine s_gB (by rfl) (x_bin (by first | exact e_t (by rfl) | exact e_c | exact e_f) (by first | exact e_t (by rfl) | exact e_c | exact e_f) (eq_30 _ _ _ _)) (fun hb => ?_) (fun hb => ?_) <;> simp only [decide_eq_true_eq, decide_eq_false_iff_not, Bool.not_eq_true', Bool.not_eq_false', not_true_eq_false, not_false_eq_true] at hb <;> first | (exfalso; omega) | (exfalso; simp_all; done) | (simp only [Fr.put, List.set_cons_succ, List.set_cons_zero]))
    | ((with_reducible refine is_s (.binOp _ _ _ _ _) ?_); refine s_gB (by rfl) (x_bin (by first | exact e_t (by rfl) | exact e_c | exact e_f) (by first | exact e_t (by rfl) | exact e_c | exact e_f) (ne_30 _ _ _ _)) (fun hb => ?_) (fun hb => ?_) <;> simp only [decide_eq_true_eq, decide_eq_false_iff_not, Bool.not_eq_true', Bool.not_eq_false', not_true_eq_false, not_false_eq_true] at hb <;> first | (exfalso; omega) | (exfalso; simp_all; done) | (simp only [Fr.put, List.set_cons_succ, List.set_cons_zero]))
    | ((with_reducible refine is_s (.binOp _ _ _ _ _) ?_); refine s_gB (by rfl) (x_bin (by first | exact e_t (by rfl) | exact e_c | exact e_f) (by first | exact e_t (by rfl) | exact e_c | exact e_f) (eq_23 _ _)) (fun hb => ?_) (fun hb => ?_) <;> simp only [decide_eq_true_eq, decide_eq_false_iff_not, Bool.not_eq_true', Bool.not_eq_false', not_true_eq_false, not_false_eq_true] at hb <;> first | (exfalso; omega) | (exfalso; simp_all; done) | (simp only [Fr.put, List.set_cons_succ, List.set_cons_zero]))
    | ((with_reducible refine is_s (.binOp _ _ _ _ _) ?_); refine s_gB (by rfl) (x_bin (by first | exact e_t (by rfl) | exact e_c | exact e_f) (by first | exact e_t (by rfl) | exact e_c | exact e_f) (ne_23 _ _)) (fun hb => ?_) (fun hb => ?_) <;> simp only [decide_eq_true_eq, decide_eq_false_iff_not, Bool.not_eq_true', Bool.not_eq_false', not_true_eq_false, not_false_eq_true] at hb <;> first | (exfalso; omega) | (exfalso; simp_all; done) | (simp only [Fr.put, List.set_cons_succ, List.set_cons_zero]))
    | ((with_reducible refine is_s (.alloc _) ?_); refine s_gH (by rfl) (x_alloc (by first | exact z_1 | exact z_2 | exact z_3 | exact z_4 | exact z_5 | exact z_6 | exact z_7 | exact z_8 | exact z_9 | exact z_10 | exact z_11 | exact z_12 | exact z_13 | exact z_23 | exact z_24 | exact z_35 | exact z_37 | exact z_39)) ?_; simp only [Fr.put, List.set_cons_succ, List.set_cons_zero, List.length_append, List.length_set, List.length_cons, List.length_nil, List.nil_append, List.cons_append, List.append_assoc, List.length_replicate, Nat.reduceAdd, Nat.zero_add, Nat.add_assoc, sa0, sa1, sa2, sa3, sa4, sa5, sa6, sa7])
    | ((with_reducible refine is_s (.store _ _ _) ?_); refine s_gH (by rfl) (x_store1 (by first | exact s1_1 | exact s1_2 | exact s1_3 | exact s1_4 | exact s1_5 | exact s1_6 | exact s1_9 | exact s1_10 | exact s1_11 | exact s1_12 | exact s1_24 | exact s1_35 | exact s1_37 | exact s1_39) (by first | exact e_t (by rfl) | exact e_c | exact e_f) (by first | exact e_t (by rfl) | exact e_c | exact e_f) (by rfl) (by first | rfl | exact ga0 | exact ga1 | exact ga2 | exact ga3 | exact ga4 | exact ga5 | exact ga6 | exact ga7 | assumption) (by first | exact Nat.le_refl _ | decide | (simp; done) | (simp only [List.length_cons, List.length_nil]; omega))) ?_; simp only [Fr.put, List.set_cons_succ, List.set_cons_zero, List.length_append, List.length_set, List.length_cons, List.length_nil, List.nil_append, List.cons_append, List.append_assoc, List.length_replicate, Nat.reduceAdd, Nat.zero_add, Nat.add_assoc, sa0, sa1, sa2, sa3, sa4, sa5, sa6, sa7])
    | ((with_reducible refine is_s (.store _ _ _) ?_); refine s_gH (by rfl) (x_storeF (by first | exact ag_7 | exact ag_8 | exact ag_13 | exact ag_23) (by first | exact e_t (by rfl) | exact e_c | exact e_f) (by first | exact e_t (by rfl) | exact e_c | exact e_f) (by rfl) (by rfl) (by first | rfl | exact ga0 | exact ga1 | exact ga2 | exact ga3 | exact ga4 | exact ga5 | exact ga6 | exact ga7 | assumption) (by rfl)) ?_; simp only [Fr.put, List.set_cons_succ, List.set_cons_zero, List.length_append, List.length_set, List.length_cons, List.length_nil, List.nil_append, List.cons_append, List.append_assoc, List.length_replicate, Nat.reduceAdd, Nat.zero_add, Nat.add_assoc, sa0, sa1, sa2, sa3, sa4, sa5, sa6, sa7])
    | ((with_reducible refine is_s (.store _ _ _) ?_); refine s_gH (by rfl) (x_storeA (by first | exact ag_7 | exact ag_8 | exact ag_13 | exact ag_23) (by first | exact e_t (by rfl) | exact e_c | exact e_f) (by first | exact e_t (by rfl) | exact e_c | exact e_f) (by rfl) (by rfl) (by first | rfl | exact ga0 | exact ga1 | exact ga2 | exact ga3 | exact ga4 | exact ga5 | exact ga6 | exact ga7 | assumption) (by first | exact Nat.le_refl _ | decide | (simp; done) | (simp only [List.length_cons, List.length_nil]; omega))) ?_; simp only [Fr.put, List.set_cons_succ, List.set_cons_zero, List.length_append, List.length_set, List.length_cons, List.length_nil, List.nil_append, List.cons_append, List.append_assoc, List.length_replicate, Nat.reduceAdd, Nat.zero_add, Nat.add_assoc, sa0, sa1, sa2, sa3, sa4, sa5, sa6, sa7])
    )
  all_goals try with_reducible refine w_n ?_
  all_goals first | refine w_1 rfl (by first | exact v_t (by rfl) | exact v_c1 (by first | exact s1_1 | exact s1_2 | exact s1_3 | exact s1_4 | exact s1_5 | exact s1_6 | exact s1_9 | exact s1_10 | exact s1_11 | exact s1_12 | exact s1_24 | exact s1_35 | exact s1_37 | exact s1_39) (by rfl) (by first | rfl | exact ga0 | exact ga1 | exact ga2 | exact ga3 | exact ga4 | exact ga5 | exact ga6 | exact ga7 | assumption) (by rfl) | exact v_cF (by first | exact ag_7 | exact ag_8 | exact ag_13 | exact ag_23) (by rfl) (by first | rfl | exact ga0 | exact ga1 | exact ga2 | exact ga3 | exact ga4 | exact ga5 | exact ga6 | exact ga7 | assumption) (by rfl)) ?_ | refine w_2 rfl (by first | exact v_t (by rfl) | exact v_c1 (by first | exact s1_1 | exact s1_2 | exact s1_3 | exact s1_4 | exact s1_5 | exact s1_6 | exact s1_9 | exact s1_10 | exact s1_11 | exact s1_12 | exact s1_24 | exact s1_35 | exact s1_37 | exact s1_39) (by rfl) (by first | rfl | exact ga0 | exact ga1 | exact ga2 | exact ga3 | exact ga4 | exact ga5 | exact ga6 | exact ga7 | assumption) (by rfl) | exact v_cF (by first | exact ag_7 | exact ag_8 | exact ag_13 | exact ag_23) (by rfl) (by first | rfl | exact ga0 | exact ga1 | exact ga2 | exact ga3 | exact ga4 | exact ga5 | exact ga6 | exact ga7 | assumption) (by rfl)) (by first | exact v_t (by rfl) | exact v_c1 (by first | exact s1_1 | exact s1_2 | exact s1_3 | exact s1_4 | exact s1_5 | exact s1_6 | exact s1_9 | exact s1_10 | exact s1_11 | exact s1_12 | exact s1_24 | exact s1_35 | exact s1_37 | exact s1_39) (by rfl) (by first | rfl | exact ga0 | exact ga1 | exact ga2 | exact ga3 | exact ga4 | exact ga5 | exact ga6 | exact ga7 | assumption) (by rfl) | exact v_cF (by first | exact ag_7 | exact ag_8 | exact ag_13 | exact ag_23) (by rfl) (by first | rfl | exact ga0 | exact ga1 | exact ga2 | exact ga3 | exact ga4 | exact ga5 | exact ga6 | exact ga7 | assumption) (by rfl)) ?_ | refine w_3 rfl (by first | exact v_t (by rfl) | exact v_c1 (by first | exact s1_1 | exact s1_2 | exact s1_3 | exact s1_4 | exact s1_5 | exact s1_6 | exact s1_9 | exact s1_10 | exact s1_11 | exact s1_12 | exact s1_24 | exact s1_35 | exact s1_37 | exact s1_39) (by rfl) (by first | rfl | exact ga0 | exact ga1 | exact ga2 | exact ga3 | exact ga4 | exact ga5 | exact ga6 | exact ga7 | assumption) (by rfl) | exact v_cF (by first | exact ag_7 | exact ag_8 | exact ag_13 | exact ag_23) (by rfl) (by first | rfl | exact ga0 | exact ga1 | exact ga2 | exact ga3 | exact ga4 | exact ga5 | exact ga6 | exact ga7 | assumption) (by rfl)) (by first | exact v_t (by rfl) | exact v_c1 (by first | exact s1_1 | exact s1_2 | exact s1_3 | exact s1_4 | exact s1_5 | exact s1_6 | exact s1_9 | exact s1_10 | exact s1_11 | exact s1_12 | exact s1_24 | exact s1_35 | exact s1_37 | exact s1_39) (by rfl) (by first | rfl | exact ga0 | exact ga1 | exact ga2 | exact ga3 | exact ga4 | exact ga5 | exact ga6 | exact ga7 | assumption) (by rfl) | exact v_cF (by first | exact ag_7 | exact ag_8 | exact ag_13 | exact ag_23) (by rfl) (by first | rfl | exact ga0 | exact ga1 | exact ga2 | exact ga3 | exact ga4 | exact ga5 | exact ga6 | exact ga7 | assumption) (by rfl)) (by first | exact v_t (by rfl) | exact v_c1 (by first | exact s1_1 | exact s1_2 | exact s1_3 | exact s1_4 | exact s1_5 | exact s1_6 | exact s1_9 | exact s1_10 | exact s1_11 | exact s1_12 | exact s1_24 | exact s1_35 | exact s1_37 | exact s1_39) (by rfl) (by first | rfl | exact ga0 | exact ga1 | exact ga2 | exact ga3 | exact ga4 | exact ga5 | exact ga6 | exact ga7 | assumption) (by rfl) | exact v_cF (by first | exact ag_7 | exact ag_8 | exact ag_13 | exact ag_23) (by rfl) (by first | rfl | exact ga0 | exact ga1 | exact ga2 | exact ga3 | exact ga4 | exact ga5 | exact ga6 | exact ga7 | assumption) (by rfl)) ?_ | refine w_4 rfl (by first | exact v_t (by rfl) | exact v_c1 (by first | exact s1_1 | exact s1_2 | exact s1_3 | exact s1_4 | exact s1_5 | exact s1_6 | exact s1_9 | exact s1_10 | exact s1_11 | exact s1_12 | exact s1_24 | exact s1_35 | exact s1_37 | exact s1_39) (by rfl) (by first | rfl | exact ga0 | exact ga1 | exact ga2 | exact ga3 | exact ga4 | exact ga5 | exact ga6 | exact ga7 | assumption) (by rfl) | exact v_cF (by first | exact ag_7 | exact ag_8 | exact ag_13 | exact ag_23) (by rfl) (by first | rfl | exact ga0 | exact ga1 | exact ga2 | exact ga3 | exact ga4 | exact ga5 | exact ga6 | exact ga7 | assumption) (by rfl)) (by first | exact v_t (by rfl) | exact v_c1 (by first | exact s1_1 | exact s1_2 | exact s1_3 | exact s1_4 | exact s1_5 | exact s1_6 | exact s1_9 | exact s1_10 | exact s1_11 | exact s1_12 | exact s1_24 | exact s1_35 | exact s1_37 | exact s1_39) (by rfl) (by first | rfl | exact ga0 | exact ga1 | exact ga2 | exact ga3 | exact ga4 | exact ga5 | exact ga6 | exact ga7 | assumption) (by rfl) | exact v_cF (by first | exact ag_7 | exact ag_8 | exact ag_13 | exact ag_23) (by rfl) (by first | rfl | exact ga0 | exact ga1 | exact ga2 | exact ga3 | exact ga4 | exact ga5 | exact ga6 | exact ga7 | assumption) (by rfl)) (by first | exact v_t (by rfl) | exact v_c1 (by first | exact s1_1 | exact s1_2 | exact s1_3 | exact s1_4 | exact s1_5 | exact s1_6 | exact s1_9 | exact s1_10 | exact s1_11 | exact s1_12 | exact s1_24 | exact s1_35 | exact s1_37 | exact s1_39) (by rfl) (by first | rfl | exact ga0 | exact ga1 | exact ga2 | exact ga3 | exact ga4 | exact ga5 | exact ga6 | exact ga7 | assumption) (by rfl) | exact v_cF (by first | exact ag_7 | exact ag_8 | exact ag_13 | exact ag_23) (by rfl) (by first | rfl | exact ga0 | exact ga1 | exact ga2 | exact ga3 | exact ga4 | exact ga5 | exact ga6 | exact ga7 | assumption) (by rfl)) (by first | exact v_t (by rfl) | exact v_c1 (by first | exact s1_1 | exact s1_2 | exact s1_3 | exact s1_4 | exact s1_5 | exact s1_6 | exact s1_9 | exact s1_10 | exact s1_11 | exact s1_12 | exact s1_24 | exact s1_35 | exact s1_37 | exact s1_39) (by rfl) (by first | rfl | exact ga0 | exact ga1 | exact ga2 | exact ga3 | exact ga4 | exact ga5 | exact ga6 | exact ga7 | assumption) (by rfl) | exact v_cF (by first | exact ag_7 | exact ag_8 | exact ag_13 | exact ag_23) (by rfl) (by first | rfl | exact ga0 | exact ga1 | exact ga2 | exact ga3 | exact ga4 | exact ga5 | exact ga6 | exact ga7 | assumption) (by rfl)) ?_ | refine w_0 rfl ?_
  all_goals refine ⟨?_, rfl⟩
  all_goals first | exact (taskR_no (by omega)).symm | exact (taskR_yes (by omega)).symm
theorem rtask_any (u : Int) : ACalls Try.prog 9 [I u] [] (fun r _ => r = taskR u ∧ r.sc 0 = true) := by
  refine acalls_of_wk hm Try.func9 rfl ?_
  simp only [Try.ntmps9, List.length_cons, List.length_nil, Nat.reduceAdd, Nat.reduceSub, List.reduceReplicate, List.cons_append, List.nil_append]
  show wk _ _ none _ _ ⟨_, []⟩ _
  repeat' (first
    | with_reducible refine s_seq ?_
    | with_reducible refine s_then ?_
    | with_reducible refine s_thenR ?_
    | with_reducible refine s_thenE ?_
    | with_reducible refine s_skip ?_
    | with_reducible refine s_ret ?_
    | with_reducible refine s_block ?_
    | with_reducible refine s_blkN ?_
    | with_reducible refine s_blkR ?_
    | with_reducible refine s_blkE ?_
    | with_reducible refine l_exit ?_
    | with_reducible refine l_ret ?_
    | with_reducible refine s_end ?_
    | with_reducible refine s_reg ?_
    | with_reducible refine s_blkX (by rfl) ?_
    | with_reducible refine s_exit ?_
    | ((with_reducible refine is_cond ?_); first | refine s_condT (by first | exact e_t (by rfl) | exact e_c | exact e_f) ?_ | refine s_condF (by first | exact e_t (by rfl) | exact e_c | exact e_f) ?_)
    | ((with_reducible refine is_sG _ ?_); refine s_gN (by rfl) ?_; simp only [Fr.put, List.set_cons_succ, List.set_cons_zero])
    | ((with_reducible refine is_s (.move _) ?_); refine s_gL (by rfl) (x_move (by first | exact e_t (by rfl) | exact e_c | exact e_f)) ?_; simp only [Fr.put, List.set_cons_succ, List.set_cons_zero])
    | ((with_reducible refine is_s (.assign _) ?_); refine s_gL (by rfl) (x_assign (by first | exact e_t (by rfl) | exact e_c | exact e_f)) ?_; simp only [Fr.put, List.set_cons_succ, List.set_cons_zero])
    | ((with_reducible refine is_s (.pick _ _ _) ?_); refine s_gL (by rfl) (x_pickT (by first | exact e_t (by rfl) | exact e_c | exact e_f) (by first | exact e_t (by rfl) | exact e_c | exact e_f)) ?_; simp only [Fr.put, List.set_cons_succ, List.set_cons_zero])
    | ((with_reducible refine is_s (.pick _ _ _) ?_); refine s_gL (by rfl) (x_pickF (by first | exact e_t (by rfl) | exact e_c | exact e_f) (by first | exact e_t (by rfl) | exact e_c | exact e_f)) ?_; simp only [Fr.put, List.set_cons_succ, List.set_cons_zero])
    | ((with_reducible refine is_s (.binOp .lss _ _ _ _) ?_); refine s_gB (by rfl) (x_lt (by first | exact e_t (by rfl) | exact e_c | exact e_f) (by first | exact e_t (by rfl) | exact e_c | exact e_f)) (fun hb => ?_) (fun hb => ?_) <;> simp only [decide_eq_true_eq, decide_eq_false_iff_not, Bool.not_eq_true', Bool.not_eq_false', not_true_eq_false, not_false_eq_true] at hb <;> first | (exfalso; omega) | (exfalso; simp_all; done) | (simp only [Fr.put, List.set_cons_succ, List.set_cons_zero]))
    | ((with_reducible refine is_s (.binOp .gtr _ _ _ _) ?_); refine s_gB (by rfl) (x_gt (by first | exact e_t (by rfl) | exact e_c | exact e_f) (by first | exact e_t (by rfl) | exact e_c | exact e_f)) (fun hb => ?_) (fun hb => ?_) <;> simp only [decide_eq_true_eq, decide_eq_false_iff_not, Bool.not_eq_true', Bool.not_eq_false', not_true_eq_false, not_false_eq_true] at hb <;> first | (exfalso; omega) | (exfalso; simp_all; done) | (simp only [Fr.put, List.set_cons_succ, List.set_cons_zero]))
    | ((with_reducible refine is_s (.build _ _) ?_); refine s_gL (by rfl) (x_build (by rfl) (bd_23z)) ?_; simp only [Fr.put, List.set_cons_succ, List.set_cons_zero])
    | ((with_reducible refine is_s (.build _ _) ?_); refine s_gL (by rfl) (x_build (by rfl) (bd_23 _)) ?_; simp only [Fr.put, List.set_cons_succ, List.set_cons_zero])
    | ((with_reducible refine is_s (.build _ _) ?_); refine s_gL (by rfl) (x_build (by rfl) (bd_30 _)) ?_; simp only [Fr.put, List.set_cons_succ, List.set_cons_zero])
    | ((with_reducible refine is_s (.build _ _) ?_); refine s_gL (by rfl) (x_build (by rfl) (bd_30z)) ?_; simp only [Fr.put, List.set_cons_succ, List.set_cons_zero])
    | ((with_reducible refine is_s (.binOp _ _ _ _ _) ?_); refine s_gB (by rfl) (x_bin (by first | exact e_t (by rfl) | exact e_c | exact e_f) (by first | exact e_t (by rfl) | exact e_c | exact e_f) (eq_30 _ _ _ _)) (fun hb => ?_) (fun hb => ?_) <;> simp only [decide_eq_true_eq, decide_eq_false_iff_not, Bool.not_eq_true', Bool.not_eq_false', not_true_eq_false, not_false_eq_true] at hb <;> first | (exfalso; omega) | (exfalso; simp_all; done) | (simp only [Fr.put, List.set_cons_succ, List.set_cons_zero]))
    | ((with_reducible refine is_s (.binOp _ _ _ _ _) ?_); refine s_gB (by rfl) (x_bin (by first | exact e_t (by rfl) | exact e_c | exact e_f) (by first | exact e_t (by rfl) | exact e_c | exact e_f) (ne_30 _ _ _ _)) (fun hb => ?_) (fun hb => ?_) <;> simp only [decide_eq_true_eq, decide_eq_false_iff_not, Bool.not_eq_true', Bool.not_eq_false', not_true_eq_false, not_false_eq_true] at hb <;> first | (exfalso; omega) | (exfalso; simp_all; done) | (simp only [Fr.put, List.set_cons_succ, List.set_cons_zero]))
    | ((with_reducible refine is_s (.binOp _ _ _ _ _) ?_); refine s_gB (by rfl) (x_bin (by first | exact e_t (by rfl) | exact e_c | exact e_f) (by first | exact e_t (by rfl) | exact e_c | exact e_f) (eq_23 _ _)) (fun hb => ?_) (fun hb => ?_) <;> simp only [decide_eq_true_eq, decide_eq_false_iff_not, Bool.not_eq_true', Bool.not_eq_false', not_true_eq_false, not_false_eq_true] at hb <;> first | (exfalso; omega) | (exfalso; simp_all; done) | (simp only [Fr.put, List.set_cons_succ, List.set_cons_zero]))
    | ((with_reducible refine is_s (.binOp _ _ _ _ _) ?_); refine s_gB (by rfl) (x_bin (by first | exact e_t (by rfl) | exact e_c | exact e_f) (by first | exact e_t (by rfl) | exact e_c | exact e_f) (ne_23 _ _)) (fun hb => ?_) (fun hb => ?_) <;> simp only [decide_eq_true_eq, decide_eq_false_iff_not, Bool.not_eq_true', Bool.not_eq_false', not_true_eq_false, not_false_eq_true] at hb <;> first | (exfalso; omega) | (exfalso; simp_all; done) | (simp only [Fr.put, List.set_cons_succ, List.set_cons_zero]))
    | ((with_reducible refine is_s (.alloc _) ?_); refine s_gH (by rfl) (x_alloc (by first | exact z_1 | exact z_2 | exact z_3 | exact z_4 | exact z_5 | exact z_6 | exact z_7 | exact z_8 | exact z_9 | exact z_10 | exact z_11 | exact z_12 | exact z_13 | exact z_14 | exact z_23 | exact z_24)) ?_; simp only [Fr.put, List.set_cons_succ, List.set_cons_zero, List.length_append, List.length_set, List.length_cons, List.length_nil, List.nil_append, List.cons_append, List.append_assoc, List.length_replicate, Nat.reduceAdd, Nat.zero_add, Nat.add_assoc, sa0, sa1, sa2, sa3, sa4, sa5, sa6, sa7])
    | ((with_reducible refine is_s (.store _ _ _) ?_); refine s_gH (by rfl) (x_store1 (by first | exact s1_1 | exact s1_2 | exact s1_3 | exact s1_4 | exact s1_5 | exact s1_6 | exact s1_9 | exact s1_10 | exact s1_11 | exact s1_12 | exact s1_24) (by first | exact e_t (by rfl) | exact e_c | exact e_f) (by first | exact e_t (by rfl) | exact e_c | exact e_f) (by rfl) (by first | rfl | exact ga0 | exact ga1 | exact ga2 | exact ga3 | exact ga4 | exact ga5 | exact ga6 | exact ga7 | assumption) (by first | exact Nat.le_refl _ | decide | (simp; done) | (simp only [List.length_cons, List.length_nil]; omega))) ?_; simp only [Fr.put, List.set_cons_succ, List.set_cons_zero, List.length_append, List.length_set, List.length_cons, List.length_nil, List.nil_append, List.cons_append, List.append_assoc, List.length_replicate, Nat.reduceAdd, Nat.zero_add, Nat.add_assoc, sa0, sa1, sa2, sa3, sa4, sa5, sa6, sa7])
    | ((with_reducible refine is_s (.store _ _ _) ?_); refine s_gH (by rfl) (x_storeF (by first | exact ag_7 | exact ag_8 | exact ag_13 | exact ag_14 | exact ag_23) (by first | exact e_t (by rfl) | exact e_c | exact e_f) (by first | exact e_t (by rfl) | exact e_c | exact e_f) (by rfl) (by rfl) (by first | rfl | exact ga0 | exact ga1 | exact ga2 | exact ga3 | exact ga4 | exact ga5 | exact ga6 | exact ga7 | assumption) (by rfl)) ?_; simp only [Fr.put, List.set_cons_succ, List.set_cons_zero, List.length_append, List.length_set, List.length_cons, List.length_nil, List.nil_append, List.cons_append, List.append_assoc, List.length_replicate, Nat.reduceAdd, Nat.zero_add, Nat.add_assoc, sa0, sa1, sa2, sa3, sa4, sa5, sa6, sa7])
    | ((with_reducible refine is_s (.store _ _ _) ?_); refine s_gH (by rfl) (x_storeA (by first | exact ag_7 | exact ag_8 | exact ag_13 | exact ag_14 | exact ag_23) (by first | exact e_t (by rfl) | exact e_c | exact e_f) (by first | exact e_t (by rfl) | exact e_c | exact e_f) (by rfl) (by rfl) (by first | rfl | exact ga0 | exact ga1 | exact ga2 | exact ga3 | exact ga4 | exact ga5 | exact ga6 | exact ga7 | assumption) (by first | exact Nat.le_refl _ | decide | (simp; done) | (simp only [List.length_cons, List.length_nil]; omega))) ?_; simp only [Fr.put, List.set_cons_succ, List.set_cons_zero, List.length_append, List.length_set, List.length_cons, List.length_nil, List.nil_append, List.cons_append, List.append_assoc, List.length_replicate, Nat.reduceAdd, Nat.zero_add, Nat.add_assoc, sa0, sa1, sa2, sa3, sa4, sa5, sa6, sa7])
    )
  all_goals try with_reducible refine w_n ?_
  all_goals first | refine w_1 rfl (by first | exact v_t (by rfl) | exact v_c1 (by first | exact s1_1 | exact s1_2 | exact s1_3 | exact s1_4 | exact s1_5 | exact s1_6 | exact s1_9 | exact s1_10 | exact s1_11 | exact s1_12 | exact s1_24) (by rfl) (by first | rfl | exact ga0 | exact ga1 | exact ga2 | exact ga3 | exact ga4 | exact ga5 | exact ga6 | exact ga7 | assumption) (by rfl) | exact v_cF (by first | exact ag_7 | exact ag_8 | exact ag_13 | exact ag_14 | exact ag_23) (by rfl) (by first | rfl | exact ga0 | exact ga1 | exact ga2 | exact ga3 | exact ga4 | exact ga5 | exact ga6 | exact ga7 | assumption) (by rfl)) ?_ | refine w_2 rfl (by first | exact v_t (by rfl) | exact v_c1 (by first | exact s1_1 | exact s1_2 | exact s1_3 | exact s1_4 | exact s1_5 | exact s1_6 | exact s1_9 | exact s1_10 | exact s1_11 | exact s1_12 | exact s1_24) (by rfl) (by first | rfl | exact ga0 | exact ga1 | exact ga2 | exact ga3 | exact ga4 | exact ga5 | exact ga6 | exact ga7 | assumption) (by rfl) | exact v_cF (by first | exact ag_7 | exact ag_8 | exact ag_13 | exact ag_14 | exact ag_23) (by rfl) (by first | rfl | exact ga0 | exact ga1 | exact ga2 | exact ga3 | exact ga4 | exact ga5 | exact ga6 | exact ga7 | assumption) (by rfl)) (by first | exact v_t (by rfl) | exact v_c1 (by first | exact s1_1 | exact s1_2 | exact s1_3 | exact s1_4 | exact s1_5 | exact s1_6 | exact s1_9 | exact s1_10 | exact s1_11 | exact s1_12 | exact s1_24) (by rfl) (by first | rfl | exact ga0 | exact ga1 | exact ga2 | exact ga3 | exact ga4 | exact ga5 | exact ga6 | exact ga7 | assumption) (by rfl) | exact v_cF (by first | exact ag_7 | exact ag_8 | exact ag_13 | exact ag_14 | exact ag_23) (by rfl) (by first | rfl | exact ga0 | exact ga1 | exact ga2 | exact ga3 | exact ga4 | exact ga5 | exact ga6 | exact ga7 | assumption) (by rfl)) ?_ | refine w_3 rfl (by first | exact v_t (by rfl) | exact v_c1 (by first | exact s1_1 | exact s1_2 | exact s1_3 | exact s1_4 | exact s1_5 | exact s1_6 | exact s1_9 | exact s1_10 | exact s1_11 | exact s1_12 | exact s1_24) (by rfl) (by first | rfl | exact ga0 | exact ga1 | exact ga2 | exact ga3 | exact ga4 | exact ga5 | exact ga6 | exact ga7 | assumption) (by rfl) | exact v_cF (by first | exact ag_7 | exact ag_8 | exact ag_13 | exact ag_14 | exact ag_23) (by rfl) (by first | rfl | exact ga0 | exact ga1 | exact ga2 | exact ga3 | exact ga4 | exact ga5 | exact ga6 | exact ga7 | assumption) (by rfl)) (by first | exact v_t (by rfl) | exact v_c1 (by first | exact s1_1 | exact s1_2 | exact s1_3 | exact s1_4 | exact s1_5 | exact s1_6 | exact s1_9 | exact s1_10 | exact s1_11 | exact s1_12 | exact s1_24) (by rfl) (by first | rfl | exact ga0 | exact ga1 | exact ga2 | exact ga3 | exact ga4 | exact ga5 | exact ga6 | exact ga7 | assumption) (by rfl) | exact v_cF (by first | exact ag_7 | exact ag_8 | exact ag_13 | exact ag_14 | exact ag_23) (by rfl) (by first | rfl | exact ga0 | exact ga1 | exact ga2 | exact ga3 | exact ga4 | exact ga5 | exact ga6 | exact ga7 | assumption) (by rfl)) (by first | exact v_t (by rfl) | exact v_c1 (by first | exact s1_1 | exact s1_2 | exact s1_3 | exact s1_4 | exact s1_5 | exact s1_6 | exact s1_9 | exact s1_10 | exact s1_11 | exact s1_12 | exact s1_24) (by rfl) (by first | rfl | exact ga0 | exact ga1 | exact ga2 | exact ga3 | exact ga4 | exact ga5 | exact ga6 | exact ga7 | assumption) (by rfl) | exact v_cF (by first | exact ag_7 | exact ag_8 | exact ag_13 | exact ag_14 | exact ag_23) (by rfl) (by first | rfl | exact ga0 | exact ga1 | exact ga2 | exact ga3 | exact ga4 | exact ga5 | exact ga6 | exact ga7 | assumption) (by rfl)) ?_ | refine w_4 rfl (by first | exact v_t (by rfl) | exact v_c1 (by first | exact s1_1 | exact s1_2 | exact s1_3 | exact s1_4 | exact s1_5 | exact s1_6 | exact s1_9 | exact s1_10 | exact s1_11 | exact s1_12 | exact s1_24) (by rfl) (by first | rfl | exact ga0 | exact ga1 | exact ga2 | exact ga3 | exact ga4 | exact ga5 | exact ga6 | exact ga7 | assumption) (by rfl) | exact v_cF (by first | exact ag_7 | exact ag_8 | exact ag_13 | exact ag_14 | exact ag_23) (by rfl) (by first | rfl | exact ga0 | exact ga1 | exact ga2 | exact ga3 | exact ga4 | exact ga5 | exact ga6 | exact ga7 | assumption) (by rfl)) (by first | exact v_t (by rfl) | exact v_c1 (by first | exact s1_1 | exact s1_2 | exact s1_3 | exact s1_4 | exact s1_5 | exact s1_6 | exact s1_9 | exact s1_10 | exact s1_11 | exact s1_12 | exact s1_24) (by rfl) (by first | rfl | exact ga0 | exact ga1 | exact ga2 | exact ga3 | exact ga4 | exact ga5 | exact ga6 | exact ga7 | assumption) (by rfl) | exact v_cF (by first | exact ag_7 | exact ag_8 | exact ag_13 | exact ag_14 | exact ag_23) (by rfl) (by first | rfl | exact ga0 | exact ga1 | exact ga2 | exact ga3 | exact ga4 | exact ga5 | exact ga6 | exact ga7 | assumption) (by rfl)) (by first | exact v_t (by rfl) | exact v_c1 (by first | exact s1_1 | exact s1_2 | exact s1_3 | exact s1_4 | exact s1_5 | exact s1_6 | exact s1_9 | exact s1_10 | exact s1_11 | exact s1_12 | exact s1_24) (by rfl) (by first | rfl | exact ga0 | exact ga1 | exact ga2 | exact ga3 | exact ga4 | exact ga5 | exact ga6 | exact ga7 | assumption) (by rfl) | exact v_cF (by first | exact ag_7 | exact ag_8 | exact ag_13 | exact ag_14 | exact ag_23) (by rfl) (by first | rfl | exact ga0 | exact ga1 | exact ga2 | exact ga3 | exact ga4 | exact ga5 | exact ga6 | exact ga7 | assumption) (by rfl)) (by first | exact v_t (by rfl) | exact v_c1 (by first | exact s1_1 | exact s1_2 | exact s1_3 | exact s1_4 | exact s1_5 | exact s1_6 | exact s1_9 | exact s1_10 | exact s1_11 | exact s1_12 | exact s1_24) (by rfl) (by first | rfl | exact ga0 | exact ga1 | exact ga2 | exact ga3 | exact ga4 | exact ga5 | exact ga6 | exact ga7 | assumption) (by rfl) | exact v_cF (by first | exact ag_7 | exact ag_8 | exact ag_13 | exact ag_14 | exact ag_23) (by rfl) (by first | rfl | exact ga0 | exact ga1 | exact ga2 | exact ga3 | exact ga4 | exact ga5 | exact ga6 | exact ga7 | assumption) (by rfl)) ?_ | refine w_0 rfl ?_
  all_goals refine ⟨?_, rfl⟩
  all_goals first | exact (taskR_no (by omega)).symm | exact (taskR_yes (by omega)).symm
theorem idle_any : ACalls Try.prog 12 [] [] (fun r _ => r = WA (-1) 0 ∧ r.sc 0 = true) := by
  refine acalls_of_wk hm Try.func12 rfl ?_
  simp only [Try.ntmps12, List.length_cons, List.length_nil, Nat.reduceAdd, Nat.reduceSub, List.reduceReplicate, List.cons_append, List.nil_append]
  show wk _ _ none _ _ ⟨_, []⟩ _
  repeat' (first
    | with_reducible refine s_seq ?_
    | with_reducible refine s_then ?_
    | with_reducible refine s_thenR ?_
    | with_reducible refine s_thenE ?_
    | with_reducible refine s_skip ?_
    | with_reducible refine s_ret ?_
    | with_reducible refine s_block ?_
    | with_reducible refine s_blkN ?_
    | with_reducible refine s_blkR ?_
    | with_reducible refine s_blkE ?_
    | with_reducible refine l_exit ?_
    | with_reducible refine l_ret ?_
    | with_reducible refine s_end ?_
    | with_reducible refine s_reg ?_
    | with_reducible refine s_blkX (by rfl) ?_
    | with_reducible refine s_exit ?_
    | ((with_reducible refine is_cond ?_); first | refine s_condT (by first | exact e_t (by rfl) | exact e_c | exact e_f) ?_ | refine s_condF (by first | exact e_t (by rfl) | exact e_c | exact e_f) ?_)
    | ((with_reducible refine is_s (.build _ _) ?_); refine s_gL (by rfl) (x_build (by rfl) (bd_23z)) ?_; simp only [Fr.put, List.set_cons_succ, List.set_cons_zero])
    | ((with_reducible refine is_s (.build _ _) ?_); refine s_gL (by rfl) (x_build (by rfl) (bd_23 _)) ?_; simp only [Fr.put, List.set_cons_succ, List.set_cons_zero])
    | ((with_reducible refine is_s (.build _ _) ?_); refine s_gL (by rfl) (x_build (by rfl) (bd_30 _)) ?_; simp only [Fr.put, List.set_cons_succ, List.set_cons_zero])
    | ((with_reducible refine is_s (.build _ _) ?_); refine s_gL (by rfl) (x_build (by rfl) (bd_30z)) ?_; simp only [Fr.put, List.set_cons_succ, List.set_cons_zero])
    | ((with_reducible refine is_s (.binOp _ _ _ _ _) ?_); refine s_gB (by rfl) (x_bin (by first | exact e_t (by rfl) | exact e_c | exact e_f) (by first | exact e_t (by rfl) | exact e_c | exact e_f) (eq_30 _ _ _ _)) (fun hb => ?_) (fun hb => ?_) <;> simp only [decide_eq_true_eq, decide_eq_false_iff_not, Bool.not_eq_true', Bool.not_eq_false', not_true_eq_false, not_false_eq_true] at hb <;> first | (exfalso; omega) | (exfalso; simp_all; done) | (simp only [Fr.put, List.set_cons_succ, List.set_cons_zero]))
    | ((with_reducible refine is_s (.binOp _ _ _ _ _) ?_); refine s_gB (by rfl) (x_bin (by first | exact e_t (by rfl) | exact e_c | exact e_f) (by first | exact e_t (by rfl) | exact e_c | exact e_f) (ne_30 _ _ _ _)) (fun hb => ?_) (fun hb => ?_) <;> simp only [decide_eq_true_eq, decide_eq_false_iff_not, Bool.not_eq_true', Bool.not_eq_false', not_true_eq_false, not_false_eq_true] at hb <;> first | (exfalso; omega) | (exfalso; simp_all; done) | (simp only [Fr.put, List.set_cons_succ, List.set_cons_zero]))
    | ((with_reducible refine is_s (.binOp _ _ _ _ _) ?_); refine s_gB (by rfl) (x_bin (by first | exact e_t (by rfl) | exact e_c | exact e_f) (by first | exact e_t (by rfl) | exact e_c | exact e_f) (eq_23 _ _)) (fun hb => ?_) (fun hb => ?_) <;> simp only [decide_eq_true_eq, decide_eq_false_iff_not, Bool.not_eq_true', Bool.not_eq_false', not_true_eq_false, not_false_eq_true] at hb <;> first | (exfalso; omega) | (exfalso; simp_all; done) | (simp only [Fr.put, List.set_cons_succ, List.set_cons_zero]))
    | ((with_reducible refine is_s (.binOp _ _ _ _ _) ?_); refine s_gB (by rfl) (x_bin (by first | exact e_t (by rfl) | exact e_c | exact e_f) (by first | exact e_t (by rfl) | exact e_c | exact e_f) (ne_23 _ _)) (fun hb => ?_) (fun hb => ?_) <;> simp only [decide_eq_true_eq, decide_eq_false_iff_not, Bool.not_eq_true', Bool.not_eq_false', not_true_eq_false, not_false_eq_true] at hb <;> first | (exfalso; omega) | (exfalso; simp_all; done) | (simp only [Fr.put, List.set_cons_succ, List.set_cons_zero]))
    | ((with_reducible refine is_s (.alloc _) ?_); refine s_gH (by rfl) (x_alloc (by first | exact z_1 | exact z_2 | exact z_3 | exact z_30 | exact z_32)) ?_; simp only [Fr.put, List.set_cons_succ, List.set_cons_zero, List.length_append, List.length_set, List.length_cons, List.length_nil, List.nil_append, List.cons_append, List.append_assoc, List.length_replicate, Nat.reduceAdd, Nat.zero_add, Nat.add_assoc, sa0, sa1, sa2, sa3, sa4, sa5, sa6, sa7])
    | ((with_reducible refine is_s (.store _ _ _) ?_); refine s_gH (by rfl) (x_store1 (by first | exact s1_1 | exact s1_2 | exact s1_3 | exact s1_32) (by first | exact e_t (by rfl) | exact e_c | exact e_f) (by first | exact e_t (by rfl) | exact e_c | exact e_f) (by rfl) (by first | rfl | exact ga0 | exact ga1 | exact ga2 | exact ga3 | exact ga4 | exact ga5 | exact ga6 | exact ga7 | assumption) (by first | exact Nat.le_refl _ | decide | (simp; done) | (simp only [List.length_cons, List.length_nil]; omega))) ?_; simp only [Fr.put, List.set_cons_succ, List.set_cons_zero, List.length_append, List.length_set, List.length_cons, List.length_nil, List.nil_append, List.cons_append, List.append_assoc, List.length_replicate, Nat.reduceAdd, Nat.zero_add, Nat.add_assoc, sa0, sa1, sa2, sa3, sa4, sa5, sa6, sa7])
    | ((with_reducible refine is_s (.store _ _ _) ?_); refine s_gH (by rfl) (x_storeF (by first | exact ag_30) (by first | exact e_t (by rfl) | exact e_c | exact e_f) (by first | exact e_t (by rfl) | exact e_c | exact e_f) (by rfl) (by rfl) (by first | rfl | exact ga0 | exact ga1 | exact ga2 | exact ga3 | exact ga4 | exact ga5 | exact ga6 | exact ga7 | assumption) (by rfl)) ?_; simp only [Fr.put, List.set_cons_succ, List.set_cons_zero, List.length_append, List.length_set, List.length_cons, List.length_nil, List.nil_append, List.cons_append, List.append_assoc, List.length_replicate, Nat.reduceAdd, Nat.zero_add, Nat.add_assoc, sa0, sa1, sa2, sa3, sa4, sa5, sa6, sa7])
    | ((with_reducible refine is_s (.store _ _ _) ?_); refine s_gH (by rfl) (x_storeA (by first | exact ag_30) (by first | exact e_t (by rfl) | exact e_c | exact e_f) (by first | exact e_t (by rfl) | exact e_c | exact e_f) (by rfl) (by rfl) (by first | rfl | exact ga0 | exact ga1 | exact ga2 | exact ga3 | exact ga4 | exact ga5 | exact ga6 | exact ga7 | assumption) (by first | exact Nat.le_refl _ | decide | (simp; done) | (simp only [List.length_cons, List.length_nil]; omega))) ?_; simp only [Fr.put, List.set_cons_succ, List.set_cons_zero, List.length_append, List.length_set, List.length_cons, List.length_nil, List.nil_append, List.cons_append, List.append_assoc, List.length_replicate, Nat.reduceAdd, Nat.zero_add, Nat.add_assoc, sa0, sa1, sa2, sa3, sa4, sa5, sa6, sa7])
    )
  all_goals try with_reducible refine w_n ?_
  all_goals first | refine w_1 rfl (by first | exact v_t (by rfl) | exact v_c1 (by first | exact s1_1 | exact s1_2 | exact s1_32) (by rfl) (by first | rfl | exact ga0 | exact ga1 | exact ga2 | exact ga3 | exact ga4 | exact ga5 | exact ga6 | exact ga7 | assumption) (by rfl) | exact v_cF (by first | exact ag_30) (by rfl) (by first | rfl | exact ga0 | exact ga1 | exact ga2 | exact ga3 | exact ga4 | exact ga5 | exact ga6 | exact ga7 | assumption) (by rfl)) ?_ | refine w_2 rfl (by first | exact v_t (by rfl) | exact v_c1 (by first | exact s1_1 | exact s1_2 | exact s1_32) (by rfl) (by first | rfl | exact ga0 | exact ga1 | exact ga2 | exact ga3 | exact ga4 | exact ga5 | exact ga6 | exact ga7 | assumption) (by rfl) | exact v_cF (by first | exact ag_30) (by rfl) (by first | rfl | exact ga0 | exact ga1 | exact ga2 | exact ga3 | exact ga4 | exact ga5 | exact ga6 | exact ga7 | assumption) (by rfl)) (by first | exact v_t (by rfl) | exact v_c1 (by first | exact s1_1 | exact s1_2 | exact s1_32) (by rfl) (by first | rfl | exact ga0 | exact ga1 | exact ga2 | exact ga3 | exact ga4 | exact ga5 | exact ga6 | exact ga7 | assumption) (by rfl) | exact v_cF (by first | exact ag_30) (by rfl) (by first | rfl | exact ga0 | exact ga1 | exact ga2 | exact ga3 | exact ga4 | exact ga5 | exact ga6 | exact ga7 | assumption) (by rfl)) ?_ | refine w_3 rfl (by first | exact v_t (by rfl) | exact v_c1 (by first | exact s1_1 | exact s1_2 | exact s1_32) (by rfl) (by first | rfl | exact ga0 | exact ga1 | exact ga2 | exact ga3 | exact ga4 | exact ga5 | exact ga6 | exact ga7 | assumption) (by rfl) | exact v_cF (by first | exact ag_30) (by rfl) (by first | rfl | exact ga0 | exact ga1 | exact ga2 | exact ga3 | exact ga4 | exact ga5 | exact ga6 | exact ga7 | assumption) (by rfl)) (by first | exact v_t (by rfl) | exact v_c1 (by first | exact s1_1 | exact s1_2 | exact s1_32) (by rfl) (by first | rfl | exact ga0 | exact ga1 | exact ga2 | exact ga3 | exact ga4 | exact ga5 | exact ga6 | exact ga7 | assumption) (by rfl) | exact v_cF (by first | exact ag_30) (by rfl) (by first | rfl | exact ga0 | exact ga1 | exact ga2 | exact ga3 | exact ga4 | exact ga5 | exact ga6 | exact ga7 | assumption) (by rfl)) (by first | exact v_t (by rfl) | exact v_c1 (by first | exact s1_1 | exact s1_2 | exact s1_32) (by rfl) (by first | rfl | exact ga0 | exact ga1 | exact ga2 | exact ga3 | exact ga4 | exact ga5 | exact ga6 | exact ga7 | assumption) (by rfl) | exact v_cF (by first | exact ag_30) (by rfl) (by first | rfl | exact ga0 | exact ga1 | exact ga2 | exact ga3 | exact ga4 | exact ga5 | exact ga6 | exact ga7 | assumption) (by rfl)) ?_ | refine w_4 rfl (by first | exact v_t (by rfl) | exact v_c1 (by first | exact s1_1 | exact s1_2 | exact s1_32) (by rfl) (by first | rfl | exact ga0 | exact ga1 | exact ga2 | exact ga3 | exact ga4 | exact ga5 | exact ga6 | exact ga7 | assumption) (by rfl) | exact v_cF (by first | exact ag_30) (by rfl) (by first | rfl | exact ga0 | exact ga1 | exact ga2 | exact ga3 | exact ga4 | exact ga5 | exact ga6 | exact ga7 | assumption) (by rfl)) (by first | exact v_t (by rfl) | exact v_c1 (by first | exact s1_1 | exact s1_2 | exact s1_32) (by rfl) (by first | rfl | exact ga0 | exact ga1 | exact ga2 | exact ga3 | exact ga4 | exact ga5 | exact ga6 | exact ga7 | assumption) (by rfl) | exact v_cF (by first | exact ag_30) (by rfl) (by first | rfl | exact ga0 | exact ga1 | exact ga2 | exact ga3 | exact ga4 | exact ga5 | exact ga6 | exact ga7 | assumption) (by rfl)) (by first | exact v_t (by rfl) | exact v_c1 (by first | exact s1_1 | exact s1_2 | exact s1_32) (by rfl) (by first | rfl | exact ga0 | exact ga1 | exact ga2 | exact ga3 | exact ga4 | exact ga5 | exact ga6 | exact ga7 | assumption) (by rfl) | exact v_cF (by first | exact ag_30) (by rfl) (by first | rfl | exact ga0 | exact ga1 | exact ga2 | exact ga3 | exact ga4 | exact ga5 | exact ga6 | exact ga7 | assumption) (by rfl)) (by first | exact v_t (by rfl) | exact v_c1 (by first | exact s1_1 | exact s1_2 | exact s1_32) (by rfl) (by first | rfl | exact ga0 | exact ga1 | exact ga2 | exact ga3 | exact ga4 | exact ga5 | exact ga6 | exact ga7 | assumption) (by rfl) | exact v_cF (by first | exact ag_30) (by rfl) (by first | rfl | exact ga0 | exact ga1 | exact ga2 | exact ga3 | exact ga4 | exact ga5 | exact ga6 | exact ga7 | assumption) (by rfl)) ?_ | refine w_0 rfl ?_
  all_goals exact ⟨rfl, rfl⟩
theorem ridle_any : ACalls Try.prog 13 [] [] (fun r _ => r = WA (-1) 0 ∧ r.sc 0 = true) := by
  refine acalls_of_wk hm Try.func13 rfl ?_
  simp only [Try.ntmps13, List.length_cons, List.length_nil, Nat.reduceAdd, Nat.reduceSub, List.reduceReplicate, List.cons_append, List.nil_append]
  show wk _ _ none _ _ ⟨_, []⟩ _
  repeat' (first
    | with_reducible refine s_seq ?_
    | with_reducible refine s_then ?_
    | with_reducible refine s_thenR ?_
    | with_reducible refine s_thenE ?_
    | with_reducible refine s_skip ?_
    | with_reducible refine s_ret ?_
    | with_reducible refine s_block ?_
    | with_reducible refine s_blkN ?_
    | with_reducible refine s_blkR ?_
    | with_reducible refine s_blkE ?_
    | with_reducible refine l_exit ?_
    | with_reducible refine l_ret ?_
    | with_reducible refine s_end ?_
    | with_reducible refine s_reg ?_
    | with_reducible refine s_blkX (by rfl) ?_
    | with_reducible refine s_exit ?_
    | ((with_reducible refine is_cond ?_); first | refine s_condT (by first | exact e_t (by rfl) | exact e_c | exact e_f) ?_ | refine s_condF (by first | exact e_t (by rfl) | exact e_c | exact e_f) ?_)
    | ((with_reducible refine is_s (.build _ _) ?_); refine s_gL (by rfl) (x_build (by rfl) (bd_23z)) ?_; simp only [Fr.put, List.set_cons_succ, List.set_cons_zero])
    | ((with_reducible refine is_s (.build _ _) ?_); refine s_gL (by rfl) (x_build (by rfl) (bd_23 _)) ?_; simp only [Fr.put, List.set_cons_succ, List.set_cons_zero])
    | ((with_reducible refine is_s (.build _ _) ?_); refine s_gL (by rfl) (x_build (by rfl) (bd_30 _)) ?_; simp only [Fr.put, List.set_cons_succ, List.set_cons_zero])
    | ((with_reducible refine is_s (.build _ _) ?_); refine s_gL (by rfl) (x_build (by rfl) (bd_30z)) ?_; simp only [Fr.put, List.set_cons_succ, List.set_cons_zero])
    | ((with_reducible refine is_s (.binOp _ _ _ _ _) ?_); refine s_gB (by rfl) (x_bin (by first | exact e_t (by rfl) | exact e_c | exact e_f) (by first | exact e_t (by rfl) | exact e_c | exact e_f) (eq_30 _ _ _ _)) (fun hb => ?_) (fun hb => ?_) <;> simp only [decide_eq_true_eq, decide_eq_false_iff_not, Bool.not_eq_true', Bool.not_eq_false', not_true_eq_false, not_false_eq_true] at hb <;> first | (exfalso; omega) | (exfalso; simp_all; done) | (simp only [Fr.put, List.set_cons_succ, List.set_cons_zero]))
    | ((with_reducible refine is_s (.binOp _ _ _ _ _) ?_); refine s_gB (by rfl) (x_bin (by first | exact e_t (by rfl) | exact e_c | exact e_f) (by first | exact e_t (by rfl) | exact e_c | exact e_f) (ne_30 _ _ _ _)) (fun hb => ?_) (fun hb => ?_) <;> simp only [decide_eq_true_eq, decide_eq_false_iff_not, Bool.not_eq_true', Bool.not_eq_false', not_true_eq_false, not_false_eq_true] at hb <;> first | (exfalso; omega) | (exfalso; simp_all; done) | (simp only [Fr.put, List.set_cons_succ, List.set_cons_zero]))
    | ((with_reducible refine is_s (.binOp _ _ _ _ _) ?_); refine s_gB (by rfl) (x_bin (by first | exact e_t (by rfl) | exact e_c | exact e_f) (by first | exact e_t (by rfl) | exact e_c | exact e_f) (eq_23 _ _)) (fun hb => ?_) (fun hb => ?_) <;> simp only [decide_eq_true_eq, decide_eq_false_iff_not, Bool.not_eq_true', Bool.not_eq_false', not_true_eq_false, not_false_eq_true] at hb <;> first | (exfalso; omega) | (exfalso; simp_all; done) | (simp only [Fr.put, List.set_cons_succ, List.set_cons_zero]))
    | ((with_reducible refine is_s (.binOp _ _ _ _ _) ?_); refine s_gB (by rfl) (x_bin (by first | exact e_t (by rfl) | exact e_c | exact e_f) (by first | exact e_t (by rfl) | exact e_c | exact e_f) (ne_23 _ _)) (fun hb => ?_) (fun hb => ?_) <;> simp only [decide_eq_true_eq, decide_eq_false_iff_not, Bool.not_eq_true', Bool.not_eq_false', not_true_eq_false, not_false_eq_true] at hb <;> first | (exfalso; omega) | (exfalso; simp_all; done) | (simp only [Fr.put, List.set_cons_succ, List.set_cons_zero]))
    | ((with_reducible refine is_s (.alloc _) ?_); refine s_gH (by rfl) (x_alloc (by first | exact z_1 | exact z_2 | exact z_3 | exact z_7 | exact z_30)) ?_; simp only [Fr.put, List.set_cons_succ, List.set_cons_zero, List.length_append, List.length_set, List.length_cons, List.length_nil, List.nil_append, List.cons_append, List.append_assoc, List.length_replicate, Nat.reduceAdd, Nat.zero_add, Nat.add_assoc, sa0, sa1, sa2, sa3, sa4, sa5, sa6, sa7])
    | ((with_reducible refine is_s (.store _ _ _) ?_); refine s_gH (by rfl) (x_store1 (by first | exact s1_1 | exact s1_2 | exact s1_3) (by first | exact e_t (by rfl) | exact e_c | exact e_f) (by first | exact e_t (by rfl) | exact e_c | exact e_f) (by rfl) (by first | rfl | exact ga0 | exact ga1 | exact ga2 | exact ga3 | exact ga4 | exact ga5 | exact ga6 | exact ga7 | assumption) (by first | exact Nat.le_refl _ | decide | (simp; done) | (simp only [List.length_cons, List.length_nil]; omega))) ?_; simp only [Fr.put, List.set_cons_succ, List.set_cons_zero, List.length_append, List.length_set, List.length_cons, List.length_nil, List.nil_append, List.cons_append, List.append_assoc, List.length_replicate, Nat.reduceAdd, Nat.zero_add, Nat.add_assoc, sa0, sa1, sa2, sa3, sa4, sa5, sa6, sa7])
    | ((with_reducible refine is_s (.store _ _ _) ?_); refine s_gH (by rfl) (x_storeF (by first | exact ag_7 | exact ag_30) (by first | exact e_t (by rfl) | exact e_c | exact e_f) (by first | exact e_t (by rfl) | exact e_c | exact e_f) (by rfl) (by rfl) (by first | rfl | exact ga0 | exact ga1 | exact ga2 | exact ga3 | exact ga4 | exact ga5 | exact ga6 | exact ga7 | assumption) (by rfl)) ?_; simp only [Fr.put, List.set_cons_succ, List.set_cons_zero, List.length_append, List.length_set, List.length_cons, List.length_nil, List.nil_append, List.cons_append, List.append_assoc, List.length_replicate, Nat.reduceAdd, Nat.zero_add, Nat.add_assoc, sa0, sa1, sa2, sa3, sa4, sa5, sa6, sa7])
    | ((with_reducible refine is_s (.store _ _ _) ?_); refine s_gH (by rfl) (x_storeA (by first | exact ag_7 | exact ag_30) (by first | exact e_t (by rfl) | exact e_c | exact e_f) (by first | exact e_t (by rfl) | exact e_c | exact e_f) (by rfl) (by rfl) (by first | rfl | exact ga0 | exact ga1 | exact ga2 | exact ga3 | exact ga4 | exact ga5 | exact ga6 | exact ga7 | assumption) (by first | exact Nat.le_refl _ | decide | (simp; done) | (simp only [List.length_cons, List.length_nil]; omega))) ?_; simp only [Fr.put, List.set_cons_succ, List.set_cons_zero, List.length_append, List.length_set, List.length_cons, List.length_nil, List.nil_append, List.cons_append, List.append_assoc, List.length_replicate, Nat.reduceAdd, Nat.zero_add, Nat.add_assoc, sa0, sa1, sa2, sa3, sa4, sa5, sa6, sa7])
    )
  all_goals try with_reducible refine w_n ?_
  all_goals first | refine w_1 rfl (by first | exact v_t (by rfl) | exact v_c1 (by first | exact s1_1 | exact s1_2) (by rfl) (by first | rfl | exact ga0 | exact ga1 | exact ga2 | exact ga3 | exact ga4 | exact ga5 | exact ga6 | exact ga7 | assumption) (by rfl) | exact v_cF (by first | exact ag_7 | exact ag_30) (by rfl) (by first | rfl | exact ga0 | exact ga1 | exact ga2 | exact ga3 | exact ga4 | exact ga5 | exact ga6 | exact ga7 | assumption) (by rfl)) ?_ | refine w_2 rfl (by first | exact v_t (by rfl) | exact v_c1 (by first | exact s1_1 | exact s1_2) (by rfl) (by first | rfl | exact ga0 | exact ga1 | exact ga2 | exact ga3 | exact ga4 | exact ga5 | exact ga6 | exact ga7 | assumption) (by rfl) | exact v_cF (by first | exact ag_7 | exact ag_30) (by rfl) (by first | rfl | exact ga0 | exact ga1 | exact ga2 | exact ga3 | exact ga4 | exact ga5 | exact ga6 | exact ga7 | assumption) (by rfl)) (by first | exact v_t (by rfl) | exact v_c1 (by first | exact s1_1 | exact s1_2) (by rfl) (by first | rfl | exact ga0 | exact ga1 | exact ga2 | exact ga3 | exact ga4 | exact ga5 | exact ga6 | exact ga7 | assumption) (by rfl) | exact v_cF (by first | exact ag_7 | exact ag_30) (by rfl) (by first | rfl | exact ga0 | exact ga1 | exact ga2 | exact ga3 | exact ga4 | exact ga5 | exact ga6 | exact ga7 | assumption) (by rfl)) ?_ | refine w_3 rfl (by first | exact v_t (by rfl) | exact v_c1 (by first | exact s1_1 | exact s1_2) (by rfl) (by first | rfl | exact ga0 | exact ga1 | exact ga2 | exact ga3 | exact ga4 | exact ga5 | exact ga6 | exact ga7 | assumption) (by rfl) | exact v_cF (by first | exact ag_7 | exact ag_30) (by rfl) (by first | rfl | exact ga0 | exact ga1 | exact ga2 | exact ga3 | exact ga4 | exact ga5 | exact ga6 | exact ga7 | assumption) (by rfl)) (by first | exact v_t (by rfl) | exact v_c1 (by first | exact s1_1 | exact s1_2) (by rfl) (by first | rfl | exact ga0 | exact ga1 | exact ga2 | exact ga3 | exact ga4 | exact ga5 | exact ga6 | exact ga7 | assumption) (by rfl) | exact v_cF (by first | exact ag_7 | exact ag_30) (by rfl) (by first | rfl | exact ga0 | exact ga1 | exact ga2 | exact ga3 | exact ga4 | exact ga5 | exact ga6 | exact ga7 | assumption) (by rfl)) (by first | exact v_t (by rfl) | exact v_c1 (by first | exact s1_1 | exact s1_2) (by rfl) (by first | rfl | exact ga0 | exact ga1 | exact ga2 | exact ga3 | exact ga4 | exact ga5 | exact ga6 | exact ga7 | assumption) (by rfl) | exact v_cF (by first | exact ag_7 | exact ag_30) (by rfl) (by first | rfl | exact ga0 | exact ga1 | exact ga2 | exact ga3 | exact ga4 | exact ga5 | exact ga6 | exact ga7 | assumption) (by rfl)) ?_ | refine w_4 rfl (by first | exact v_t (by rfl) | exact v_c1 (by first | exact s1_1 | exact s1_2) (by rfl) (by first | rfl | exact ga0 | exact ga1 | exact ga2 | exact ga3 | exact ga4 | exact ga5 | exact ga6 | exact ga7 | assumption) (by rfl) | exact v_cF (by first | exact ag_7 | exact ag_30) (by rfl) (by first | rfl | exact ga0 | exact ga1 | exact ga2 | exact ga3 | exact ga4 | exact ga5 | exact ga6 | exact ga7 | assumption) (by rfl)) (by first | exact v_t (by rfl) | exact v_c1 (by first | exact s1_1 | exact s1_2) (by rfl) (by first | rfl | exact ga0 | exact ga1 | exact ga2 | exact ga3 | exact ga4 | exact ga5 | exact ga6 | exact ga7 | assumption) (by rfl) | exact v_cF (by first | exact ag_7 | exact ag_30) (by rfl) (by first | rfl | exact ga0 | exact ga1 | exact ga2 | exact ga3 | exact ga4 | exact ga5 | exact ga6 | exact ga7 | assumption) (by rfl)) (by first | exact v_t (by rfl) | exact v_c1 (by first | exact s1_1 | exact s1_2) (by rfl) (by first | rfl | exact ga0 | exact ga1 | exact ga2 | exact ga3 | exact ga4 | exact ga5 | exact ga6 | exact ga7 | assumption) (by rfl) | exact v_cF (by first | exact ag_7 | exact ag_30) (by rfl) (by first | rfl | exact ga0 | exact ga1 | exact ga2 | exact ga3 | exact ga4 | exact ga5 | exact ga6 | exact ga7 | assumption) (by rfl)) (by first | exact v_t (by rfl) | exact v_c1 (by first | exact s1_1 | exact s1_2) (by rfl) (by first | rfl | exact ga0 | exact ga1 | exact ga2 | exact ga3 | exact ga4 | exact ga5 | exact ga6 | exact ga7 | assumption) (by rfl) | exact v_cF (by first | exact ag_7 | exact ag_30) (by rfl) (by first | rfl | exact ga0 | exact ga1 | exact ga2 | exact ga3 | exact ga4 | exact ga5 | exact ga6 | exact ga7 | assumption) (by rfl)) ?_ | refine w_0 rfl ?_
  all_goals exact ⟨rfl, rfl⟩
theorem lidle_any : ACalls Try.prog 29 [] [] (fun r _ => r = WA (-1) 0 ∧ r.sc 0 = true) := by
  refine acalls_of_wk hm Try.func29 rfl ?_
  simp only [Try.ntmps29, List.length_cons, List.length_nil, Nat.reduceAdd, Nat.reduceSub, List.reduceReplicate, List.cons_append, List.nil_append]
  show wk _ _ none _ _ ⟨_, []⟩ _
  repeat' (first
    | with_reducible refine s_seq ?_
    | with_reducible refine s_then ?_
    | with_reducible refine s_thenR ?_
    | with_reducible refine s_thenE ?_
    | with_reducible refine s_skip ?_
    | with_reducible refine s_ret ?_
    | with_reducible refine s_block ?_
    | with_reducible refine s_blkN ?_
    | with_reducible refine s_blkR ?_
    | with_reducible refine s_blkE ?_
    | with_reducible refine l_exit ?_
    | with_reducible refine l_ret ?_
    | with_reducible refine s_end ?_
    | with_reducible refine s_reg ?_
    | with_reducible refine s_blkX (by rfl) ?_
    | with_reducible refine s_exit ?_
    | ((with_reducible refine is_cond ?_); first | refine s_condT (by first | exact e_t (by rfl) | exact e_c | exact e_f) ?_ | refine s_condF (by first | exact e_t (by rfl) | exact e_c | exact e_f) ?_)
    | ((with_reducible refine is_s (.build _ _) ?_); refine s_gL (by rfl) (x_build (by rfl) (bd_23z)) ?_; simp only [Fr.put, List.set_cons_succ, List.set_cons_zero])
    | ((with_reducible refine is_s (.build _ _) ?_); refine s_gL (by rfl) (x_build (by rfl) (bd_23 _)) ?_; simp only [Fr.put, List.set_cons_succ, List.set_cons_zero])
    | ((with_reducible refine is_s (.build _ _) ?_); refine s_gL (by rfl) (x_build (by rfl) (bd_30 _)) ?_; simp only [Fr.put, List.set_cons_succ, List.set_cons_zero])
    | ((with_reducible refine is_s (.build _ _) ?_); refine s_gL (by rfl) (x_build (by rfl) (bd_30z)) ?_; simp only [Fr.put, List.set_cons_succ, List.set_cons_zero])
    | ((with_reducible refine is_s (.binOp _ _ _ _ _) ?_); refine s_gB (by rfl) (x_bin (by first | exact e_t (by rfl) | exact e_c | exact e_f) (by first | exact e_t (by rfl) | exact e_c | exact e_f) (eq_30 _ _ _ _)) (fun hb => ?_) (fun hb => ?_) <;> simp only [decide_eq_true_eq, decide_eq_false_iff_not, Bool.not_eq_true', Bool.not_eq_false', not_true_eq_false, not_false_eq_true] at hb <;> first | (exfalso; omega) | (exfalso; simp_all; done) | (simp only [Fr.put, List.set_cons_succ, List.set_cons_zero]))
    | ((with_reducible refine is_s (.binOp _ _ _ _ _) ?_); refine s_gB (by rfl) (x_bin (by first | exact e_t (by rfl) | exact e_c | exact e_f) (by first | exact e_t (by rfl) | exact e_c | exact e_f) (ne_30 _ _ _ _)) (fun hb => ?_) (fun hb => ?_) <;> simp only [decide_eq_true_eq, decide_eq_false_iff_not, Bool.not_eq_true', Bool.not_eq_false', not_true_eq_false, not_false_eq_true] at hb <;> first | (exfalso; omega) | (exfalso; simp_all; done) | (simp only [Fr.put, List.set_cons_succ, List.set_cons_zero]))
    | ((with_reducible refine is_s (.binOp _ _ _ _ _) ?_); refine s_gB (by rfl) (x_bin (by first | exact e_t (by rfl) | exact e_c | exact e_f) (by first | exact e_t (by rfl) | exact e_c | exact e_f) (eq_23 _ _)) (fun hb => ?_) (fun hb => ?_) <;> simp only [decide_eq_true_eq, decide_eq_false_iff_not, Bool.not_eq_true', Bool.not_eq_false', not_true_eq_false, not_false_eq_true] at hb <;> first | (exfalso; omega) | (exfalso; simp_all; done) | (simp only [Fr.put, List.set_cons_succ, List.set_cons_zero]))
    | ((with_reducible refine is_s (.binOp _ _ _ _ _) ?_); refine s_gB (by rfl) (x_bin (by first | exact e_t (by rfl) | exact e_c | exact e_f) (by first | exact e_t (by rfl) | exact e_c | exact e_f) (ne_23 _ _)) (fun hb => ?_) (fun hb => ?_) <;> simp only [decide_eq_true_eq, decide_eq_false_iff_not, Bool.not_eq_true', Bool.not_eq_false', not_true_eq_false, not_false_eq_true] at hb <;> first | (exfalso; omega) | (exfalso; simp_all; done) | (simp only [Fr.put, List.set_cons_succ, List.set_cons_zero]))
    | ((with_reducible refine is_s (.alloc _) ?_); refine s_gH (by rfl) (x_alloc (by first | exact z_1 | exact z_2 | exact z_3 | exact z_30 | exact z_69)) ?_; simp only [Fr.put, List.set_cons_succ, List.set_cons_zero, List.length_append, List.length_set, List.length_cons, List.length_nil, List.nil_append, List.cons_append, List.append_assoc, List.length_replicate, Nat.reduceAdd, Nat.zero_add, Nat.add_assoc, sa0, sa1, sa2, sa3, sa4, sa5, sa6, sa7])
    | ((with_reducible refine is_s (.store _ _ _) ?_); refine s_gH (by rfl) (x_store1 (by first | exact s1_1 | exact s1_2 | exact s1_3) (by first | exact e_t (by rfl) | exact e_c | exact e_f) (by first | exact e_t (by rfl) | exact e_c | exact e_f) (by rfl) (by first | rfl | exact ga0 | exact ga1 | exact ga2 | exact ga3 | exact ga4 | exact ga5 | exact ga6 | exact ga7 | assumption) (by first | exact Nat.le_refl _ | decide | (simp; done) | (simp only [List.length_cons, List.length_nil]; omega))) ?_; simp only [Fr.put, List.set_cons_succ, List.set_cons_zero, List.length_append, List.length_set, List.length_cons, List.length_nil, List.nil_append, List.cons_append, List.append_assoc, List.length_replicate, Nat.reduceAdd, Nat.zero_add, Nat.add_assoc, sa0, sa1, sa2, sa3, sa4, sa5, sa6, sa7])
    | ((with_reducible refine is_s (.store _ _ _) ?_); refine s_gH (by rfl) (x_storeF (by first | exact ag_30) (by first | exact e_t (by rfl) | exact e_c | exact e_f) (by first | exact e_t (by rfl) | exact e_c | exact e_f) (by rfl) (by rfl) (by first | rfl | exact ga0 | exact ga1 | exact ga2 | exact ga3 | exact ga4 | exact ga5 | exact ga6 | exact ga7 | assumption) (by rfl)) ?_; simp only [Fr.put, List.set_cons_succ, List.set_cons_zero, List.length_append, List.length_set, List.length_cons, List.length_nil, List.nil_append, List.cons_append, List.append_assoc, List.length_replicate, Nat.reduceAdd, Nat.zero_add, Nat.add_assoc, sa0, sa1, sa2, sa3, sa4, sa5, sa6, sa7])
    | ((with_reducible refine is_s (.store _ _ _) ?_); refine s_gH (by rfl) (x_storeA (by first | exact ag_30) (by first | exact e_t (by rfl) | exact e_c | exact e_f) (by first | exact e_t (by rfl) | exact e_c | exact e_f) (by rfl) (by rfl) (by first | rfl | exact ga0 | exact ga1 | exact ga2 | exact ga3 | exact ga4 | exact ga5 | exact ga6 | exact ga7 | assumption) (by first | exact Nat.le_refl _ | decide | (simp; done) | (simp only [List.length_cons, List.length_nil]; omega))) ?_; simp only [Fr.put, List.set_cons_succ, List.set_cons_zero, List.length_append, List.length_set, List.length_cons, List.length_nil, List.nil_append, List.cons_append, List.append_assoc, List.length_replicate, Nat.reduceAdd, Nat.zero_add, Nat.add_assoc, sa0, sa1, sa2, sa3, sa4, sa5, sa6, sa7])
    )
  all_goals try with_reducible refine w_n ?_
  all_goals first | refine w_1 rfl (by first | exact v_t (by rfl) | exact v_c1 (by first | exact s1_1 | exact s1_2) (by rfl) (by first | rfl | exact ga0 | exact ga1 | exact ga2 | exact ga3 | exact ga4 | exact ga5 | exact ga6 | exact ga7 | assumption) (by rfl) | exact v_cF (by first | exact ag_30) (by rfl) (by first | rfl | exact ga0 | exact ga1 | exact ga2 | exact ga3 | exact ga4 | exact ga5 | exact ga6 | exact ga7 | assumption) (by rfl)) ?_ | refine w_2 rfl (by first | exact v_t (by rfl) | exact v_c1 (by first | exact s1_1 | exact s1_2) (by rfl) (by first | rfl | exact ga0 | exact ga1 | exact ga2 | exact ga3 | exact ga4 | exact ga5 | exact ga6 | exact ga7 | assumption) (by rfl) | exact v_cF (by first | exact ag_30) (by rfl) (by first | rfl | exact ga0 | exact ga1 | exact ga2 | exact ga3 | exact ga4 | exact ga5 | exact ga6 | exact ga7 | assumption) (by rfl)) (by first | exact v_t (by rfl) | exact v_c1 (by first | exact s1_1 | exact s1_2) (by rfl) (by first | rfl | exact ga0 | exact ga1 | exact ga2 | exact ga3 | exact ga4 | exact ga5 | exact ga6 | exact ga7 | assumption) (by rfl) | exact v_cF (by first | exact ag_30) (by rfl) (by first | rfl | exact ga0 | exact ga1 | exact ga2 | exact ga3 | exact ga4 | exact ga5 | exact ga6 | exact ga7 | assumption) (by rfl)) ?_ | refine w_3 rfl (by first | exact v_t (by rfl) | exact v_c1 (by first | exact s1_1 | exact s1_2) (by rfl) (by first | rfl | exact ga0 | exact ga1 | exact ga2 | exact ga3 | exact ga4 | exact ga5 | exact ga6 | exact ga7 | assumption) (by rfl) | exact v_cF (by first | exact ag_30) (by rfl) (by first | rfl | exact ga0 | exact ga1 | exact ga2 | exact ga3 | exact ga4 | exact ga5 | exact ga6 | exact ga7 | assumption) (by rfl)) (by first | exact v_t (by rfl) | exact v_c1 (by first | exact s1_1 | exact s1_2) (by rfl) (by first | rfl | exact ga0 | exact ga1 | exact ga2 | exact ga3 | exact ga4 | exact ga5 | exact ga6 | exact ga7 | assumption) (by rfl) | exact v_cF (by first | exact ag_30) (by rfl) (by first | rfl | exact ga0 | exact ga1 | exact ga2 | exact ga3 | exact ga4 | exact ga5 | exact ga6 | exact ga7 | assumption) (by rfl)) (by first | exact v_t (by rfl) | exact v_c1 (by first | exact s1_1 | exact s1_2) (by rfl) (by first | rfl | exact ga0 | exact ga1 | exact ga2 | exact ga3 | exact ga4 | exact ga5 | exact ga6 | exact ga7 | assumption) (by rfl) | exact v_cF (by first | exact ag_30) (by rfl) (by first | rfl | exact ga0 | exact ga1 | exact ga2 | exact ga3 | exact ga4 | exact ga5 | exact ga6 | exact ga7 | assumption) (by rfl)) ?_ | refine w_4 rfl (by first | exact v_t (by rfl) | exact v_c1 (by first | exact s1_1 | exact s1_2) (by rfl) (by first | rfl | exact ga0 | exact ga1 | exact ga2 | exact ga3 | exact ga4 | exact ga5 | exact ga6 | exact ga7 | assumption) (by rfl) | exact v_cF (by first | exact ag_30) (by rfl) (by first | rfl | exact ga0 | exact ga1 | exact ga2 | exact ga3 | exact ga4 | exact ga5 | exact ga6 | exact ga7 | assumption) (by rfl)) (by first | exact v_t (by rfl) | exact v_c1 (by first | exact s1_1 | exact s1_2) (by rfl) (by first | rfl | exact ga0 | exact ga1 | exact ga2 | exact ga3 | exact ga4 | exact ga5 | exact ga6 | exact ga7 | assumption) (by rfl) | exact v_cF (by first | exact ag_30) (by rfl) (by first | rfl | exact ga0 | exact ga1 | exact ga2 | exact ga3 | exact ga4 | exact ga5 | exact ga6 | exact ga7 | assumption) (by rfl)) (by first | exact v_t (by rfl) | exact v_c1 (by first | exact s1_1 | exact s1_2) (by rfl) (by first | rfl | exact ga0 | exact ga1 | exact ga2 | exact ga3 | exact ga4 | exact ga5 | exact ga6 | exact ga7 | assumption) (by rfl) | exact v_cF (by first | exact ag_30) (by rfl) (by first | rfl | exact ga0 | exact ga1 | exact ga2 | exact ga3 | exact ga4 | exact ga5 | exact ga6 | exact ga7 | assumption) (by rfl)) (by first | exact v_t (by rfl) | exact v_c1 (by first | exact s1_1 | exact s1_2) (by rfl) (by first | rfl | exact ga0 | exact ga1 | exact ga2 | exact ga3 | exact ga4 | exact ga5 | exact ga6 | exact ga7 | assumption) (by rfl) | exact v_cF (by first | exact ag_30) (by rfl) (by first | rfl | exact ga0 | exact ga1 | exact ga2 | exact ga3 | exact ga4 | exact ga5 | exact ga6 | exact ga7 | assumption) (by rfl)) ?_ | refine w_0 rfl ?_
  all_goals exact ⟨rfl, rfl⟩
end Go.Proofs.Ytfhbbpdnmdbjbaa
