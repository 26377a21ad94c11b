/- Facts on the types and the functions of this seat's translation, each a closed reckoning: printed by gen.py. -/
import Derived.Test.YtfhjhaogmdaepaaProg
import Derived.Test.YtfhjhaogmdaepaaEngF
set_option linter.unusedVariables false
namespace Go.Proofs.Ytfhjhaogmdaepaa
open Go Go.Proofs
set_option maxRecDepth 100000
/-- The program, with what its package-level variables held when the call began. -/
noncomputable abbrev cx (gl : Nat → Obj) : Cx := ⟨Try.prog, 0, gl⟩
theorem ty_sc_1 : scB Try.prog 1 = true := by kernel_rfl
theorem ty_sc_2 : scB Try.prog 2 = true := by kernel_rfl
theorem ty_int_2 : Try.prog.underlying 2 = some (.int .i64) := by kernel_rfl
theorem ty_ze_2 : zeB Try.prog 2 ([.int .i64 0]) := by unfold zeB; kernel_rfl
theorem ty_sc_3 : scB Try.prog 3 = true := by kernel_rfl
theorem ty_int_3 : Try.prog.underlying 3 = some (.int .i64) := by kernel_rfl
theorem ty_ze_3 : zeB Try.prog 3 ([.int .i64 0]) := by unfold zeB; kernel_rfl
theorem ty_sc_4 : scB Try.prog 4 = true := by kernel_rfl
theorem ty_bool_4 : Try.prog.underlying 4 = some .bool := by kernel_rfl
theorem ty_ze_4 : zeB Try.prog 4 ([.bool false]) := by unfold zeB; kernel_rfl
theorem ty_sc_5 : scB Try.prog 5 = true := by kernel_rfl
theorem ty_int_5 : Try.prog.underlying 5 = some (.int .u8) := by kernel_rfl
theorem ty_ze_5 : zeB Try.prog 5 ([.int .u8 0]) := by unfold zeB; kernel_rfl
theorem ty_sc_6 : scB Try.prog 6 = true := by kernel_rfl
theorem ty_int_6 : Try.prog.underlying 6 = some (.int .u8) := by kernel_rfl
theorem ty_ze_6 : zeB Try.prog 6 ([.int .u8 0]) := by unfold zeB; kernel_rfl
theorem ty_ag_7 : agB Try.prog 7 4 = true := by kernel_rfl
theorem ty_pl_7 : plB Try.prog 7 [(0, 1), (1, 1), (2, 1), (3, 1)] = true := by kernel_rfl
theorem ty_fld_7_0 : fldB Try.prog 7 0 = some (0, 2) := by kernel_rfl
theorem ty_fl_7_0 : flB Try.prog 7 0 0 = true := by kernel_rfl
theorem ty_fld_7_1 : fldB Try.prog 7 1 = some (1, 3) := by kernel_rfl
theorem ty_fl_7_1 : flB Try.prog 7 1 1 = true := by kernel_rfl
theorem ty_fld_7_2 : fldB Try.prog 7 2 = some (2, 4) := by kernel_rfl
theorem ty_fl_7_2 : flB Try.prog 7 2 2 = true := by kernel_rfl
theorem ty_fld_7_3 : fldB Try.prog 7 3 = some (3, 6) := by kernel_rfl
theorem ty_fl_7_3 : flB Try.prog 7 3 3 = true := by kernel_rfl
theorem ty_ze_7 : zeB Try.prog 7 ([.int .i64 0, .int .i64 0, .bool false, .int .u8 0]) := by unfold zeB; kernel_rfl
theorem ty_ag_8 : agB Try.prog 8 4 = true := by kernel_rfl
theorem ty_pl_8 : plB Try.prog 8 [(0, 1), (1, 1), (2, 1), (3, 1)] = true := by kernel_rfl
theorem ty_fld_8_0 : fldB Try.prog 8 0 = some (0, 2) := by kernel_rfl
theorem ty_fl_8_0 : flB Try.prog 8 0 0 = true := by kernel_rfl
theorem ty_fld_8_1 : fldB Try.prog 8 1 = some (1, 3) := by kernel_rfl
theorem ty_fl_8_1 : flB Try.prog 8 1 1 = true := by kernel_rfl
theorem ty_fld_8_2 : fldB Try.prog 8 2 = some (2, 4) := by kernel_rfl
theorem ty_fl_8_2 : flB Try.prog 8 2 2 = true := by kernel_rfl
theorem ty_fld_8_3 : fldB Try.prog 8 3 = some (3, 6) := by kernel_rfl
theorem ty_fl_8_3 : flB Try.prog 8 3 3 = true := by kernel_rfl
theorem ty_ze_8 : zeB Try.prog 8 ([.int .i64 0, .int .i64 0, .bool false, .int .u8 0]) := by unfold zeB; kernel_rfl
theorem ty_sc_9 : scB Try.prog 9 = true := by kernel_rfl
theorem ty_str_9 : Try.prog.underlying 9 = some .string := by kernel_rfl
theorem ty_src_9 : srcB Try.prog 9 = true := by kernel_rfl
theorem ty_ze_9 : zeB Try.prog 9 ([.string ByteArray.empty]) := by unfold zeB; kernel_rfl
theorem ty_sc_10 : scB Try.prog 10 = true := by kernel_rfl
theorem ty_str_10 : Try.prog.underlying 10 = some .string := by kernel_rfl
theorem ty_src_10 : srcB Try.prog 10 = true := by kernel_rfl
theorem ty_ze_10 : zeB Try.prog 10 ([.string ByteArray.empty]) := by unfold zeB; kernel_rfl
theorem ty_sc_11 : scB Try.prog 11 = true := by kernel_rfl
theorem ty_str_11 : Try.prog.underlying 11 = some .string := by kernel_rfl
theorem ty_src_11 : srcB Try.prog 11 = true := by kernel_rfl
theorem ty_ze_11 : zeB Try.prog 11 ([.string ByteArray.empty]) := by unfold zeB; kernel_rfl
theorem ty_sc_12 : scB Try.prog 12 = true := by kernel_rfl
theorem ty_int_12 : Try.prog.underlying 12 = some (.int .u64) := by kernel_rfl
theorem ty_ze_12 : zeB Try.prog 12 ([.int .u64 0]) := by unfold zeB; kernel_rfl
theorem ty_ag_13 : agB Try.prog 13 2 = true := by kernel_rfl
theorem ty_pl_13 : plB Try.prog 13 [(0, 1), (1, 1)] = true := by kernel_rfl
theorem ty_fld_13_0 : fldB Try.prog 13 0 = some (0, 9) := by kernel_rfl
theorem ty_fl_13_0 : flB Try.prog 13 0 0 = true := by kernel_rfl
theorem ty_fld_13_1 : fldB Try.prog 13 1 = some (1, 12) := by kernel_rfl
theorem ty_fl_13_1 : flB Try.prog 13 1 1 = true := by kernel_rfl
theorem ty_ze_13 : zeB Try.prog 13 ([.string ByteArray.empty, .int .u64 0]) := by unfold zeB; kernel_rfl
theorem ty_ag_14 : agB Try.prog 14 2 = true := by kernel_rfl
theorem ty_pl_14 : plB Try.prog 14 [(0, 1), (1, 1)] = true := by kernel_rfl
theorem ty_fld_14_0 : fldB Try.prog 14 0 = some (0, 9) := by kernel_rfl
theorem ty_fl_14_0 : flB Try.prog 14 0 0 = true := by kernel_rfl
theorem ty_fld_14_1 : fldB Try.prog 14 1 = some (1, 12) := by kernel_rfl
theorem ty_fl_14_1 : flB Try.prog 14 1 1 = true := by kernel_rfl
theorem ty_ze_14 : zeB Try.prog 14 ([.string ByteArray.empty, .int .u64 0]) := by unfold zeB; kernel_rfl
theorem ty_sc_15 : scB Try.prog 15 = true := by kernel_rfl
theorem ty_ptr_15 : Try.prog.underlying 15 = some (.pointer 105) := by kernel_rfl
theorem ty_ze_15 : zeB Try.prog 15 ([.pointer none]) := by unfold zeB; kernel_rfl
theorem ty_sc_16 : scB Try.prog 16 = true := by kernel_rfl
theorem ty_ptr_16 : Try.prog.underlying 16 = some (.pointer 108) := by kernel_rfl
theorem ty_ze_16 : zeB Try.prog 16 ([.pointer none]) := by unfold zeB; kernel_rfl
theorem ty_sc_17 : scB Try.prog 17 = true := by kernel_rfl
theorem ty_ptr_17 : Try.prog.underlying 17 = some (.pointer 117) := by kernel_rfl
theorem ty_ze_17 : zeB Try.prog 17 ([.pointer none]) := by unfold zeB; kernel_rfl
theorem ty_ag_18 : agB Try.prog 18 1 = true := by kernel_rfl
theorem ty_pl_18 : plB Try.prog 18 [(0, 1)] = true := by kernel_rfl
theorem ty_fld_18_0 : fldB Try.prog 18 0 = some (0, 17) := by kernel_rfl
theorem ty_fl_18_0 : flB Try.prog 18 0 0 = true := by kernel_rfl
theorem ty_ze_18 : zeB Try.prog 18 ([.pointer none]) := by unfold zeB; kernel_rfl
theorem ty_ag_19 : agB Try.prog 19 1 = true := by kernel_rfl
theorem ty_pl_19 : plB Try.prog 19 [(0, 1)] = true := by kernel_rfl
theorem ty_fld_19_0 : fldB Try.prog 19 0 = some (0, 17) := by kernel_rfl
theorem ty_fl_19_0 : flB Try.prog 19 0 0 = true := by kernel_rfl
theorem ty_ze_19 : zeB Try.prog 19 ([.pointer none]) := by unfold zeB; kernel_rfl
theorem ty_sc_20 : scB Try.prog 20 = true := by kernel_rfl
theorem ty_ze_20 : zeB Try.prog 20 ([.nilIface]) := by unfold zeB; kernel_rfl
theorem ty_sc_21 : scB Try.prog 21 = true := by kernel_rfl
theorem ty_int_21 : Try.prog.underlying 21 = some (.int .i32) := by kernel_rfl
theorem ty_ze_21 : zeB Try.prog 21 ([.int .i32 0]) := by unfold zeB; kernel_rfl
theorem ty_sc_22 : scB Try.prog 22 = true := by kernel_rfl
theorem ty_sl_22 : slB Try.prog 22 39 5 40 = true := by kernel_rfl
theorem ty_ap_22 : apB Try.prog 39 5 = true := by kernel_rfl
theorem ty_src_22 : srcB Try.prog 22 = true := by kernel_rfl
theorem ty_lz_22 : ((Try.prog.info? 39).bind (·.zero)).map (·.cells.size) = some 5 := by kernel_rfl
theorem ty_ze_22 : zeB Try.prog 22 ([.slice none 0 0]) := by unfold zeB; kernel_rfl
theorem ty_sc_23 : scB Try.prog 23 = true := by kernel_rfl
theorem ty_int_23 : Try.prog.underlying 23 = some (.int .u64) := by kernel_rfl
theorem ty_ze_23 : zeB Try.prog 23 ([.int .u64 0]) := by unfold zeB; kernel_rfl
theorem ty_ag_24 : agB Try.prog 24 12 = true := by kernel_rfl
theorem ty_pl_24 : plB Try.prog 24 [(0, 1), (1, 1), (2, 1), (3, 1), (4, 1), (5, 1), (6, 1), (7, 1), (8, 1), (9, 1), (10, 1), (11, 1)] = true := by kernel_rfl
theorem ty_fld_24_0 : fldB Try.prog 24 0 = some (0, 23) := by kernel_rfl
theorem ty_fl_24_0 : flB Try.prog 24 0 0 = true := by kernel_rfl
theorem ty_fld_24_1 : fldB Try.prog 24 1 = some (1, 3) := by kernel_rfl
theorem ty_fl_24_1 : flB Try.prog 24 1 1 = true := by kernel_rfl
theorem ty_fld_24_2 : fldB Try.prog 24 2 = some (2, 23) := by kernel_rfl
theorem ty_fl_24_2 : flB Try.prog 24 2 2 = true := by kernel_rfl
theorem ty_fld_24_3 : fldB Try.prog 24 3 = some (3, 23) := by kernel_rfl
theorem ty_fl_24_3 : flB Try.prog 24 3 3 = true := by kernel_rfl
theorem ty_fld_24_4 : fldB Try.prog 24 4 = some (4, 23) := by kernel_rfl
theorem ty_fl_24_4 : flB Try.prog 24 4 4 = true := by kernel_rfl
theorem ty_fld_24_5 : fldB Try.prog 24 5 = some (5, 3) := by kernel_rfl
theorem ty_fl_24_5 : flB Try.prog 24 5 5 = true := by kernel_rfl
theorem ty_fld_24_6 : fldB Try.prog 24 6 = some (6, 23) := by kernel_rfl
theorem ty_fl_24_6 : flB Try.prog 24 6 6 = true := by kernel_rfl
theorem ty_fld_24_7 : fldB Try.prog 24 7 = some (7, 23) := by kernel_rfl
theorem ty_fl_24_7 : flB Try.prog 24 7 7 = true := by kernel_rfl
theorem ty_fld_24_8 : fldB Try.prog 24 8 = some (8, 23) := by kernel_rfl
theorem ty_fl_24_8 : flB Try.prog 24 8 8 = true := by kernel_rfl
theorem ty_fld_24_9 : fldB Try.prog 24 9 = some (9, 23) := by kernel_rfl
theorem ty_fl_24_9 : flB Try.prog 24 9 9 = true := by kernel_rfl
theorem ty_fld_24_10 : fldB Try.prog 24 10 = some (10, 23) := by kernel_rfl
theorem ty_fl_24_10 : flB Try.prog 24 10 10 = true := by kernel_rfl
theorem ty_fld_24_11 : fldB Try.prog 24 11 = some (11, 23) := by kernel_rfl
theorem ty_fl_24_11 : flB Try.prog 24 11 11 = true := by kernel_rfl
theorem ty_ze_24 : zeB Try.prog 24 ([.int .u64 0, .int .i64 0, .int .u64 0, .int .u64 0, .int .u64 0, .int .i64 0] ++ List.replicate 6 (.int .u64 0)) := by unfold zeB; kernel_rfl
theorem ty_ag_25 : agB Try.prog 25 12 = true := by kernel_rfl
theorem ty_pl_25 : plB Try.prog 25 [(0, 1), (1, 1), (2, 1), (3, 1), (4, 1), (5, 1), (6, 1), (7, 1), (8, 1), (9, 1), (10, 1), (11, 1)] = true := by kernel_rfl
theorem ty_fld_25_0 : fldB Try.prog 25 0 = some (0, 23) := by kernel_rfl
theorem ty_fl_25_0 : flB Try.prog 25 0 0 = true := by kernel_rfl
theorem ty_fld_25_1 : fldB Try.prog 25 1 = some (1, 3) := by kernel_rfl
theorem ty_fl_25_1 : flB Try.prog 25 1 1 = true := by kernel_rfl
theorem ty_fld_25_2 : fldB Try.prog 25 2 = some (2, 23) := by kernel_rfl
theorem ty_fl_25_2 : flB Try.prog 25 2 2 = true := by kernel_rfl
theorem ty_fld_25_3 : fldB Try.prog 25 3 = some (3, 23) := by kernel_rfl
theorem ty_fl_25_3 : flB Try.prog 25 3 3 = true := by kernel_rfl
theorem ty_fld_25_4 : fldB Try.prog 25 4 = some (4, 23) := by kernel_rfl
theorem ty_fl_25_4 : flB Try.prog 25 4 4 = true := by kernel_rfl
theorem ty_fld_25_5 : fldB Try.prog 25 5 = some (5, 3) := by kernel_rfl
theorem ty_fl_25_5 : flB Try.prog 25 5 5 = true := by kernel_rfl
theorem ty_fld_25_6 : fldB Try.prog 25 6 = some (6, 23) := by kernel_rfl
theorem ty_fl_25_6 : flB Try.prog 25 6 6 = true := by kernel_rfl
theorem ty_fld_25_7 : fldB Try.prog 25 7 = some (7, 23) := by kernel_rfl
theorem ty_fl_25_7 : flB Try.prog 25 7 7 = true := by kernel_rfl
theorem ty_fld_25_8 : fldB Try.prog 25 8 = some (8, 23) := by kernel_rfl
theorem ty_fl_25_8 : flB Try.prog 25 8 8 = true := by kernel_rfl
theorem ty_fld_25_9 : fldB Try.prog 25 9 = some (9, 23) := by kernel_rfl
theorem ty_fl_25_9 : flB Try.prog 25 9 9 = true := by kernel_rfl
theorem ty_fld_25_10 : fldB Try.prog 25 10 = some (10, 23) := by kernel_rfl
theorem ty_fl_25_10 : flB Try.prog 25 10 10 = true := by kernel_rfl
theorem ty_fld_25_11 : fldB Try.prog 25 11 = some (11, 23) := by kernel_rfl
theorem ty_fl_25_11 : flB Try.prog 25 11 11 = true := by kernel_rfl
theorem ty_ze_25 : zeB Try.prog 25 ([.int .u64 0, .int .i64 0, .int .u64 0, .int .u64 0, .int .u64 0, .int .i64 0] ++ List.replicate 6 (.int .u64 0)) := by unfold zeB; kernel_rfl
theorem ty_sc_26 : scB Try.prog 26 = true := by kernel_rfl
theorem ty_sc_27 : scB Try.prog 27 = true := by kernel_rfl
theorem ty_sl_27 : slB Try.prog 27 62 4 32 = true := by kernel_rfl
theorem ty_ap_27 : apB Try.prog 62 4 = true := by kernel_rfl
theorem ty_src_27 : srcB Try.prog 27 = true := by kernel_rfl
theorem ty_lz_27 : ((Try.prog.info? 62).bind (·.zero)).map (·.cells.size) = some 4 := by kernel_rfl
theorem ty_ze_27 : zeB Try.prog 27 ([.slice none 0 0]) := by unfold zeB; kernel_rfl
theorem ty_ag_28 : agB Try.prog 28 4 = true := by kernel_rfl
theorem ty_pl_28 : plB Try.prog 28 [(0, 1), (1, 1), (2, 1), (3, 1)] = true := by kernel_rfl
theorem ty_fld_28_0 : fldB Try.prog 28 0 = some (0, 22) := by kernel_rfl
theorem ty_fl_28_0 : flB Try.prog 28 0 0 = true := by kernel_rfl
theorem ty_fld_28_1 : fldB Try.prog 28 1 = some (1, 27) := by kernel_rfl
theorem ty_fl_28_1 : flB Try.prog 28 1 1 = true := by kernel_rfl
theorem ty_fld_28_2 : fldB Try.prog 28 2 = some (2, 23) := by kernel_rfl
theorem ty_fl_28_2 : flB Try.prog 28 2 2 = true := by kernel_rfl
theorem ty_fld_28_3 : fldB Try.prog 28 3 = some (3, 23) := by kernel_rfl
theorem ty_fl_28_3 : flB Try.prog 28 3 3 = true := by kernel_rfl
theorem ty_ze_28 : zeB Try.prog 28 ([.slice none 0 0, .slice none 0 0, .int .u64 0, .int .u64 0]) := by unfold zeB; kernel_rfl
theorem ty_ag_29 : agB Try.prog 29 4 = true := by kernel_rfl
theorem ty_pl_29 : plB Try.prog 29 [(0, 1), (1, 1), (2, 1), (3, 1)] = true := by kernel_rfl
theorem ty_fld_29_0 : fldB Try.prog 29 0 = some (0, 22) := by kernel_rfl
theorem ty_fl_29_0 : flB Try.prog 29 0 0 = true := by kernel_rfl
theorem ty_fld_29_1 : fldB Try.prog 29 1 = some (1, 27) := by kernel_rfl
theorem ty_fl_29_1 : flB Try.prog 29 1 1 = true := by kernel_rfl
theorem ty_fld_29_2 : fldB Try.prog 29 2 = some (2, 23) := by kernel_rfl
theorem ty_fl_29_2 : flB Try.prog 29 2 2 = true := by kernel_rfl
theorem ty_fld_29_3 : fldB Try.prog 29 3 = some (3, 23) := by kernel_rfl
theorem ty_fl_29_3 : flB Try.prog 29 3 3 = true := by kernel_rfl
theorem ty_ze_29 : zeB Try.prog 29 ([.slice none 0 0, .slice none 0 0, .int .u64 0, .int .u64 0]) := by unfold zeB; kernel_rfl
theorem ty_sc_30 : scB Try.prog 30 = true := by kernel_rfl
theorem ty_int_30 : Try.prog.underlying 30 = some (.int .i64) := by kernel_rfl
theorem ty_ze_30 : zeB Try.prog 30 ([.int .i64 0]) := by unfold zeB; kernel_rfl
theorem ty_sc_32 : scB Try.prog 32 = true := by kernel_rfl
theorem ty_sc_33 : scB Try.prog 33 = true := by kernel_rfl
theorem ty_sl_33 : slB Try.prog 33 37 3 24 = true := by kernel_rfl
theorem ty_ap_33 : apB Try.prog 37 3 = true := by kernel_rfl
theorem ty_src_33 : srcB Try.prog 33 = true := by kernel_rfl
theorem ty_lz_33 : ((Try.prog.info? 37).bind (·.zero)).map (·.cells.size) = some 3 := by kernel_rfl
theorem ty_ze_33 : zeB Try.prog 33 ([.slice none 0 0]) := by unfold zeB; kernel_rfl
theorem ty_sc_34 : scB Try.prog 34 = true := by kernel_rfl
theorem ty_sc_35 : scB Try.prog 35 = true := by kernel_rfl
theorem ty_int_35 : Try.prog.underlying 35 = some (.int .u64) := by kernel_rfl
theorem ty_ze_35 : zeB Try.prog 35 ([.int .u64 0]) := by unfold zeB; kernel_rfl
theorem ty_ag_36 : agB Try.prog 36 3 = true := by kernel_rfl
theorem ty_pl_36 : plB Try.prog 36 [(0, 1), (1, 1), (2, 1)] = true := by kernel_rfl
theorem ty_fld_36_0 : fldB Try.prog 36 0 = some (0, 35) := by kernel_rfl
theorem ty_fl_36_0 : flB Try.prog 36 0 0 = true := by kernel_rfl
theorem ty_fld_36_1 : fldB Try.prog 36 1 = some (1, 23) := by kernel_rfl
theorem ty_fl_36_1 : flB Try.prog 36 1 1 = true := by kernel_rfl
theorem ty_fld_36_2 : fldB Try.prog 36 2 = some (2, 2) := by kernel_rfl
theorem ty_fl_36_2 : flB Try.prog 36 2 2 = true := by kernel_rfl
theorem ty_ze_36 : zeB Try.prog 36 ([.int .u64 0, .int .u64 0, .int .i64 0]) := by unfold zeB; kernel_rfl
theorem ty_ag_37 : agB Try.prog 37 3 = true := by kernel_rfl
theorem ty_pl_37 : plB Try.prog 37 [(0, 1), (1, 1), (2, 1)] = true := by kernel_rfl
theorem ty_fld_37_0 : fldB Try.prog 37 0 = some (0, 35) := by kernel_rfl
theorem ty_fl_37_0 : flB Try.prog 37 0 0 = true := by kernel_rfl
theorem ty_fld_37_1 : fldB Try.prog 37 1 = some (1, 23) := by kernel_rfl
theorem ty_fl_37_1 : flB Try.prog 37 1 1 = true := by kernel_rfl
theorem ty_fld_37_2 : fldB Try.prog 37 2 = some (2, 2) := by kernel_rfl
theorem ty_fl_37_2 : flB Try.prog 37 2 2 = true := by kernel_rfl
theorem ty_ze_37 : zeB Try.prog 37 ([.int .u64 0, .int .u64 0, .int .i64 0]) := by unfold zeB; kernel_rfl
theorem ty_ag_38 : agB Try.prog 38 5 = true := by kernel_rfl
theorem ty_pl_38 : plB Try.prog 38 [(0, 1), (1, 1), (2, 1), (3, 1), (4, 1)] = true := by kernel_rfl
theorem ty_fld_38_0 : fldB Try.prog 38 0 = some (0, 35) := by kernel_rfl
theorem ty_fl_38_0 : flB Try.prog 38 0 0 = true := by kernel_rfl
theorem ty_fld_38_1 : fldB Try.prog 38 1 = some (1, 23) := by kernel_rfl
theorem ty_fl_38_1 : flB Try.prog 38 1 1 = true := by kernel_rfl
theorem ty_fld_38_2 : fldB Try.prog 38 2 = some (2, 23) := by kernel_rfl
theorem ty_fl_38_2 : flB Try.prog 38 2 2 = true := by kernel_rfl
theorem ty_fld_38_3 : fldB Try.prog 38 3 = some (3, 23) := by kernel_rfl
theorem ty_fl_38_3 : flB Try.prog 38 3 3 = true := by kernel_rfl
theorem ty_fld_38_4 : fldB Try.prog 38 4 = some (4, 4) := by kernel_rfl
theorem ty_fl_38_4 : flB Try.prog 38 4 4 = true := by kernel_rfl
theorem ty_ze_38 : zeB Try.prog 38 ([.int .u64 0, .int .u64 0, .int .u64 0, .int .u64 0, .bool false]) := by unfold zeB; kernel_rfl
theorem ty_ag_39 : agB Try.prog 39 5 = true := by kernel_rfl
theorem ty_pl_39 : plB Try.prog 39 [(0, 1), (1, 1), (2, 1), (3, 1), (4, 1)] = true := by kernel_rfl
theorem ty_fld_39_0 : fldB Try.prog 39 0 = some (0, 35) := by kernel_rfl
theorem ty_fl_39_0 : flB Try.prog 39 0 0 = true := by kernel_rfl
theorem ty_fld_39_1 : fldB Try.prog 39 1 = some (1, 23) := by kernel_rfl
theorem ty_fl_39_1 : flB Try.prog 39 1 1 = true := by kernel_rfl
theorem ty_fld_39_2 : fldB Try.prog 39 2 = some (2, 23) := by kernel_rfl
theorem ty_fl_39_2 : flB Try.prog 39 2 2 = true := by kernel_rfl
theorem ty_fld_39_3 : fldB Try.prog 39 3 = some (3, 23) := by kernel_rfl
theorem ty_fl_39_3 : flB Try.prog 39 3 3 = true := by kernel_rfl
theorem ty_fld_39_4 : fldB Try.prog 39 4 = some (4, 4) := by kernel_rfl
theorem ty_fl_39_4 : flB Try.prog 39 4 4 = true := by kernel_rfl
theorem ty_ze_39 : zeB Try.prog 39 ([.int .u64 0, .int .u64 0, .int .u64 0, .int .u64 0, .bool false]) := by unfold zeB; kernel_rfl
theorem ty_sc_40 : scB Try.prog 40 = true := by kernel_rfl
theorem ty_sc_41 : scB Try.prog 41 = true := by kernel_rfl
theorem ty_sc_42 : scB Try.prog 42 = true := by kernel_rfl
theorem ty_sc_43 : scB Try.prog 43 = true := by kernel_rfl
theorem ty_sc_45 : scB Try.prog 45 = true := by kernel_rfl
theorem ty_sc_46 : scB Try.prog 46 = true := by kernel_rfl
theorem ty_sc_47 : scB Try.prog 47 = true := by kernel_rfl
theorem ty_sc_48 : scB Try.prog 48 = true := by kernel_rfl
theorem ty_ag_49 : agB Try.prog 49 2 = true := by kernel_rfl
theorem ty_pl_49 : plB Try.prog 49 [(0, 1), (1, 1)] = true := by kernel_rfl
theorem ty_fld_49_0 : fldB Try.prog 49 0 = some (0, 23) := by kernel_rfl
theorem ty_fl_49_0 : flB Try.prog 49 0 0 = true := by kernel_rfl
theorem ty_fld_49_1 : fldB Try.prog 49 1 = some (1, 23) := by kernel_rfl
theorem ty_fl_49_1 : flB Try.prog 49 1 1 = true := by kernel_rfl
theorem ty_ze_49 : zeB Try.prog 49 ([.int .u64 0, .int .u64 0]) := by unfold zeB; kernel_rfl
theorem ty_ag_50 : agB Try.prog 50 2 = true := by kernel_rfl
theorem ty_pl_50 : plB Try.prog 50 [(0, 1), (1, 1)] = true := by kernel_rfl
theorem ty_fld_50_0 : fldB Try.prog 50 0 = some (0, 23) := by kernel_rfl
theorem ty_fl_50_0 : flB Try.prog 50 0 0 = true := by kernel_rfl
theorem ty_fld_50_1 : fldB Try.prog 50 1 = some (1, 23) := by kernel_rfl
theorem ty_fl_50_1 : flB Try.prog 50 1 1 = true := by kernel_rfl
theorem ty_ze_50 : zeB Try.prog 50 ([.int .u64 0, .int .u64 0]) := by unfold zeB; kernel_rfl
theorem ty_sc_52 : scB Try.prog 52 = true := by kernel_rfl
theorem ty_sc_53 : scB Try.prog 53 = true := by kernel_rfl
theorem ty_sc_54 : scB Try.prog 54 = true := by kernel_rfl
theorem ty_sc_55 : scB Try.prog 55 = true := by kernel_rfl
theorem ty_sc_56 : scB Try.prog 56 = true := by kernel_rfl
theorem ty_sc_57 : scB Try.prog 57 = true := by kernel_rfl
theorem ty_sc_58 : scB Try.prog 58 = true := by kernel_rfl
theorem ty_sc_59 : scB Try.prog 59 = true := by kernel_rfl
theorem ty_sc_60 : scB Try.prog 60 = true := by kernel_rfl
theorem ty_ag_61 : agB Try.prog 61 4 = true := by kernel_rfl
theorem ty_pl_61 : plB Try.prog 61 [(0, 1), (1, 1), (2, 1), (3, 1)] = true := by kernel_rfl
theorem ty_fld_61_0 : fldB Try.prog 61 0 = some (0, 23) := by kernel_rfl
theorem ty_fl_61_0 : flB Try.prog 61 0 0 = true := by kernel_rfl
theorem ty_fld_61_1 : fldB Try.prog 61 1 = some (1, 35) := by kernel_rfl
theorem ty_fl_61_1 : flB Try.prog 61 1 1 = true := by kernel_rfl
theorem ty_fld_61_2 : fldB Try.prog 61 2 = some (2, 23) := by kernel_rfl
theorem ty_fl_61_2 : flB Try.prog 61 2 2 = true := by kernel_rfl
theorem ty_fld_61_3 : fldB Try.prog 61 3 = some (3, 23) := by kernel_rfl
theorem ty_fl_61_3 : flB Try.prog 61 3 3 = true := by kernel_rfl
theorem ty_ze_61 : zeB Try.prog 61 ([.int .u64 0, .int .u64 0, .int .u64 0, .int .u64 0]) := by unfold zeB; kernel_rfl
theorem ty_ag_62 : agB Try.prog 62 4 = true := by kernel_rfl
theorem ty_pl_62 : plB Try.prog 62 [(0, 1), (1, 1), (2, 1), (3, 1)] = true := by kernel_rfl
theorem ty_fld_62_0 : fldB Try.prog 62 0 = some (0, 23) := by kernel_rfl
theorem ty_fl_62_0 : flB Try.prog 62 0 0 = true := by kernel_rfl
theorem ty_fld_62_1 : fldB Try.prog 62 1 = some (1, 35) := by kernel_rfl
theorem ty_fl_62_1 : flB Try.prog 62 1 1 = true := by kernel_rfl
theorem ty_fld_62_2 : fldB Try.prog 62 2 = some (2, 23) := by kernel_rfl
theorem ty_fl_62_2 : flB Try.prog 62 2 2 = true := by kernel_rfl
theorem ty_fld_62_3 : fldB Try.prog 62 3 = some (3, 23) := by kernel_rfl
theorem ty_fl_62_3 : flB Try.prog 62 3 3 = true := by kernel_rfl
theorem ty_ze_62 : zeB Try.prog 62 ([.int .u64 0, .int .u64 0, .int .u64 0, .int .u64 0]) := by unfold zeB; kernel_rfl
theorem ty_sc_63 : scB Try.prog 63 = true := by kernel_rfl
theorem ty_sc_64 : scB Try.prog 64 = true := by kernel_rfl
theorem ty_sc_65 : scB Try.prog 65 = true := by kernel_rfl
theorem ty_sc_66 : scB Try.prog 66 = true := by kernel_rfl
theorem ty_sc_67 : scB Try.prog 67 = true := by kernel_rfl
theorem ty_sc_68 : scB Try.prog 68 = true := by kernel_rfl
theorem ty_sl_68 : slB Try.prog 68 4 1 1 = true := by kernel_rfl
theorem ty_ap_68 : apB Try.prog 4 1 = true := by kernel_rfl
theorem ty_src_68 : srcB Try.prog 68 = true := by kernel_rfl
theorem ty_lz_68 : ((Try.prog.info? 4).bind (·.zero)).map (·.cells.size) = some 1 := by kernel_rfl
theorem ty_ze_68 : zeB Try.prog 68 ([.slice none 0 0]) := by unfold zeB; kernel_rfl
theorem ty_sc_69 : scB Try.prog 69 = true := by kernel_rfl
theorem ty_sc_70 : scB Try.prog 70 = true := by kernel_rfl
theorem ty_sc_71 : scB Try.prog 71 = true := by kernel_rfl
theorem ty_sl_71 : slB Try.prog 71 3 1 8 = true := by kernel_rfl
theorem ty_ap_71 : apB Try.prog 3 1 = true := by kernel_rfl
theorem ty_src_71 : srcB Try.prog 71 = true := by kernel_rfl
theorem ty_lz_71 : ((Try.prog.info? 3).bind (·.zero)).map (·.cells.size) = some 1 := by kernel_rfl
theorem ty_ze_71 : zeB Try.prog 71 ([.slice none 0 0]) := by unfold zeB; kernel_rfl
theorem ty_sc_72 : scB Try.prog 72 = true := by kernel_rfl
theorem ty_sc_73 : scB Try.prog 73 = true := by kernel_rfl
theorem ty_sc_74 : scB Try.prog 74 = true := by kernel_rfl
theorem ty_sc_75 : scB Try.prog 75 = true := by kernel_rfl
theorem ty_sc_76 : scB Try.prog 76 = true := by kernel_rfl
theorem ty_int_76 : Try.prog.underlying 76 = some (.int .u64) := by kernel_rfl
theorem ty_ze_76 : zeB Try.prog 76 ([.int .u64 0]) := by unfold zeB; kernel_rfl
theorem ty_sc_78 : scB Try.prog 78 = true := by kernel_rfl
theorem ty_sc_80 : scB Try.prog 80 = true := by kernel_rfl
theorem ty_sc_81 : scB Try.prog 81 = true := by kernel_rfl
theorem ty_sc_82 : scB Try.prog 82 = true := by kernel_rfl
theorem ty_sc_83 : scB Try.prog 83 = true := by kernel_rfl
theorem ty_int_83 : Try.prog.underlying 83 = some (.int .i64) := by kernel_rfl
theorem ty_ze_83 : zeB Try.prog 83 ([.int .i64 0]) := by unfold zeB; kernel_rfl
theorem ty_sc_85 : scB Try.prog 85 = true := by kernel_rfl
theorem ty_sc_86 : scB Try.prog 86 = true := by kernel_rfl
theorem ty_sc_87 : scB Try.prog 87 = true := by kernel_rfl
theorem ty_sc_88 : scB Try.prog 88 = true := by kernel_rfl
theorem ty_sc_89 : scB Try.prog 89 = true := by kernel_rfl
theorem ty_sc_90 : scB Try.prog 90 = true := by kernel_rfl
theorem ty_int_90 : Try.prog.underlying 90 = some (.int .u32) := by kernel_rfl
theorem ty_ze_90 : zeB Try.prog 90 ([.int .u32 0]) := by unfold zeB; kernel_rfl
theorem ty_sc_91 : scB Try.prog 91 = true := by kernel_rfl
theorem ty_sc_92 : scB Try.prog 92 = true := by kernel_rfl
theorem ty_sc_93 : scB Try.prog 93 = true := by kernel_rfl
theorem ty_sc_94 : scB Try.prog 94 = true := by kernel_rfl
theorem ty_int_94 : Try.prog.underlying 94 = some (.int .u64) := by kernel_rfl
theorem ty_ze_94 : zeB Try.prog 94 ([.int .u64 0]) := by unfold zeB; kernel_rfl
theorem ty_sc_95 : scB Try.prog 95 = true := by kernel_rfl
theorem ty_sc_96 : scB Try.prog 96 = true := by kernel_rfl
theorem ty_sc_97 : scB Try.prog 97 = true := by kernel_rfl
theorem ty_sc_98 : scB Try.prog 98 = true := by kernel_rfl
theorem ty_ptr_98 : Try.prog.underlying 98 = some (.pointer 3) := by kernel_rfl
theorem ty_ze_98 : zeB Try.prog 98 ([.pointer none]) := by unfold zeB; kernel_rfl
theorem ty_sc_99 : scB Try.prog 99 = true := by kernel_rfl
theorem ty_sc_100 : scB Try.prog 100 = true := by kernel_rfl
theorem ty_ptr_100 : Try.prog.underlying 100 = some (.pointer 94) := by kernel_rfl
theorem ty_ze_100 : zeB Try.prog 100 ([.pointer none]) := by unfold zeB; kernel_rfl
theorem ty_sc_102 : scB Try.prog 102 = true := by kernel_rfl
theorem ty_sc_103 : scB Try.prog 103 = true := by kernel_rfl
theorem ty_ag_104 : agB Try.prog 104 4 = true := by kernel_rfl
theorem ty_pl_104 : plB Try.prog 104 [(0, 1), (1, 1), (2, 1), (3, 1)] = true := by kernel_rfl
theorem ty_fld_104_0 : fldB Try.prog 104 0 = some (0, 17) := by kernel_rfl
theorem ty_fl_104_0 : flB Try.prog 104 0 0 = true := by kernel_rfl
theorem ty_fld_104_1 : fldB Try.prog 104 1 = some (1, 17) := by kernel_rfl
theorem ty_fl_104_1 : flB Try.prog 104 1 1 = true := by kernel_rfl
theorem ty_fld_104_2 : fldB Try.prog 104 2 = some (2, 17) := by kernel_rfl
theorem ty_fl_104_2 : flB Try.prog 104 2 2 = true := by kernel_rfl
theorem ty_fld_104_3 : fldB Try.prog 104 3 = some (3, 9) := by kernel_rfl
theorem ty_fl_104_3 : flB Try.prog 104 3 3 = true := by kernel_rfl
theorem ty_ze_104 : zeB Try.prog 104 ([.pointer none, .pointer none, .pointer none, .string ByteArray.empty]) := by unfold zeB; kernel_rfl
theorem ty_ag_105 : agB Try.prog 105 4 = true := by kernel_rfl
theorem ty_pl_105 : plB Try.prog 105 [(0, 1), (1, 1), (2, 1), (3, 1)] = true := by kernel_rfl
theorem ty_fld_105_0 : fldB Try.prog 105 0 = some (0, 17) := by kernel_rfl
theorem ty_fl_105_0 : flB Try.prog 105 0 0 = true := by kernel_rfl
theorem ty_fld_105_1 : fldB Try.prog 105 1 = some (1, 17) := by kernel_rfl
theorem ty_fl_105_1 : flB Try.prog 105 1 1 = true := by kernel_rfl
theorem ty_fld_105_2 : fldB Try.prog 105 2 = some (2, 17) := by kernel_rfl
theorem ty_fl_105_2 : flB Try.prog 105 2 2 = true := by kernel_rfl
theorem ty_fld_105_3 : fldB Try.prog 105 3 = some (3, 9) := by kernel_rfl
theorem ty_fl_105_3 : flB Try.prog 105 3 3 = true := by kernel_rfl
theorem ty_ze_105 : zeB Try.prog 105 ([.pointer none, .pointer none, .pointer none, .string ByteArray.empty]) := by unfold zeB; kernel_rfl
theorem ty_ar_106 : arB Try.prog 106 0 16 1 = true := by kernel_rfl
theorem ty_ag_106 : agB Try.prog 106 0 = true := by kernel_rfl
theorem ty_ze_106 : zeB Try.prog 106 ([]) := by unfold zeB; kernel_rfl
theorem ty_ag_107 : agB Try.prog 107 0 = true := by kernel_rfl
theorem ty_ze_107 : zeB Try.prog 107 ([]) := by unfold zeB; kernel_rfl
theorem ty_ag_108 : agB Try.prog 108 0 = true := by kernel_rfl
theorem ty_ze_108 : zeB Try.prog 108 ([]) := by unfold zeB; kernel_rfl
theorem ty_sc_109 : scB Try.prog 109 = true := by kernel_rfl
theorem ty_sc_110 : scB Try.prog 110 = true := by kernel_rfl
theorem ty_int_110 : Try.prog.underlying 110 = some (.int .u8) := by kernel_rfl
theorem ty_ze_110 : zeB Try.prog 110 ([.int .u8 0]) := by unfold zeB; kernel_rfl
theorem ty_sc_111 : scB Try.prog 111 = true := by kernel_rfl
theorem ty_int_111 : Try.prog.underlying 111 = some (.int .u8) := by kernel_rfl
theorem ty_ze_111 : zeB Try.prog 111 ([.int .u8 0]) := by unfold zeB; kernel_rfl
theorem ty_sc_112 : scB Try.prog 112 = true := by kernel_rfl
theorem ty_sc_113 : scB Try.prog 113 = true := by kernel_rfl
theorem ty_ptr_113 : Try.prog.underlying 113 = some (.pointer 5) := by kernel_rfl
theorem ty_ze_113 : zeB Try.prog 113 ([.pointer none]) := by unfold zeB; kernel_rfl
theorem ty_sc_114 : scB Try.prog 114 = true := by kernel_rfl
theorem ty_int_114 : Try.prog.underlying 114 = some (.int .i32) := by kernel_rfl
theorem ty_ze_114 : zeB Try.prog 114 ([.int .i32 0]) := by unfold zeB; kernel_rfl
theorem ty_sc_115 : scB Try.prog 115 = true := by kernel_rfl
theorem ty_int_115 : Try.prog.underlying 115 = some (.int .i32) := by kernel_rfl
theorem ty_ze_115 : zeB Try.prog 115 ([.int .i32 0]) := by unfold zeB; kernel_rfl
theorem ty_ag_116 : agB Try.prog 116 11 = true := by kernel_rfl
theorem ty_pl_116 : plB Try.prog 116 [(0, 1), (1, 1), (2, 1), (3, 1), (4, 1), (5, 1), (6, 1), (7, 1), (8, 1), (9, 1), (10, 1)] = true := by kernel_rfl
theorem ty_fld_116_0 : fldB Try.prog 116 0 = some (0, 12) := by kernel_rfl
theorem ty_fl_116_0 : flB Try.prog 116 0 0 = true := by kernel_rfl
theorem ty_fld_116_1 : fldB Try.prog 116 1 = some (1, 12) := by kernel_rfl
theorem ty_fl_116_1 : flB Try.prog 116 1 1 = true := by kernel_rfl
theorem ty_fld_116_2 : fldB Try.prog 116 2 = some (2, 90) := by kernel_rfl
theorem ty_fl_116_2 : flB Try.prog 116 2 2 = true := by kernel_rfl
theorem ty_fld_116_3 : fldB Try.prog 116 3 = some (3, 110) := by kernel_rfl
theorem ty_fl_116_3 : flB Try.prog 116 3 3 = true := by kernel_rfl
theorem ty_fld_116_4 : fldB Try.prog 116 4 = some (4, 5) := by kernel_rfl
theorem ty_fl_116_4 : flB Try.prog 116 4 4 = true := by kernel_rfl
theorem ty_fld_116_5 : fldB Try.prog 116 5 = some (5, 5) := by kernel_rfl
theorem ty_fl_116_5 : flB Try.prog 116 5 5 = true := by kernel_rfl
theorem ty_fld_116_6 : fldB Try.prog 116 6 = some (6, 111) := by kernel_rfl
theorem ty_fl_116_6 : flB Try.prog 116 6 6 = true := by kernel_rfl
theorem ty_fld_116_7 : fldB Try.prog 116 7 = some (7, 112) := by kernel_rfl
theorem ty_fl_116_7 : flB Try.prog 116 7 7 = true := by kernel_rfl
theorem ty_fld_116_8 : fldB Try.prog 116 8 = some (8, 113) := by kernel_rfl
theorem ty_fl_116_8 : flB Try.prog 116 8 8 = true := by kernel_rfl
theorem ty_fld_116_9 : fldB Try.prog 116 9 = some (9, 114) := by kernel_rfl
theorem ty_fl_116_9 : flB Try.prog 116 9 9 = true := by kernel_rfl
theorem ty_fld_116_10 : fldB Try.prog 116 10 = some (10, 115) := by kernel_rfl
theorem ty_fl_116_10 : flB Try.prog 116 10 10 = true := by kernel_rfl
theorem ty_ze_116 : zeB Try.prog 116 ([.int .u64 0, .int .u64 0, .int .u32 0, .int .u8 0, .int .u8 0, .int .u8 0, .int .u8 0, .nilFunc, .pointer none, .int .i32 0, .int .i32 0]) := by unfold zeB; kernel_rfl
theorem ty_ag_117 : agB Try.prog 117 11 = true := by kernel_rfl
theorem ty_pl_117 : plB Try.prog 117 [(0, 1), (1, 1), (2, 1), (3, 1), (4, 1), (5, 1), (6, 1), (7, 1), (8, 1), (9, 1), (10, 1)] = true := by kernel_rfl
theorem ty_fld_117_0 : fldB Try.prog 117 0 = some (0, 12) := by kernel_rfl
theorem ty_fl_117_0 : flB Try.prog 117 0 0 = true := by kernel_rfl
theorem ty_fld_117_1 : fldB Try.prog 117 1 = some (1, 12) := by kernel_rfl
theorem ty_fl_117_1 : flB Try.prog 117 1 1 = true := by kernel_rfl
theorem ty_fld_117_2 : fldB Try.prog 117 2 = some (2, 90) := by kernel_rfl
theorem ty_fl_117_2 : flB Try.prog 117 2 2 = true := by kernel_rfl
theorem ty_fld_117_3 : fldB Try.prog 117 3 = some (3, 110) := by kernel_rfl
theorem ty_fl_117_3 : flB Try.prog 117 3 3 = true := by kernel_rfl
theorem ty_fld_117_4 : fldB Try.prog 117 4 = some (4, 5) := by kernel_rfl
theorem ty_fl_117_4 : flB Try.prog 117 4 4 = true := by kernel_rfl
theorem ty_fld_117_5 : fldB Try.prog 117 5 = some (5, 5) := by kernel_rfl
theorem ty_fl_117_5 : flB Try.prog 117 5 5 = true := by kernel_rfl
theorem ty_fld_117_6 : fldB Try.prog 117 6 = some (6, 111) := by kernel_rfl
theorem ty_fl_117_6 : flB Try.prog 117 6 6 = true := by kernel_rfl
theorem ty_fld_117_7 : fldB Try.prog 117 7 = some (7, 112) := by kernel_rfl
theorem ty_fl_117_7 : flB Try.prog 117 7 7 = true := by kernel_rfl
theorem ty_fld_117_8 : fldB Try.prog 117 8 = some (8, 113) := by kernel_rfl
theorem ty_fl_117_8 : flB Try.prog 117 8 8 = true := by kernel_rfl
theorem ty_fld_117_9 : fldB Try.prog 117 9 = some (9, 114) := by kernel_rfl
theorem ty_fl_117_9 : flB Try.prog 117 9 9 = true := by kernel_rfl
theorem ty_fld_117_10 : fldB Try.prog 117 10 = some (10, 115) := by kernel_rfl
theorem ty_fl_117_10 : flB Try.prog 117 10 10 = true := by kernel_rfl
theorem ty_ze_117 : zeB Try.prog 117 ([.int .u64 0, .int .u64 0, .int .u32 0, .int .u8 0, .int .u8 0, .int .u8 0, .int .u8 0, .nilFunc, .pointer none, .int .i32 0, .int .i32 0]) := by unfold zeB; kernel_rfl
theorem ty_ze_118 : zeB Try.prog 118 ([.pointer none]) := by unfold zeB; kernel_rfl
theorem fn_ca_2 : callable Try.prog 2 = true := by kernel_rfl
theorem fn_ca_3 : callable Try.prog 3 = true := by kernel_rfl
theorem fn_ca_4 : callable Try.prog 4 = true := by kernel_rfl
theorem fn_ca_5 : callable Try.prog 5 = true := by kernel_rfl
theorem fn_ca_6 : callable Try.prog 6 = true := by kernel_rfl
theorem fn_ca_7 : callable Try.prog 7 = true := by kernel_rfl
theorem fn_ca_8 : callable Try.prog 8 = true := by kernel_rfl
theorem fn_ca_9 : callable Try.prog 9 = true := by kernel_rfl
theorem fn_ca_10 : callable Try.prog 10 = true := by kernel_rfl
theorem fn_ca_11 : callable Try.prog 11 = true := by kernel_rfl
theorem fn_ca_12 : callable Try.prog 12 = true := by kernel_rfl
theorem fn_ca_13 : callable Try.prog 13 = true := by kernel_rfl
theorem fn_ca_14 : callable Try.prog 14 = true := by kernel_rfl
theorem fn_ca_15 : callable Try.prog 15 = true := by kernel_rfl
theorem fn_ca_16 : callable Try.prog 16 = true := by kernel_rfl
theorem fn_ca_17 : callable Try.prog 17 = true := by kernel_rfl
theorem fn_ca_18 : callable Try.prog 18 = true := by kernel_rfl
theorem fn_ca_19 : callable Try.prog 19 = true := by kernel_rfl
theorem fn_ca_20 : callable Try.prog 20 = true := by kernel_rfl
theorem fn_ca_21 : callable Try.prog 21 = true := by kernel_rfl
theorem fn_ca_22 : callable Try.prog 22 = true := by kernel_rfl
theorem fn_ca_23 : callable Try.prog 23 = true := by kernel_rfl
theorem fn_ca_24 : callable Try.prog 24 = true := by kernel_rfl
theorem fn_ca_25 : callable Try.prog 25 = true := by kernel_rfl
theorem fn_ca_26 : callable Try.prog 26 = true := by kernel_rfl
theorem fn_ca_27 : callable Try.prog 27 = true := by kernel_rfl
theorem fn_ca_28 : callable Try.prog 28 = true := by kernel_rfl
theorem fn_ca_29 : callable Try.prog 29 = true := by kernel_rfl
theorem fn_ca_30 : callable Try.prog 30 = true := by kernel_rfl
theorem fn_ca_31 : callable Try.prog 31 = true := by kernel_rfl
theorem fn_ca_32 : callable Try.prog 32 = true := by kernel_rfl
theorem fn_ca_33 : callable Try.prog 33 = true := by kernel_rfl
theorem fn_ca_34 : callable Try.prog 34 = true := by kernel_rfl
theorem fn_ca_35 : callable Try.prog 35 = true := by kernel_rfl
theorem fn_ca_36 : callable Try.prog 36 = true := by kernel_rfl
theorem fn_ca_37 : callable Try.prog 37 = true := by kernel_rfl
theorem fn_ca_38 : callable Try.prog 38 = true := by kernel_rfl
theorem fn_ca_39 : callable Try.prog 39 = true := by kernel_rfl
theorem fn_ca_40 : callable Try.prog 40 = true := by kernel_rfl
theorem fn_ca_41 : callable Try.prog 41 = true := by kernel_rfl
theorem fn_ca_42 : callable Try.prog 42 = true := by kernel_rfl
theorem fn_ca_43 : callable Try.prog 43 = true := by kernel_rfl
theorem fn_ca_44 : callable Try.prog 44 = true := by kernel_rfl
theorem fn_ca_46 : callable Try.prog 46 = true := by kernel_rfl
theorem fn_ca_47 : callable Try.prog 47 = true := by kernel_rfl
theorem fn_ca_48 : callable Try.prog 48 = true := by kernel_rfl
theorem fn_ca_49 : callable Try.prog 49 = true := by kernel_rfl
theorem fn_ca_50 : callable Try.prog 50 = true := by kernel_rfl
theorem fn_ca_51 : callable Try.prog 51 = true := by kernel_rfl
theorem fn_ca_52 : callable Try.prog 52 = true := by kernel_rfl
theorem fn_ca_53 : callable Try.prog 53 = true := by kernel_rfl
theorem fn_ca_54 : callable Try.prog 54 = true := by kernel_rfl
theorem fn_ca_55 : callable Try.prog 55 = true := by kernel_rfl
theorem fn_ca_56 : callable Try.prog 56 = true := by kernel_rfl
theorem fn_ca_57 : callable Try.prog 57 = true := by kernel_rfl
theorem fn_ca_58 : callable Try.prog 58 = true := by kernel_rfl
theorem fn_ca_59 : callable Try.prog 59 = true := by kernel_rfl
theorem fn_ca_60 : callable Try.prog 60 = true := by kernel_rfl
theorem fn_ca_61 : callable Try.prog 61 = true := by kernel_rfl
theorem fn_ca_62 : callable Try.prog 62 = true := by kernel_rfl
theorem fn_ca_63 : callable Try.prog 63 = true := by kernel_rfl
theorem fn_ca_64 : callable Try.prog 64 = true := by kernel_rfl
theorem fn_ca_65 : callable Try.prog 65 = true := by kernel_rfl
theorem fn_ca_66 : callable Try.prog 66 = true := by kernel_rfl
theorem fn_ca_67 : callable Try.prog 67 = true := by kernel_rfl
theorem mixed : Try.prog.follows .mixedOrders = true := by kernel_rfl
end Go.Proofs.Ytfhjhaogmdaepaa
