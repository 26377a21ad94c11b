/- Facts on the types and the functions of this seat's translation, each a closed reckoning: printed by gen.py. -/
import Derived.Test.YtfhjhaogmdaepaaGreatDoorProg
import Derived.Test.YtfhjhaogmdaepaaGreatDoorEngF
set_option linter.unusedVariables false
namespace Go.Proofs.YtfhjhaogmdaepaaGreatDoor
open Go Go.Proofs
set_option maxRecDepth 100000
/-- The program, with what its package-level variables held when the call began. -/
noncomputable abbrev cx (gl : Nat → Obj) : Cx := ⟨Tryz.prog, 5, gl⟩
theorem ty_sc_1 : scB Tryz.prog 1 = true := by kernel_rfl
theorem ty_sc_2 : scB Tryz.prog 2 = true := by kernel_rfl
theorem ty_int_2 : Tryz.prog.underlying 2 = some (.int .i64) := by kernel_rfl
theorem ty_ze_2 : zeB Tryz.prog 2 ([.int .i64 0]) := by unfold zeB; kernel_rfl
theorem ty_sc_3 : scB Tryz.prog 3 = true := by kernel_rfl
theorem ty_int_3 : Tryz.prog.underlying 3 = some (.int .i64) := by kernel_rfl
theorem ty_ze_3 : zeB Tryz.prog 3 ([.int .i64 0]) := by unfold zeB; kernel_rfl
theorem ty_sc_4 : scB Tryz.prog 4 = true := by kernel_rfl
theorem ty_bool_4 : Tryz.prog.underlying 4 = some .bool := by kernel_rfl
theorem ty_ze_4 : zeB Tryz.prog 4 ([.bool false]) := by unfold zeB; kernel_rfl
theorem ty_sc_5 : scB Tryz.prog 5 = true := by kernel_rfl
theorem ty_int_5 : Tryz.prog.underlying 5 = some (.int .u8) := by kernel_rfl
theorem ty_ze_5 : zeB Tryz.prog 5 ([.int .u8 0]) := by unfold zeB; kernel_rfl
theorem ty_sc_6 : scB Tryz.prog 6 = true := by kernel_rfl
theorem ty_int_6 : Tryz.prog.underlying 6 = some (.int .u8) := by kernel_rfl
theorem ty_ze_6 : zeB Tryz.prog 6 ([.int .u8 0]) := by unfold zeB; kernel_rfl
theorem ty_ag_7 : agB Tryz.prog 7 4 = true := by kernel_rfl
theorem ty_pl_7 : plB Tryz.prog 7 [(0, 1), (1, 1), (2, 1), (3, 1)] = true := by kernel_rfl
theorem ty_fld_7_0 : fldB Tryz.prog 7 0 = some (0, 2) := by kernel_rfl
theorem ty_fl_7_0 : flB Tryz.prog 7 0 0 = true := by kernel_rfl
theorem ty_fld_7_1 : fldB Tryz.prog 7 1 = some (1, 3) := by kernel_rfl
theorem ty_fl_7_1 : flB Tryz.prog 7 1 1 = true := by kernel_rfl
theorem ty_fld_7_2 : fldB Tryz.prog 7 2 = some (2, 4) := by kernel_rfl
theorem ty_fl_7_2 : flB Tryz.prog 7 2 2 = true := by kernel_rfl
theorem ty_fld_7_3 : fldB Tryz.prog 7 3 = some (3, 6) := by kernel_rfl
theorem ty_fl_7_3 : flB Tryz.prog 7 3 3 = true := by kernel_rfl
theorem ty_ze_7 : zeB Tryz.prog 7 ([.int .i64 0, .int .i64 0, .bool false, .int .u8 0]) := by unfold zeB; kernel_rfl
theorem ty_ag_8 : agB Tryz.prog 8 4 = true := by kernel_rfl
theorem ty_pl_8 : plB Tryz.prog 8 [(0, 1), (1, 1), (2, 1), (3, 1)] = true := by kernel_rfl
theorem ty_fld_8_0 : fldB Tryz.prog 8 0 = some (0, 2) := by kernel_rfl
theorem ty_fl_8_0 : flB Tryz.prog 8 0 0 = true := by kernel_rfl
theorem ty_fld_8_1 : fldB Tryz.prog 8 1 = some (1, 3) := by kernel_rfl
theorem ty_fl_8_1 : flB Tryz.prog 8 1 1 = true := by kernel_rfl
theorem ty_fld_8_2 : fldB Tryz.prog 8 2 = some (2, 4) := by kernel_rfl
theorem ty_fl_8_2 : flB Tryz.prog 8 2 2 = true := by kernel_rfl
theorem ty_fld_8_3 : fldB Tryz.prog 8 3 = some (3, 6) := by kernel_rfl
theorem ty_fl_8_3 : flB Tryz.prog 8 3 3 = true := by kernel_rfl
theorem ty_ze_8 : zeB Tryz.prog 8 ([.int .i64 0, .int .i64 0, .bool false, .int .u8 0]) := by unfold zeB; kernel_rfl
theorem ty_sc_9 : scB Tryz.prog 9 = true := by kernel_rfl
theorem ty_str_9 : Tryz.prog.underlying 9 = some .string := by kernel_rfl
theorem ty_src_9 : srcB Tryz.prog 9 = true := by kernel_rfl
theorem ty_ze_9 : zeB Tryz.prog 9 ([.string ByteArray.empty]) := by unfold zeB; kernel_rfl
theorem ty_sc_10 : scB Tryz.prog 10 = true := by kernel_rfl
theorem ty_str_10 : Tryz.prog.underlying 10 = some .string := by kernel_rfl
theorem ty_src_10 : srcB Tryz.prog 10 = true := by kernel_rfl
theorem ty_ze_10 : zeB Tryz.prog 10 ([.string ByteArray.empty]) := by unfold zeB; kernel_rfl
theorem ty_sc_11 : scB Tryz.prog 11 = true := by kernel_rfl
theorem ty_str_11 : Tryz.prog.underlying 11 = some .string := by kernel_rfl
theorem ty_src_11 : srcB Tryz.prog 11 = true := by kernel_rfl
theorem ty_ze_11 : zeB Tryz.prog 11 ([.string ByteArray.empty]) := by unfold zeB; kernel_rfl
theorem ty_sc_12 : scB Tryz.prog 12 = true := by kernel_rfl
theorem ty_int_12 : Tryz.prog.underlying 12 = some (.int .u64) := by kernel_rfl
theorem ty_ze_12 : zeB Tryz.prog 12 ([.int .u64 0]) := by unfold zeB; kernel_rfl
theorem ty_ag_13 : agB Tryz.prog 13 2 = true := by kernel_rfl
theorem ty_pl_13 : plB Tryz.prog 13 [(0, 1), (1, 1)] = true := by kernel_rfl
theorem ty_fld_13_0 : fldB Tryz.prog 13 0 = some (0, 9) := by kernel_rfl
theorem ty_fl_13_0 : flB Tryz.prog 13 0 0 = true := by kernel_rfl
theorem ty_fld_13_1 : fldB Tryz.prog 13 1 = some (1, 12) := by kernel_rfl
theorem ty_fl_13_1 : flB Tryz.prog 13 1 1 = true := by kernel_rfl
theorem ty_ze_13 : zeB Tryz.prog 13 ([.string ByteArray.empty, .int .u64 0]) := by unfold zeB; kernel_rfl
theorem ty_ag_14 : agB Tryz.prog 14 2 = true := by kernel_rfl
theorem ty_pl_14 : plB Tryz.prog 14 [(0, 1), (1, 1)] = true := by kernel_rfl
theorem ty_fld_14_0 : fldB Tryz.prog 14 0 = some (0, 9) := by kernel_rfl
theorem ty_fl_14_0 : flB Tryz.prog 14 0 0 = true := by kernel_rfl
theorem ty_fld_14_1 : fldB Tryz.prog 14 1 = some (1, 12) := by kernel_rfl
theorem ty_fl_14_1 : flB Tryz.prog 14 1 1 = true := by kernel_rfl
theorem ty_ze_14 : zeB Tryz.prog 14 ([.string ByteArray.empty, .int .u64 0]) := by unfold zeB; kernel_rfl
theorem ty_sc_15 : scB Tryz.prog 15 = true := by kernel_rfl
theorem ty_ptr_15 : Tryz.prog.underlying 15 = some (.pointer 324) := by kernel_rfl
theorem ty_ze_15 : zeB Tryz.prog 15 ([.pointer none]) := by unfold zeB; kernel_rfl
theorem ty_sc_16 : scB Tryz.prog 16 = true := by kernel_rfl
theorem ty_ptr_16 : Tryz.prog.underlying 16 = some (.pointer 327) := by kernel_rfl
theorem ty_ze_16 : zeB Tryz.prog 16 ([.pointer none]) := by unfold zeB; kernel_rfl
theorem ty_sc_17 : scB Tryz.prog 17 = true := by kernel_rfl
theorem ty_ptr_17 : Tryz.prog.underlying 17 = some (.pointer 336) := by kernel_rfl
theorem ty_ze_17 : zeB Tryz.prog 17 ([.pointer none]) := by unfold zeB; kernel_rfl
theorem ty_ag_18 : agB Tryz.prog 18 1 = true := by kernel_rfl
theorem ty_pl_18 : plB Tryz.prog 18 [(0, 1)] = true := by kernel_rfl
theorem ty_fld_18_0 : fldB Tryz.prog 18 0 = some (0, 17) := by kernel_rfl
theorem ty_fl_18_0 : flB Tryz.prog 18 0 0 = true := by kernel_rfl
theorem ty_ze_18 : zeB Tryz.prog 18 ([.pointer none]) := by unfold zeB; kernel_rfl
theorem ty_ag_19 : agB Tryz.prog 19 1 = true := by kernel_rfl
theorem ty_pl_19 : plB Tryz.prog 19 [(0, 1)] = true := by kernel_rfl
theorem ty_fld_19_0 : fldB Tryz.prog 19 0 = some (0, 17) := by kernel_rfl
theorem ty_fl_19_0 : flB Tryz.prog 19 0 0 = true := by kernel_rfl
theorem ty_ze_19 : zeB Tryz.prog 19 ([.pointer none]) := by unfold zeB; kernel_rfl
theorem ty_sc_20 : scB Tryz.prog 20 = true := by kernel_rfl
theorem ty_ze_20 : zeB Tryz.prog 20 ([.nilIface]) := by unfold zeB; kernel_rfl
theorem ty_sc_21 : scB Tryz.prog 21 = true := by kernel_rfl
theorem ty_int_21 : Tryz.prog.underlying 21 = some (.int .i32) := by kernel_rfl
theorem ty_ze_21 : zeB Tryz.prog 21 ([.int .i32 0]) := by unfold zeB; kernel_rfl
theorem ty_sc_22 : scB Tryz.prog 22 = true := by kernel_rfl
theorem ty_sl_22 : slB Tryz.prog 22 38 5 40 = true := by kernel_rfl
theorem ty_ap_22 : apB Tryz.prog 38 5 = true := by kernel_rfl
theorem ty_src_22 : srcB Tryz.prog 22 = true := by kernel_rfl
theorem ty_lz_22 : ((Tryz.prog.info? 38).bind (·.zero)).map (·.cells.size) = some 5 := by kernel_rfl
theorem ty_ze_22 : zeB Tryz.prog 22 ([.slice none 0 0]) := by unfold zeB; kernel_rfl
theorem ty_sc_23 : scB Tryz.prog 23 = true := by kernel_rfl
theorem ty_sl_23 : slB Tryz.prog 23 135 4 32 = true := by kernel_rfl
theorem ty_ap_23 : apB Tryz.prog 135 4 = true := by kernel_rfl
theorem ty_src_23 : srcB Tryz.prog 23 = true := by kernel_rfl
theorem ty_lz_23 : ((Tryz.prog.info? 135).bind (·.zero)).map (·.cells.size) = some 4 := by kernel_rfl
theorem ty_ze_23 : zeB Tryz.prog 23 ([.slice none 0 0]) := by unfold zeB; kernel_rfl
theorem ty_sc_24 : scB Tryz.prog 24 = true := by kernel_rfl
theorem ty_int_24 : Tryz.prog.underlying 24 = some (.int .u64) := by kernel_rfl
theorem ty_ze_24 : zeB Tryz.prog 24 ([.int .u64 0]) := by unfold zeB; kernel_rfl
theorem ty_ag_25 : agB Tryz.prog 25 4 = true := by kernel_rfl
theorem ty_pl_25 : plB Tryz.prog 25 [(0, 1), (1, 1), (2, 1), (3, 1)] = true := by kernel_rfl
theorem ty_fld_25_0 : fldB Tryz.prog 25 0 = some (0, 22) := by kernel_rfl
theorem ty_fl_25_0 : flB Tryz.prog 25 0 0 = true := by kernel_rfl
theorem ty_fld_25_1 : fldB Tryz.prog 25 1 = some (1, 23) := by kernel_rfl
theorem ty_fl_25_1 : flB Tryz.prog 25 1 1 = true := by kernel_rfl
theorem ty_fld_25_2 : fldB Tryz.prog 25 2 = some (2, 24) := by kernel_rfl
theorem ty_fl_25_2 : flB Tryz.prog 25 2 2 = true := by kernel_rfl
theorem ty_fld_25_3 : fldB Tryz.prog 25 3 = some (3, 24) := by kernel_rfl
theorem ty_fl_25_3 : flB Tryz.prog 25 3 3 = true := by kernel_rfl
theorem ty_ze_25 : zeB Tryz.prog 25 ([.slice none 0 0, .slice none 0 0, .int .u64 0, .int .u64 0]) := by unfold zeB; kernel_rfl
theorem ty_ag_26 : agB Tryz.prog 26 4 = true := by kernel_rfl
theorem ty_pl_26 : plB Tryz.prog 26 [(0, 1), (1, 1), (2, 1), (3, 1)] = true := by kernel_rfl
theorem ty_fld_26_0 : fldB Tryz.prog 26 0 = some (0, 22) := by kernel_rfl
theorem ty_fl_26_0 : flB Tryz.prog 26 0 0 = true := by kernel_rfl
theorem ty_fld_26_1 : fldB Tryz.prog 26 1 = some (1, 23) := by kernel_rfl
theorem ty_fl_26_1 : flB Tryz.prog 26 1 1 = true := by kernel_rfl
theorem ty_fld_26_2 : fldB Tryz.prog 26 2 = some (2, 24) := by kernel_rfl
theorem ty_fl_26_2 : flB Tryz.prog 26 2 2 = true := by kernel_rfl
theorem ty_fld_26_3 : fldB Tryz.prog 26 3 = some (3, 24) := by kernel_rfl
theorem ty_fl_26_3 : flB Tryz.prog 26 3 3 = true := by kernel_rfl
theorem ty_ze_26 : zeB Tryz.prog 26 ([.slice none 0 0, .slice none 0 0, .int .u64 0, .int .u64 0]) := by unfold zeB; kernel_rfl
theorem ty_sc_27 : scB Tryz.prog 27 = true := by kernel_rfl
theorem ty_int_27 : Tryz.prog.underlying 27 = some (.int .u64) := by kernel_rfl
theorem ty_ze_27 : zeB Tryz.prog 27 ([.int .u64 0]) := by unfold zeB; kernel_rfl
theorem ty_ar_28 : arB Tryz.prog 28 32 5 1 = true := by kernel_rfl
theorem ty_ag_28 : agB Tryz.prog 28 32 = true := by kernel_rfl
theorem ty_un_28 : Tryz.prog.underlying 28 = some (.array 32 5) := by kernel_rfl
theorem ty_eg_28 : Tryz.prog.eqGuardType Tryz.prog.depth 28 = false := by kernel_rfl
theorem ty_ze_28 : zeB Tryz.prog 28 (List.replicate 32 (.int .u8 0)) := by unfold zeB; kernel_rfl
theorem ty_ar_29 : arB Tryz.prog 29 32 5 1 = true := by kernel_rfl
theorem ty_ag_29 : agB Tryz.prog 29 32 = true := by kernel_rfl
theorem ty_un_29 : Tryz.prog.underlying 29 = some (.array 32 5) := by kernel_rfl
theorem ty_eg_29 : Tryz.prog.eqGuardType Tryz.prog.depth 29 = false := by kernel_rfl
theorem ty_ze_29 : zeB Tryz.prog 29 (List.replicate 32 (.int .u8 0)) := by unfold zeB; kernel_rfl
theorem ty_sc_30 : scB Tryz.prog 30 = true := by kernel_rfl
theorem ty_sl_30 : slB Tryz.prog 30 47 3 40 = true := by kernel_rfl
theorem ty_ap_30 : apB Tryz.prog 47 3 = true := by kernel_rfl
theorem ty_src_30 : srcB Tryz.prog 30 = true := by kernel_rfl
theorem ty_lz_30 : ((Tryz.prog.info? 47).bind (·.zero)).map (·.cells.size) = some 3 := by kernel_rfl
theorem ty_ze_30 : zeB Tryz.prog 30 ([.slice none 0 0]) := by unfold zeB; kernel_rfl
theorem ty_ag_31 : agB Tryz.prog 31 34 = true := by kernel_rfl
theorem ty_pl_31 : plB Tryz.prog 31 [(0, 32), (32, 1), (33, 1)] = true := by kernel_rfl
theorem ty_fld_31_0 : fldB Tryz.prog 31 0 = some (0, 29) := by kernel_rfl
theorem ty_fl_31_0 : flB Tryz.prog 31 0 0 = true := by kernel_rfl
theorem ty_fld_31_1 : fldB Tryz.prog 31 1 = some (32, 22) := by kernel_rfl
theorem ty_fl_31_1 : flB Tryz.prog 31 1 32 = true := by kernel_rfl
theorem ty_fld_31_2 : fldB Tryz.prog 31 2 = some (33, 30) := by kernel_rfl
theorem ty_fl_31_2 : flB Tryz.prog 31 2 33 = true := by kernel_rfl
theorem ty_ze_31 : zeB Tryz.prog 31 (List.replicate 32 (.int .u8 0) ++ [.slice none 0 0, .slice none 0 0]) := by unfold zeB; kernel_rfl
theorem ty_ag_32 : agB Tryz.prog 32 34 = true := by kernel_rfl
theorem ty_pl_32 : plB Tryz.prog 32 [(0, 32), (32, 1), (33, 1)] = true := by kernel_rfl
theorem ty_fld_32_0 : fldB Tryz.prog 32 0 = some (0, 29) := by kernel_rfl
theorem ty_fl_32_0 : flB Tryz.prog 32 0 0 = true := by kernel_rfl
theorem ty_fld_32_1 : fldB Tryz.prog 32 1 = some (32, 22) := by kernel_rfl
theorem ty_fl_32_1 : flB Tryz.prog 32 1 32 = true := by kernel_rfl
theorem ty_fld_32_2 : fldB Tryz.prog 32 2 = some (33, 30) := by kernel_rfl
theorem ty_fl_32_2 : flB Tryz.prog 32 2 33 = true := by kernel_rfl
theorem ty_ze_32 : zeB Tryz.prog 32 (List.replicate 32 (.int .u8 0) ++ [.slice none 0 0, .slice none 0 0]) := by unfold zeB; kernel_rfl
theorem ty_sc_33 : scB Tryz.prog 33 = true := by kernel_rfl
theorem ty_sc_34 : scB Tryz.prog 34 = true := by kernel_rfl
theorem ty_int_34 : Tryz.prog.underlying 34 = some (.int .i64) := by kernel_rfl
theorem ty_ze_34 : zeB Tryz.prog 34 ([.int .i64 0]) := by unfold zeB; kernel_rfl
theorem ty_sc_36 : scB Tryz.prog 36 = true := by kernel_rfl
theorem ty_ag_37 : agB Tryz.prog 37 5 = true := by kernel_rfl
theorem ty_pl_37 : plB Tryz.prog 37 [(0, 1), (1, 1), (2, 1), (3, 1), (4, 1)] = true := by kernel_rfl
theorem ty_fld_37_0 : fldB Tryz.prog 37 0 = some (0, 27) := by kernel_rfl
theorem ty_fl_37_0 : flB Tryz.prog 37 0 0 = true := by kernel_rfl
theorem ty_fld_37_1 : fldB Tryz.prog 37 1 = some (1, 24) := by kernel_rfl
theorem ty_fl_37_1 : flB Tryz.prog 37 1 1 = true := by kernel_rfl
theorem ty_fld_37_2 : fldB Tryz.prog 37 2 = some (2, 24) := by kernel_rfl
theorem ty_fl_37_2 : flB Tryz.prog 37 2 2 = true := by kernel_rfl
theorem ty_fld_37_3 : fldB Tryz.prog 37 3 = some (3, 24) := by kernel_rfl
theorem ty_fl_37_3 : flB Tryz.prog 37 3 3 = true := by kernel_rfl
theorem ty_fld_37_4 : fldB Tryz.prog 37 4 = some (4, 4) := by kernel_rfl
theorem ty_fl_37_4 : flB Tryz.prog 37 4 4 = true := by kernel_rfl
theorem ty_ze_37 : zeB Tryz.prog 37 ([.int .u64 0, .int .u64 0, .int .u64 0, .int .u64 0, .bool false]) := by unfold zeB; kernel_rfl
theorem ty_ag_38 : agB Tryz.prog 38 5 = true := by kernel_rfl
theorem ty_pl_38 : plB Tryz.prog 38 [(0, 1), (1, 1), (2, 1), (3, 1), (4, 1)] = true := by kernel_rfl
theorem ty_fld_38_0 : fldB Tryz.prog 38 0 = some (0, 27) := by kernel_rfl
theorem ty_fl_38_0 : flB Tryz.prog 38 0 0 = true := by kernel_rfl
theorem ty_fld_38_1 : fldB Tryz.prog 38 1 = some (1, 24) := by kernel_rfl
theorem ty_fl_38_1 : flB Tryz.prog 38 1 1 = true := by kernel_rfl
theorem ty_fld_38_2 : fldB Tryz.prog 38 2 = some (2, 24) := by kernel_rfl
theorem ty_fl_38_2 : flB Tryz.prog 38 2 2 = true := by kernel_rfl
theorem ty_fld_38_3 : fldB Tryz.prog 38 3 = some (3, 24) := by kernel_rfl
theorem ty_fl_38_3 : flB Tryz.prog 38 3 3 = true := by kernel_rfl
theorem ty_fld_38_4 : fldB Tryz.prog 38 4 = some (4, 4) := by kernel_rfl
theorem ty_fl_38_4 : flB Tryz.prog 38 4 4 = true := by kernel_rfl
theorem ty_ze_38 : zeB Tryz.prog 38 ([.int .u64 0, .int .u64 0, .int .u64 0, .int .u64 0, .bool false]) := by unfold zeB; kernel_rfl
theorem ty_sc_40 : scB Tryz.prog 40 = true := by kernel_rfl
theorem ty_sc_41 : scB Tryz.prog 41 = true := by kernel_rfl
theorem ty_sc_42 : scB Tryz.prog 42 = true := by kernel_rfl
theorem ty_sl_42 : slB Tryz.prog 42 48 1 24 = true := by kernel_rfl
theorem ty_ap_42 : apB Tryz.prog 48 1 = true := by kernel_rfl
theorem ty_src_42 : srcB Tryz.prog 42 = true := by kernel_rfl
theorem ty_lz_42 : ((Tryz.prog.info? 48).bind (·.zero)).map (·.cells.size) = some 1 := by kernel_rfl
theorem ty_ze_42 : zeB Tryz.prog 42 ([.slice none 0 0]) := by unfold zeB; kernel_rfl
theorem ty_sc_43 : scB Tryz.prog 43 = true := by kernel_rfl
theorem ty_sc_44 : scB Tryz.prog 44 = true := by kernel_rfl
theorem ty_sc_45 : scB Tryz.prog 45 = true := by kernel_rfl
theorem ty_sl_45 : slB Tryz.prog 45 29 32 32 = true := by kernel_rfl
theorem ty_ap_45 : apB Tryz.prog 29 32 = true := by kernel_rfl
theorem ty_src_45 : srcB Tryz.prog 45 = true := by kernel_rfl
theorem ty_lz_45 : ((Tryz.prog.info? 29).bind (·.zero)).map (·.cells.size) = some 32 := by kernel_rfl
theorem ty_ze_45 : zeB Tryz.prog 45 ([.slice none 0 0]) := by unfold zeB; kernel_rfl
theorem ty_ag_46 : agB Tryz.prog 46 3 = true := by kernel_rfl
theorem ty_pl_46 : plB Tryz.prog 46 [(0, 1), (1, 1), (2, 1)] = true := by kernel_rfl
theorem ty_fld_46_0 : fldB Tryz.prog 46 0 = some (0, 3) := by kernel_rfl
theorem ty_fl_46_0 : flB Tryz.prog 46 0 0 = true := by kernel_rfl
theorem ty_fld_46_1 : fldB Tryz.prog 46 1 = some (1, 3) := by kernel_rfl
theorem ty_fl_46_1 : flB Tryz.prog 46 1 1 = true := by kernel_rfl
theorem ty_fld_46_2 : fldB Tryz.prog 46 2 = some (2, 45) := by kernel_rfl
theorem ty_fl_46_2 : flB Tryz.prog 46 2 2 = true := by kernel_rfl
theorem ty_ze_46 : zeB Tryz.prog 46 ([.int .i64 0, .int .i64 0, .slice none 0 0]) := by unfold zeB; kernel_rfl
theorem ty_ag_47 : agB Tryz.prog 47 3 = true := by kernel_rfl
theorem ty_pl_47 : plB Tryz.prog 47 [(0, 1), (1, 1), (2, 1)] = true := by kernel_rfl
theorem ty_fld_47_0 : fldB Tryz.prog 47 0 = some (0, 3) := by kernel_rfl
theorem ty_fl_47_0 : flB Tryz.prog 47 0 0 = true := by kernel_rfl
theorem ty_fld_47_1 : fldB Tryz.prog 47 1 = some (1, 3) := by kernel_rfl
theorem ty_fl_47_1 : flB Tryz.prog 47 1 1 = true := by kernel_rfl
theorem ty_fld_47_2 : fldB Tryz.prog 47 2 = some (2, 45) := by kernel_rfl
theorem ty_fl_47_2 : flB Tryz.prog 47 2 2 = true := by kernel_rfl
theorem ty_ze_47 : zeB Tryz.prog 47 ([.int .i64 0, .int .i64 0, .slice none 0 0]) := by unfold zeB; kernel_rfl
theorem ty_sc_48 : scB Tryz.prog 48 = true := by kernel_rfl
theorem ty_sl_48 : slB Tryz.prog 48 5 1 1 = true := by kernel_rfl
theorem ty_ap_48 : apB Tryz.prog 5 1 = true := by kernel_rfl
theorem ty_src_48 : srcB Tryz.prog 48 = true := by kernel_rfl
theorem ty_lz_48 : ((Tryz.prog.info? 5).bind (·.zero)).map (·.cells.size) = some 1 := by kernel_rfl
theorem ty_ze_48 : zeB Tryz.prog 48 ([.slice none 0 0]) := by unfold zeB; kernel_rfl
theorem ty_sc_49 : scB Tryz.prog 49 = true := by kernel_rfl
theorem ty_sc_50 : scB Tryz.prog 50 = true := by kernel_rfl
theorem ty_sc_51 : scB Tryz.prog 51 = true := by kernel_rfl
theorem ty_sc_52 : scB Tryz.prog 52 = true := by kernel_rfl
theorem ty_sc_53 : scB Tryz.prog 53 = true := by kernel_rfl
theorem ty_sc_54 : scB Tryz.prog 54 = true := by kernel_rfl
theorem ty_sc_55 : scB Tryz.prog 55 = true := by kernel_rfl
theorem ty_sc_57 : scB Tryz.prog 57 = true := by kernel_rfl
theorem ty_sc_59 : scB Tryz.prog 59 = true := by kernel_rfl
theorem ty_sc_60 : scB Tryz.prog 60 = true := by kernel_rfl
theorem ty_ag_61 : agB Tryz.prog 61 12 = true := by kernel_rfl
theorem ty_pl_61 : plB Tryz.prog 61 [(0, 1), (1, 1), (2, 1), (3, 1), (4, 1), (5, 1), (6, 1), (7, 1), (8, 1), (9, 1), (10, 1), (11, 1)] = true := by kernel_rfl
theorem ty_fld_61_0 : fldB Tryz.prog 61 0 = some (0, 24) := by kernel_rfl
theorem ty_fl_61_0 : flB Tryz.prog 61 0 0 = true := by kernel_rfl
theorem ty_fld_61_1 : fldB Tryz.prog 61 1 = some (1, 3) := by kernel_rfl
theorem ty_fl_61_1 : flB Tryz.prog 61 1 1 = true := by kernel_rfl
theorem ty_fld_61_2 : fldB Tryz.prog 61 2 = some (2, 24) := by kernel_rfl
theorem ty_fl_61_2 : flB Tryz.prog 61 2 2 = true := by kernel_rfl
theorem ty_fld_61_3 : fldB Tryz.prog 61 3 = some (3, 24) := by kernel_rfl
theorem ty_fl_61_3 : flB Tryz.prog 61 3 3 = true := by kernel_rfl
theorem ty_fld_61_4 : fldB Tryz.prog 61 4 = some (4, 24) := by kernel_rfl
theorem ty_fl_61_4 : flB Tryz.prog 61 4 4 = true := by kernel_rfl
theorem ty_fld_61_5 : fldB Tryz.prog 61 5 = some (5, 3) := by kernel_rfl
theorem ty_fl_61_5 : flB Tryz.prog 61 5 5 = true := by kernel_rfl
theorem ty_fld_61_6 : fldB Tryz.prog 61 6 = some (6, 24) := by kernel_rfl
theorem ty_fl_61_6 : flB Tryz.prog 61 6 6 = true := by kernel_rfl
theorem ty_fld_61_7 : fldB Tryz.prog 61 7 = some (7, 24) := by kernel_rfl
theorem ty_fl_61_7 : flB Tryz.prog 61 7 7 = true := by kernel_rfl
theorem ty_fld_61_8 : fldB Tryz.prog 61 8 = some (8, 24) := by kernel_rfl
theorem ty_fl_61_8 : flB Tryz.prog 61 8 8 = true := by kernel_rfl
theorem ty_fld_61_9 : fldB Tryz.prog 61 9 = some (9, 24) := by kernel_rfl
theorem ty_fl_61_9 : flB Tryz.prog 61 9 9 = true := by kernel_rfl
theorem ty_fld_61_10 : fldB Tryz.prog 61 10 = some (10, 24) := by kernel_rfl
theorem ty_fl_61_10 : flB Tryz.prog 61 10 10 = true := by kernel_rfl
theorem ty_fld_61_11 : fldB Tryz.prog 61 11 = some (11, 24) := by kernel_rfl
theorem ty_fl_61_11 : flB Tryz.prog 61 11 11 = true := by kernel_rfl
theorem ty_ze_61 : zeB Tryz.prog 61 ([.int .u64 0, .int .i64 0, .int .u64 0, .int .u64 0, .int .u64 0, .int .i64 0] ++ List.replicate 6 (.int .u64 0)) := by unfold zeB; kernel_rfl
theorem ty_ag_62 : agB Tryz.prog 62 12 = true := by kernel_rfl
theorem ty_pl_62 : plB Tryz.prog 62 [(0, 1), (1, 1), (2, 1), (3, 1), (4, 1), (5, 1), (6, 1), (7, 1), (8, 1), (9, 1), (10, 1), (11, 1)] = true := by kernel_rfl
theorem ty_fld_62_0 : fldB Tryz.prog 62 0 = some (0, 24) := by kernel_rfl
theorem ty_fl_62_0 : flB Tryz.prog 62 0 0 = true := by kernel_rfl
theorem ty_fld_62_1 : fldB Tryz.prog 62 1 = some (1, 3) := by kernel_rfl
theorem ty_fl_62_1 : flB Tryz.prog 62 1 1 = true := by kernel_rfl
theorem ty_fld_62_2 : fldB Tryz.prog 62 2 = some (2, 24) := by kernel_rfl
theorem ty_fl_62_2 : flB Tryz.prog 62 2 2 = true := by kernel_rfl
theorem ty_fld_62_3 : fldB Tryz.prog 62 3 = some (3, 24) := by kernel_rfl
theorem ty_fl_62_3 : flB Tryz.prog 62 3 3 = true := by kernel_rfl
theorem ty_fld_62_4 : fldB Tryz.prog 62 4 = some (4, 24) := by kernel_rfl
theorem ty_fl_62_4 : flB Tryz.prog 62 4 4 = true := by kernel_rfl
theorem ty_fld_62_5 : fldB Tryz.prog 62 5 = some (5, 3) := by kernel_rfl
theorem ty_fl_62_5 : flB Tryz.prog 62 5 5 = true := by kernel_rfl
theorem ty_fld_62_6 : fldB Tryz.prog 62 6 = some (6, 24) := by kernel_rfl
theorem ty_fl_62_6 : flB Tryz.prog 62 6 6 = true := by kernel_rfl
theorem ty_fld_62_7 : fldB Tryz.prog 62 7 = some (7, 24) := by kernel_rfl
theorem ty_fl_62_7 : flB Tryz.prog 62 7 7 = true := by kernel_rfl
theorem ty_fld_62_8 : fldB Tryz.prog 62 8 = some (8, 24) := by kernel_rfl
theorem ty_fl_62_8 : flB Tryz.prog 62 8 8 = true := by kernel_rfl
theorem ty_fld_62_9 : fldB Tryz.prog 62 9 = some (9, 24) := by kernel_rfl
theorem ty_fl_62_9 : flB Tryz.prog 62 9 9 = true := by kernel_rfl
theorem ty_fld_62_10 : fldB Tryz.prog 62 10 = some (10, 24) := by kernel_rfl
theorem ty_fl_62_10 : flB Tryz.prog 62 10 10 = true := by kernel_rfl
theorem ty_fld_62_11 : fldB Tryz.prog 62 11 = some (11, 24) := by kernel_rfl
theorem ty_fl_62_11 : flB Tryz.prog 62 11 11 = true := by kernel_rfl
theorem ty_ze_62 : zeB Tryz.prog 62 ([.int .u64 0, .int .i64 0, .int .u64 0, .int .u64 0, .int .u64 0, .int .i64 0] ++ List.replicate 6 (.int .u64 0)) := by unfold zeB; kernel_rfl
theorem ty_sc_64 : scB Tryz.prog 64 = true := by kernel_rfl
theorem ty_sc_65 : scB Tryz.prog 65 = true := by kernel_rfl
theorem ty_sl_65 : slB Tryz.prog 65 26 4 64 = true := by kernel_rfl
theorem ty_ap_65 : apB Tryz.prog 26 4 = true := by kernel_rfl
theorem ty_src_65 : srcB Tryz.prog 65 = true := by kernel_rfl
theorem ty_lz_65 : ((Tryz.prog.info? 26).bind (·.zero)).map (·.cells.size) = some 4 := by kernel_rfl
theorem ty_ze_65 : zeB Tryz.prog 65 ([.slice none 0 0]) := by unfold zeB; kernel_rfl
theorem ty_sc_66 : scB Tryz.prog 66 = true := by kernel_rfl
theorem ty_sc_67 : scB Tryz.prog 67 = true := by kernel_rfl
theorem ty_sc_68 : scB Tryz.prog 68 = true := by kernel_rfl
theorem ty_sl_68 : slB Tryz.prog 68 76 3 24 = true := by kernel_rfl
theorem ty_ap_68 : apB Tryz.prog 76 3 = true := by kernel_rfl
theorem ty_src_68 : srcB Tryz.prog 68 = true := by kernel_rfl
theorem ty_lz_68 : ((Tryz.prog.info? 76).bind (·.zero)).map (·.cells.size) = some 3 := by kernel_rfl
theorem ty_ze_68 : zeB Tryz.prog 68 ([.slice none 0 0]) := by unfold zeB; kernel_rfl
theorem ty_sc_69 : scB Tryz.prog 69 = true := by kernel_rfl
theorem ty_sc_71 : scB Tryz.prog 71 = true := by kernel_rfl
theorem ty_sc_72 : scB Tryz.prog 72 = true := by kernel_rfl
theorem ty_sc_73 : scB Tryz.prog 73 = true := by kernel_rfl
theorem ty_sc_74 : scB Tryz.prog 74 = true := by kernel_rfl
theorem ty_ag_75 : agB Tryz.prog 75 3 = true := by kernel_rfl
theorem ty_pl_75 : plB Tryz.prog 75 [(0, 1), (1, 1), (2, 1)] = true := by kernel_rfl
theorem ty_fld_75_0 : fldB Tryz.prog 75 0 = some (0, 27) := by kernel_rfl
theorem ty_fl_75_0 : flB Tryz.prog 75 0 0 = true := by kernel_rfl
theorem ty_fld_75_1 : fldB Tryz.prog 75 1 = some (1, 24) := by kernel_rfl
theorem ty_fl_75_1 : flB Tryz.prog 75 1 1 = true := by kernel_rfl
theorem ty_fld_75_2 : fldB Tryz.prog 75 2 = some (2, 2) := by kernel_rfl
theorem ty_fl_75_2 : flB Tryz.prog 75 2 2 = true := by kernel_rfl
theorem ty_ze_75 : zeB Tryz.prog 75 ([.int .u64 0, .int .u64 0, .int .i64 0]) := by unfold zeB; kernel_rfl
theorem ty_ag_76 : agB Tryz.prog 76 3 = true := by kernel_rfl
theorem ty_pl_76 : plB Tryz.prog 76 [(0, 1), (1, 1), (2, 1)] = true := by kernel_rfl
theorem ty_fld_76_0 : fldB Tryz.prog 76 0 = some (0, 27) := by kernel_rfl
theorem ty_fl_76_0 : flB Tryz.prog 76 0 0 = true := by kernel_rfl
theorem ty_fld_76_1 : fldB Tryz.prog 76 1 = some (1, 24) := by kernel_rfl
theorem ty_fl_76_1 : flB Tryz.prog 76 1 1 = true := by kernel_rfl
theorem ty_fld_76_2 : fldB Tryz.prog 76 2 = some (2, 2) := by kernel_rfl
theorem ty_fl_76_2 : flB Tryz.prog 76 2 2 = true := by kernel_rfl
theorem ty_ze_76 : zeB Tryz.prog 76 ([.int .u64 0, .int .u64 0, .int .i64 0]) := by unfold zeB; kernel_rfl
theorem ty_sc_77 : scB Tryz.prog 77 = true := by kernel_rfl
theorem ty_sc_78 : scB Tryz.prog 78 = true := by kernel_rfl
theorem ty_sc_79 : scB Tryz.prog 79 = true := by kernel_rfl
theorem ty_sl_79 : slB Tryz.prog 79 90 28 112 = true := by kernel_rfl
theorem ty_ap_79 : apB Tryz.prog 90 28 = true := by kernel_rfl
theorem ty_src_79 : srcB Tryz.prog 79 = true := by kernel_rfl
theorem ty_lz_79 : ((Tryz.prog.info? 90).bind (·.zero)).map (·.cells.size) = some 28 := by kernel_rfl
theorem ty_ze_79 : zeB Tryz.prog 79 ([.slice none 0 0]) := by unfold zeB; kernel_rfl
theorem ty_sc_80 : scB Tryz.prog 80 = true := by kernel_rfl
theorem ty_ptr_80 : Tryz.prog.underlying 80 = some (.pointer 101) := by kernel_rfl
theorem ty_ze_80 : zeB Tryz.prog 80 ([.pointer none]) := by unfold zeB; kernel_rfl
theorem ty_sc_82 : scB Tryz.prog 82 = true := by kernel_rfl
theorem ty_sc_83 : scB Tryz.prog 83 = true := by kernel_rfl
theorem ty_sl_83 : slB Tryz.prog 83 88 22 64 = true := by kernel_rfl
theorem ty_ap_83 : apB Tryz.prog 88 22 = true := by kernel_rfl
theorem ty_src_83 : srcB Tryz.prog 83 = true := by kernel_rfl
theorem ty_lz_83 : ((Tryz.prog.info? 88).bind (·.zero)).map (·.cells.size) = some 22 := by kernel_rfl
theorem ty_ze_83 : zeB Tryz.prog 83 ([.slice none 0 0]) := by unfold zeB; kernel_rfl
theorem ty_sc_84 : scB Tryz.prog 84 = true := by kernel_rfl
theorem ty_sl_84 : slB Tryz.prog 84 24 1 8 = true := by kernel_rfl
theorem ty_ap_84 : apB Tryz.prog 24 1 = true := by kernel_rfl
theorem ty_src_84 : srcB Tryz.prog 84 = true := by kernel_rfl
theorem ty_lz_84 : ((Tryz.prog.info? 24).bind (·.zero)).map (·.cells.size) = some 1 := by kernel_rfl
theorem ty_ze_84 : zeB Tryz.prog 84 ([.slice none 0 0]) := by unfold zeB; kernel_rfl
theorem ty_ar_85 : arB Tryz.prog 85 16 5 1 = true := by kernel_rfl
theorem ty_ag_85 : agB Tryz.prog 85 16 = true := by kernel_rfl
theorem ty_un_85 : Tryz.prog.underlying 85 = some (.array 16 5) := by kernel_rfl
theorem ty_eg_85 : Tryz.prog.eqGuardType Tryz.prog.depth 85 = false := by kernel_rfl
theorem ty_ze_85 : zeB Tryz.prog 85 (List.replicate 16 (.int .u8 0)) := by unfold zeB; kernel_rfl
theorem ty_ar_86 : arB Tryz.prog 86 16 5 1 = true := by kernel_rfl
theorem ty_ag_86 : agB Tryz.prog 86 16 = true := by kernel_rfl
theorem ty_un_86 : Tryz.prog.underlying 86 = some (.array 16 5) := by kernel_rfl
theorem ty_eg_86 : Tryz.prog.eqGuardType Tryz.prog.depth 86 = false := by kernel_rfl
theorem ty_ze_86 : zeB Tryz.prog 86 (List.replicate 16 (.int .u8 0)) := by unfold zeB; kernel_rfl
theorem ty_ag_87 : agB Tryz.prog 87 22 = true := by kernel_rfl
theorem ty_pl_87 : plB Tryz.prog 87 [(0, 1), (1, 1), (2, 1), (3, 1), (4, 1), (5, 1), (6, 16)] = true := by kernel_rfl
theorem ty_fld_87_0 : fldB Tryz.prog 87 0 = some (0, 3) := by kernel_rfl
theorem ty_fl_87_0 : flB Tryz.prog 87 0 0 = true := by kernel_rfl
theorem ty_fld_87_1 : fldB Tryz.prog 87 1 = some (1, 27) := by kernel_rfl
theorem ty_fl_87_1 : flB Tryz.prog 87 1 1 = true := by kernel_rfl
theorem ty_fld_87_2 : fldB Tryz.prog 87 2 = some (2, 27) := by kernel_rfl
theorem ty_fl_87_2 : flB Tryz.prog 87 2 2 = true := by kernel_rfl
theorem ty_fld_87_3 : fldB Tryz.prog 87 3 = some (3, 24) := by kernel_rfl
theorem ty_fl_87_3 : flB Tryz.prog 87 3 3 = true := by kernel_rfl
theorem ty_fld_87_4 : fldB Tryz.prog 87 4 = some (4, 24) := by kernel_rfl
theorem ty_fl_87_4 : flB Tryz.prog 87 4 4 = true := by kernel_rfl
theorem ty_fld_87_5 : fldB Tryz.prog 87 5 = some (5, 24) := by kernel_rfl
theorem ty_fl_87_5 : flB Tryz.prog 87 5 5 = true := by kernel_rfl
theorem ty_fld_87_6 : fldB Tryz.prog 87 6 = some (6, 86) := by kernel_rfl
theorem ty_fl_87_6 : flB Tryz.prog 87 6 6 = true := by kernel_rfl
theorem ty_ze_87 : zeB Tryz.prog 87 ([.int .i64 0] ++ List.replicate 5 (.int .u64 0) ++ List.replicate 16 (.int .u8 0)) := by unfold zeB; kernel_rfl
theorem ty_ag_88 : agB Tryz.prog 88 22 = true := by kernel_rfl
theorem ty_pl_88 : plB Tryz.prog 88 [(0, 1), (1, 1), (2, 1), (3, 1), (4, 1), (5, 1), (6, 16)] = true := by kernel_rfl
theorem ty_fld_88_0 : fldB Tryz.prog 88 0 = some (0, 3) := by kernel_rfl
theorem ty_fl_88_0 : flB Tryz.prog 88 0 0 = true := by kernel_rfl
theorem ty_fld_88_1 : fldB Tryz.prog 88 1 = some (1, 27) := by kernel_rfl
theorem ty_fl_88_1 : flB Tryz.prog 88 1 1 = true := by kernel_rfl
theorem ty_fld_88_2 : fldB Tryz.prog 88 2 = some (2, 27) := by kernel_rfl
theorem ty_fl_88_2 : flB Tryz.prog 88 2 2 = true := by kernel_rfl
theorem ty_fld_88_3 : fldB Tryz.prog 88 3 = some (3, 24) := by kernel_rfl
theorem ty_fl_88_3 : flB Tryz.prog 88 3 3 = true := by kernel_rfl
theorem ty_fld_88_4 : fldB Tryz.prog 88 4 = some (4, 24) := by kernel_rfl
theorem ty_fl_88_4 : flB Tryz.prog 88 4 4 = true := by kernel_rfl
theorem ty_fld_88_5 : fldB Tryz.prog 88 5 = some (5, 24) := by kernel_rfl
theorem ty_fl_88_5 : flB Tryz.prog 88 5 5 = true := by kernel_rfl
theorem ty_fld_88_6 : fldB Tryz.prog 88 6 = some (6, 86) := by kernel_rfl
theorem ty_fl_88_6 : flB Tryz.prog 88 6 6 = true := by kernel_rfl
theorem ty_ze_88 : zeB Tryz.prog 88 ([.int .i64 0] ++ List.replicate 5 (.int .u64 0) ++ List.replicate 16 (.int .u8 0)) := by unfold zeB; kernel_rfl
theorem ty_ag_89 : agB Tryz.prog 89 28 = true := by kernel_rfl
theorem ty_pl_89 : plB Tryz.prog 89 [(0, 1), (1, 22), (23, 1), (24, 1), (25, 1), (26, 1), (27, 1)] = true := by kernel_rfl
theorem ty_fld_89_0 : fldB Tryz.prog 89 0 = some (0, 3) := by kernel_rfl
theorem ty_fl_89_0 : flB Tryz.prog 89 0 0 = true := by kernel_rfl
theorem ty_fld_89_1 : fldB Tryz.prog 89 1 = some (1, 88) := by kernel_rfl
theorem ty_fl_89_1 : flB Tryz.prog 89 1 1 = true := by kernel_rfl
theorem ty_fld_89_2 : fldB Tryz.prog 89 2 = some (23, 4) := by kernel_rfl
theorem ty_fl_89_2 : flB Tryz.prog 89 2 23 = true := by kernel_rfl
theorem ty_fld_89_3 : fldB Tryz.prog 89 3 = some (24, 24) := by kernel_rfl
theorem ty_fl_89_3 : flB Tryz.prog 89 3 24 = true := by kernel_rfl
theorem ty_fld_89_4 : fldB Tryz.prog 89 4 = some (25, 27) := by kernel_rfl
theorem ty_fl_89_4 : flB Tryz.prog 89 4 25 = true := by kernel_rfl
theorem ty_fld_89_5 : fldB Tryz.prog 89 5 = some (26, 27) := by kernel_rfl
theorem ty_fl_89_5 : flB Tryz.prog 89 5 26 = true := by kernel_rfl
theorem ty_fld_89_6 : fldB Tryz.prog 89 6 = some (27, 24) := by kernel_rfl
theorem ty_fl_89_6 : flB Tryz.prog 89 6 27 = true := by kernel_rfl
theorem ty_ze_89 : zeB Tryz.prog 89 ([.int .i64 0, .int .i64 0] ++ List.replicate 5 (.int .u64 0) ++ List.replicate 16 (.int .u8 0) ++ [.bool false, .int .u64 0, .int .u64 0, .int .u64 0, .int .u64 0]) := by unfold zeB; kernel_rfl
theorem ty_ag_90 : agB Tryz.prog 90 28 = true := by kernel_rfl
theorem ty_pl_90 : plB Tryz.prog 90 [(0, 1), (1, 22), (23, 1), (24, 1), (25, 1), (26, 1), (27, 1)] = true := by kernel_rfl
theorem ty_fld_90_0 : fldB Tryz.prog 90 0 = some (0, 3) := by kernel_rfl
theorem ty_fl_90_0 : flB Tryz.prog 90 0 0 = true := by kernel_rfl
theorem ty_fld_90_1 : fldB Tryz.prog 90 1 = some (1, 88) := by kernel_rfl
theorem ty_fl_90_1 : flB Tryz.prog 90 1 1 = true := by kernel_rfl
theorem ty_fld_90_2 : fldB Tryz.prog 90 2 = some (23, 4) := by kernel_rfl
theorem ty_fl_90_2 : flB Tryz.prog 90 2 23 = true := by kernel_rfl
theorem ty_fld_90_3 : fldB Tryz.prog 90 3 = some (24, 24) := by kernel_rfl
theorem ty_fl_90_3 : flB Tryz.prog 90 3 24 = true := by kernel_rfl
theorem ty_fld_90_4 : fldB Tryz.prog 90 4 = some (25, 27) := by kernel_rfl
theorem ty_fl_90_4 : flB Tryz.prog 90 4 25 = true := by kernel_rfl
theorem ty_fld_90_5 : fldB Tryz.prog 90 5 = some (26, 27) := by kernel_rfl
theorem ty_fl_90_5 : flB Tryz.prog 90 5 26 = true := by kernel_rfl
theorem ty_fld_90_6 : fldB Tryz.prog 90 6 = some (27, 24) := by kernel_rfl
theorem ty_fl_90_6 : flB Tryz.prog 90 6 27 = true := by kernel_rfl
theorem ty_ze_90 : zeB Tryz.prog 90 ([.int .i64 0, .int .i64 0] ++ List.replicate 5 (.int .u64 0) ++ List.replicate 16 (.int .u8 0) ++ [.bool false, .int .u64 0, .int .u64 0, .int .u64 0, .int .u64 0]) := by unfold zeB; kernel_rfl
theorem ty_sc_92 : scB Tryz.prog 92 = true := by kernel_rfl
theorem ty_sc_93 : scB Tryz.prog 93 = true := by kernel_rfl
theorem ty_sc_94 : scB Tryz.prog 94 = true := by kernel_rfl
theorem ty_sc_95 : scB Tryz.prog 95 = true := by kernel_rfl
theorem ty_sc_96 : scB Tryz.prog 96 = true := by kernel_rfl
theorem ty_ptr_96 : Tryz.prog.underlying 96 = some (.pointer 117) := by kernel_rfl
theorem ty_ze_96 : zeB Tryz.prog 96 ([.pointer none]) := by unfold zeB; kernel_rfl
theorem ty_sc_97 : scB Tryz.prog 97 = true := by kernel_rfl
theorem ty_ptr_97 : Tryz.prog.underlying 97 = some (.pointer 227) := by kernel_rfl
theorem ty_ze_97 : zeB Tryz.prog 97 ([.pointer none]) := by unfold zeB; kernel_rfl
theorem ty_sc_98 : scB Tryz.prog 98 = true := by kernel_rfl
theorem ty_sl_98 : slB Tryz.prog 98 169 1 8 = true := by kernel_rfl
theorem ty_ap_98 : apB Tryz.prog 169 1 = true := by kernel_rfl
theorem ty_src_98 : srcB Tryz.prog 98 = true := by kernel_rfl
theorem ty_lz_98 : ((Tryz.prog.info? 169).bind (·.zero)).map (·.cells.size) = some 1 := by kernel_rfl
theorem ty_ze_98 : zeB Tryz.prog 98 ([.slice none 0 0]) := by unfold zeB; kernel_rfl
theorem ty_sc_99 : scB Tryz.prog 99 = true := by kernel_rfl
theorem ty_sl_99 : slB Tryz.prog 99 172 1 8 = true := by kernel_rfl
theorem ty_ap_99 : apB Tryz.prog 172 1 = true := by kernel_rfl
theorem ty_src_99 : srcB Tryz.prog 99 = true := by kernel_rfl
theorem ty_lz_99 : ((Tryz.prog.info? 172).bind (·.zero)).map (·.cells.size) = some 1 := by kernel_rfl
theorem ty_ze_99 : zeB Tryz.prog 99 ([.slice none 0 0]) := by unfold zeB; kernel_rfl
theorem ty_ag_100 : agB Tryz.prog 100 5 = true := by kernel_rfl
theorem ty_pl_100 : plB Tryz.prog 100 [(0, 1), (1, 1), (2, 1), (3, 1), (4, 1)] = true := by kernel_rfl
theorem ty_fld_100_0 : fldB Tryz.prog 100 0 = some (0, 96) := by kernel_rfl
theorem ty_fl_100_0 : flB Tryz.prog 100 0 0 = true := by kernel_rfl
theorem ty_fld_100_1 : fldB Tryz.prog 100 1 = some (1, 97) := by kernel_rfl
theorem ty_fl_100_1 : flB Tryz.prog 100 1 1 = true := by kernel_rfl
theorem ty_fld_100_2 : fldB Tryz.prog 100 2 = some (2, 98) := by kernel_rfl
theorem ty_fl_100_2 : flB Tryz.prog 100 2 2 = true := by kernel_rfl
theorem ty_fld_100_3 : fldB Tryz.prog 100 3 = some (3, 99) := by kernel_rfl
theorem ty_fl_100_3 : flB Tryz.prog 100 3 3 = true := by kernel_rfl
theorem ty_fld_100_4 : fldB Tryz.prog 100 4 = some (4, 9) := by kernel_rfl
theorem ty_fl_100_4 : flB Tryz.prog 100 4 4 = true := by kernel_rfl
theorem ty_ze_100 : zeB Tryz.prog 100 ([.pointer none, .pointer none, .slice none 0 0, .slice none 0 0, .string ByteArray.empty]) := by unfold zeB; kernel_rfl
theorem ty_ag_101 : agB Tryz.prog 101 5 = true := by kernel_rfl
theorem ty_pl_101 : plB Tryz.prog 101 [(0, 1), (1, 1), (2, 1), (3, 1), (4, 1)] = true := by kernel_rfl
theorem ty_fld_101_0 : fldB Tryz.prog 101 0 = some (0, 96) := by kernel_rfl
theorem ty_fl_101_0 : flB Tryz.prog 101 0 0 = true := by kernel_rfl
theorem ty_fld_101_1 : fldB Tryz.prog 101 1 = some (1, 97) := by kernel_rfl
theorem ty_fl_101_1 : flB Tryz.prog 101 1 1 = true := by kernel_rfl
theorem ty_fld_101_2 : fldB Tryz.prog 101 2 = some (2, 98) := by kernel_rfl
theorem ty_fl_101_2 : flB Tryz.prog 101 2 2 = true := by kernel_rfl
theorem ty_fld_101_3 : fldB Tryz.prog 101 3 = some (3, 99) := by kernel_rfl
theorem ty_fl_101_3 : flB Tryz.prog 101 3 3 = true := by kernel_rfl
theorem ty_fld_101_4 : fldB Tryz.prog 101 4 = some (4, 9) := by kernel_rfl
theorem ty_fl_101_4 : flB Tryz.prog 101 4 4 = true := by kernel_rfl
theorem ty_ze_101 : zeB Tryz.prog 101 ([.pointer none, .pointer none, .slice none 0 0, .slice none 0 0, .string ByteArray.empty]) := by unfold zeB; kernel_rfl
theorem ty_sc_102 : scB Tryz.prog 102 = true := by kernel_rfl
theorem ty_sc_103 : scB Tryz.prog 103 = true := by kernel_rfl
theorem ty_sc_104 : scB Tryz.prog 104 = true := by kernel_rfl
theorem ty_sc_105 : scB Tryz.prog 105 = true := by kernel_rfl
theorem ty_ag_106 : agB Tryz.prog 106 0 = true := by kernel_rfl
theorem ty_pl_106 : plB Tryz.prog 106 [] = true := by kernel_rfl
theorem ty_ze_106 : zeB Tryz.prog 106 ([]) := by unfold zeB; kernel_rfl
theorem ty_ag_107 : agB Tryz.prog 107 0 = true := by kernel_rfl
theorem ty_pl_107 : plB Tryz.prog 107 [] = true := by kernel_rfl
theorem ty_ze_107 : zeB Tryz.prog 107 ([]) := by unfold zeB; kernel_rfl
theorem ty_sc_108 : scB Tryz.prog 108 = true := by kernel_rfl
theorem ty_int_108 : Tryz.prog.underlying 108 = some (.int .u32) := by kernel_rfl
theorem ty_ze_108 : zeB Tryz.prog 108 ([.int .u32 0]) := by unfold zeB; kernel_rfl
theorem ty_ag_109 : agB Tryz.prog 109 2 = true := by kernel_rfl
theorem ty_pl_109 : plB Tryz.prog 109 [(0, 1), (1, 1)] = true := by kernel_rfl
theorem ty_fld_109_0 : fldB Tryz.prog 109 0 = some (0, 21) := by kernel_rfl
theorem ty_fl_109_0 : flB Tryz.prog 109 0 0 = true := by kernel_rfl
theorem ty_fld_109_1 : fldB Tryz.prog 109 1 = some (1, 108) := by kernel_rfl
theorem ty_fl_109_1 : flB Tryz.prog 109 1 1 = true := by kernel_rfl
theorem ty_ze_109 : zeB Tryz.prog 109 ([.int .i32 0, .int .u32 0]) := by unfold zeB; kernel_rfl
theorem ty_ag_110 : agB Tryz.prog 110 2 = true := by kernel_rfl
theorem ty_pl_110 : plB Tryz.prog 110 [(0, 1), (1, 1)] = true := by kernel_rfl
theorem ty_fld_110_0 : fldB Tryz.prog 110 0 = some (0, 21) := by kernel_rfl
theorem ty_fl_110_0 : flB Tryz.prog 110 0 0 = true := by kernel_rfl
theorem ty_fld_110_1 : fldB Tryz.prog 110 1 = some (1, 108) := by kernel_rfl
theorem ty_fl_110_1 : flB Tryz.prog 110 1 1 = true := by kernel_rfl
theorem ty_ze_110 : zeB Tryz.prog 110 ([.int .i32 0, .int .u32 0]) := by unfold zeB; kernel_rfl
theorem ty_ag_111 : agB Tryz.prog 111 2 = true := by kernel_rfl
theorem ty_pl_111 : plB Tryz.prog 111 [(0, 0), (0, 2)] = true := by kernel_rfl
theorem ty_fld_111_0 : fldB Tryz.prog 111 0 = some (0, 107) := by kernel_rfl
theorem ty_fld_111_1 : fldB Tryz.prog 111 1 = some (0, 110) := by kernel_rfl
theorem ty_fl_111_1 : flB Tryz.prog 111 1 0 = true := by kernel_rfl
theorem ty_ze_111 : zeB Tryz.prog 111 ([.int .i32 0, .int .u32 0]) := by unfold zeB; kernel_rfl
theorem ty_ag_112 : agB Tryz.prog 112 2 = true := by kernel_rfl
theorem ty_pl_112 : plB Tryz.prog 112 [(0, 0), (0, 2)] = true := by kernel_rfl
theorem ty_fld_112_0 : fldB Tryz.prog 112 0 = some (0, 107) := by kernel_rfl
theorem ty_fld_112_1 : fldB Tryz.prog 112 1 = some (0, 110) := by kernel_rfl
theorem ty_fl_112_1 : flB Tryz.prog 112 1 0 = true := by kernel_rfl
theorem ty_ze_112 : zeB Tryz.prog 112 ([.int .i32 0, .int .u32 0]) := by unfold zeB; kernel_rfl
theorem ty_sc_113 : scB Tryz.prog 113 = true := by kernel_rfl
theorem ty_map_113 : Tryz.prog.underlying 113 = some (.map 27 169) := by kernel_rfl
theorem ty_ze_113 : zeB Tryz.prog 113 ([.map none]) := by unfold zeB; kernel_rfl
theorem ty_sc_114 : scB Tryz.prog 114 = true := by kernel_rfl
theorem ty_map_114 : Tryz.prog.underlying 114 = some (.map 238 106) := by kernel_rfl
theorem ty_ze_114 : zeB Tryz.prog 114 ([.map none]) := by unfold zeB; kernel_rfl
theorem ty_sc_115 : scB Tryz.prog 115 = true := by kernel_rfl
theorem ty_map_115 : Tryz.prog.underlying 115 = some (.map 27 240) := by kernel_rfl
theorem ty_ze_115 : zeB Tryz.prog 115 ([.map none]) := by unfold zeB; kernel_rfl
theorem ty_ag_116 : agB Tryz.prog 116 5 = true := by kernel_rfl
theorem ty_pl_116 : plB Tryz.prog 116 [(0, 2), (2, 1), (3, 1), (4, 1)] = true := by kernel_rfl
theorem ty_fld_116_0 : fldB Tryz.prog 116 0 = some (0, 112) := by kernel_rfl
theorem ty_fl_116_0 : flB Tryz.prog 116 0 0 = true := by kernel_rfl
theorem ty_fld_116_1 : fldB Tryz.prog 116 1 = some (2, 113) := by kernel_rfl
theorem ty_fl_116_1 : flB Tryz.prog 116 1 2 = true := by kernel_rfl
theorem ty_fld_116_2 : fldB Tryz.prog 116 2 = some (3, 114) := by kernel_rfl
theorem ty_fl_116_2 : flB Tryz.prog 116 2 3 = true := by kernel_rfl
theorem ty_fld_116_3 : fldB Tryz.prog 116 3 = some (4, 115) := by kernel_rfl
theorem ty_fl_116_3 : flB Tryz.prog 116 3 4 = true := by kernel_rfl
theorem ty_ze_116 : zeB Tryz.prog 116 ([.int .i32 0, .int .u32 0, .map none, .map none, .map none]) := by unfold zeB; kernel_rfl
theorem ty_ag_117 : agB Tryz.prog 117 5 = true := by kernel_rfl
theorem ty_pl_117 : plB Tryz.prog 117 [(0, 2), (2, 1), (3, 1), (4, 1)] = true := by kernel_rfl
theorem ty_fld_117_0 : fldB Tryz.prog 117 0 = some (0, 112) := by kernel_rfl
theorem ty_fl_117_0 : flB Tryz.prog 117 0 0 = true := by kernel_rfl
theorem ty_fld_117_1 : fldB Tryz.prog 117 1 = some (2, 113) := by kernel_rfl
theorem ty_fl_117_1 : flB Tryz.prog 117 1 2 = true := by kernel_rfl
theorem ty_fld_117_2 : fldB Tryz.prog 117 2 = some (3, 114) := by kernel_rfl
theorem ty_fl_117_2 : flB Tryz.prog 117 2 3 = true := by kernel_rfl
theorem ty_fld_117_3 : fldB Tryz.prog 117 3 = some (4, 115) := by kernel_rfl
theorem ty_fl_117_3 : flB Tryz.prog 117 3 4 = true := by kernel_rfl
theorem ty_ze_117 : zeB Tryz.prog 117 ([.int .i32 0, .int .u32 0, .map none, .map none, .map none]) := by unfold zeB; kernel_rfl
theorem ty_sc_118 : scB Tryz.prog 118 = true := by kernel_rfl
theorem ty_sc_119 : scB Tryz.prog 119 = true := by kernel_rfl
theorem ty_sc_120 : scB Tryz.prog 120 = true := by kernel_rfl
theorem ty_sc_121 : scB Tryz.prog 121 = true := by kernel_rfl
theorem ty_sc_122 : scB Tryz.prog 122 = true := by kernel_rfl
theorem ty_sc_123 : scB Tryz.prog 123 = true := by kernel_rfl
theorem ty_sc_124 : scB Tryz.prog 124 = true := by kernel_rfl
theorem ty_sc_125 : scB Tryz.prog 125 = true := by kernel_rfl
theorem ty_sc_126 : scB Tryz.prog 126 = true := by kernel_rfl
theorem ty_sc_127 : scB Tryz.prog 127 = true := by kernel_rfl
theorem ty_sc_128 : scB Tryz.prog 128 = true := by kernel_rfl
theorem ty_sc_129 : scB Tryz.prog 129 = true := by kernel_rfl
theorem ty_sc_130 : scB Tryz.prog 130 = true := by kernel_rfl
theorem ty_ar_131 : arB Tryz.prog 131 8 108 1 = true := by kernel_rfl
theorem ty_ag_131 : agB Tryz.prog 131 8 = true := by kernel_rfl
theorem ty_un_131 : Tryz.prog.underlying 131 = some (.array 8 108) := by kernel_rfl
theorem ty_eg_131 : Tryz.prog.eqGuardType Tryz.prog.depth 131 = false := by kernel_rfl
theorem ty_ze_131 : zeB Tryz.prog 131 (List.replicate 8 (.int .u32 0)) := by unfold zeB; kernel_rfl
theorem ty_sc_132 : scB Tryz.prog 132 = true := by kernel_rfl
theorem ty_sc_133 : scB Tryz.prog 133 = true := by kernel_rfl
theorem ty_int_133 : Tryz.prog.underlying 133 = some (.int .u64) := by kernel_rfl
theorem ty_ze_133 : zeB Tryz.prog 133 ([.int .u64 0]) := by unfold zeB; kernel_rfl
theorem ty_ag_134 : agB Tryz.prog 134 4 = true := by kernel_rfl
theorem ty_pl_134 : plB Tryz.prog 134 [(0, 1), (1, 1), (2, 1), (3, 1)] = true := by kernel_rfl
theorem ty_fld_134_0 : fldB Tryz.prog 134 0 = some (0, 24) := by kernel_rfl
theorem ty_fl_134_0 : flB Tryz.prog 134 0 0 = true := by kernel_rfl
theorem ty_fld_134_1 : fldB Tryz.prog 134 1 = some (1, 27) := by kernel_rfl
theorem ty_fl_134_1 : flB Tryz.prog 134 1 1 = true := by kernel_rfl
theorem ty_fld_134_2 : fldB Tryz.prog 134 2 = some (2, 24) := by kernel_rfl
theorem ty_fl_134_2 : flB Tryz.prog 134 2 2 = true := by kernel_rfl
theorem ty_fld_134_3 : fldB Tryz.prog 134 3 = some (3, 24) := by kernel_rfl
theorem ty_fl_134_3 : flB Tryz.prog 134 3 3 = true := by kernel_rfl
theorem ty_ze_134 : zeB Tryz.prog 134 ([.int .u64 0, .int .u64 0, .int .u64 0, .int .u64 0]) := by unfold zeB; kernel_rfl
theorem ty_ag_135 : agB Tryz.prog 135 4 = true := by kernel_rfl
theorem ty_pl_135 : plB Tryz.prog 135 [(0, 1), (1, 1), (2, 1), (3, 1)] = true := by kernel_rfl
theorem ty_fld_135_0 : fldB Tryz.prog 135 0 = some (0, 24) := by kernel_rfl
theorem ty_fl_135_0 : flB Tryz.prog 135 0 0 = true := by kernel_rfl
theorem ty_fld_135_1 : fldB Tryz.prog 135 1 = some (1, 27) := by kernel_rfl
theorem ty_fl_135_1 : flB Tryz.prog 135 1 1 = true := by kernel_rfl
theorem ty_fld_135_2 : fldB Tryz.prog 135 2 = some (2, 24) := by kernel_rfl
theorem ty_fl_135_2 : flB Tryz.prog 135 2 2 = true := by kernel_rfl
theorem ty_fld_135_3 : fldB Tryz.prog 135 3 = some (3, 24) := by kernel_rfl
theorem ty_fl_135_3 : flB Tryz.prog 135 3 3 = true := by kernel_rfl
theorem ty_ze_135 : zeB Tryz.prog 135 ([.int .u64 0, .int .u64 0, .int .u64 0, .int .u64 0]) := by unfold zeB; kernel_rfl
theorem ty_sc_136 : scB Tryz.prog 136 = true := by kernel_rfl
theorem ty_sc_137 : scB Tryz.prog 137 = true := by kernel_rfl
theorem ty_sc_138 : scB Tryz.prog 138 = true := by kernel_rfl
theorem ty_sc_139 : scB Tryz.prog 139 = true := by kernel_rfl
theorem ty_ag_140 : agB Tryz.prog 140 2 = true := by kernel_rfl
theorem ty_pl_140 : plB Tryz.prog 140 [(0, 1), (1, 1)] = true := by kernel_rfl
theorem ty_fld_140_0 : fldB Tryz.prog 140 0 = some (0, 24) := by kernel_rfl
theorem ty_fl_140_0 : flB Tryz.prog 140 0 0 = true := by kernel_rfl
theorem ty_fld_140_1 : fldB Tryz.prog 140 1 = some (1, 24) := by kernel_rfl
theorem ty_fl_140_1 : flB Tryz.prog 140 1 1 = true := by kernel_rfl
theorem ty_ze_140 : zeB Tryz.prog 140 ([.int .u64 0, .int .u64 0]) := by unfold zeB; kernel_rfl
theorem ty_ag_141 : agB Tryz.prog 141 2 = true := by kernel_rfl
theorem ty_pl_141 : plB Tryz.prog 141 [(0, 1), (1, 1)] = true := by kernel_rfl
theorem ty_fld_141_0 : fldB Tryz.prog 141 0 = some (0, 24) := by kernel_rfl
theorem ty_fl_141_0 : flB Tryz.prog 141 0 0 = true := by kernel_rfl
theorem ty_fld_141_1 : fldB Tryz.prog 141 1 = some (1, 24) := by kernel_rfl
theorem ty_fl_141_1 : flB Tryz.prog 141 1 1 = true := by kernel_rfl
theorem ty_ze_141 : zeB Tryz.prog 141 ([.int .u64 0, .int .u64 0]) := by unfold zeB; kernel_rfl
theorem ty_sc_143 : scB Tryz.prog 143 = true := by kernel_rfl
theorem ty_sc_144 : scB Tryz.prog 144 = true := by kernel_rfl
theorem ty_sc_145 : scB Tryz.prog 145 = true := by kernel_rfl
theorem ty_sc_146 : scB Tryz.prog 146 = true := by kernel_rfl
theorem ty_sc_147 : scB Tryz.prog 147 = true := by kernel_rfl
theorem ty_sc_148 : scB Tryz.prog 148 = true := by kernel_rfl
theorem ty_ptr_148 : Tryz.prog.underlying 148 = some (.pointer 24) := by kernel_rfl
theorem ty_ze_148 : zeB Tryz.prog 148 ([.pointer none]) := by unfold zeB; kernel_rfl
theorem ty_sc_149 : scB Tryz.prog 149 = true := by kernel_rfl
theorem ty_sc_150 : scB Tryz.prog 150 = true := by kernel_rfl
theorem ty_sc_151 : scB Tryz.prog 151 = true := by kernel_rfl
theorem ty_ptr_151 : Tryz.prog.underlying 151 = some (.pointer 135) := by kernel_rfl
theorem ty_ze_151 : zeB Tryz.prog 151 ([.pointer none]) := by unfold zeB; kernel_rfl
theorem ty_sc_152 : scB Tryz.prog 152 = true := by kernel_rfl
theorem ty_sc_153 : scB Tryz.prog 153 = true := by kernel_rfl
theorem ty_sc_154 : scB Tryz.prog 154 = true := by kernel_rfl
theorem ty_sc_155 : scB Tryz.prog 155 = true := by kernel_rfl
theorem ty_sc_156 : scB Tryz.prog 156 = true := by kernel_rfl
theorem ty_sc_157 : scB Tryz.prog 157 = true := by kernel_rfl
theorem ty_sc_159 : scB Tryz.prog 159 = true := by kernel_rfl
theorem ty_sc_161 : scB Tryz.prog 161 = true := by kernel_rfl
theorem ty_sc_162 : scB Tryz.prog 162 = true := by kernel_rfl
theorem ty_sl_162 : slB Tryz.prog 162 3 1 8 = true := by kernel_rfl
theorem ty_ap_162 : apB Tryz.prog 3 1 = true := by kernel_rfl
theorem ty_src_162 : srcB Tryz.prog 162 = true := by kernel_rfl
theorem ty_lz_162 : ((Tryz.prog.info? 3).bind (·.zero)).map (·.cells.size) = some 1 := by kernel_rfl
theorem ty_ze_162 : zeB Tryz.prog 162 ([.slice none 0 0]) := by unfold zeB; kernel_rfl
theorem ty_sc_163 : scB Tryz.prog 163 = true := by kernel_rfl
theorem ty_sl_163 : slB Tryz.prog 163 4 1 1 = true := by kernel_rfl
theorem ty_ap_163 : apB Tryz.prog 4 1 = true := by kernel_rfl
theorem ty_src_163 : srcB Tryz.prog 163 = true := by kernel_rfl
theorem ty_lz_163 : ((Tryz.prog.info? 4).bind (·.zero)).map (·.cells.size) = some 1 := by kernel_rfl
theorem ty_ze_163 : zeB Tryz.prog 163 ([.slice none 0 0]) := by unfold zeB; kernel_rfl
theorem ty_sc_164 : scB Tryz.prog 164 = true := by kernel_rfl
theorem ty_sc_165 : scB Tryz.prog 165 = true := by kernel_rfl
theorem ty_sl_165 : slB Tryz.prog 165 22 1 24 = true := by kernel_rfl
theorem ty_ap_165 : apB Tryz.prog 22 1 = true := by kernel_rfl
theorem ty_src_165 : srcB Tryz.prog 165 = true := by kernel_rfl
theorem ty_lz_165 : ((Tryz.prog.info? 22).bind (·.zero)).map (·.cells.size) = some 1 := by kernel_rfl
theorem ty_ze_165 : zeB Tryz.prog 165 ([.slice none 0 0]) := by unfold zeB; kernel_rfl
theorem ty_sc_166 : scB Tryz.prog 166 = true := by kernel_rfl
theorem ty_sc_167 : scB Tryz.prog 167 = true := by kernel_rfl
theorem ty_sc_168 : scB Tryz.prog 168 = true := by kernel_rfl
theorem ty_sc_169 : scB Tryz.prog 169 = true := by kernel_rfl
theorem ty_ptr_169 : Tryz.prog.underlying 169 = some (.pointer 230) := by kernel_rfl
theorem ty_ze_169 : zeB Tryz.prog 169 ([.pointer none]) := by unfold zeB; kernel_rfl
theorem ty_sc_171 : scB Tryz.prog 171 = true := by kernel_rfl
theorem ty_sc_172 : scB Tryz.prog 172 = true := by kernel_rfl
theorem ty_ptr_172 : Tryz.prog.underlying 172 = some (.pointer 232) := by kernel_rfl
theorem ty_ze_172 : zeB Tryz.prog 172 ([.pointer none]) := by unfold zeB; kernel_rfl
theorem ty_sc_174 : scB Tryz.prog 174 = true := by kernel_rfl
theorem ty_sc_176 : scB Tryz.prog 176 = true := by kernel_rfl
theorem ty_sc_177 : scB Tryz.prog 177 = true := by kernel_rfl
theorem ty_sc_179 : scB Tryz.prog 179 = true := by kernel_rfl
theorem ty_sc_180 : scB Tryz.prog 180 = true := by kernel_rfl
theorem ty_ptr_180 : Tryz.prog.underlying 180 = some (.pointer 38) := by kernel_rfl
theorem ty_ze_180 : zeB Tryz.prog 180 ([.pointer none]) := by unfold zeB; kernel_rfl
theorem ty_sc_181 : scB Tryz.prog 181 = true := by kernel_rfl
theorem ty_sc_182 : scB Tryz.prog 182 = true := by kernel_rfl
theorem ty_sc_183 : scB Tryz.prog 183 = true := by kernel_rfl
theorem ty_sc_184 : scB Tryz.prog 184 = true := by kernel_rfl
theorem ty_sc_185 : scB Tryz.prog 185 = true := by kernel_rfl
theorem ty_sc_186 : scB Tryz.prog 186 = true := by kernel_rfl
theorem ty_sc_187 : scB Tryz.prog 187 = true := by kernel_rfl
theorem ty_sc_189 : scB Tryz.prog 189 = true := by kernel_rfl
theorem ty_sc_190 : scB Tryz.prog 190 = true := by kernel_rfl
theorem ty_sc_191 : scB Tryz.prog 191 = true := by kernel_rfl
theorem ty_sc_192 : scB Tryz.prog 192 = true := by kernel_rfl
theorem ty_sc_193 : scB Tryz.prog 193 = true := by kernel_rfl
theorem ty_sc_195 : scB Tryz.prog 195 = true := by kernel_rfl
theorem ty_sc_196 : scB Tryz.prog 196 = true := by kernel_rfl
theorem ty_sc_197 : scB Tryz.prog 197 = true := by kernel_rfl
theorem ty_sc_198 : scB Tryz.prog 198 = true := by kernel_rfl
theorem ty_sc_199 : scB Tryz.prog 199 = true := by kernel_rfl
theorem ty_ptr_199 : Tryz.prog.underlying 199 = some (.pointer 263) := by kernel_rfl
theorem ty_ze_199 : zeB Tryz.prog 199 ([.pointer none]) := by unfold zeB; kernel_rfl
theorem ty_sc_200 : scB Tryz.prog 200 = true := by kernel_rfl
theorem ty_sc_201 : scB Tryz.prog 201 = true := by kernel_rfl
theorem ty_ar_202 : arB Tryz.prog 202 4 24 1 = true := by kernel_rfl
theorem ty_ag_202 : agB Tryz.prog 202 4 = true := by kernel_rfl
theorem ty_un_202 : Tryz.prog.underlying 202 = some (.array 4 24) := by kernel_rfl
theorem ty_eg_202 : Tryz.prog.eqGuardType Tryz.prog.depth 202 = false := by kernel_rfl
theorem ty_ze_202 : zeB Tryz.prog 202 ([.int .u64 0, .int .u64 0, .int .u64 0, .int .u64 0]) := by unfold zeB; kernel_rfl
theorem ty_sc_203 : scB Tryz.prog 203 = true := by kernel_rfl
theorem ty_sc_204 : scB Tryz.prog 204 = true := by kernel_rfl
theorem ty_sc_205 : scB Tryz.prog 205 = true := by kernel_rfl
theorem ty_sc_206 : scB Tryz.prog 206 = true := by kernel_rfl
theorem ty_sc_207 : scB Tryz.prog 207 = true := by kernel_rfl
theorem ty_ar_208 : arB Tryz.prog 208 64 108 1 = true := by kernel_rfl
theorem ty_ag_208 : agB Tryz.prog 208 64 = true := by kernel_rfl
theorem ty_un_208 : Tryz.prog.underlying 208 = some (.array 64 108) := by kernel_rfl
theorem ty_eg_208 : Tryz.prog.eqGuardType Tryz.prog.depth 208 = false := by kernel_rfl
theorem ty_ze_208 : zeB Tryz.prog 208 (List.replicate 64 (.int .u32 0)) := by unfold zeB; kernel_rfl
theorem ty_sc_209 : scB Tryz.prog 209 = true := by kernel_rfl
theorem ty_sc_210 : scB Tryz.prog 210 = true := by kernel_rfl
theorem ty_sc_211 : scB Tryz.prog 211 = true := by kernel_rfl
theorem ty_sc_212 : scB Tryz.prog 212 = true := by kernel_rfl
theorem ty_sc_214 : scB Tryz.prog 214 = true := by kernel_rfl
theorem ty_sc_215 : scB Tryz.prog 215 = true := by kernel_rfl
theorem ty_sc_216 : scB Tryz.prog 216 = true := by kernel_rfl
theorem ty_sc_217 : scB Tryz.prog 217 = true := by kernel_rfl
theorem ty_sc_218 : scB Tryz.prog 218 = true := by kernel_rfl
theorem ty_sc_219 : scB Tryz.prog 219 = true := by kernel_rfl
theorem ty_sc_220 : scB Tryz.prog 220 = true := by kernel_rfl
theorem ty_sc_221 : scB Tryz.prog 221 = true := by kernel_rfl
theorem ty_sc_222 : scB Tryz.prog 222 = true := by kernel_rfl
theorem ty_sc_223 : scB Tryz.prog 223 = true := by kernel_rfl
theorem ty_sc_224 : scB Tryz.prog 224 = true := by kernel_rfl
theorem ty_sl_224 : slB Tryz.prog 224 27 1 8 = true := by kernel_rfl
theorem ty_ap_224 : apB Tryz.prog 27 1 = true := by kernel_rfl
theorem ty_src_224 : srcB Tryz.prog 224 = true := by kernel_rfl
theorem ty_lz_224 : ((Tryz.prog.info? 27).bind (·.zero)).map (·.cells.size) = some 1 := by kernel_rfl
theorem ty_ze_224 : zeB Tryz.prog 224 ([.slice none 0 0]) := by unfold zeB; kernel_rfl
theorem ty_sc_225 : scB Tryz.prog 225 = true := by kernel_rfl
theorem ty_sl_225 : slB Tryz.prog 225 244 2 24 = true := by kernel_rfl
theorem ty_ap_225 : apB Tryz.prog 244 2 = true := by kernel_rfl
theorem ty_src_225 : srcB Tryz.prog 225 = true := by kernel_rfl
theorem ty_lz_225 : ((Tryz.prog.info? 244).bind (·.zero)).map (·.cells.size) = some 2 := by kernel_rfl
theorem ty_ze_225 : zeB Tryz.prog 225 ([.slice none 0 0]) := by unfold zeB; kernel_rfl
theorem ty_ag_226 : agB Tryz.prog 226 3 = true := by kernel_rfl
theorem ty_pl_226 : plB Tryz.prog 226 [(0, 1), (1, 1), (2, 1)] = true := by kernel_rfl
theorem ty_fld_226_0 : fldB Tryz.prog 226 0 = some (0, 4) := by kernel_rfl
theorem ty_fl_226_0 : flB Tryz.prog 226 0 0 = true := by kernel_rfl
theorem ty_fld_226_1 : fldB Tryz.prog 226 1 = some (1, 224) := by kernel_rfl
theorem ty_fl_226_1 : flB Tryz.prog 226 1 1 = true := by kernel_rfl
theorem ty_fld_226_2 : fldB Tryz.prog 226 2 = some (2, 225) := by kernel_rfl
theorem ty_fl_226_2 : flB Tryz.prog 226 2 2 = true := by kernel_rfl
theorem ty_ze_226 : zeB Tryz.prog 226 ([.bool false, .slice none 0 0, .slice none 0 0]) := by unfold zeB; kernel_rfl
theorem ty_ag_227 : agB Tryz.prog 227 3 = true := by kernel_rfl
theorem ty_pl_227 : plB Tryz.prog 227 [(0, 1), (1, 1), (2, 1)] = true := by kernel_rfl
theorem ty_fld_227_0 : fldB Tryz.prog 227 0 = some (0, 4) := by kernel_rfl
theorem ty_fl_227_0 : flB Tryz.prog 227 0 0 = true := by kernel_rfl
theorem ty_fld_227_1 : fldB Tryz.prog 227 1 = some (1, 224) := by kernel_rfl
theorem ty_fl_227_1 : flB Tryz.prog 227 1 1 = true := by kernel_rfl
theorem ty_fld_227_2 : fldB Tryz.prog 227 2 = some (2, 225) := by kernel_rfl
theorem ty_fl_227_2 : flB Tryz.prog 227 2 2 = true := by kernel_rfl
theorem ty_ze_227 : zeB Tryz.prog 227 ([.bool false, .slice none 0 0, .slice none 0 0]) := by unfold zeB; kernel_rfl
theorem ty_sc_228 : scB Tryz.prog 228 = true := by kernel_rfl
theorem ty_ag_229 : agB Tryz.prog 229 2 = true := by kernel_rfl
theorem ty_pl_229 : plB Tryz.prog 229 [(0, 1), (1, 1)] = true := by kernel_rfl
theorem ty_fld_229_0 : fldB Tryz.prog 229 0 = some (0, 96) := by kernel_rfl
theorem ty_fl_229_0 : flB Tryz.prog 229 0 0 = true := by kernel_rfl
theorem ty_fld_229_1 : fldB Tryz.prog 229 1 = some (1, 27) := by kernel_rfl
theorem ty_fl_229_1 : flB Tryz.prog 229 1 1 = true := by kernel_rfl
theorem ty_ze_229 : zeB Tryz.prog 229 ([.pointer none, .int .u64 0]) := by unfold zeB; kernel_rfl
theorem ty_ag_230 : agB Tryz.prog 230 2 = true := by kernel_rfl
theorem ty_pl_230 : plB Tryz.prog 230 [(0, 1), (1, 1)] = true := by kernel_rfl
theorem ty_fld_230_0 : fldB Tryz.prog 230 0 = some (0, 96) := by kernel_rfl
theorem ty_fl_230_0 : flB Tryz.prog 230 0 0 = true := by kernel_rfl
theorem ty_fld_230_1 : fldB Tryz.prog 230 1 = some (1, 27) := by kernel_rfl
theorem ty_fl_230_1 : flB Tryz.prog 230 1 1 = true := by kernel_rfl
theorem ty_ze_230 : zeB Tryz.prog 230 ([.pointer none, .int .u64 0]) := by unfold zeB; kernel_rfl
theorem ty_ag_231 : agB Tryz.prog 231 2 = true := by kernel_rfl
theorem ty_pl_231 : plB Tryz.prog 231 [(0, 1), (1, 1)] = true := by kernel_rfl
theorem ty_fld_231_0 : fldB Tryz.prog 231 0 = some (0, 97) := by kernel_rfl
theorem ty_fl_231_0 : flB Tryz.prog 231 0 0 = true := by kernel_rfl
theorem ty_fld_231_1 : fldB Tryz.prog 231 1 = some (1, 27) := by kernel_rfl
theorem ty_fl_231_1 : flB Tryz.prog 231 1 1 = true := by kernel_rfl
theorem ty_ze_231 : zeB Tryz.prog 231 ([.pointer none, .int .u64 0]) := by unfold zeB; kernel_rfl
theorem ty_ag_232 : agB Tryz.prog 232 2 = true := by kernel_rfl
theorem ty_pl_232 : plB Tryz.prog 232 [(0, 1), (1, 1)] = true := by kernel_rfl
theorem ty_fld_232_0 : fldB Tryz.prog 232 0 = some (0, 97) := by kernel_rfl
theorem ty_fl_232_0 : flB Tryz.prog 232 0 0 = true := by kernel_rfl
theorem ty_fld_232_1 : fldB Tryz.prog 232 1 = some (1, 27) := by kernel_rfl
theorem ty_fl_232_1 : flB Tryz.prog 232 1 1 = true := by kernel_rfl
theorem ty_ze_232 : zeB Tryz.prog 232 ([.pointer none, .int .u64 0]) := by unfold zeB; kernel_rfl
theorem ty_sc_233 : scB Tryz.prog 233 = true := by kernel_rfl
theorem ty_sc_234 : scB Tryz.prog 234 = true := by kernel_rfl
theorem ty_sc_235 : scB Tryz.prog 235 = true := by kernel_rfl
theorem ty_sc_236 : scB Tryz.prog 236 = true := by kernel_rfl
theorem ty_ag_237 : agB Tryz.prog 237 2 = true := by kernel_rfl
theorem ty_pl_237 : plB Tryz.prog 237 [(0, 1), (1, 1)] = true := by kernel_rfl
theorem ty_fld_237_0 : fldB Tryz.prog 237 0 = some (0, 27) := by kernel_rfl
theorem ty_fl_237_0 : flB Tryz.prog 237 0 0 = true := by kernel_rfl
theorem ty_fld_237_1 : fldB Tryz.prog 237 1 = some (1, 9) := by kernel_rfl
theorem ty_fl_237_1 : flB Tryz.prog 237 1 1 = true := by kernel_rfl
theorem ty_ze_237 : zeB Tryz.prog 237 ([.int .u64 0, .string ByteArray.empty]) := by unfold zeB; kernel_rfl
theorem ty_ag_238 : agB Tryz.prog 238 2 = true := by kernel_rfl
theorem ty_pl_238 : plB Tryz.prog 238 [(0, 1), (1, 1)] = true := by kernel_rfl
theorem ty_fld_238_0 : fldB Tryz.prog 238 0 = some (0, 27) := by kernel_rfl
theorem ty_fl_238_0 : flB Tryz.prog 238 0 0 = true := by kernel_rfl
theorem ty_fld_238_1 : fldB Tryz.prog 238 1 = some (1, 9) := by kernel_rfl
theorem ty_fl_238_1 : flB Tryz.prog 238 1 1 = true := by kernel_rfl
theorem ty_ze_238 : zeB Tryz.prog 238 ([.int .u64 0, .string ByteArray.empty]) := by unfold zeB; kernel_rfl
theorem ty_sc_240 : scB Tryz.prog 240 = true := by kernel_rfl
theorem ty_sl_240 : slB Tryz.prog 240 9 1 16 = true := by kernel_rfl
theorem ty_ap_240 : apB Tryz.prog 9 1 = true := by kernel_rfl
theorem ty_src_240 : srcB Tryz.prog 240 = true := by kernel_rfl
theorem ty_lz_240 : ((Tryz.prog.info? 9).bind (·.zero)).map (·.cells.size) = some 1 := by kernel_rfl
theorem ty_ze_240 : zeB Tryz.prog 240 ([.slice none 0 0]) := by unfold zeB; kernel_rfl
theorem ty_sc_241 : scB Tryz.prog 241 = true := by kernel_rfl
theorem ty_sc_242 : scB Tryz.prog 242 = true := by kernel_rfl
theorem ty_ag_243 : agB Tryz.prog 243 2 = true := by kernel_rfl
theorem ty_pl_243 : plB Tryz.prog 243 [(0, 1), (1, 1)] = true := by kernel_rfl
theorem ty_fld_243_0 : fldB Tryz.prog 243 0 = some (0, 27) := by kernel_rfl
theorem ty_fl_243_0 : flB Tryz.prog 243 0 0 = true := by kernel_rfl
theorem ty_fld_243_1 : fldB Tryz.prog 243 1 = some (1, 9) := by kernel_rfl
theorem ty_fl_243_1 : flB Tryz.prog 243 1 1 = true := by kernel_rfl
theorem ty_ze_243 : zeB Tryz.prog 243 ([.int .u64 0, .string ByteArray.empty]) := by unfold zeB; kernel_rfl
theorem ty_ag_244 : agB Tryz.prog 244 2 = true := by kernel_rfl
theorem ty_pl_244 : plB Tryz.prog 244 [(0, 1), (1, 1)] = true := by kernel_rfl
theorem ty_fld_244_0 : fldB Tryz.prog 244 0 = some (0, 27) := by kernel_rfl
theorem ty_fl_244_0 : flB Tryz.prog 244 0 0 = true := by kernel_rfl
theorem ty_fld_244_1 : fldB Tryz.prog 244 1 = some (1, 9) := by kernel_rfl
theorem ty_fl_244_1 : flB Tryz.prog 244 1 1 = true := by kernel_rfl
theorem ty_ze_244 : zeB Tryz.prog 244 ([.int .u64 0, .string ByteArray.empty]) := by unfold zeB; kernel_rfl
theorem ty_sc_245 : scB Tryz.prog 245 = true := by kernel_rfl
theorem ty_sc_246 : scB Tryz.prog 246 = true := by kernel_rfl
theorem ty_sc_247 : scB Tryz.prog 247 = true := by kernel_rfl
theorem ty_sc_248 : scB Tryz.prog 248 = true := by kernel_rfl
theorem ty_sc_249 : scB Tryz.prog 249 = true := by kernel_rfl
theorem ty_sc_250 : scB Tryz.prog 250 = true := by kernel_rfl
theorem ty_sc_251 : scB Tryz.prog 251 = true := by kernel_rfl
theorem ty_sc_252 : scB Tryz.prog 252 = true := by kernel_rfl
theorem ty_sc_253 : scB Tryz.prog 253 = true := by kernel_rfl
theorem ty_sc_254 : scB Tryz.prog 254 = true := by kernel_rfl
theorem ty_sc_255 : scB Tryz.prog 255 = true := by kernel_rfl
theorem ty_sc_256 : scB Tryz.prog 256 = true := by kernel_rfl
theorem ty_ar_257 : arB Tryz.prog 257 8 5 1 = true := by kernel_rfl
theorem ty_ag_257 : agB Tryz.prog 257 8 = true := by kernel_rfl
theorem ty_un_257 : Tryz.prog.underlying 257 = some (.array 8 5) := by kernel_rfl
theorem ty_eg_257 : Tryz.prog.eqGuardType Tryz.prog.depth 257 = false := by kernel_rfl
theorem ty_ze_257 : zeB Tryz.prog 257 (List.replicate 8 (.int .u8 0)) := by unfold zeB; kernel_rfl
theorem ty_sc_258 : scB Tryz.prog 258 = true := by kernel_rfl
theorem ty_sc_259 : scB Tryz.prog 259 = true := by kernel_rfl
theorem ty_ptr_259 : Tryz.prog.underlying 259 = some (.pointer 294) := by kernel_rfl
theorem ty_ze_259 : zeB Tryz.prog 259 ([.pointer none]) := by unfold zeB; kernel_rfl
theorem ty_sc_260 : scB Tryz.prog 260 = true := by kernel_rfl
theorem ty_sc_261 : scB Tryz.prog 261 = true := by kernel_rfl
theorem ty_ag_262 : agB Tryz.prog 262 3 = true := by kernel_rfl
theorem ty_pl_262 : plB Tryz.prog 262 [(0, 1), (1, 1), (2, 1)] = true := by kernel_rfl
theorem ty_fld_262_0 : fldB Tryz.prog 262 0 = some (0, 4) := by kernel_rfl
theorem ty_fl_262_0 : flB Tryz.prog 262 0 0 = true := by kernel_rfl
theorem ty_fld_262_1 : fldB Tryz.prog 262 1 = some (1, 48) := by kernel_rfl
theorem ty_fl_262_1 : flB Tryz.prog 262 1 1 = true := by kernel_rfl
theorem ty_fld_262_2 : fldB Tryz.prog 262 2 = some (2, 34) := by kernel_rfl
theorem ty_fl_262_2 : flB Tryz.prog 262 2 2 = true := by kernel_rfl
theorem ty_ze_262 : zeB Tryz.prog 262 ([.bool false, .slice none 0 0, .int .i64 0]) := by unfold zeB; kernel_rfl
theorem ty_ag_263 : agB Tryz.prog 263 3 = true := by kernel_rfl
theorem ty_pl_263 : plB Tryz.prog 263 [(0, 1), (1, 1), (2, 1)] = true := by kernel_rfl
theorem ty_fld_263_0 : fldB Tryz.prog 263 0 = some (0, 4) := by kernel_rfl
theorem ty_fl_263_0 : flB Tryz.prog 263 0 0 = true := by kernel_rfl
theorem ty_fld_263_1 : fldB Tryz.prog 263 1 = some (1, 48) := by kernel_rfl
theorem ty_fl_263_1 : flB Tryz.prog 263 1 1 = true := by kernel_rfl
theorem ty_fld_263_2 : fldB Tryz.prog 263 2 = some (2, 34) := by kernel_rfl
theorem ty_fl_263_2 : flB Tryz.prog 263 2 2 = true := by kernel_rfl
theorem ty_ze_263 : zeB Tryz.prog 263 ([.bool false, .slice none 0 0, .int .i64 0]) := by unfold zeB; kernel_rfl
theorem ty_sc_264 : scB Tryz.prog 264 = true := by kernel_rfl
theorem ty_sc_265 : scB Tryz.prog 265 = true := by kernel_rfl
theorem ty_sc_266 : scB Tryz.prog 266 = true := by kernel_rfl
theorem ty_sc_267 : scB Tryz.prog 267 = true := by kernel_rfl
theorem ty_ze_267 : zeB Tryz.prog 267 ([.nilIface]) := by unfold zeB; kernel_rfl
theorem ty_sc_268 : scB Tryz.prog 268 = true := by kernel_rfl
theorem ty_ze_268 : zeB Tryz.prog 268 ([.nilIface]) := by unfold zeB; kernel_rfl
theorem ty_sc_269 : scB Tryz.prog 269 = true := by kernel_rfl
theorem ty_sc_270 : scB Tryz.prog 270 = true := by kernel_rfl
theorem ty_sc_271 : scB Tryz.prog 271 = true := by kernel_rfl
theorem ty_int_271 : Tryz.prog.underlying 271 = some (.int .i64) := by kernel_rfl
theorem ty_ze_271 : zeB Tryz.prog 271 ([.int .i64 0]) := by unfold zeB; kernel_rfl
theorem ty_sc_273 : scB Tryz.prog 273 = true := by kernel_rfl
theorem ty_sc_274 : scB Tryz.prog 274 = true := by kernel_rfl
theorem ty_sc_275 : scB Tryz.prog 275 = true := by kernel_rfl
theorem ty_sc_276 : scB Tryz.prog 276 = true := by kernel_rfl
theorem ty_sc_277 : scB Tryz.prog 277 = true := by kernel_rfl
theorem ty_sc_278 : scB Tryz.prog 278 = true := by kernel_rfl
theorem ty_ptr_278 : Tryz.prog.underlying 278 = some (.pointer 112) := by kernel_rfl
theorem ty_ze_278 : zeB Tryz.prog 278 ([.pointer none]) := by unfold zeB; kernel_rfl
theorem ty_sc_279 : scB Tryz.prog 279 = true := by kernel_rfl
theorem ty_sc_280 : scB Tryz.prog 280 = true := by kernel_rfl
theorem ty_sc_281 : scB Tryz.prog 281 = true := by kernel_rfl
theorem ty_sc_282 : scB Tryz.prog 282 = true := by kernel_rfl
theorem ty_sc_283 : scB Tryz.prog 283 = true := by kernel_rfl
theorem ty_sc_284 : scB Tryz.prog 284 = true := by kernel_rfl
theorem ty_sc_285 : scB Tryz.prog 285 = true := by kernel_rfl
theorem ty_sc_286 : scB Tryz.prog 286 = true := by kernel_rfl
theorem ty_sc_287 : scB Tryz.prog 287 = true := by kernel_rfl
theorem ty_ar_288 : arB Tryz.prog 288 5 24 1 = true := by kernel_rfl
theorem ty_ag_288 : agB Tryz.prog 288 5 = true := by kernel_rfl
theorem ty_un_288 : Tryz.prog.underlying 288 = some (.array 5 24) := by kernel_rfl
theorem ty_eg_288 : Tryz.prog.eqGuardType Tryz.prog.depth 288 = false := by kernel_rfl
theorem ty_ze_288 : zeB Tryz.prog 288 (List.replicate 5 (.int .u64 0)) := by unfold zeB; kernel_rfl
theorem ty_sc_289 : scB Tryz.prog 289 = true := by kernel_rfl
theorem ty_sc_290 : scB Tryz.prog 290 = true := by kernel_rfl
theorem ty_ar_291 : arB Tryz.prog 291 8 108 1 = true := by kernel_rfl
theorem ty_ag_291 : agB Tryz.prog 291 8 = true := by kernel_rfl
theorem ty_un_291 : Tryz.prog.underlying 291 = some (.array 8 108) := by kernel_rfl
theorem ty_eg_291 : Tryz.prog.eqGuardType Tryz.prog.depth 291 = false := by kernel_rfl
theorem ty_ze_291 : zeB Tryz.prog 291 (List.replicate 8 (.int .u32 0)) := by unfold zeB; kernel_rfl
theorem ty_ar_292 : arB Tryz.prog 292 64 5 1 = true := by kernel_rfl
theorem ty_ag_292 : agB Tryz.prog 292 64 = true := by kernel_rfl
theorem ty_un_292 : Tryz.prog.underlying 292 = some (.array 64 5) := by kernel_rfl
theorem ty_eg_292 : Tryz.prog.eqGuardType Tryz.prog.depth 292 = false := by kernel_rfl
theorem ty_ze_292 : zeB Tryz.prog 292 (List.replicate 64 (.int .u8 0)) := by unfold zeB; kernel_rfl
theorem ty_ag_293 : agB Tryz.prog 293 75 = true := by kernel_rfl
theorem ty_pl_293 : plB Tryz.prog 293 [(0, 1), (1, 8), (9, 64), (73, 1), (74, 1)] = true := by kernel_rfl
theorem ty_fld_293_0 : fldB Tryz.prog 293 0 = some (0, 4) := by kernel_rfl
theorem ty_fl_293_0 : flB Tryz.prog 293 0 0 = true := by kernel_rfl
theorem ty_fld_293_1 : fldB Tryz.prog 293 1 = some (1, 291) := by kernel_rfl
theorem ty_fl_293_1 : flB Tryz.prog 293 1 1 = true := by kernel_rfl
theorem ty_fld_293_2 : fldB Tryz.prog 293 2 = some (9, 292) := by kernel_rfl
theorem ty_fl_293_2 : flB Tryz.prog 293 2 9 = true := by kernel_rfl
theorem ty_fld_293_3 : fldB Tryz.prog 293 3 = some (73, 3) := by kernel_rfl
theorem ty_fl_293_3 : flB Tryz.prog 293 3 73 = true := by kernel_rfl
theorem ty_fld_293_4 : fldB Tryz.prog 293 4 = some (74, 24) := by kernel_rfl
theorem ty_fl_293_4 : flB Tryz.prog 293 4 74 = true := by kernel_rfl
theorem ty_ze_293 : zeB Tryz.prog 293 ([.bool false] ++ List.replicate 8 (.int .u32 0) ++ List.replicate 64 (.int .u8 0) ++ [.int .i64 0, .int .u64 0]) := by unfold zeB; kernel_rfl
theorem ty_ag_294 : agB Tryz.prog 294 75 = true := by kernel_rfl
theorem ty_pl_294 : plB Tryz.prog 294 [(0, 1), (1, 8), (9, 64), (73, 1), (74, 1)] = true := by kernel_rfl
theorem ty_fld_294_0 : fldB Tryz.prog 294 0 = some (0, 4) := by kernel_rfl
theorem ty_fl_294_0 : flB Tryz.prog 294 0 0 = true := by kernel_rfl
theorem ty_fld_294_1 : fldB Tryz.prog 294 1 = some (1, 291) := by kernel_rfl
theorem ty_fl_294_1 : flB Tryz.prog 294 1 1 = true := by kernel_rfl
theorem ty_fld_294_2 : fldB Tryz.prog 294 2 = some (9, 292) := by kernel_rfl
theorem ty_fl_294_2 : flB Tryz.prog 294 2 9 = true := by kernel_rfl
theorem ty_fld_294_3 : fldB Tryz.prog 294 3 = some (73, 3) := by kernel_rfl
theorem ty_fl_294_3 : flB Tryz.prog 294 3 73 = true := by kernel_rfl
theorem ty_fld_294_4 : fldB Tryz.prog 294 4 = some (74, 24) := by kernel_rfl
theorem ty_fl_294_4 : flB Tryz.prog 294 4 74 = true := by kernel_rfl
theorem ty_ze_294 : zeB Tryz.prog 294 ([.bool false] ++ List.replicate 8 (.int .u32 0) ++ List.replicate 64 (.int .u8 0) ++ [.int .i64 0, .int .u64 0]) := by unfold zeB; kernel_rfl
theorem ty_sc_295 : scB Tryz.prog 295 = true := by kernel_rfl
theorem ty_sc_296 : scB Tryz.prog 296 = true := by kernel_rfl
theorem ty_int_296 : Tryz.prog.underlying 296 = some (.int .u64) := by kernel_rfl
theorem ty_ze_296 : zeB Tryz.prog 296 ([.int .u64 0]) := by unfold zeB; kernel_rfl
theorem ty_sc_297 : scB Tryz.prog 297 = true := by kernel_rfl
theorem ty_sc_298 : scB Tryz.prog 298 = true := by kernel_rfl
theorem ty_sc_299 : scB Tryz.prog 299 = true := by kernel_rfl
theorem ty_sc_300 : scB Tryz.prog 300 = true := by kernel_rfl
theorem ty_ptr_300 : Tryz.prog.underlying 300 = some (.pointer 3) := by kernel_rfl
theorem ty_ze_300 : zeB Tryz.prog 300 ([.pointer none]) := by unfold zeB; kernel_rfl
theorem ty_sc_301 : scB Tryz.prog 301 = true := by kernel_rfl
theorem ty_sc_302 : scB Tryz.prog 302 = true := by kernel_rfl
theorem ty_ptr_302 : Tryz.prog.underlying 302 = some (.pointer 110) := by kernel_rfl
theorem ty_ze_302 : zeB Tryz.prog 302 ([.pointer none]) := by unfold zeB; kernel_rfl
theorem ty_sc_303 : scB Tryz.prog 303 = true := by kernel_rfl
theorem ty_sc_304 : scB Tryz.prog 304 = true := by kernel_rfl
theorem ty_ptr_304 : Tryz.prog.underlying 304 = some (.pointer 21) := by kernel_rfl
theorem ty_ze_304 : zeB Tryz.prog 304 ([.pointer none]) := by unfold zeB; kernel_rfl
theorem ty_sc_305 : scB Tryz.prog 305 = true := by kernel_rfl
theorem ty_ze_306 : zeB Tryz.prog 306 ([.pointer none]) := by unfold zeB; kernel_rfl
theorem ty_sc_307 : scB Tryz.prog 307 = true := by kernel_rfl
theorem ty_sc_308 : scB Tryz.prog 308 = true := by kernel_rfl
theorem ty_sc_309 : scB Tryz.prog 309 = true := by kernel_rfl
theorem ty_sc_310 : scB Tryz.prog 310 = true := by kernel_rfl
theorem ty_sc_311 : scB Tryz.prog 311 = true := by kernel_rfl
theorem ty_sl_311 : slB Tryz.prog 311 34 1 8 = true := by kernel_rfl
theorem ty_ap_311 : apB Tryz.prog 34 1 = true := by kernel_rfl
theorem ty_src_311 : srcB Tryz.prog 311 = true := by kernel_rfl
theorem ty_lz_311 : ((Tryz.prog.info? 34).bind (·.zero)).map (·.cells.size) = some 1 := by kernel_rfl
theorem ty_ze_311 : zeB Tryz.prog 311 ([.slice none 0 0]) := by unfold zeB; kernel_rfl
theorem ty_sc_312 : scB Tryz.prog 312 = true := by kernel_rfl
theorem ty_sc_313 : scB Tryz.prog 313 = true := by kernel_rfl
theorem ty_sc_314 : scB Tryz.prog 314 = true := by kernel_rfl
theorem ty_ptr_314 : Tryz.prog.underlying 314 = some (.pointer 296) := by kernel_rfl
theorem ty_ze_314 : zeB Tryz.prog 314 ([.pointer none]) := by unfold zeB; kernel_rfl
theorem ty_sc_316 : scB Tryz.prog 316 = true := by kernel_rfl
theorem ty_sc_317 : scB Tryz.prog 317 = true := by kernel_rfl
theorem ty_sc_318 : scB Tryz.prog 318 = true := by kernel_rfl
theorem ty_sc_319 : scB Tryz.prog 319 = true := by kernel_rfl
theorem ty_sc_320 : scB Tryz.prog 320 = true := by kernel_rfl
theorem ty_ptr_320 : Tryz.prog.underlying 320 = some (.pointer 108) := by kernel_rfl
theorem ty_ze_320 : zeB Tryz.prog 320 ([.pointer none]) := by unfold zeB; kernel_rfl
theorem ty_sc_321 : scB Tryz.prog 321 = true := by kernel_rfl
theorem ty_ptr_321 : Tryz.prog.underlying 321 = some (.pointer 338) := by kernel_rfl
theorem ty_ze_321 : zeB Tryz.prog 321 ([.pointer none]) := by unfold zeB; kernel_rfl
theorem ty_sc_322 : scB Tryz.prog 322 = true := by kernel_rfl
theorem ty_ag_323 : agB Tryz.prog 323 4 = true := by kernel_rfl
theorem ty_pl_323 : plB Tryz.prog 323 [(0, 1), (1, 1), (2, 1), (3, 1)] = true := by kernel_rfl
theorem ty_fld_323_0 : fldB Tryz.prog 323 0 = some (0, 17) := by kernel_rfl
theorem ty_fl_323_0 : flB Tryz.prog 323 0 0 = true := by kernel_rfl
theorem ty_fld_323_1 : fldB Tryz.prog 323 1 = some (1, 17) := by kernel_rfl
theorem ty_fl_323_1 : flB Tryz.prog 323 1 1 = true := by kernel_rfl
theorem ty_fld_323_2 : fldB Tryz.prog 323 2 = some (2, 17) := by kernel_rfl
theorem ty_fl_323_2 : flB Tryz.prog 323 2 2 = true := by kernel_rfl
theorem ty_fld_323_3 : fldB Tryz.prog 323 3 = some (3, 9) := by kernel_rfl
theorem ty_fl_323_3 : flB Tryz.prog 323 3 3 = true := by kernel_rfl
theorem ty_ze_323 : zeB Tryz.prog 323 ([.pointer none, .pointer none, .pointer none, .string ByteArray.empty]) := by unfold zeB; kernel_rfl
theorem ty_ag_324 : agB Tryz.prog 324 4 = true := by kernel_rfl
theorem ty_pl_324 : plB Tryz.prog 324 [(0, 1), (1, 1), (2, 1), (3, 1)] = true := by kernel_rfl
theorem ty_fld_324_0 : fldB Tryz.prog 324 0 = some (0, 17) := by kernel_rfl
theorem ty_fl_324_0 : flB Tryz.prog 324 0 0 = true := by kernel_rfl
theorem ty_fld_324_1 : fldB Tryz.prog 324 1 = some (1, 17) := by kernel_rfl
theorem ty_fl_324_1 : flB Tryz.prog 324 1 1 = true := by kernel_rfl
theorem ty_fld_324_2 : fldB Tryz.prog 324 2 = some (2, 17) := by kernel_rfl
theorem ty_fl_324_2 : flB Tryz.prog 324 2 2 = true := by kernel_rfl
theorem ty_fld_324_3 : fldB Tryz.prog 324 3 = some (3, 9) := by kernel_rfl
theorem ty_fl_324_3 : flB Tryz.prog 324 3 3 = true := by kernel_rfl
theorem ty_ze_324 : zeB Tryz.prog 324 ([.pointer none, .pointer none, .pointer none, .string ByteArray.empty]) := by unfold zeB; kernel_rfl
theorem ty_ar_325 : arB Tryz.prog 325 0 16 1 = true := by kernel_rfl
theorem ty_ag_325 : agB Tryz.prog 325 0 = true := by kernel_rfl
theorem ty_ze_325 : zeB Tryz.prog 325 ([]) := by unfold zeB; kernel_rfl
theorem ty_ag_326 : agB Tryz.prog 326 0 = true := by kernel_rfl
theorem ty_ze_326 : zeB Tryz.prog 326 ([]) := by unfold zeB; kernel_rfl
theorem ty_ag_327 : agB Tryz.prog 327 0 = true := by kernel_rfl
theorem ty_ze_327 : zeB Tryz.prog 327 ([]) := by unfold zeB; kernel_rfl
theorem ty_sc_328 : scB Tryz.prog 328 = true := by kernel_rfl
theorem ty_sc_329 : scB Tryz.prog 329 = true := by kernel_rfl
theorem ty_int_329 : Tryz.prog.underlying 329 = some (.int .u8) := by kernel_rfl
theorem ty_ze_329 : zeB Tryz.prog 329 ([.int .u8 0]) := by unfold zeB; kernel_rfl
theorem ty_sc_330 : scB Tryz.prog 330 = true := by kernel_rfl
theorem ty_int_330 : Tryz.prog.underlying 330 = some (.int .u8) := by kernel_rfl
theorem ty_ze_330 : zeB Tryz.prog 330 ([.int .u8 0]) := by unfold zeB; kernel_rfl
theorem ty_sc_331 : scB Tryz.prog 331 = true := by kernel_rfl
theorem ty_sc_332 : scB Tryz.prog 332 = true := by kernel_rfl
theorem ty_ptr_332 : Tryz.prog.underlying 332 = some (.pointer 5) := by kernel_rfl
theorem ty_ze_332 : zeB Tryz.prog 332 ([.pointer none]) := by unfold zeB; kernel_rfl
theorem ty_sc_333 : scB Tryz.prog 333 = true := by kernel_rfl
theorem ty_int_333 : Tryz.prog.underlying 333 = some (.int .i32) := by kernel_rfl
theorem ty_ze_333 : zeB Tryz.prog 333 ([.int .i32 0]) := by unfold zeB; kernel_rfl
theorem ty_sc_334 : scB Tryz.prog 334 = true := by kernel_rfl
theorem ty_int_334 : Tryz.prog.underlying 334 = some (.int .i32) := by kernel_rfl
theorem ty_ze_334 : zeB Tryz.prog 334 ([.int .i32 0]) := by unfold zeB; kernel_rfl
theorem ty_ag_335 : agB Tryz.prog 335 11 = true := by kernel_rfl
theorem ty_pl_335 : plB Tryz.prog 335 [(0, 1), (1, 1), (2, 1), (3, 1), (4, 1), (5, 1), (6, 1), (7, 1), (8, 1), (9, 1), (10, 1)] = true := by kernel_rfl
theorem ty_fld_335_0 : fldB Tryz.prog 335 0 = some (0, 12) := by kernel_rfl
theorem ty_fl_335_0 : flB Tryz.prog 335 0 0 = true := by kernel_rfl
theorem ty_fld_335_1 : fldB Tryz.prog 335 1 = some (1, 12) := by kernel_rfl
theorem ty_fl_335_1 : flB Tryz.prog 335 1 1 = true := by kernel_rfl
theorem ty_fld_335_2 : fldB Tryz.prog 335 2 = some (2, 108) := by kernel_rfl
theorem ty_fl_335_2 : flB Tryz.prog 335 2 2 = true := by kernel_rfl
theorem ty_fld_335_3 : fldB Tryz.prog 335 3 = some (3, 329) := by kernel_rfl
theorem ty_fl_335_3 : flB Tryz.prog 335 3 3 = true := by kernel_rfl
theorem ty_fld_335_4 : fldB Tryz.prog 335 4 = some (4, 5) := by kernel_rfl
theorem ty_fl_335_4 : flB Tryz.prog 335 4 4 = true := by kernel_rfl
theorem ty_fld_335_5 : fldB Tryz.prog 335 5 = some (5, 5) := by kernel_rfl
theorem ty_fl_335_5 : flB Tryz.prog 335 5 5 = true := by kernel_rfl
theorem ty_fld_335_6 : fldB Tryz.prog 335 6 = some (6, 330) := by kernel_rfl
theorem ty_fl_335_6 : flB Tryz.prog 335 6 6 = true := by kernel_rfl
theorem ty_fld_335_7 : fldB Tryz.prog 335 7 = some (7, 331) := by kernel_rfl
theorem ty_fl_335_7 : flB Tryz.prog 335 7 7 = true := by kernel_rfl
theorem ty_fld_335_8 : fldB Tryz.prog 335 8 = some (8, 332) := by kernel_rfl
theorem ty_fl_335_8 : flB Tryz.prog 335 8 8 = true := by kernel_rfl
theorem ty_fld_335_9 : fldB Tryz.prog 335 9 = some (9, 333) := by kernel_rfl
theorem ty_fl_335_9 : flB Tryz.prog 335 9 9 = true := by kernel_rfl
theorem ty_fld_335_10 : fldB Tryz.prog 335 10 = some (10, 334) := by kernel_rfl
theorem ty_fl_335_10 : flB Tryz.prog 335 10 10 = true := by kernel_rfl
theorem ty_ze_335 : zeB Tryz.prog 335 ([.int .u64 0, .int .u64 0, .int .u32 0, .int .u8 0, .int .u8 0, .int .u8 0, .int .u8 0, .nilFunc, .pointer none, .int .i32 0, .int .i32 0]) := by unfold zeB; kernel_rfl
theorem ty_ag_336 : agB Tryz.prog 336 11 = true := by kernel_rfl
theorem ty_pl_336 : plB Tryz.prog 336 [(0, 1), (1, 1), (2, 1), (3, 1), (4, 1), (5, 1), (6, 1), (7, 1), (8, 1), (9, 1), (10, 1)] = true := by kernel_rfl
theorem ty_fld_336_0 : fldB Tryz.prog 336 0 = some (0, 12) := by kernel_rfl
theorem ty_fl_336_0 : flB Tryz.prog 336 0 0 = true := by kernel_rfl
theorem ty_fld_336_1 : fldB Tryz.prog 336 1 = some (1, 12) := by kernel_rfl
theorem ty_fl_336_1 : flB Tryz.prog 336 1 1 = true := by kernel_rfl
theorem ty_fld_336_2 : fldB Tryz.prog 336 2 = some (2, 108) := by kernel_rfl
theorem ty_fl_336_2 : flB Tryz.prog 336 2 2 = true := by kernel_rfl
theorem ty_fld_336_3 : fldB Tryz.prog 336 3 = some (3, 329) := by kernel_rfl
theorem ty_fl_336_3 : flB Tryz.prog 336 3 3 = true := by kernel_rfl
theorem ty_fld_336_4 : fldB Tryz.prog 336 4 = some (4, 5) := by kernel_rfl
theorem ty_fl_336_4 : flB Tryz.prog 336 4 4 = true := by kernel_rfl
theorem ty_fld_336_5 : fldB Tryz.prog 336 5 = some (5, 5) := by kernel_rfl
theorem ty_fl_336_5 : flB Tryz.prog 336 5 5 = true := by kernel_rfl
theorem ty_fld_336_6 : fldB Tryz.prog 336 6 = some (6, 330) := by kernel_rfl
theorem ty_fl_336_6 : flB Tryz.prog 336 6 6 = true := by kernel_rfl
theorem ty_fld_336_7 : fldB Tryz.prog 336 7 = some (7, 331) := by kernel_rfl
theorem ty_fl_336_7 : flB Tryz.prog 336 7 7 = true := by kernel_rfl
theorem ty_fld_336_8 : fldB Tryz.prog 336 8 = some (8, 332) := by kernel_rfl
theorem ty_fl_336_8 : flB Tryz.prog 336 8 8 = true := by kernel_rfl
theorem ty_fld_336_9 : fldB Tryz.prog 336 9 = some (9, 333) := by kernel_rfl
theorem ty_fl_336_9 : flB Tryz.prog 336 9 9 = true := by kernel_rfl
theorem ty_fld_336_10 : fldB Tryz.prog 336 10 = some (10, 334) := by kernel_rfl
theorem ty_fl_336_10 : flB Tryz.prog 336 10 10 = true := by kernel_rfl
theorem ty_ze_336 : zeB Tryz.prog 336 ([.int .u64 0, .int .u64 0, .int .u32 0, .int .u8 0, .int .u8 0, .int .u8 0, .int .u8 0, .nilFunc, .pointer none, .int .i32 0, .int .i32 0]) := by unfold zeB; kernel_rfl
theorem ty_ag_337 : agB Tryz.prog 337 1 = true := by kernel_rfl
theorem ty_pl_337 : plB Tryz.prog 337 [(0, 1)] = true := by kernel_rfl
theorem ty_fld_337_0 : fldB Tryz.prog 337 0 = some (0, 9) := by kernel_rfl
theorem ty_fl_337_0 : flB Tryz.prog 337 0 0 = true := by kernel_rfl
theorem ty_ze_337 : zeB Tryz.prog 337 ([.string ByteArray.empty]) := by unfold zeB; kernel_rfl
theorem ty_ag_338 : agB Tryz.prog 338 1 = true := by kernel_rfl
theorem ty_pl_338 : plB Tryz.prog 338 [(0, 1)] = true := by kernel_rfl
theorem ty_fld_338_0 : fldB Tryz.prog 338 0 = some (0, 9) := by kernel_rfl
theorem ty_fl_338_0 : flB Tryz.prog 338 0 0 = true := by kernel_rfl
theorem ty_ze_338 : zeB Tryz.prog 338 ([.string ByteArray.empty]) := by unfold zeB; kernel_rfl
theorem ty_zv_106 : (Tryz.prog.info? 106).bind (·.zero) = some (.agg #[]) := by kernel_rfl
theorem ty_zv_169 : (Tryz.prog.info? 169).bind (·.zero) = some (.pointer none) := by kernel_rfl
theorem ty_zv_240 : (Tryz.prog.info? 240).bind (·.zero) = some (.slice none 0 0) := by kernel_rfl
theorem fn_ca_2 : callable Tryz.prog 2 = true := by kernel_rfl
theorem fn_ca_3 : callable Tryz.prog 3 = true := by kernel_rfl
theorem fn_ca_4 : callable Tryz.prog 4 = true := by kernel_rfl
theorem fn_ca_5 : callable Tryz.prog 5 = true := by kernel_rfl
theorem fn_ca_6 : callable Tryz.prog 6 = true := by kernel_rfl
theorem fn_ca_7 : callable Tryz.prog 7 = true := by kernel_rfl
theorem fn_ca_8 : callable Tryz.prog 8 = true := by kernel_rfl
theorem fn_ca_9 : callable Tryz.prog 9 = true := by kernel_rfl
theorem fn_ca_10 : callable Tryz.prog 10 = true := by kernel_rfl
theorem fn_ca_11 : callable Tryz.prog 11 = true := by kernel_rfl
theorem fn_ca_12 : callable Tryz.prog 12 = true := by kernel_rfl
theorem fn_ca_13 : callable Tryz.prog 13 = true := by kernel_rfl
theorem fn_ca_14 : callable Tryz.prog 14 = true := by kernel_rfl
theorem fn_ca_15 : callable Tryz.prog 15 = true := by kernel_rfl
theorem fn_ca_16 : callable Tryz.prog 16 = true := by kernel_rfl
theorem fn_ca_17 : callable Tryz.prog 17 = true := by kernel_rfl
theorem fn_ca_18 : callable Tryz.prog 18 = true := by kernel_rfl
theorem fn_ca_19 : callable Tryz.prog 19 = true := by kernel_rfl
theorem fn_ca_20 : callable Tryz.prog 20 = true := by kernel_rfl
theorem fn_ca_21 : callable Tryz.prog 21 = true := by kernel_rfl
theorem fn_ca_22 : callable Tryz.prog 22 = true := by kernel_rfl
theorem fn_ca_23 : callable Tryz.prog 23 = true := by kernel_rfl
theorem fn_ca_24 : callable Tryz.prog 24 = true := by kernel_rfl
theorem fn_ca_25 : callable Tryz.prog 25 = true := by kernel_rfl
theorem fn_ca_26 : callable Tryz.prog 26 = true := by kernel_rfl
theorem fn_ca_27 : callable Tryz.prog 27 = true := by kernel_rfl
theorem fn_ca_28 : callable Tryz.prog 28 = true := by kernel_rfl
theorem fn_ca_29 : callable Tryz.prog 29 = true := by kernel_rfl
theorem fn_ca_30 : callable Tryz.prog 30 = true := by kernel_rfl
theorem fn_ca_31 : callable Tryz.prog 31 = true := by kernel_rfl
theorem fn_ca_32 : callable Tryz.prog 32 = true := by kernel_rfl
theorem fn_ca_33 : callable Tryz.prog 33 = true := by kernel_rfl
theorem fn_ca_34 : callable Tryz.prog 34 = true := by kernel_rfl
theorem fn_ca_35 : callable Tryz.prog 35 = true := by kernel_rfl
theorem fn_ca_36 : callable Tryz.prog 36 = true := by kernel_rfl
theorem fn_ca_37 : callable Tryz.prog 37 = true := by kernel_rfl
theorem fn_ca_38 : callable Tryz.prog 38 = true := by kernel_rfl
theorem fn_ca_39 : callable Tryz.prog 39 = true := by kernel_rfl
theorem fn_ca_40 : callable Tryz.prog 40 = true := by kernel_rfl
theorem fn_ca_41 : callable Tryz.prog 41 = true := by kernel_rfl
theorem fn_ca_42 : callable Tryz.prog 42 = true := by kernel_rfl
theorem fn_ca_43 : callable Tryz.prog 43 = true := by kernel_rfl
theorem fn_ca_44 : callable Tryz.prog 44 = true := by kernel_rfl
theorem fn_ca_45 : callable Tryz.prog 45 = true := by kernel_rfl
theorem fn_ca_46 : callable Tryz.prog 46 = true := by kernel_rfl
theorem fn_ca_47 : callable Tryz.prog 47 = true := by kernel_rfl
theorem fn_ca_48 : callable Tryz.prog 48 = true := by kernel_rfl
theorem fn_ca_49 : callable Tryz.prog 49 = true := by kernel_rfl
theorem fn_ca_50 : callable Tryz.prog 50 = true := by kernel_rfl
theorem fn_ca_51 : callable Tryz.prog 51 = true := by kernel_rfl
theorem fn_ca_52 : callable Tryz.prog 52 = true := by kernel_rfl
theorem fn_ca_53 : callable Tryz.prog 53 = true := by kernel_rfl
theorem fn_ca_54 : callable Tryz.prog 54 = true := by kernel_rfl
theorem fn_ca_55 : callable Tryz.prog 55 = true := by kernel_rfl
theorem fn_ca_56 : callable Tryz.prog 56 = true := by kernel_rfl
theorem fn_ca_57 : callable Tryz.prog 57 = true := by kernel_rfl
theorem fn_ca_58 : callable Tryz.prog 58 = true := by kernel_rfl
theorem fn_ca_59 : callable Tryz.prog 59 = true := by kernel_rfl
theorem fn_ca_60 : callable Tryz.prog 60 = true := by kernel_rfl
theorem fn_ca_61 : callable Tryz.prog 61 = true := by kernel_rfl
theorem fn_ca_62 : callable Tryz.prog 62 = true := by kernel_rfl
theorem fn_ca_63 : callable Tryz.prog 63 = true := by kernel_rfl
theorem fn_ca_64 : callable Tryz.prog 64 = true := by kernel_rfl
theorem fn_ca_65 : callable Tryz.prog 65 = true := by kernel_rfl
theorem fn_ca_66 : callable Tryz.prog 66 = true := by kernel_rfl
theorem fn_ca_67 : callable Tryz.prog 67 = true := by kernel_rfl
theorem fn_ca_68 : callable Tryz.prog 68 = true := by kernel_rfl
theorem fn_ca_69 : callable Tryz.prog 69 = true := by kernel_rfl
theorem fn_ca_70 : callable Tryz.prog 70 = true := by kernel_rfl
theorem fn_ca_71 : callable Tryz.prog 71 = true := by kernel_rfl
theorem fn_ca_72 : callable Tryz.prog 72 = true := by kernel_rfl
theorem fn_ca_73 : callable Tryz.prog 73 = true := by kernel_rfl
theorem fn_ca_74 : callable Tryz.prog 74 = true := by kernel_rfl
theorem fn_ca_75 : callable Tryz.prog 75 = true := by kernel_rfl
theorem fn_ca_76 : callable Tryz.prog 76 = true := by kernel_rfl
theorem fn_ca_77 : callable Tryz.prog 77 = true := by kernel_rfl
theorem fn_ca_78 : callable Tryz.prog 78 = true := by kernel_rfl
theorem fn_ca_79 : callable Tryz.prog 79 = true := by kernel_rfl
theorem fn_ca_80 : callable Tryz.prog 80 = true := by kernel_rfl
theorem fn_ca_81 : callable Tryz.prog 81 = true := by kernel_rfl
theorem fn_ca_82 : callable Tryz.prog 82 = true := by kernel_rfl
theorem fn_ca_83 : callable Tryz.prog 83 = true := by kernel_rfl
theorem fn_ca_84 : callable Tryz.prog 84 = true := by kernel_rfl
theorem fn_ca_85 : callable Tryz.prog 85 = true := by kernel_rfl
theorem fn_ca_86 : callable Tryz.prog 86 = true := by kernel_rfl
theorem fn_ca_87 : callable Tryz.prog 87 = true := by kernel_rfl
theorem fn_ca_88 : callable Tryz.prog 88 = true := by kernel_rfl
theorem fn_ca_89 : callable Tryz.prog 89 = true := by kernel_rfl
theorem fn_ca_90 : callable Tryz.prog 90 = true := by kernel_rfl
theorem fn_ca_91 : callable Tryz.prog 91 = true := by kernel_rfl
theorem fn_ca_92 : callable Tryz.prog 92 = true := by kernel_rfl
theorem fn_ca_93 : callable Tryz.prog 93 = true := by kernel_rfl
theorem fn_ca_94 : callable Tryz.prog 94 = true := by kernel_rfl
theorem fn_ca_95 : callable Tryz.prog 95 = true := by kernel_rfl
theorem fn_ca_96 : callable Tryz.prog 96 = true := by kernel_rfl
theorem fn_ca_97 : callable Tryz.prog 97 = true := by kernel_rfl
theorem fn_ca_98 : callable Tryz.prog 98 = true := by kernel_rfl
theorem fn_ca_99 : callable Tryz.prog 99 = true := by kernel_rfl
theorem fn_ca_100 : callable Tryz.prog 100 = true := by kernel_rfl
theorem fn_ca_101 : callable Tryz.prog 101 = true := by kernel_rfl
theorem fn_ca_102 : callable Tryz.prog 102 = true := by kernel_rfl
theorem fn_ca_103 : callable Tryz.prog 103 = true := by kernel_rfl
theorem fn_ca_104 : callable Tryz.prog 104 = true := by kernel_rfl
theorem fn_ca_105 : callable Tryz.prog 105 = true := by kernel_rfl
theorem fn_ca_106 : callable Tryz.prog 106 = true := by kernel_rfl
theorem fn_ca_107 : callable Tryz.prog 107 = true := by kernel_rfl
theorem fn_ca_108 : callable Tryz.prog 108 = true := by kernel_rfl
theorem fn_ca_109 : callable Tryz.prog 109 = true := by kernel_rfl
theorem fn_ca_110 : callable Tryz.prog 110 = true := by kernel_rfl
theorem fn_ca_111 : callable Tryz.prog 111 = true := by kernel_rfl
theorem fn_ca_112 : callable Tryz.prog 112 = true := by kernel_rfl
theorem fn_ca_113 : callable Tryz.prog 113 = true := by kernel_rfl
theorem fn_ca_114 : callable Tryz.prog 114 = true := by kernel_rfl
theorem fn_ca_115 : callable Tryz.prog 115 = true := by kernel_rfl
theorem fn_ca_116 : callable Tryz.prog 116 = true := by kernel_rfl
theorem fn_ca_117 : callable Tryz.prog 117 = true := by kernel_rfl
theorem fn_ca_118 : callable Tryz.prog 118 = true := by kernel_rfl
theorem fn_ca_119 : callable Tryz.prog 119 = true := by kernel_rfl
theorem fn_ca_120 : callable Tryz.prog 120 = true := by kernel_rfl
theorem fn_ca_121 : callable Tryz.prog 121 = true := by kernel_rfl
theorem fn_ca_122 : callable Tryz.prog 122 = true := by kernel_rfl
theorem fn_ca_123 : callable Tryz.prog 123 = true := by kernel_rfl
theorem fn_ca_124 : callable Tryz.prog 124 = true := by kernel_rfl
theorem fn_ca_125 : callable Tryz.prog 125 = true := by kernel_rfl
theorem fn_ca_126 : callable Tryz.prog 126 = true := by kernel_rfl
theorem fn_ca_127 : callable Tryz.prog 127 = true := by kernel_rfl
theorem fn_ca_128 : callable Tryz.prog 128 = true := by kernel_rfl
theorem fn_ca_129 : callable Tryz.prog 129 = true := by kernel_rfl
theorem fn_ca_130 : callable Tryz.prog 130 = true := by kernel_rfl
theorem fn_ca_131 : callable Tryz.prog 131 = true := by kernel_rfl
theorem fn_ca_132 : callable Tryz.prog 132 = true := by kernel_rfl
theorem fn_ca_133 : callable Tryz.prog 133 = true := by kernel_rfl
theorem fn_ca_134 : callable Tryz.prog 134 = true := by kernel_rfl
theorem fn_ca_135 : callable Tryz.prog 135 = true := by kernel_rfl
theorem fn_ca_136 : callable Tryz.prog 136 = true := by kernel_rfl
theorem fn_ca_137 : callable Tryz.prog 137 = true := by kernel_rfl
theorem fn_ca_138 : callable Tryz.prog 138 = true := by kernel_rfl
theorem fn_ca_139 : callable Tryz.prog 139 = true := by kernel_rfl
theorem fn_ca_140 : callable Tryz.prog 140 = true := by kernel_rfl
theorem fn_ca_141 : callable Tryz.prog 141 = true := by kernel_rfl
theorem fn_ca_142 : callable Tryz.prog 142 = true := by kernel_rfl
theorem fn_ca_143 : callable Tryz.prog 143 = true := by kernel_rfl
theorem fn_ca_144 : callable Tryz.prog 144 = true := by kernel_rfl
theorem fn_ca_145 : callable Tryz.prog 145 = true := by kernel_rfl
theorem fn_ca_146 : callable Tryz.prog 146 = true := by kernel_rfl
theorem fn_ca_147 : callable Tryz.prog 147 = true := by kernel_rfl
theorem fn_ca_148 : callable Tryz.prog 148 = true := by kernel_rfl
theorem fn_ca_149 : callable Tryz.prog 149 = true := by kernel_rfl
theorem fn_ca_150 : callable Tryz.prog 150 = true := by kernel_rfl
theorem fn_ca_151 : callable Tryz.prog 151 = true := by kernel_rfl
theorem fn_ca_152 : callable Tryz.prog 152 = true := by kernel_rfl
theorem fn_ca_153 : callable Tryz.prog 153 = true := by kernel_rfl
theorem fn_ca_154 : callable Tryz.prog 154 = true := by kernel_rfl
theorem fn_ca_155 : callable Tryz.prog 155 = true := by kernel_rfl
theorem fn_ca_156 : callable Tryz.prog 156 = true := by kernel_rfl
theorem fn_ca_157 : callable Tryz.prog 157 = true := by kernel_rfl
theorem fn_ca_159 : callable Tryz.prog 159 = true := by kernel_rfl
theorem fn_ca_160 : callable Tryz.prog 160 = true := by kernel_rfl
theorem fn_ca_162 : callable Tryz.prog 162 = true := by kernel_rfl
theorem fn_ca_164 : callable Tryz.prog 164 = true := by kernel_rfl
theorem fn_ca_165 : callable Tryz.prog 165 = true := by kernel_rfl
theorem fn_ca_166 : callable Tryz.prog 166 = true := by kernel_rfl
theorem fn_ca_167 : callable Tryz.prog 167 = true := by kernel_rfl
theorem fn_ca_168 : callable Tryz.prog 168 = true := by kernel_rfl
theorem fn_ca_169 : callable Tryz.prog 169 = true := by kernel_rfl
theorem fn_ca_170 : callable Tryz.prog 170 = true := by kernel_rfl
theorem fn_ca_171 : callable Tryz.prog 171 = true := by kernel_rfl
theorem fn_ca_172 : callable Tryz.prog 172 = true := by kernel_rfl
theorem fn_ca_173 : callable Tryz.prog 173 = true := by kernel_rfl
theorem fn_ca_174 : callable Tryz.prog 174 = true := by kernel_rfl
theorem fn_ca_175 : callable Tryz.prog 175 = true := by kernel_rfl
theorem fn_ca_176 : callable Tryz.prog 176 = true := by kernel_rfl
theorem fn_ca_177 : callable Tryz.prog 177 = true := by kernel_rfl
theorem fn_ca_178 : callable Tryz.prog 178 = true := by kernel_rfl
theorem fn_ca_179 : callable Tryz.prog 179 = true := by kernel_rfl
theorem fn_ca_180 : callable Tryz.prog 180 = true := by kernel_rfl
theorem fn_ca_181 : callable Tryz.prog 181 = true := by kernel_rfl
theorem fn_ca_182 : callable Tryz.prog 182 = true := by kernel_rfl
theorem fn_ca_183 : callable Tryz.prog 183 = true := by kernel_rfl
theorem fn_ca_184 : callable Tryz.prog 184 = true := by kernel_rfl
theorem fn_ca_185 : callable Tryz.prog 185 = true := by kernel_rfl
theorem fn_ca_186 : callable Tryz.prog 186 = true := by kernel_rfl
theorem fn_ca_187 : callable Tryz.prog 187 = true := by kernel_rfl
theorem fn_ca_188 : callable Tryz.prog 188 = true := by kernel_rfl
theorem fn_ca_189 : callable Tryz.prog 189 = true := by kernel_rfl
theorem fn_ca_190 : callable Tryz.prog 190 = true := by kernel_rfl
theorem fn_ca_191 : callable Tryz.prog 191 = true := by kernel_rfl
theorem fn_ca_192 : callable Tryz.prog 192 = true := by kernel_rfl
theorem fn_ca_193 : callable Tryz.prog 193 = true := by kernel_rfl
theorem fn_ca_194 : callable Tryz.prog 194 = true := by kernel_rfl
theorem fn_ca_195 : callable Tryz.prog 195 = true := by kernel_rfl
theorem fn_ca_196 : callable Tryz.prog 196 = true := by kernel_rfl
theorem fn_ca_197 : callable Tryz.prog 197 = true := by kernel_rfl
theorem fn_ca_198 : callable Tryz.prog 198 = true := by kernel_rfl
theorem fn_ca_199 : callable Tryz.prog 199 = true := by kernel_rfl
theorem fn_ca_200 : callable Tryz.prog 200 = true := by kernel_rfl
theorem fn_ca_201 : callable Tryz.prog 201 = true := by kernel_rfl
theorem fn_ca_202 : callable Tryz.prog 202 = true := by kernel_rfl
theorem fn_ca_203 : callable Tryz.prog 203 = true := by kernel_rfl
theorem fn_ca_204 : callable Tryz.prog 204 = true := by kernel_rfl
theorem fn_ca_205 : callable Tryz.prog 205 = true := by kernel_rfl
theorem fn_ca_206 : callable Tryz.prog 206 = true := by kernel_rfl
theorem fn_ca_207 : callable Tryz.prog 207 = true := by kernel_rfl
theorem fn_ca_208 : callable Tryz.prog 208 = true := by kernel_rfl
theorem fn_ca_209 : callable Tryz.prog 209 = true := by kernel_rfl
theorem fn_ca_210 : callable Tryz.prog 210 = true := by kernel_rfl
theorem fn_ca_211 : callable Tryz.prog 211 = true := by kernel_rfl
theorem fn_ca_212 : callable Tryz.prog 212 = true := by kernel_rfl
theorem fn_ca_213 : callable Tryz.prog 213 = true := by kernel_rfl
theorem fn_ca_214 : callable Tryz.prog 214 = true := by kernel_rfl
theorem fn_ca_215 : callable Tryz.prog 215 = true := by kernel_rfl
theorem fn_ca_216 : callable Tryz.prog 216 = true := by kernel_rfl
theorem fn_ca_217 : callable Tryz.prog 217 = true := by kernel_rfl
theorem fn_ca_218 : callable Tryz.prog 218 = true := by kernel_rfl
theorem fn_ca_223 : callable Tryz.prog 223 = true := by kernel_rfl
theorem fn_ca_226 : callable Tryz.prog 226 = true := by kernel_rfl
theorem fn_ca_227 : callable Tryz.prog 227 = true := by kernel_rfl
theorem fn_ca_228 : callable Tryz.prog 228 = true := by kernel_rfl
theorem fn_ca_229 : callable Tryz.prog 229 = true := by kernel_rfl
theorem fn_ca_230 : callable Tryz.prog 230 = true := by kernel_rfl
theorem fn_ca_231 : callable Tryz.prog 231 = true := by kernel_rfl
theorem fn_ca_232 : callable Tryz.prog 232 = true := by kernel_rfl
theorem fn_ca_233 : callable Tryz.prog 233 = true := by kernel_rfl
theorem fn_ca_266 : callable Tryz.prog 266 = true := by kernel_rfl
theorem mixed : Tryz.prog.follows .mixedOrders = true := by kernel_rfl
end Go.Proofs.YtfhjhaogmdaepaaGreatDoor
