/- Facts on the types and the functions of this seat's translation, each a closed reckoning: printed by gen.py. -/
import Derived.Test.YtldndhekjhlbmaaDoorProg
import Derived.Test.YtldndhekjhlbmaaDoorEngF
set_option linter.unusedVariables false
namespace Go.Proofs.YtldndhekjhlbmaaDoor
open Go Go.Proofs
set_option maxRecDepth 100000
/-- The program, with what its package-level variables held when the call began. -/
noncomputable abbrev cx (gl : Nat → Obj) : Cx := ⟨Tryd.prog, 3, gl⟩
theorem ty_sc_1 : scB Tryd.prog 1 = true := by kernel_rfl
theorem ty_sc_2 : scB Tryd.prog 2 = true := by kernel_rfl
theorem ty_int_2 : Tryd.prog.underlying 2 = some (.int .i64) := by kernel_rfl
theorem ty_ze_2 : zeB Tryd.prog 2 ([.int .i64 0]) := by unfold zeB; kernel_rfl
theorem ty_sc_3 : scB Tryd.prog 3 = true := by kernel_rfl
theorem ty_int_3 : Tryd.prog.underlying 3 = some (.int .i64) := by kernel_rfl
theorem ty_ze_3 : zeB Tryd.prog 3 ([.int .i64 0]) := by unfold zeB; kernel_rfl
theorem ty_sc_4 : scB Tryd.prog 4 = true := by kernel_rfl
theorem ty_ze_4 : zeB Tryd.prog 4 ([.bool false]) := by unfold zeB; kernel_rfl
theorem ty_sc_5 : scB Tryd.prog 5 = true := by kernel_rfl
theorem ty_int_5 : Tryd.prog.underlying 5 = some (.int .u8) := by kernel_rfl
theorem ty_ze_5 : zeB Tryd.prog 5 ([.int .u8 0]) := by unfold zeB; kernel_rfl
theorem ty_sc_6 : scB Tryd.prog 6 = true := by kernel_rfl
theorem ty_int_6 : Tryd.prog.underlying 6 = some (.int .u8) := by kernel_rfl
theorem ty_ze_6 : zeB Tryd.prog 6 ([.int .u8 0]) := by unfold zeB; kernel_rfl
theorem ty_ag_7 : agB Tryd.prog 7 4 = true := by kernel_rfl
theorem ty_pl_7 : plB Tryd.prog 7 [(0, 1), (1, 1), (2, 1), (3, 1)] = true := by kernel_rfl
theorem ty_fld_7_0 : fldB Tryd.prog 7 0 = some (0, 2) := by kernel_rfl
theorem ty_fl_7_0 : flB Tryd.prog 7 0 0 = true := by kernel_rfl
theorem ty_fld_7_1 : fldB Tryd.prog 7 1 = some (1, 3) := by kernel_rfl
theorem ty_fl_7_1 : flB Tryd.prog 7 1 1 = true := by kernel_rfl
theorem ty_fld_7_2 : fldB Tryd.prog 7 2 = some (2, 4) := by kernel_rfl
theorem ty_fl_7_2 : flB Tryd.prog 7 2 2 = true := by kernel_rfl
theorem ty_fld_7_3 : fldB Tryd.prog 7 3 = some (3, 6) := by kernel_rfl
theorem ty_fl_7_3 : flB Tryd.prog 7 3 3 = true := by kernel_rfl
theorem ty_ze_7 : zeB Tryd.prog 7 ([.int .i64 0, .int .i64 0, .bool false, .int .u8 0]) := by unfold zeB; kernel_rfl
theorem ty_ag_8 : agB Tryd.prog 8 4 = true := by kernel_rfl
theorem ty_pl_8 : plB Tryd.prog 8 [(0, 1), (1, 1), (2, 1), (3, 1)] = true := by kernel_rfl
theorem ty_fld_8_0 : fldB Tryd.prog 8 0 = some (0, 2) := by kernel_rfl
theorem ty_fl_8_0 : flB Tryd.prog 8 0 0 = true := by kernel_rfl
theorem ty_fld_8_1 : fldB Tryd.prog 8 1 = some (1, 3) := by kernel_rfl
theorem ty_fl_8_1 : flB Tryd.prog 8 1 1 = true := by kernel_rfl
theorem ty_fld_8_2 : fldB Tryd.prog 8 2 = some (2, 4) := by kernel_rfl
theorem ty_fl_8_2 : flB Tryd.prog 8 2 2 = true := by kernel_rfl
theorem ty_fld_8_3 : fldB Tryd.prog 8 3 = some (3, 6) := by kernel_rfl
theorem ty_fl_8_3 : flB Tryd.prog 8 3 3 = true := by kernel_rfl
theorem ty_ze_8 : zeB Tryd.prog 8 ([.int .i64 0, .int .i64 0, .bool false, .int .u8 0]) := by unfold zeB; kernel_rfl
theorem ty_sc_9 : scB Tryd.prog 9 = true := by kernel_rfl
theorem ty_str_9 : Tryd.prog.underlying 9 = some .string := by kernel_rfl
theorem ty_src_9 : srcB Tryd.prog 9 = true := by kernel_rfl
theorem ty_ze_9 : zeB Tryd.prog 9 ([.string ByteArray.empty]) := by unfold zeB; kernel_rfl
theorem ty_sc_10 : scB Tryd.prog 10 = true := by kernel_rfl
theorem ty_str_10 : Tryd.prog.underlying 10 = some .string := by kernel_rfl
theorem ty_src_10 : srcB Tryd.prog 10 = true := by kernel_rfl
theorem ty_ze_10 : zeB Tryd.prog 10 ([.string ByteArray.empty]) := by unfold zeB; kernel_rfl
theorem ty_sc_11 : scB Tryd.prog 11 = true := by kernel_rfl
theorem ty_str_11 : Tryd.prog.underlying 11 = some .string := by kernel_rfl
theorem ty_src_11 : srcB Tryd.prog 11 = true := by kernel_rfl
theorem ty_ze_11 : zeB Tryd.prog 11 ([.string ByteArray.empty]) := by unfold zeB; kernel_rfl
theorem ty_sc_12 : scB Tryd.prog 12 = true := by kernel_rfl
theorem ty_int_12 : Tryd.prog.underlying 12 = some (.int .u64) := by kernel_rfl
theorem ty_ze_12 : zeB Tryd.prog 12 ([.int .u64 0]) := by unfold zeB; kernel_rfl
theorem ty_ag_13 : agB Tryd.prog 13 2 = true := by kernel_rfl
theorem ty_pl_13 : plB Tryd.prog 13 [(0, 1), (1, 1)] = true := by kernel_rfl
theorem ty_fld_13_0 : fldB Tryd.prog 13 0 = some (0, 9) := by kernel_rfl
theorem ty_fl_13_0 : flB Tryd.prog 13 0 0 = true := by kernel_rfl
theorem ty_fld_13_1 : fldB Tryd.prog 13 1 = some (1, 12) := by kernel_rfl
theorem ty_fl_13_1 : flB Tryd.prog 13 1 1 = true := by kernel_rfl
theorem ty_ze_13 : zeB Tryd.prog 13 ([.string ByteArray.empty, .int .u64 0]) := by unfold zeB; kernel_rfl
theorem ty_ag_14 : agB Tryd.prog 14 2 = true := by kernel_rfl
theorem ty_pl_14 : plB Tryd.prog 14 [(0, 1), (1, 1)] = true := by kernel_rfl
theorem ty_fld_14_0 : fldB Tryd.prog 14 0 = some (0, 9) := by kernel_rfl
theorem ty_fl_14_0 : flB Tryd.prog 14 0 0 = true := by kernel_rfl
theorem ty_fld_14_1 : fldB Tryd.prog 14 1 = some (1, 12) := by kernel_rfl
theorem ty_fl_14_1 : flB Tryd.prog 14 1 1 = true := by kernel_rfl
theorem ty_ze_14 : zeB Tryd.prog 14 ([.string ByteArray.empty, .int .u64 0]) := by unfold zeB; kernel_rfl
theorem ty_sc_15 : scB Tryd.prog 15 = true := by kernel_rfl
theorem ty_ptr_15 : Tryd.prog.underlying 15 = some (.pointer 102) := by kernel_rfl
theorem ty_ze_15 : zeB Tryd.prog 15 ([.pointer none]) := by unfold zeB; kernel_rfl
theorem ty_sc_16 : scB Tryd.prog 16 = true := by kernel_rfl
theorem ty_ptr_16 : Tryd.prog.underlying 16 = some (.pointer 105) := by kernel_rfl
theorem ty_ze_16 : zeB Tryd.prog 16 ([.pointer none]) := by unfold zeB; kernel_rfl
theorem ty_sc_17 : scB Tryd.prog 17 = true := by kernel_rfl
theorem ty_ptr_17 : Tryd.prog.underlying 17 = some (.pointer 114) := by kernel_rfl
theorem ty_ze_17 : zeB Tryd.prog 17 ([.pointer none]) := by unfold zeB; kernel_rfl
theorem ty_ag_18 : agB Tryd.prog 18 1 = true := by kernel_rfl
theorem ty_pl_18 : plB Tryd.prog 18 [(0, 1)] = true := by kernel_rfl
theorem ty_fld_18_0 : fldB Tryd.prog 18 0 = some (0, 17) := by kernel_rfl
theorem ty_fl_18_0 : flB Tryd.prog 18 0 0 = true := by kernel_rfl
theorem ty_ze_18 : zeB Tryd.prog 18 ([.pointer none]) := by unfold zeB; kernel_rfl
theorem ty_ag_19 : agB Tryd.prog 19 1 = true := by kernel_rfl
theorem ty_pl_19 : plB Tryd.prog 19 [(0, 1)] = true := by kernel_rfl
theorem ty_fld_19_0 : fldB Tryd.prog 19 0 = some (0, 17) := by kernel_rfl
theorem ty_fl_19_0 : flB Tryd.prog 19 0 0 = true := by kernel_rfl
theorem ty_ze_19 : zeB Tryd.prog 19 ([.pointer none]) := by unfold zeB; kernel_rfl
theorem ty_sc_20 : scB Tryd.prog 20 = true := by kernel_rfl
theorem ty_ze_20 : zeB Tryd.prog 20 ([.nilIface]) := by unfold zeB; kernel_rfl
theorem ty_sc_21 : scB Tryd.prog 21 = true := by kernel_rfl
theorem ty_int_21 : Tryd.prog.underlying 21 = some (.int .i32) := by kernel_rfl
theorem ty_ze_21 : zeB Tryd.prog 21 ([.int .i32 0]) := by unfold zeB; kernel_rfl
theorem ty_ar_22 : arB Tryd.prog 22 32 5 1 = true := by kernel_rfl
theorem ty_ag_22 : agB Tryd.prog 22 32 = true := by kernel_rfl
theorem ty_un_22 : Tryd.prog.underlying 22 = some (.array 32 5) := by kernel_rfl
theorem ty_eg_22 : Tryd.prog.eqGuardType Tryd.prog.depth 22 = false := by kernel_rfl
theorem ty_ze_22 : zeB Tryd.prog 22 (List.replicate 32 (.int .u8 0)) := by unfold zeB; kernel_rfl
theorem ty_ar_23 : arB Tryd.prog 23 32 5 1 = true := by kernel_rfl
theorem ty_ag_23 : agB Tryd.prog 23 32 = true := by kernel_rfl
theorem ty_un_23 : Tryd.prog.underlying 23 = some (.array 32 5) := by kernel_rfl
theorem ty_eg_23 : Tryd.prog.eqGuardType Tryd.prog.depth 23 = false := by kernel_rfl
theorem ty_ze_23 : zeB Tryd.prog 23 (List.replicate 32 (.int .u8 0)) := by unfold zeB; kernel_rfl
theorem ty_sc_24 : scB Tryd.prog 24 = true := by kernel_rfl
theorem ty_sc_25 : scB Tryd.prog 25 = true := by kernel_rfl
theorem ty_sc_26 : scB Tryd.prog 26 = true := by kernel_rfl
theorem ty_sl_26 : slB Tryd.prog 26 5 1 1 = true := by kernel_rfl
theorem ty_ap_26 : apB Tryd.prog 5 1 = true := by kernel_rfl
theorem ty_src_26 : srcB Tryd.prog 26 = true := by kernel_rfl
theorem ty_lz_26 : ((Tryd.prog.info? 5).bind (·.zero)).map (·.cells.size) = some 1 := by kernel_rfl
theorem ty_ze_26 : zeB Tryd.prog 26 ([.slice none 0 0]) := by unfold zeB; kernel_rfl
theorem ty_sc_27 : scB Tryd.prog 27 = true := by kernel_rfl
theorem ty_sc_28 : scB Tryd.prog 28 = true := by kernel_rfl
theorem ty_sc_29 : scB Tryd.prog 29 = true := by kernel_rfl
theorem ty_sc_30 : scB Tryd.prog 30 = true := by kernel_rfl
theorem ty_sc_31 : scB Tryd.prog 31 = true := by kernel_rfl
theorem ty_sl_31 : slB Tryd.prog 31 38 3 40 = true := by kernel_rfl
theorem ty_ap_31 : apB Tryd.prog 38 3 = true := by kernel_rfl
theorem ty_src_31 : srcB Tryd.prog 31 = true := by kernel_rfl
theorem ty_lz_31 : ((Tryd.prog.info? 38).bind (·.zero)).map (·.cells.size) = some 3 := by kernel_rfl
theorem ty_ze_31 : zeB Tryd.prog 31 ([.slice none 0 0]) := by unfold zeB; kernel_rfl
theorem ty_sc_32 : scB Tryd.prog 32 = true := by kernel_rfl
theorem ty_sc_33 : scB Tryd.prog 33 = true := by kernel_rfl
theorem ty_ptr_33 : Tryd.prog.underlying 33 = some (.pointer 48) := by kernel_rfl
theorem ty_ze_33 : zeB Tryd.prog 33 ([.pointer none]) := by unfold zeB; kernel_rfl
theorem ty_sc_34 : scB Tryd.prog 34 = true := by kernel_rfl
theorem ty_sc_35 : scB Tryd.prog 35 = true := by kernel_rfl
theorem ty_sl_35 : slB Tryd.prog 35 33 1 8 = true := by kernel_rfl
theorem ty_ap_35 : apB Tryd.prog 33 1 = true := by kernel_rfl
theorem ty_src_35 : srcB Tryd.prog 35 = true := by kernel_rfl
theorem ty_lz_35 : ((Tryd.prog.info? 33).bind (·.zero)).map (·.cells.size) = some 1 := by kernel_rfl
theorem ty_ze_35 : zeB Tryd.prog 35 ([.slice none 0 0]) := by unfold zeB; kernel_rfl
theorem ty_sc_36 : scB Tryd.prog 36 = true := by kernel_rfl
theorem ty_sl_36 : slB Tryd.prog 36 26 1 24 = true := by kernel_rfl
theorem ty_ap_36 : apB Tryd.prog 26 1 = true := by kernel_rfl
theorem ty_src_36 : srcB Tryd.prog 36 = true := by kernel_rfl
theorem ty_lz_36 : ((Tryd.prog.info? 26).bind (·.zero)).map (·.cells.size) = some 1 := by kernel_rfl
theorem ty_ze_36 : zeB Tryd.prog 36 ([.slice none 0 0]) := by unfold zeB; kernel_rfl
theorem ty_ag_37 : agB Tryd.prog 37 3 = true := by kernel_rfl
theorem ty_pl_37 : plB Tryd.prog 37 [(0, 1), (1, 1), (2, 1)] = true := by kernel_rfl
theorem ty_fld_37_0 : fldB Tryd.prog 37 0 = some (0, 3) := by kernel_rfl
theorem ty_fl_37_0 : flB Tryd.prog 37 0 0 = true := by kernel_rfl
theorem ty_fld_37_1 : fldB Tryd.prog 37 1 = some (1, 3) := by kernel_rfl
theorem ty_fl_37_1 : flB Tryd.prog 37 1 1 = true := by kernel_rfl
theorem ty_fld_37_2 : fldB Tryd.prog 37 2 = some (2, 26) := by kernel_rfl
theorem ty_fl_37_2 : flB Tryd.prog 37 2 2 = true := by kernel_rfl
theorem ty_ze_37 : zeB Tryd.prog 37 ([.int .i64 0, .int .i64 0, .slice none 0 0]) := by unfold zeB; kernel_rfl
theorem ty_ag_38 : agB Tryd.prog 38 3 = true := by kernel_rfl
theorem ty_pl_38 : plB Tryd.prog 38 [(0, 1), (1, 1), (2, 1)] = true := by kernel_rfl
theorem ty_fld_38_0 : fldB Tryd.prog 38 0 = some (0, 3) := by kernel_rfl
theorem ty_fl_38_0 : flB Tryd.prog 38 0 0 = true := by kernel_rfl
theorem ty_fld_38_1 : fldB Tryd.prog 38 1 = some (1, 3) := by kernel_rfl
theorem ty_fl_38_1 : flB Tryd.prog 38 1 1 = true := by kernel_rfl
theorem ty_fld_38_2 : fldB Tryd.prog 38 2 = some (2, 26) := by kernel_rfl
theorem ty_fl_38_2 : flB Tryd.prog 38 2 2 = true := by kernel_rfl
theorem ty_ze_38 : zeB Tryd.prog 38 ([.int .i64 0, .int .i64 0, .slice none 0 0]) := by unfold zeB; kernel_rfl
theorem ty_sc_39 : scB Tryd.prog 39 = true := by kernel_rfl
theorem ty_sc_40 : scB Tryd.prog 40 = true := by kernel_rfl
theorem ty_sc_41 : scB Tryd.prog 41 = true := by kernel_rfl
theorem ty_sc_42 : scB Tryd.prog 42 = true := by kernel_rfl
theorem ty_int_42 : Tryd.prog.underlying 42 = some (.int .u32) := by kernel_rfl
theorem ty_ze_42 : zeB Tryd.prog 42 ([.int .u32 0]) := by unfold zeB; kernel_rfl
theorem ty_ar_43 : arB Tryd.prog 43 8 42 1 = true := by kernel_rfl
theorem ty_ag_43 : agB Tryd.prog 43 8 = true := by kernel_rfl
theorem ty_un_43 : Tryd.prog.underlying 43 = some (.array 8 42) := by kernel_rfl
theorem ty_eg_43 : Tryd.prog.eqGuardType Tryd.prog.depth 43 = false := by kernel_rfl
theorem ty_ze_43 : zeB Tryd.prog 43 (List.replicate 8 (.int .u32 0)) := by unfold zeB; kernel_rfl
theorem ty_ar_44 : arB Tryd.prog 44 8 42 1 = true := by kernel_rfl
theorem ty_ag_44 : agB Tryd.prog 44 8 = true := by kernel_rfl
theorem ty_un_44 : Tryd.prog.underlying 44 = some (.array 8 42) := by kernel_rfl
theorem ty_eg_44 : Tryd.prog.eqGuardType Tryd.prog.depth 44 = false := by kernel_rfl
theorem ty_ze_44 : zeB Tryd.prog 44 (List.replicate 8 (.int .u32 0)) := by unfold zeB; kernel_rfl
theorem ty_ar_45 : arB Tryd.prog 45 64 5 1 = true := by kernel_rfl
theorem ty_ag_45 : agB Tryd.prog 45 64 = true := by kernel_rfl
theorem ty_un_45 : Tryd.prog.underlying 45 = some (.array 64 5) := by kernel_rfl
theorem ty_eg_45 : Tryd.prog.eqGuardType Tryd.prog.depth 45 = false := by kernel_rfl
theorem ty_ze_45 : zeB Tryd.prog 45 (List.replicate 64 (.int .u8 0)) := by unfold zeB; kernel_rfl
theorem ty_sc_46 : scB Tryd.prog 46 = true := by kernel_rfl
theorem ty_int_46 : Tryd.prog.underlying 46 = some (.int .u64) := by kernel_rfl
theorem ty_ze_46 : zeB Tryd.prog 46 ([.int .u64 0]) := by unfold zeB; kernel_rfl
theorem ty_ag_47 : agB Tryd.prog 47 75 = true := by kernel_rfl
theorem ty_pl_47 : plB Tryd.prog 47 [(0, 1), (1, 8), (9, 64), (73, 1), (74, 1)] = true := by kernel_rfl
theorem ty_fld_47_0 : fldB Tryd.prog 47 0 = some (0, 4) := by kernel_rfl
theorem ty_fl_47_0 : flB Tryd.prog 47 0 0 = true := by kernel_rfl
theorem ty_fld_47_1 : fldB Tryd.prog 47 1 = some (1, 44) := by kernel_rfl
theorem ty_fl_47_1 : flB Tryd.prog 47 1 1 = true := by kernel_rfl
theorem ty_fld_47_2 : fldB Tryd.prog 47 2 = some (9, 45) := by kernel_rfl
theorem ty_fl_47_2 : flB Tryd.prog 47 2 9 = true := by kernel_rfl
theorem ty_fld_47_3 : fldB Tryd.prog 47 3 = some (73, 3) := by kernel_rfl
theorem ty_fl_47_3 : flB Tryd.prog 47 3 73 = true := by kernel_rfl
theorem ty_fld_47_4 : fldB Tryd.prog 47 4 = some (74, 46) := by kernel_rfl
theorem ty_fl_47_4 : flB Tryd.prog 47 4 74 = true := by kernel_rfl
theorem ty_ze_47 : zeB Tryd.prog 47 ([.bool false] ++ List.replicate 8 (.int .u32 0) ++ List.replicate 64 (.int .u8 0) ++ [.int .i64 0, .int .u64 0]) := by unfold zeB; kernel_rfl
theorem ty_ag_48 : agB Tryd.prog 48 75 = true := by kernel_rfl
theorem ty_pl_48 : plB Tryd.prog 48 [(0, 1), (1, 8), (9, 64), (73, 1), (74, 1)] = true := by kernel_rfl
theorem ty_fld_48_0 : fldB Tryd.prog 48 0 = some (0, 4) := by kernel_rfl
theorem ty_fl_48_0 : flB Tryd.prog 48 0 0 = true := by kernel_rfl
theorem ty_fld_48_1 : fldB Tryd.prog 48 1 = some (1, 44) := by kernel_rfl
theorem ty_fl_48_1 : flB Tryd.prog 48 1 1 = true := by kernel_rfl
theorem ty_fld_48_2 : fldB Tryd.prog 48 2 = some (9, 45) := by kernel_rfl
theorem ty_fl_48_2 : flB Tryd.prog 48 2 9 = true := by kernel_rfl
theorem ty_fld_48_3 : fldB Tryd.prog 48 3 = some (73, 3) := by kernel_rfl
theorem ty_fl_48_3 : flB Tryd.prog 48 3 73 = true := by kernel_rfl
theorem ty_fld_48_4 : fldB Tryd.prog 48 4 = some (74, 46) := by kernel_rfl
theorem ty_fl_48_4 : flB Tryd.prog 48 4 74 = true := by kernel_rfl
theorem ty_ze_48 : zeB Tryd.prog 48 ([.bool false] ++ List.replicate 8 (.int .u32 0) ++ List.replicate 64 (.int .u8 0) ++ [.int .i64 0, .int .u64 0]) := by unfold zeB; kernel_rfl
theorem ty_sc_49 : scB Tryd.prog 49 = true := by kernel_rfl
theorem ty_int_49 : Tryd.prog.underlying 49 = some (.int .i64) := by kernel_rfl
theorem ty_ze_49 : zeB Tryd.prog 49 ([.int .i64 0]) := by unfold zeB; kernel_rfl
theorem ty_sc_51 : scB Tryd.prog 51 = true := by kernel_rfl
theorem ty_sc_53 : scB Tryd.prog 53 = true := by kernel_rfl
theorem ty_sc_54 : scB Tryd.prog 54 = true := by kernel_rfl
theorem ty_sc_55 : scB Tryd.prog 55 = true := by kernel_rfl
theorem ty_sl_55 : slB Tryd.prog 55 23 32 32 = true := by kernel_rfl
theorem ty_ap_55 : apB Tryd.prog 23 32 = true := by kernel_rfl
theorem ty_src_55 : srcB Tryd.prog 55 = true := by kernel_rfl
theorem ty_lz_55 : ((Tryd.prog.info? 23).bind (·.zero)).map (·.cells.size) = some 32 := by kernel_rfl
theorem ty_ze_55 : zeB Tryd.prog 55 ([.slice none 0 0]) := by unfold zeB; kernel_rfl
theorem ty_ag_56 : agB Tryd.prog 56 3 = true := by kernel_rfl
theorem ty_pl_56 : plB Tryd.prog 56 [(0, 1), (1, 1), (2, 1)] = true := by kernel_rfl
theorem ty_fld_56_0 : fldB Tryd.prog 56 0 = some (0, 3) := by kernel_rfl
theorem ty_fl_56_0 : flB Tryd.prog 56 0 0 = true := by kernel_rfl
theorem ty_fld_56_1 : fldB Tryd.prog 56 1 = some (1, 3) := by kernel_rfl
theorem ty_fl_56_1 : flB Tryd.prog 56 1 1 = true := by kernel_rfl
theorem ty_fld_56_2 : fldB Tryd.prog 56 2 = some (2, 55) := by kernel_rfl
theorem ty_fl_56_2 : flB Tryd.prog 56 2 2 = true := by kernel_rfl
theorem ty_ze_56 : zeB Tryd.prog 56 ([.int .i64 0, .int .i64 0, .slice none 0 0]) := by unfold zeB; kernel_rfl
theorem ty_ag_57 : agB Tryd.prog 57 3 = true := by kernel_rfl
theorem ty_pl_57 : plB Tryd.prog 57 [(0, 1), (1, 1), (2, 1)] = true := by kernel_rfl
theorem ty_fld_57_0 : fldB Tryd.prog 57 0 = some (0, 3) := by kernel_rfl
theorem ty_fl_57_0 : flB Tryd.prog 57 0 0 = true := by kernel_rfl
theorem ty_fld_57_1 : fldB Tryd.prog 57 1 = some (1, 3) := by kernel_rfl
theorem ty_fl_57_1 : flB Tryd.prog 57 1 1 = true := by kernel_rfl
theorem ty_fld_57_2 : fldB Tryd.prog 57 2 = some (2, 55) := by kernel_rfl
theorem ty_fl_57_2 : flB Tryd.prog 57 2 2 = true := by kernel_rfl
theorem ty_ze_57 : zeB Tryd.prog 57 ([.int .i64 0, .int .i64 0, .slice none 0 0]) := by unfold zeB; kernel_rfl
theorem ty_sc_58 : scB Tryd.prog 58 = true := by kernel_rfl
theorem ty_sc_59 : scB Tryd.prog 59 = true := by kernel_rfl
theorem ty_sc_60 : scB Tryd.prog 60 = true := by kernel_rfl
theorem ty_sc_61 : scB Tryd.prog 61 = true := by kernel_rfl
theorem ty_sc_63 : scB Tryd.prog 63 = true := by kernel_rfl
theorem ty_sc_64 : scB Tryd.prog 64 = true := by kernel_rfl
theorem ty_sl_64 : slB Tryd.prog 64 55 1 24 = true := by kernel_rfl
theorem ty_ap_64 : apB Tryd.prog 55 1 = true := by kernel_rfl
theorem ty_src_64 : srcB Tryd.prog 64 = true := by kernel_rfl
theorem ty_lz_64 : ((Tryd.prog.info? 55).bind (·.zero)).map (·.cells.size) = some 1 := by kernel_rfl
theorem ty_ze_64 : zeB Tryd.prog 64 ([.slice none 0 0]) := by unfold zeB; kernel_rfl
theorem ty_sc_65 : scB Tryd.prog 65 = true := by kernel_rfl
theorem ty_sc_66 : scB Tryd.prog 66 = true := by kernel_rfl
theorem ty_sc_67 : scB Tryd.prog 67 = true := by kernel_rfl
theorem ty_sc_68 : scB Tryd.prog 68 = true := by kernel_rfl
theorem ty_sc_70 : scB Tryd.prog 70 = true := by kernel_rfl
theorem ty_sc_71 : scB Tryd.prog 71 = true := by kernel_rfl
theorem ty_sc_72 : scB Tryd.prog 72 = true := by kernel_rfl
theorem ty_sc_73 : scB Tryd.prog 73 = true := by kernel_rfl
theorem ty_sc_74 : scB Tryd.prog 74 = true := by kernel_rfl
theorem ty_sc_75 : scB Tryd.prog 75 = true := by kernel_rfl
theorem ty_sc_76 : scB Tryd.prog 76 = true := by kernel_rfl
theorem ty_int_76 : Tryd.prog.underlying 76 = some (.int .u64) := by kernel_rfl
theorem ty_ze_76 : zeB Tryd.prog 76 ([.int .u64 0]) := by unfold zeB; kernel_rfl
theorem ty_sc_77 : scB Tryd.prog 77 = true := by kernel_rfl
theorem ty_ar_78 : arB Tryd.prog 78 8 5 1 = true := by kernel_rfl
theorem ty_ag_78 : agB Tryd.prog 78 8 = true := by kernel_rfl
theorem ty_un_78 : Tryd.prog.underlying 78 = some (.array 8 5) := by kernel_rfl
theorem ty_eg_78 : Tryd.prog.eqGuardType Tryd.prog.depth 78 = false := by kernel_rfl
theorem ty_ze_78 : zeB Tryd.prog 78 (List.replicate 8 (.int .u8 0)) := by unfold zeB; kernel_rfl
theorem ty_sc_80 : scB Tryd.prog 80 = true := by kernel_rfl
theorem ty_sc_81 : scB Tryd.prog 81 = true := by kernel_rfl
theorem ty_sc_82 : scB Tryd.prog 82 = true := by kernel_rfl
theorem ty_sc_83 : scB Tryd.prog 83 = true := by kernel_rfl
theorem ty_sc_84 : scB Tryd.prog 84 = true := by kernel_rfl
theorem ty_sc_85 : scB Tryd.prog 85 = true := by kernel_rfl
theorem ty_sc_86 : scB Tryd.prog 86 = true := by kernel_rfl
theorem ty_sl_86 : slB Tryd.prog 86 4 1 1 = true := by kernel_rfl
theorem ty_ap_86 : apB Tryd.prog 4 1 = true := by kernel_rfl
theorem ty_src_86 : srcB Tryd.prog 86 = true := by kernel_rfl
theorem ty_lz_86 : ((Tryd.prog.info? 4).bind (·.zero)).map (·.cells.size) = some 1 := by kernel_rfl
theorem ty_ze_86 : zeB Tryd.prog 86 ([.slice none 0 0]) := by unfold zeB; kernel_rfl
theorem ty_sc_87 : scB Tryd.prog 87 = true := by kernel_rfl
theorem ty_sc_88 : scB Tryd.prog 88 = true := by kernel_rfl
theorem ty_sc_89 : scB Tryd.prog 89 = true := by kernel_rfl
theorem ty_sc_90 : scB Tryd.prog 90 = true := by kernel_rfl
theorem ty_sc_91 : scB Tryd.prog 91 = true := by kernel_rfl
theorem ty_sc_92 : scB Tryd.prog 92 = true := by kernel_rfl
theorem ty_sc_93 : scB Tryd.prog 93 = true := by kernel_rfl
theorem ty_sc_94 : scB Tryd.prog 94 = true := by kernel_rfl
theorem ty_ar_95 : arB Tryd.prog 95 64 42 1 = true := by kernel_rfl
theorem ty_ag_95 : agB Tryd.prog 95 64 = true := by kernel_rfl
theorem ty_un_95 : Tryd.prog.underlying 95 = some (.array 64 42) := by kernel_rfl
theorem ty_eg_95 : Tryd.prog.eqGuardType Tryd.prog.depth 95 = false := by kernel_rfl
theorem ty_ze_95 : zeB Tryd.prog 95 (List.replicate 64 (.int .u32 0)) := by unfold zeB; kernel_rfl
theorem ty_sc_96 : scB Tryd.prog 96 = true := by kernel_rfl
theorem ty_sc_97 : scB Tryd.prog 97 = true := by kernel_rfl
theorem ty_sc_98 : scB Tryd.prog 98 = true := by kernel_rfl
theorem ty_sc_99 : scB Tryd.prog 99 = true := by kernel_rfl
theorem ty_sc_100 : scB Tryd.prog 100 = true := by kernel_rfl
theorem ty_ag_101 : agB Tryd.prog 101 4 = true := by kernel_rfl
theorem ty_pl_101 : plB Tryd.prog 101 [(0, 1), (1, 1), (2, 1), (3, 1)] = true := by kernel_rfl
theorem ty_fld_101_0 : fldB Tryd.prog 101 0 = some (0, 17) := by kernel_rfl
theorem ty_fl_101_0 : flB Tryd.prog 101 0 0 = true := by kernel_rfl
theorem ty_fld_101_1 : fldB Tryd.prog 101 1 = some (1, 17) := by kernel_rfl
theorem ty_fl_101_1 : flB Tryd.prog 101 1 1 = true := by kernel_rfl
theorem ty_fld_101_2 : fldB Tryd.prog 101 2 = some (2, 17) := by kernel_rfl
theorem ty_fl_101_2 : flB Tryd.prog 101 2 2 = true := by kernel_rfl
theorem ty_fld_101_3 : fldB Tryd.prog 101 3 = some (3, 9) := by kernel_rfl
theorem ty_fl_101_3 : flB Tryd.prog 101 3 3 = true := by kernel_rfl
theorem ty_ze_101 : zeB Tryd.prog 101 ([.pointer none, .pointer none, .pointer none, .string ByteArray.empty]) := by unfold zeB; kernel_rfl
theorem ty_ag_102 : agB Tryd.prog 102 4 = true := by kernel_rfl
theorem ty_pl_102 : plB Tryd.prog 102 [(0, 1), (1, 1), (2, 1), (3, 1)] = true := by kernel_rfl
theorem ty_fld_102_0 : fldB Tryd.prog 102 0 = some (0, 17) := by kernel_rfl
theorem ty_fl_102_0 : flB Tryd.prog 102 0 0 = true := by kernel_rfl
theorem ty_fld_102_1 : fldB Tryd.prog 102 1 = some (1, 17) := by kernel_rfl
theorem ty_fl_102_1 : flB Tryd.prog 102 1 1 = true := by kernel_rfl
theorem ty_fld_102_2 : fldB Tryd.prog 102 2 = some (2, 17) := by kernel_rfl
theorem ty_fl_102_2 : flB Tryd.prog 102 2 2 = true := by kernel_rfl
theorem ty_fld_102_3 : fldB Tryd.prog 102 3 = some (3, 9) := by kernel_rfl
theorem ty_fl_102_3 : flB Tryd.prog 102 3 3 = true := by kernel_rfl
theorem ty_ze_102 : zeB Tryd.prog 102 ([.pointer none, .pointer none, .pointer none, .string ByteArray.empty]) := by unfold zeB; kernel_rfl
theorem ty_ar_103 : arB Tryd.prog 103 0 16 1 = true := by kernel_rfl
theorem ty_ag_103 : agB Tryd.prog 103 0 = true := by kernel_rfl
theorem ty_sc_106 : scB Tryd.prog 106 = true := by kernel_rfl
theorem ty_sc_107 : scB Tryd.prog 107 = true := by kernel_rfl
theorem ty_int_107 : Tryd.prog.underlying 107 = some (.int .u8) := by kernel_rfl
theorem ty_ze_107 : zeB Tryd.prog 107 ([.int .u8 0]) := by unfold zeB; kernel_rfl
theorem ty_sc_108 : scB Tryd.prog 108 = true := by kernel_rfl
theorem ty_int_108 : Tryd.prog.underlying 108 = some (.int .u8) := by kernel_rfl
theorem ty_ze_108 : zeB Tryd.prog 108 ([.int .u8 0]) := by unfold zeB; kernel_rfl
theorem ty_sc_109 : scB Tryd.prog 109 = true := by kernel_rfl
theorem ty_sc_110 : scB Tryd.prog 110 = true := by kernel_rfl
theorem ty_ptr_110 : Tryd.prog.underlying 110 = some (.pointer 5) := by kernel_rfl
theorem ty_ze_110 : zeB Tryd.prog 110 ([.pointer none]) := by unfold zeB; kernel_rfl
theorem ty_sc_111 : scB Tryd.prog 111 = true := by kernel_rfl
theorem ty_int_111 : Tryd.prog.underlying 111 = some (.int .i32) := by kernel_rfl
theorem ty_ze_111 : zeB Tryd.prog 111 ([.int .i32 0]) := by unfold zeB; kernel_rfl
theorem ty_sc_112 : scB Tryd.prog 112 = true := by kernel_rfl
theorem ty_int_112 : Tryd.prog.underlying 112 = some (.int .i32) := by kernel_rfl
theorem ty_ze_112 : zeB Tryd.prog 112 ([.int .i32 0]) := by unfold zeB; kernel_rfl
theorem ty_ag_113 : agB Tryd.prog 113 11 = true := by kernel_rfl
theorem ty_pl_113 : plB Tryd.prog 113 [(0, 1), (1, 1), (2, 1), (3, 1), (4, 1), (5, 1), (6, 1), (7, 1), (8, 1), (9, 1), (10, 1)] = true := by kernel_rfl
theorem ty_fld_113_0 : fldB Tryd.prog 113 0 = some (0, 12) := by kernel_rfl
theorem ty_fl_113_0 : flB Tryd.prog 113 0 0 = true := by kernel_rfl
theorem ty_fld_113_1 : fldB Tryd.prog 113 1 = some (1, 12) := by kernel_rfl
theorem ty_fl_113_1 : flB Tryd.prog 113 1 1 = true := by kernel_rfl
theorem ty_fld_113_2 : fldB Tryd.prog 113 2 = some (2, 42) := by kernel_rfl
theorem ty_fl_113_2 : flB Tryd.prog 113 2 2 = true := by kernel_rfl
theorem ty_fld_113_3 : fldB Tryd.prog 113 3 = some (3, 107) := by kernel_rfl
theorem ty_fl_113_3 : flB Tryd.prog 113 3 3 = true := by kernel_rfl
theorem ty_fld_113_4 : fldB Tryd.prog 113 4 = some (4, 5) := by kernel_rfl
theorem ty_fl_113_4 : flB Tryd.prog 113 4 4 = true := by kernel_rfl
theorem ty_fld_113_5 : fldB Tryd.prog 113 5 = some (5, 5) := by kernel_rfl
theorem ty_fl_113_5 : flB Tryd.prog 113 5 5 = true := by kernel_rfl
theorem ty_fld_113_6 : fldB Tryd.prog 113 6 = some (6, 108) := by kernel_rfl
theorem ty_fl_113_6 : flB Tryd.prog 113 6 6 = true := by kernel_rfl
theorem ty_fld_113_7 : fldB Tryd.prog 113 7 = some (7, 109) := by kernel_rfl
theorem ty_fl_113_7 : flB Tryd.prog 113 7 7 = true := by kernel_rfl
theorem ty_fld_113_8 : fldB Tryd.prog 113 8 = some (8, 110) := by kernel_rfl
theorem ty_fl_113_8 : flB Tryd.prog 113 8 8 = true := by kernel_rfl
theorem ty_fld_113_9 : fldB Tryd.prog 113 9 = some (9, 111) := by kernel_rfl
theorem ty_fl_113_9 : flB Tryd.prog 113 9 9 = true := by kernel_rfl
theorem ty_fld_113_10 : fldB Tryd.prog 113 10 = some (10, 112) := by kernel_rfl
theorem ty_fl_113_10 : flB Tryd.prog 113 10 10 = true := by kernel_rfl
theorem ty_ze_113 : zeB Tryd.prog 113 ([.int .u64 0, .int .u64 0, .int .u32 0, .int .u8 0, .int .u8 0, .int .u8 0, .int .u8 0, .nilFunc, .pointer none, .int .i32 0, .int .i32 0]) := by unfold zeB; kernel_rfl
theorem ty_ag_114 : agB Tryd.prog 114 11 = true := by kernel_rfl
theorem ty_pl_114 : plB Tryd.prog 114 [(0, 1), (1, 1), (2, 1), (3, 1), (4, 1), (5, 1), (6, 1), (7, 1), (8, 1), (9, 1), (10, 1)] = true := by kernel_rfl
theorem ty_fld_114_0 : fldB Tryd.prog 114 0 = some (0, 12) := by kernel_rfl
theorem ty_fl_114_0 : flB Tryd.prog 114 0 0 = true := by kernel_rfl
theorem ty_fld_114_1 : fldB Tryd.prog 114 1 = some (1, 12) := by kernel_rfl
theorem ty_fl_114_1 : flB Tryd.prog 114 1 1 = true := by kernel_rfl
theorem ty_fld_114_2 : fldB Tryd.prog 114 2 = some (2, 42) := by kernel_rfl
theorem ty_fl_114_2 : flB Tryd.prog 114 2 2 = true := by kernel_rfl
theorem ty_fld_114_3 : fldB Tryd.prog 114 3 = some (3, 107) := by kernel_rfl
theorem ty_fl_114_3 : flB Tryd.prog 114 3 3 = true := by kernel_rfl
theorem ty_fld_114_4 : fldB Tryd.prog 114 4 = some (4, 5) := by kernel_rfl
theorem ty_fl_114_4 : flB Tryd.prog 114 4 4 = true := by kernel_rfl
theorem ty_fld_114_5 : fldB Tryd.prog 114 5 = some (5, 5) := by kernel_rfl
theorem ty_fl_114_5 : flB Tryd.prog 114 5 5 = true := by kernel_rfl
theorem ty_fld_114_6 : fldB Tryd.prog 114 6 = some (6, 108) := by kernel_rfl
theorem ty_fl_114_6 : flB Tryd.prog 114 6 6 = true := by kernel_rfl
theorem ty_fld_114_7 : fldB Tryd.prog 114 7 = some (7, 109) := by kernel_rfl
theorem ty_fl_114_7 : flB Tryd.prog 114 7 7 = true := by kernel_rfl
theorem ty_fld_114_8 : fldB Tryd.prog 114 8 = some (8, 110) := by kernel_rfl
theorem ty_fl_114_8 : flB Tryd.prog 114 8 8 = true := by kernel_rfl
theorem ty_fld_114_9 : fldB Tryd.prog 114 9 = some (9, 111) := by kernel_rfl
theorem ty_fl_114_9 : flB Tryd.prog 114 9 9 = true := by kernel_rfl
theorem ty_fld_114_10 : fldB Tryd.prog 114 10 = some (10, 112) := by kernel_rfl
theorem ty_fl_114_10 : flB Tryd.prog 114 10 10 = true := by kernel_rfl
theorem ty_ze_114 : zeB Tryd.prog 114 ([.int .u64 0, .int .u64 0, .int .u32 0, .int .u8 0, .int .u8 0, .int .u8 0, .int .u8 0, .nilFunc, .pointer none, .int .i32 0, .int .i32 0]) := by unfold zeB; kernel_rfl
theorem ty_ze_115 : zeB Tryd.prog 115 ([.pointer none]) := by unfold zeB; kernel_rfl
theorem fn_ca_2 : callable Tryd.prog 2 = true := by kernel_rfl
theorem fn_ca_3 : callable Tryd.prog 3 = true := by kernel_rfl
theorem fn_ca_4 : callable Tryd.prog 4 = true := by kernel_rfl
theorem fn_ca_5 : callable Tryd.prog 5 = true := by kernel_rfl
theorem fn_ca_6 : callable Tryd.prog 6 = true := by kernel_rfl
theorem fn_ca_7 : callable Tryd.prog 7 = true := by kernel_rfl
theorem fn_ca_8 : callable Tryd.prog 8 = true := by kernel_rfl
theorem fn_ca_9 : callable Tryd.prog 9 = true := by kernel_rfl
theorem fn_ca_10 : callable Tryd.prog 10 = true := by kernel_rfl
theorem fn_ca_11 : callable Tryd.prog 11 = true := by kernel_rfl
theorem fn_ca_12 : callable Tryd.prog 12 = true := by kernel_rfl
theorem fn_ca_13 : callable Tryd.prog 13 = true := by kernel_rfl
theorem fn_ca_14 : callable Tryd.prog 14 = true := by kernel_rfl
theorem fn_ca_15 : callable Tryd.prog 15 = true := by kernel_rfl
theorem fn_ca_16 : callable Tryd.prog 16 = true := by kernel_rfl
theorem fn_ca_17 : callable Tryd.prog 17 = true := by kernel_rfl
theorem fn_ca_18 : callable Tryd.prog 18 = true := by kernel_rfl
theorem fn_ca_19 : callable Tryd.prog 19 = true := by kernel_rfl
theorem fn_ca_20 : callable Tryd.prog 20 = true := by kernel_rfl
theorem fn_ca_21 : callable Tryd.prog 21 = true := by kernel_rfl
theorem fn_ca_22 : callable Tryd.prog 22 = true := by kernel_rfl
theorem fn_ca_23 : callable Tryd.prog 23 = true := by kernel_rfl
theorem fn_ca_24 : callable Tryd.prog 24 = true := by kernel_rfl
theorem fn_ca_25 : callable Tryd.prog 25 = true := by kernel_rfl
theorem fn_ca_26 : callable Tryd.prog 26 = true := by kernel_rfl
theorem fn_ca_27 : callable Tryd.prog 27 = true := by kernel_rfl
theorem fn_ca_28 : callable Tryd.prog 28 = true := by kernel_rfl
theorem fn_ca_29 : callable Tryd.prog 29 = true := by kernel_rfl
theorem fn_ca_30 : callable Tryd.prog 30 = true := by kernel_rfl
theorem fn_ca_31 : callable Tryd.prog 31 = true := by kernel_rfl
theorem fn_ca_32 : callable Tryd.prog 32 = true := by kernel_rfl
theorem fn_ca_33 : callable Tryd.prog 33 = true := by kernel_rfl
theorem fn_ca_34 : callable Tryd.prog 34 = true := by kernel_rfl
theorem fn_ca_35 : callable Tryd.prog 35 = true := by kernel_rfl
theorem fn_ca_36 : callable Tryd.prog 36 = true := by kernel_rfl
theorem fn_ca_37 : callable Tryd.prog 37 = true := by kernel_rfl
theorem fn_ca_38 : callable Tryd.prog 38 = true := by kernel_rfl
theorem fn_ca_39 : callable Tryd.prog 39 = true := by kernel_rfl
theorem fn_ca_40 : callable Tryd.prog 40 = true := by kernel_rfl
theorem fn_ca_41 : callable Tryd.prog 41 = true := by kernel_rfl
theorem fn_ca_42 : callable Tryd.prog 42 = true := by kernel_rfl
theorem fn_ca_43 : callable Tryd.prog 43 = true := by kernel_rfl
theorem fn_ca_44 : callable Tryd.prog 44 = true := by kernel_rfl
theorem fn_ca_45 : callable Tryd.prog 45 = true := by kernel_rfl
theorem fn_ca_46 : callable Tryd.prog 46 = true := by kernel_rfl
theorem fn_ca_47 : callable Tryd.prog 47 = true := by kernel_rfl
theorem fn_ca_48 : callable Tryd.prog 48 = true := by kernel_rfl
theorem fn_ca_49 : callable Tryd.prog 49 = true := by kernel_rfl
theorem fn_ca_50 : callable Tryd.prog 50 = true := by kernel_rfl
theorem fn_ca_51 : callable Tryd.prog 51 = true := by kernel_rfl
theorem fn_ca_52 : callable Tryd.prog 52 = true := by kernel_rfl
theorem fn_ca_53 : callable Tryd.prog 53 = true := by kernel_rfl
theorem fn_ca_54 : callable Tryd.prog 54 = true := by kernel_rfl
theorem fn_ca_55 : callable Tryd.prog 55 = true := by kernel_rfl
theorem fn_ca_56 : callable Tryd.prog 56 = true := by kernel_rfl
theorem fn_ca_57 : callable Tryd.prog 57 = true := by kernel_rfl
theorem fn_ca_58 : callable Tryd.prog 58 = true := by kernel_rfl
theorem fn_ca_59 : callable Tryd.prog 59 = true := by kernel_rfl
theorem fn_ca_60 : callable Tryd.prog 60 = true := by kernel_rfl
theorem fn_ca_61 : callable Tryd.prog 61 = true := by kernel_rfl
theorem fn_ca_62 : callable Tryd.prog 62 = true := by kernel_rfl
theorem fn_ca_63 : callable Tryd.prog 63 = true := by kernel_rfl
theorem fn_ca_64 : callable Tryd.prog 64 = true := by kernel_rfl
theorem fn_ca_65 : callable Tryd.prog 65 = true := by kernel_rfl
theorem fn_ca_66 : callable Tryd.prog 66 = true := by kernel_rfl
theorem fn_ca_88 : callable Tryd.prog 88 = true := by kernel_rfl
theorem mixed : Tryd.prog.follows .mixedOrders = true := by kernel_rfl
end Go.Proofs.YtldndhekjhlbmaaDoor
