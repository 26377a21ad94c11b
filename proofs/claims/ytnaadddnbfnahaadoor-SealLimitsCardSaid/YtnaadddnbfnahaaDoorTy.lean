/- Facts on the types and the functions of this seat's translation, each a closed reckoning: printed by gen.py. -/
import Derived.Test.YtnaadddnbfnahaaDoorProg
import Derived.Test.YtnaadddnbfnahaaDoorEngF
set_option linter.unusedVariables false
namespace Go.Proofs.YtnaadddnbfnahaaDoor
open Go Go.Proofs
set_option maxRecDepth 100000
/-- The program, with what its package-level variables held when the call began. -/
noncomputable abbrev cx (gl : Nat → Obj) : Cx := ⟨Tryd.prog, 3, gl⟩
theorem ty_sc_1 : scB Tryd.prog 1 = true := by kernel_rfl
theorem ty_sc_2 : scB Tryd.prog 2 = true := by kernel_rfl
theorem ty_int_2 : Tryd.prog.underlying 2 = some (.int .i64) := by kernel_rfl
theorem ty_ze_2 : zeB Tryd.prog 2 ([.int .i64 0]) := by unfold zeB; kernel_rfl
theorem ty_sc_3 : scB Tryd.prog 3 = true := by kernel_rfl
theorem ty_int_3 : Tryd.prog.underlying 3 = some (.int .i64) := by kernel_rfl
theorem ty_ze_3 : zeB Tryd.prog 3 ([.int .i64 0]) := by unfold zeB; kernel_rfl
theorem ty_sc_4 : scB Tryd.prog 4 = true := by kernel_rfl
theorem ty_bool_4 : Tryd.prog.underlying 4 = some .bool := by kernel_rfl
theorem ty_ze_4 : zeB Tryd.prog 4 ([.bool false]) := by unfold zeB; kernel_rfl
theorem ty_sc_5 : scB Tryd.prog 5 = true := by kernel_rfl
theorem ty_int_5 : Tryd.prog.underlying 5 = some (.int .u8) := by kernel_rfl
theorem ty_ze_5 : zeB Tryd.prog 5 ([.int .u8 0]) := by unfold zeB; kernel_rfl
theorem ty_sc_6 : scB Tryd.prog 6 = true := by kernel_rfl
theorem ty_int_6 : Tryd.prog.underlying 6 = some (.int .u8) := by kernel_rfl
theorem ty_ze_6 : zeB Tryd.prog 6 ([.int .u8 0]) := by unfold zeB; kernel_rfl
theorem ty_ag_7 : agB Tryd.prog 7 4 = true := by kernel_rfl
theorem ty_pl_7 : plB Tryd.prog 7 [(0, 1), (1, 1), (2, 1), (3, 1)] = true := by kernel_rfl
theorem ty_fld_7_0 : fldB Tryd.prog 7 0 = some (0, 2) := by kernel_rfl
theorem ty_fl_7_0 : flB Tryd.prog 7 0 0 = true := by kernel_rfl
theorem ty_fld_7_1 : fldB Tryd.prog 7 1 = some (1, 3) := by kernel_rfl
theorem ty_fl_7_1 : flB Tryd.prog 7 1 1 = true := by kernel_rfl
theorem ty_fld_7_2 : fldB Tryd.prog 7 2 = some (2, 4) := by kernel_rfl
theorem ty_fl_7_2 : flB Tryd.prog 7 2 2 = true := by kernel_rfl
theorem ty_fld_7_3 : fldB Tryd.prog 7 3 = some (3, 6) := by kernel_rfl
theorem ty_fl_7_3 : flB Tryd.prog 7 3 3 = true := by kernel_rfl
theorem ty_ze_7 : zeB Tryd.prog 7 ([.int .i64 0, .int .i64 0, .bool false, .int .u8 0]) := by unfold zeB; kernel_rfl
theorem ty_ag_8 : agB Tryd.prog 8 4 = true := by kernel_rfl
theorem ty_pl_8 : plB Tryd.prog 8 [(0, 1), (1, 1), (2, 1), (3, 1)] = true := by kernel_rfl
theorem ty_fld_8_0 : fldB Tryd.prog 8 0 = some (0, 2) := by kernel_rfl
theorem ty_fl_8_0 : flB Tryd.prog 8 0 0 = true := by kernel_rfl
theorem ty_fld_8_1 : fldB Tryd.prog 8 1 = some (1, 3) := by kernel_rfl
theorem ty_fl_8_1 : flB Tryd.prog 8 1 1 = true := by kernel_rfl
theorem ty_fld_8_2 : fldB Tryd.prog 8 2 = some (2, 4) := by kernel_rfl
theorem ty_fl_8_2 : flB Tryd.prog 8 2 2 = true := by kernel_rfl
theorem ty_fld_8_3 : fldB Tryd.prog 8 3 = some (3, 6) := by kernel_rfl
theorem ty_fl_8_3 : flB Tryd.prog 8 3 3 = true := by kernel_rfl
theorem ty_ze_8 : zeB Tryd.prog 8 ([.int .i64 0, .int .i64 0, .bool false, .int .u8 0]) := by unfold zeB; kernel_rfl
theorem ty_sc_9 : scB Tryd.prog 9 = true := by kernel_rfl
theorem ty_str_9 : Tryd.prog.underlying 9 = some .string := by kernel_rfl
theorem ty_src_9 : srcB Tryd.prog 9 = true := by kernel_rfl
theorem ty_ze_9 : zeB Tryd.prog 9 ([.string ByteArray.empty]) := by unfold zeB; kernel_rfl
theorem ty_sc_10 : scB Tryd.prog 10 = true := by kernel_rfl
theorem ty_str_10 : Tryd.prog.underlying 10 = some .string := by kernel_rfl
theorem ty_src_10 : srcB Tryd.prog 10 = true := by kernel_rfl
theorem ty_ze_10 : zeB Tryd.prog 10 ([.string ByteArray.empty]) := by unfold zeB; kernel_rfl
theorem ty_sc_11 : scB Tryd.prog 11 = true := by kernel_rfl
theorem ty_str_11 : Tryd.prog.underlying 11 = some .string := by kernel_rfl
theorem ty_src_11 : srcB Tryd.prog 11 = true := by kernel_rfl
theorem ty_ze_11 : zeB Tryd.prog 11 ([.string ByteArray.empty]) := by unfold zeB; kernel_rfl
theorem ty_sc_12 : scB Tryd.prog 12 = true := by kernel_rfl
theorem ty_int_12 : Tryd.prog.underlying 12 = some (.int .u64) := by kernel_rfl
theorem ty_ze_12 : zeB Tryd.prog 12 ([.int .u64 0]) := by unfold zeB; kernel_rfl
theorem ty_ag_13 : agB Tryd.prog 13 2 = true := by kernel_rfl
theorem ty_pl_13 : plB Tryd.prog 13 [(0, 1), (1, 1)] = true := by kernel_rfl
theorem ty_fld_13_0 : fldB Tryd.prog 13 0 = some (0, 9) := by kernel_rfl
theorem ty_fl_13_0 : flB Tryd.prog 13 0 0 = true := by kernel_rfl
theorem ty_fld_13_1 : fldB Tryd.prog 13 1 = some (1, 12) := by kernel_rfl
theorem ty_fl_13_1 : flB Tryd.prog 13 1 1 = true := by kernel_rfl
theorem ty_ze_13 : zeB Tryd.prog 13 ([.string ByteArray.empty, .int .u64 0]) := by unfold zeB; kernel_rfl
theorem ty_ag_14 : agB Tryd.prog 14 2 = true := by kernel_rfl
theorem ty_pl_14 : plB Tryd.prog 14 [(0, 1), (1, 1)] = true := by kernel_rfl
theorem ty_fld_14_0 : fldB Tryd.prog 14 0 = some (0, 9) := by kernel_rfl
theorem ty_fl_14_0 : flB Tryd.prog 14 0 0 = true := by kernel_rfl
theorem ty_fld_14_1 : fldB Tryd.prog 14 1 = some (1, 12) := by kernel_rfl
theorem ty_fl_14_1 : flB Tryd.prog 14 1 1 = true := by kernel_rfl
theorem ty_ze_14 : zeB Tryd.prog 14 ([.string ByteArray.empty, .int .u64 0]) := by unfold zeB; kernel_rfl
theorem ty_sc_15 : scB Tryd.prog 15 = true := by kernel_rfl
theorem ty_ptr_15 : Tryd.prog.underlying 15 = some (.pointer 164) := by kernel_rfl
theorem ty_ze_15 : zeB Tryd.prog 15 ([.pointer none]) := by unfold zeB; kernel_rfl
theorem ty_sc_16 : scB Tryd.prog 16 = true := by kernel_rfl
theorem ty_ptr_16 : Tryd.prog.underlying 16 = some (.pointer 167) := by kernel_rfl
theorem ty_ze_16 : zeB Tryd.prog 16 ([.pointer none]) := by unfold zeB; kernel_rfl
theorem ty_sc_17 : scB Tryd.prog 17 = true := by kernel_rfl
theorem ty_ptr_17 : Tryd.prog.underlying 17 = some (.pointer 175) := by kernel_rfl
theorem ty_ze_17 : zeB Tryd.prog 17 ([.pointer none]) := by unfold zeB; kernel_rfl
theorem ty_ag_18 : agB Tryd.prog 18 1 = true := by kernel_rfl
theorem ty_pl_18 : plB Tryd.prog 18 [(0, 1)] = true := by kernel_rfl
theorem ty_fld_18_0 : fldB Tryd.prog 18 0 = some (0, 17) := by kernel_rfl
theorem ty_fl_18_0 : flB Tryd.prog 18 0 0 = true := by kernel_rfl
theorem ty_ze_18 : zeB Tryd.prog 18 ([.pointer none]) := by unfold zeB; kernel_rfl
theorem ty_ag_19 : agB Tryd.prog 19 1 = true := by kernel_rfl
theorem ty_pl_19 : plB Tryd.prog 19 [(0, 1)] = true := by kernel_rfl
theorem ty_fld_19_0 : fldB Tryd.prog 19 0 = some (0, 17) := by kernel_rfl
theorem ty_fl_19_0 : flB Tryd.prog 19 0 0 = true := by kernel_rfl
theorem ty_ze_19 : zeB Tryd.prog 19 ([.pointer none]) := by unfold zeB; kernel_rfl
theorem ty_sc_20 : scB Tryd.prog 20 = true := by kernel_rfl
theorem ty_ze_20 : zeB Tryd.prog 20 ([.nilIface]) := by unfold zeB; kernel_rfl
theorem ty_sc_21 : scB Tryd.prog 21 = true := by kernel_rfl
theorem ty_int_21 : Tryd.prog.underlying 21 = some (.int .i32) := by kernel_rfl
theorem ty_ze_21 : zeB Tryd.prog 21 ([.int .i32 0]) := by unfold zeB; kernel_rfl
theorem ty_sc_22 : scB Tryd.prog 22 = true := by kernel_rfl
theorem ty_int_22 : Tryd.prog.underlying 22 = some (.int .u64) := by kernel_rfl
theorem ty_ze_22 : zeB Tryd.prog 22 ([.int .u64 0]) := by unfold zeB; kernel_rfl
theorem ty_sc_23 : scB Tryd.prog 23 = true := by kernel_rfl
theorem ty_int_23 : Tryd.prog.underlying 23 = some (.int .u64) := by kernel_rfl
theorem ty_ze_23 : zeB Tryd.prog 23 ([.int .u64 0]) := by unfold zeB; kernel_rfl
theorem ty_sc_24 : scB Tryd.prog 24 = true := by kernel_rfl
theorem ty_sl_24 : slB Tryd.prog 24 5 1 1 = true := by kernel_rfl
theorem ty_ap_24 : apB Tryd.prog 5 1 = true := by kernel_rfl
theorem ty_src_24 : srcB Tryd.prog 24 = true := by kernel_rfl
theorem ty_lz_24 : ((Tryd.prog.info? 5).bind (·.zero)).map (·.cells.size) = some 1 := by kernel_rfl
theorem ty_ze_24 : zeB Tryd.prog 24 ([.slice none 0 0]) := by unfold zeB; kernel_rfl
theorem ty_sc_25 : scB Tryd.prog 25 = true := by kernel_rfl
theorem ty_ptr_25 : Tryd.prog.underlying 25 = some (.pointer 97) := by kernel_rfl
theorem ty_ze_25 : zeB Tryd.prog 25 ([.pointer none]) := by unfold zeB; kernel_rfl
theorem ty_sc_26 : scB Tryd.prog 26 = true := by kernel_rfl
theorem ty_sc_27 : scB Tryd.prog 27 = true := by kernel_rfl
theorem ty_ptr_27 : Tryd.prog.underlying 27 = some (.pointer 100) := by kernel_rfl
theorem ty_ze_27 : zeB Tryd.prog 27 ([.pointer none]) := by unfold zeB; kernel_rfl
theorem ty_sc_28 : scB Tryd.prog 28 = true := by kernel_rfl
theorem ty_int_28 : Tryd.prog.underlying 28 = some (.int .i64) := by kernel_rfl
theorem ty_ze_28 : zeB Tryd.prog 28 ([.int .i64 0]) := by unfold zeB; kernel_rfl
theorem ty_sc_30 : scB Tryd.prog 30 = true := by kernel_rfl
theorem ty_sc_31 : scB Tryd.prog 31 = true := by kernel_rfl
theorem ty_ar_32 : arB Tryd.prog 32 16 5 1 = true := by kernel_rfl
theorem ty_ag_32 : agB Tryd.prog 32 16 = true := by kernel_rfl
theorem ty_un_32 : Tryd.prog.underlying 32 = some (.array 16 5) := by kernel_rfl
theorem ty_eg_32 : Tryd.prog.eqGuardType Tryd.prog.depth 32 = false := by kernel_rfl
theorem ty_ze_32 : zeB Tryd.prog 32 (List.replicate 16 (.int .u8 0)) := by unfold zeB; kernel_rfl
theorem ty_ar_33 : arB Tryd.prog 33 16 5 1 = true := by kernel_rfl
theorem ty_ag_33 : agB Tryd.prog 33 16 = true := by kernel_rfl
theorem ty_un_33 : Tryd.prog.underlying 33 = some (.array 16 5) := by kernel_rfl
theorem ty_eg_33 : Tryd.prog.eqGuardType Tryd.prog.depth 33 = false := by kernel_rfl
theorem ty_ze_33 : zeB Tryd.prog 33 (List.replicate 16 (.int .u8 0)) := by unfold zeB; kernel_rfl
theorem ty_sc_35 : scB Tryd.prog 35 = true := by kernel_rfl
theorem ty_sc_36 : scB Tryd.prog 36 = true := by kernel_rfl
theorem ty_sc_37 : scB Tryd.prog 37 = true := by kernel_rfl
theorem ty_sc_38 : scB Tryd.prog 38 = true := by kernel_rfl
theorem ty_sc_39 : scB Tryd.prog 39 = true := by kernel_rfl
theorem ty_sl_39 : slB Tryd.prog 39 72 23 88 = true := by kernel_rfl
theorem ty_ap_39 : apB Tryd.prog 72 23 = true := by kernel_rfl
theorem ty_src_39 : srcB Tryd.prog 39 = true := by kernel_rfl
theorem ty_lz_39 : ((Tryd.prog.info? 72).bind (·.zero)).map (·.cells.size) = some 23 := by kernel_rfl
theorem ty_ze_39 : zeB Tryd.prog 39 ([.slice none 0 0]) := by unfold zeB; kernel_rfl
theorem ty_sc_40 : scB Tryd.prog 40 = true := by kernel_rfl
theorem ty_ptr_40 : Tryd.prog.underlying 40 = some (.pointer 59) := by kernel_rfl
theorem ty_ze_40 : zeB Tryd.prog 40 ([.pointer none]) := by unfold zeB; kernel_rfl
theorem ty_sc_42 : scB Tryd.prog 42 = true := by kernel_rfl
theorem ty_sc_43 : scB Tryd.prog 43 = true := by kernel_rfl
theorem ty_sc_44 : scB Tryd.prog 44 = true := by kernel_rfl
theorem ty_sc_45 : scB Tryd.prog 45 = true := by kernel_rfl
theorem ty_ag_46 : agB Tryd.prog 46 19 = true := by kernel_rfl
theorem ty_pl_46 : plB Tryd.prog 46 [(0, 1), (1, 1), (2, 1), (3, 16)] = true := by kernel_rfl
theorem ty_fld_46_0 : fldB Tryd.prog 46 0 = some (0, 23) := by kernel_rfl
theorem ty_fl_46_0 : flB Tryd.prog 46 0 0 = true := by kernel_rfl
theorem ty_fld_46_1 : fldB Tryd.prog 46 1 = some (1, 23) := by kernel_rfl
theorem ty_fl_46_1 : flB Tryd.prog 46 1 1 = true := by kernel_rfl
theorem ty_fld_46_2 : fldB Tryd.prog 46 2 = some (2, 24) := by kernel_rfl
theorem ty_fl_46_2 : flB Tryd.prog 46 2 2 = true := by kernel_rfl
theorem ty_fld_46_3 : fldB Tryd.prog 46 3 = some (3, 33) := by kernel_rfl
theorem ty_fl_46_3 : flB Tryd.prog 46 3 3 = true := by kernel_rfl
theorem ty_ze_46 : zeB Tryd.prog 46 ([.int .u64 0, .int .u64 0, .slice none 0 0] ++ List.replicate 16 (.int .u8 0)) := by unfold zeB; kernel_rfl
theorem ty_ag_47 : agB Tryd.prog 47 19 = true := by kernel_rfl
theorem ty_pl_47 : plB Tryd.prog 47 [(0, 1), (1, 1), (2, 1), (3, 16)] = true := by kernel_rfl
theorem ty_fld_47_0 : fldB Tryd.prog 47 0 = some (0, 23) := by kernel_rfl
theorem ty_fl_47_0 : flB Tryd.prog 47 0 0 = true := by kernel_rfl
theorem ty_fld_47_1 : fldB Tryd.prog 47 1 = some (1, 23) := by kernel_rfl
theorem ty_fl_47_1 : flB Tryd.prog 47 1 1 = true := by kernel_rfl
theorem ty_fld_47_2 : fldB Tryd.prog 47 2 = some (2, 24) := by kernel_rfl
theorem ty_fl_47_2 : flB Tryd.prog 47 2 2 = true := by kernel_rfl
theorem ty_fld_47_3 : fldB Tryd.prog 47 3 = some (3, 33) := by kernel_rfl
theorem ty_fl_47_3 : flB Tryd.prog 47 3 3 = true := by kernel_rfl
theorem ty_ze_47 : zeB Tryd.prog 47 ([.int .u64 0, .int .u64 0, .slice none 0 0] ++ List.replicate 16 (.int .u8 0)) := by unfold zeB; kernel_rfl
theorem ty_sc_48 : scB Tryd.prog 48 = true := by kernel_rfl
theorem ty_sc_49 : scB Tryd.prog 49 = true := by kernel_rfl
theorem ty_sc_50 : scB Tryd.prog 50 = true := by kernel_rfl
theorem ty_sc_51 : scB Tryd.prog 51 = true := by kernel_rfl
theorem ty_sc_52 : scB Tryd.prog 52 = true := by kernel_rfl
theorem ty_sl_52 : slB Tryd.prog 52 23 1 8 = true := by kernel_rfl
theorem ty_ap_52 : apB Tryd.prog 23 1 = true := by kernel_rfl
theorem ty_src_52 : srcB Tryd.prog 52 = true := by kernel_rfl
theorem ty_lz_52 : ((Tryd.prog.info? 23).bind (·.zero)).map (·.cells.size) = some 1 := by kernel_rfl
theorem ty_ze_52 : zeB Tryd.prog 52 ([.slice none 0 0]) := by unfold zeB; kernel_rfl
theorem ty_ar_53 : arB Tryd.prog 53 2 25 1 = true := by kernel_rfl
theorem ty_ag_53 : agB Tryd.prog 53 2 = true := by kernel_rfl
theorem ty_ze_53 : zeB Tryd.prog 53 ([.pointer none, .pointer none]) := by unfold zeB; kernel_rfl
theorem ty_sc_54 : scB Tryd.prog 54 = true := by kernel_rfl
theorem ty_sl_54 : slB Tryd.prog 54 27 1 8 = true := by kernel_rfl
theorem ty_ap_54 : apB Tryd.prog 27 1 = true := by kernel_rfl
theorem ty_src_54 : srcB Tryd.prog 54 = true := by kernel_rfl
theorem ty_lz_54 : ((Tryd.prog.info? 27).bind (·.zero)).map (·.cells.size) = some 1 := by kernel_rfl
theorem ty_ze_54 : zeB Tryd.prog 54 ([.slice none 0 0]) := by unfold zeB; kernel_rfl
theorem ty_ar_55 : arB Tryd.prog 55 2 54 1 = true := by kernel_rfl
theorem ty_ag_55 : agB Tryd.prog 55 2 = true := by kernel_rfl
theorem ty_ze_55 : zeB Tryd.prog 55 ([.slice none 0 0, .slice none 0 0]) := by unfold zeB; kernel_rfl
theorem ty_ar_56 : arB Tryd.prog 56 2 52 1 = true := by kernel_rfl
theorem ty_ag_56 : agB Tryd.prog 56 2 = true := by kernel_rfl
theorem ty_ze_56 : zeB Tryd.prog 56 ([.slice none 0 0, .slice none 0 0]) := by unfold zeB; kernel_rfl
theorem ty_sc_57 : scB Tryd.prog 57 = true := by kernel_rfl
theorem ty_sl_57 : slB Tryd.prog 57 64 19 48 = true := by kernel_rfl
theorem ty_ap_57 : apB Tryd.prog 64 19 = true := by kernel_rfl
theorem ty_src_57 : srcB Tryd.prog 57 = true := by kernel_rfl
theorem ty_lz_57 : ((Tryd.prog.info? 64).bind (·.zero)).map (·.cells.size) = some 19 := by kernel_rfl
theorem ty_ze_57 : zeB Tryd.prog 57 ([.slice none 0 0]) := by unfold zeB; kernel_rfl
theorem ty_ag_58 : agB Tryd.prog 58 8 = true := by kernel_rfl
theorem ty_pl_58 : plB Tryd.prog 58 [(0, 2), (2, 2), (4, 2), (6, 1), (7, 1)] = true := by kernel_rfl
theorem ty_fld_58_0 : fldB Tryd.prog 58 0 = some (0, 53) := by kernel_rfl
theorem ty_fl_58_0 : flB Tryd.prog 58 0 0 = true := by kernel_rfl
theorem ty_fld_58_1 : fldB Tryd.prog 58 1 = some (2, 55) := by kernel_rfl
theorem ty_fl_58_1 : flB Tryd.prog 58 1 2 = true := by kernel_rfl
theorem ty_fld_58_2 : fldB Tryd.prog 58 2 = some (4, 56) := by kernel_rfl
theorem ty_fl_58_2 : flB Tryd.prog 58 2 4 = true := by kernel_rfl
theorem ty_fld_58_3 : fldB Tryd.prog 58 3 = some (6, 57) := by kernel_rfl
theorem ty_fl_58_3 : flB Tryd.prog 58 3 6 = true := by kernel_rfl
theorem ty_fld_58_4 : fldB Tryd.prog 58 4 = some (7, 4) := by kernel_rfl
theorem ty_fl_58_4 : flB Tryd.prog 58 4 7 = true := by kernel_rfl
theorem ty_ze_58 : zeB Tryd.prog 58 ([.pointer none, .pointer none] ++ List.replicate 5 (.slice none 0 0) ++ [.bool false]) := by unfold zeB; kernel_rfl
theorem ty_ag_59 : agB Tryd.prog 59 8 = true := by kernel_rfl
theorem ty_pl_59 : plB Tryd.prog 59 [(0, 2), (2, 2), (4, 2), (6, 1), (7, 1)] = true := by kernel_rfl
theorem ty_fld_59_0 : fldB Tryd.prog 59 0 = some (0, 53) := by kernel_rfl
theorem ty_fl_59_0 : flB Tryd.prog 59 0 0 = true := by kernel_rfl
theorem ty_fld_59_1 : fldB Tryd.prog 59 1 = some (2, 55) := by kernel_rfl
theorem ty_fl_59_1 : flB Tryd.prog 59 1 2 = true := by kernel_rfl
theorem ty_fld_59_2 : fldB Tryd.prog 59 2 = some (4, 56) := by kernel_rfl
theorem ty_fl_59_2 : flB Tryd.prog 59 2 4 = true := by kernel_rfl
theorem ty_fld_59_3 : fldB Tryd.prog 59 3 = some (6, 57) := by kernel_rfl
theorem ty_fl_59_3 : flB Tryd.prog 59 3 6 = true := by kernel_rfl
theorem ty_fld_59_4 : fldB Tryd.prog 59 4 = some (7, 4) := by kernel_rfl
theorem ty_fl_59_4 : flB Tryd.prog 59 4 7 = true := by kernel_rfl
theorem ty_ze_59 : zeB Tryd.prog 59 ([.pointer none, .pointer none] ++ List.replicate 5 (.slice none 0 0) ++ [.bool false]) := by unfold zeB; kernel_rfl
theorem ty_sc_60 : scB Tryd.prog 60 = true := by kernel_rfl
theorem ty_sl_60 : slB Tryd.prog 60 24 1 24 = true := by kernel_rfl
theorem ty_ap_60 : apB Tryd.prog 24 1 = true := by kernel_rfl
theorem ty_src_60 : srcB Tryd.prog 60 = true := by kernel_rfl
theorem ty_lz_60 : ((Tryd.prog.info? 24).bind (·.zero)).map (·.cells.size) = some 1 := by kernel_rfl
theorem ty_ze_60 : zeB Tryd.prog 60 ([.slice none 0 0]) := by unfold zeB; kernel_rfl
theorem ty_sc_61 : scB Tryd.prog 61 = true := by kernel_rfl
theorem ty_sc_62 : scB Tryd.prog 62 = true := by kernel_rfl
theorem ty_ag_63 : agB Tryd.prog 63 19 = true := by kernel_rfl
theorem ty_pl_63 : plB Tryd.prog 63 [(0, 1), (1, 1), (2, 1), (3, 16)] = true := by kernel_rfl
theorem ty_fld_63_0 : fldB Tryd.prog 63 0 = some (0, 3) := by kernel_rfl
theorem ty_fl_63_0 : flB Tryd.prog 63 0 0 = true := by kernel_rfl
theorem ty_fld_63_1 : fldB Tryd.prog 63 1 = some (1, 23) := by kernel_rfl
theorem ty_fl_63_1 : flB Tryd.prog 63 1 1 = true := by kernel_rfl
theorem ty_fld_63_2 : fldB Tryd.prog 63 2 = some (2, 9) := by kernel_rfl
theorem ty_fl_63_2 : flB Tryd.prog 63 2 2 = true := by kernel_rfl
theorem ty_fld_63_3 : fldB Tryd.prog 63 3 = some (3, 33) := by kernel_rfl
theorem ty_fl_63_3 : flB Tryd.prog 63 3 3 = true := by kernel_rfl
theorem ty_ze_63 : zeB Tryd.prog 63 ([.int .i64 0, .int .u64 0, .string ByteArray.empty] ++ List.replicate 16 (.int .u8 0)) := by unfold zeB; kernel_rfl
theorem ty_ag_64 : agB Tryd.prog 64 19 = true := by kernel_rfl
theorem ty_pl_64 : plB Tryd.prog 64 [(0, 1), (1, 1), (2, 1), (3, 16)] = true := by kernel_rfl
theorem ty_fld_64_0 : fldB Tryd.prog 64 0 = some (0, 3) := by kernel_rfl
theorem ty_fl_64_0 : flB Tryd.prog 64 0 0 = true := by kernel_rfl
theorem ty_fld_64_1 : fldB Tryd.prog 64 1 = some (1, 23) := by kernel_rfl
theorem ty_fl_64_1 : flB Tryd.prog 64 1 1 = true := by kernel_rfl
theorem ty_fld_64_2 : fldB Tryd.prog 64 2 = some (2, 9) := by kernel_rfl
theorem ty_fl_64_2 : flB Tryd.prog 64 2 2 = true := by kernel_rfl
theorem ty_fld_64_3 : fldB Tryd.prog 64 3 = some (3, 33) := by kernel_rfl
theorem ty_fl_64_3 : flB Tryd.prog 64 3 3 = true := by kernel_rfl
theorem ty_ze_64 : zeB Tryd.prog 64 ([.int .i64 0, .int .u64 0, .string ByteArray.empty] ++ List.replicate 16 (.int .u8 0)) := by unfold zeB; kernel_rfl
theorem ty_sc_65 : scB Tryd.prog 65 = true := by kernel_rfl
theorem ty_sc_66 : scB Tryd.prog 66 = true := by kernel_rfl
theorem ty_sc_67 : scB Tryd.prog 67 = true := by kernel_rfl
theorem ty_ptr_67 : Tryd.prog.underlying 67 = some (.pointer 79) := by kernel_rfl
theorem ty_ze_67 : zeB Tryd.prog 67 ([.pointer none]) := by unfold zeB; kernel_rfl
theorem ty_sc_69 : scB Tryd.prog 69 = true := by kernel_rfl
theorem ty_sc_70 : scB Tryd.prog 70 = true := by kernel_rfl
theorem ty_ag_71 : agB Tryd.prog 71 23 = true := by kernel_rfl
theorem ty_pl_71 : plB Tryd.prog 71 [(0, 1), (1, 1), (2, 1), (3, 1), (4, 1), (5, 16), (21, 1), (22, 1)] = true := by kernel_rfl
theorem ty_fld_71_0 : fldB Tryd.prog 71 0 = some (0, 3) := by kernel_rfl
theorem ty_fl_71_0 : flB Tryd.prog 71 0 0 = true := by kernel_rfl
theorem ty_fld_71_1 : fldB Tryd.prog 71 1 = some (1, 3) := by kernel_rfl
theorem ty_fl_71_1 : flB Tryd.prog 71 1 1 = true := by kernel_rfl
theorem ty_fld_71_2 : fldB Tryd.prog 71 2 = some (2, 3) := by kernel_rfl
theorem ty_fl_71_2 : flB Tryd.prog 71 2 2 = true := by kernel_rfl
theorem ty_fld_71_3 : fldB Tryd.prog 71 3 = some (3, 23) := by kernel_rfl
theorem ty_fl_71_3 : flB Tryd.prog 71 3 3 = true := by kernel_rfl
theorem ty_fld_71_4 : fldB Tryd.prog 71 4 = some (4, 24) := by kernel_rfl
theorem ty_fl_71_4 : flB Tryd.prog 71 4 4 = true := by kernel_rfl
theorem ty_fld_71_5 : fldB Tryd.prog 71 5 = some (5, 33) := by kernel_rfl
theorem ty_fl_71_5 : flB Tryd.prog 71 5 5 = true := by kernel_rfl
theorem ty_fld_71_6 : fldB Tryd.prog 71 6 = some (21, 3) := by kernel_rfl
theorem ty_fl_71_6 : flB Tryd.prog 71 6 21 = true := by kernel_rfl
theorem ty_fld_71_7 : fldB Tryd.prog 71 7 = some (22, 4) := by kernel_rfl
theorem ty_fl_71_7 : flB Tryd.prog 71 7 22 = true := by kernel_rfl
theorem ty_ze_71 : zeB Tryd.prog 71 ([.int .i64 0, .int .i64 0, .int .i64 0, .int .u64 0, .slice none 0 0] ++ List.replicate 16 (.int .u8 0) ++ [.int .i64 0, .bool false]) := by unfold zeB; kernel_rfl
theorem ty_ag_72 : agB Tryd.prog 72 23 = true := by kernel_rfl
theorem ty_pl_72 : plB Tryd.prog 72 [(0, 1), (1, 1), (2, 1), (3, 1), (4, 1), (5, 16), (21, 1), (22, 1)] = true := by kernel_rfl
theorem ty_fld_72_0 : fldB Tryd.prog 72 0 = some (0, 3) := by kernel_rfl
theorem ty_fl_72_0 : flB Tryd.prog 72 0 0 = true := by kernel_rfl
theorem ty_fld_72_1 : fldB Tryd.prog 72 1 = some (1, 3) := by kernel_rfl
theorem ty_fl_72_1 : flB Tryd.prog 72 1 1 = true := by kernel_rfl
theorem ty_fld_72_2 : fldB Tryd.prog 72 2 = some (2, 3) := by kernel_rfl
theorem ty_fl_72_2 : flB Tryd.prog 72 2 2 = true := by kernel_rfl
theorem ty_fld_72_3 : fldB Tryd.prog 72 3 = some (3, 23) := by kernel_rfl
theorem ty_fl_72_3 : flB Tryd.prog 72 3 3 = true := by kernel_rfl
theorem ty_fld_72_4 : fldB Tryd.prog 72 4 = some (4, 24) := by kernel_rfl
theorem ty_fl_72_4 : flB Tryd.prog 72 4 4 = true := by kernel_rfl
theorem ty_fld_72_5 : fldB Tryd.prog 72 5 = some (5, 33) := by kernel_rfl
theorem ty_fl_72_5 : flB Tryd.prog 72 5 5 = true := by kernel_rfl
theorem ty_fld_72_6 : fldB Tryd.prog 72 6 = some (21, 3) := by kernel_rfl
theorem ty_fl_72_6 : flB Tryd.prog 72 6 21 = true := by kernel_rfl
theorem ty_fld_72_7 : fldB Tryd.prog 72 7 = some (22, 4) := by kernel_rfl
theorem ty_fl_72_7 : flB Tryd.prog 72 7 22 = true := by kernel_rfl
theorem ty_ze_72 : zeB Tryd.prog 72 ([.int .i64 0, .int .i64 0, .int .i64 0, .int .u64 0, .slice none 0 0] ++ List.replicate 16 (.int .u8 0) ++ [.int .i64 0, .bool false]) := by unfold zeB; kernel_rfl
theorem ty_sc_73 : scB Tryd.prog 73 = true := by kernel_rfl
theorem ty_ptr_73 : Tryd.prog.underlying 73 = some (.pointer 118) := by kernel_rfl
theorem ty_ze_73 : zeB Tryd.prog 73 ([.pointer none]) := by unfold zeB; kernel_rfl
theorem ty_ar_74 : arB Tryd.prog 74 2 73 1 = true := by kernel_rfl
theorem ty_ag_74 : agB Tryd.prog 74 2 = true := by kernel_rfl
theorem ty_ze_74 : zeB Tryd.prog 74 ([.pointer none, .pointer none]) := by unfold zeB; kernel_rfl
theorem ty_sc_75 : scB Tryd.prog 75 = true := by kernel_rfl
theorem ty_sl_75 : slB Tryd.prog 75 114 1 8 = true := by kernel_rfl
theorem ty_ap_75 : apB Tryd.prog 114 1 = true := by kernel_rfl
theorem ty_src_75 : srcB Tryd.prog 75 = true := by kernel_rfl
theorem ty_lz_75 : ((Tryd.prog.info? 114).bind (·.zero)).map (·.cells.size) = some 1 := by kernel_rfl
theorem ty_ze_75 : zeB Tryd.prog 75 ([.slice none 0 0]) := by unfold zeB; kernel_rfl
theorem ty_ar_76 : arB Tryd.prog 76 2 75 1 = true := by kernel_rfl
theorem ty_ag_76 : agB Tryd.prog 76 2 = true := by kernel_rfl
theorem ty_ze_76 : zeB Tryd.prog 76 ([.slice none 0 0, .slice none 0 0]) := by unfold zeB; kernel_rfl
theorem ty_sc_77 : scB Tryd.prog 77 = true := by kernel_rfl
theorem ty_sl_77 : slB Tryd.prog 77 33 16 16 = true := by kernel_rfl
theorem ty_ap_77 : apB Tryd.prog 33 16 = true := by kernel_rfl
theorem ty_src_77 : srcB Tryd.prog 77 = true := by kernel_rfl
theorem ty_lz_77 : ((Tryd.prog.info? 33).bind (·.zero)).map (·.cells.size) = some 16 := by kernel_rfl
theorem ty_ze_77 : zeB Tryd.prog 77 ([.slice none 0 0]) := by unfold zeB; kernel_rfl
theorem ty_ag_78 : agB Tryd.prog 78 9 = true := by kernel_rfl
theorem ty_pl_78 : plB Tryd.prog 78 [(0, 2), (2, 2), (4, 2), (6, 2), (8, 1)] = true := by kernel_rfl
theorem ty_fld_78_0 : fldB Tryd.prog 78 0 = some (0, 53) := by kernel_rfl
theorem ty_fl_78_0 : flB Tryd.prog 78 0 0 = true := by kernel_rfl
theorem ty_fld_78_1 : fldB Tryd.prog 78 1 = some (2, 74) := by kernel_rfl
theorem ty_fl_78_1 : flB Tryd.prog 78 1 2 = true := by kernel_rfl
theorem ty_fld_78_2 : fldB Tryd.prog 78 2 = some (4, 55) := by kernel_rfl
theorem ty_fl_78_2 : flB Tryd.prog 78 2 4 = true := by kernel_rfl
theorem ty_fld_78_3 : fldB Tryd.prog 78 3 = some (6, 76) := by kernel_rfl
theorem ty_fl_78_3 : flB Tryd.prog 78 3 6 = true := by kernel_rfl
theorem ty_fld_78_4 : fldB Tryd.prog 78 4 = some (8, 77) := by kernel_rfl
theorem ty_fl_78_4 : flB Tryd.prog 78 4 8 = true := by kernel_rfl
theorem ty_ze_78 : zeB Tryd.prog 78 ([.pointer none, .pointer none, .pointer none, .pointer none] ++ List.replicate 5 (.slice none 0 0)) := by unfold zeB; kernel_rfl
theorem ty_ag_79 : agB Tryd.prog 79 9 = true := by kernel_rfl
theorem ty_pl_79 : plB Tryd.prog 79 [(0, 2), (2, 2), (4, 2), (6, 2), (8, 1)] = true := by kernel_rfl
theorem ty_fld_79_0 : fldB Tryd.prog 79 0 = some (0, 53) := by kernel_rfl
theorem ty_fl_79_0 : flB Tryd.prog 79 0 0 = true := by kernel_rfl
theorem ty_fld_79_1 : fldB Tryd.prog 79 1 = some (2, 74) := by kernel_rfl
theorem ty_fl_79_1 : flB Tryd.prog 79 1 2 = true := by kernel_rfl
theorem ty_fld_79_2 : fldB Tryd.prog 79 2 = some (4, 55) := by kernel_rfl
theorem ty_fl_79_2 : flB Tryd.prog 79 2 4 = true := by kernel_rfl
theorem ty_fld_79_3 : fldB Tryd.prog 79 3 = some (6, 76) := by kernel_rfl
theorem ty_fl_79_3 : flB Tryd.prog 79 3 6 = true := by kernel_rfl
theorem ty_fld_79_4 : fldB Tryd.prog 79 4 = some (8, 77) := by kernel_rfl
theorem ty_fl_79_4 : flB Tryd.prog 79 4 8 = true := by kernel_rfl
theorem ty_ze_79 : zeB Tryd.prog 79 ([.pointer none, .pointer none, .pointer none, .pointer none] ++ List.replicate 5 (.slice none 0 0)) := by unfold zeB; kernel_rfl
theorem ty_sc_80 : scB Tryd.prog 80 = true := by kernel_rfl
theorem ty_ptr_80 : Tryd.prog.underlying 80 = some (.pointer 83) := by kernel_rfl
theorem ty_ze_80 : zeB Tryd.prog 80 ([.pointer none]) := by unfold zeB; kernel_rfl
theorem ty_sc_81 : scB Tryd.prog 81 = true := by kernel_rfl
theorem ty_sl_81 : slB Tryd.prog 81 60 1 24 = true := by kernel_rfl
theorem ty_ap_81 : apB Tryd.prog 60 1 = true := by kernel_rfl
theorem ty_src_81 : srcB Tryd.prog 81 = true := by kernel_rfl
theorem ty_lz_81 : ((Tryd.prog.info? 60).bind (·.zero)).map (·.cells.size) = some 1 := by kernel_rfl
theorem ty_ze_81 : zeB Tryd.prog 81 ([.slice none 0 0]) := by unfold zeB; kernel_rfl
theorem ty_ag_82 : agB Tryd.prog 82 6 = true := by kernel_rfl
theorem ty_pl_82 : plB Tryd.prog 82 [(0, 1), (1, 1), (2, 1), (3, 1), (4, 1), (5, 1)] = true := by kernel_rfl
theorem ty_fld_82_0 : fldB Tryd.prog 82 0 = some (0, 81) := by kernel_rfl
theorem ty_fl_82_0 : flB Tryd.prog 82 0 0 = true := by kernel_rfl
theorem ty_fld_82_1 : fldB Tryd.prog 82 1 = some (1, 81) := by kernel_rfl
theorem ty_fl_82_1 : flB Tryd.prog 82 1 1 = true := by kernel_rfl
theorem ty_fld_82_2 : fldB Tryd.prog 82 2 = some (2, 60) := by kernel_rfl
theorem ty_fl_82_2 : flB Tryd.prog 82 2 2 = true := by kernel_rfl
theorem ty_fld_82_3 : fldB Tryd.prog 82 3 = some (3, 60) := by kernel_rfl
theorem ty_fl_82_3 : flB Tryd.prog 82 3 3 = true := by kernel_rfl
theorem ty_fld_82_4 : fldB Tryd.prog 82 4 = some (4, 3) := by kernel_rfl
theorem ty_fl_82_4 : flB Tryd.prog 82 4 4 = true := by kernel_rfl
theorem ty_fld_82_5 : fldB Tryd.prog 82 5 = some (5, 3) := by kernel_rfl
theorem ty_fl_82_5 : flB Tryd.prog 82 5 5 = true := by kernel_rfl
theorem ty_ze_82 : zeB Tryd.prog 82 ([.slice none 0 0, .slice none 0 0, .slice none 0 0, .slice none 0 0, .int .i64 0, .int .i64 0]) := by unfold zeB; kernel_rfl
theorem ty_ag_83 : agB Tryd.prog 83 6 = true := by kernel_rfl
theorem ty_pl_83 : plB Tryd.prog 83 [(0, 1), (1, 1), (2, 1), (3, 1), (4, 1), (5, 1)] = true := by kernel_rfl
theorem ty_fld_83_0 : fldB Tryd.prog 83 0 = some (0, 81) := by kernel_rfl
theorem ty_fl_83_0 : flB Tryd.prog 83 0 0 = true := by kernel_rfl
theorem ty_fld_83_1 : fldB Tryd.prog 83 1 = some (1, 81) := by kernel_rfl
theorem ty_fl_83_1 : flB Tryd.prog 83 1 1 = true := by kernel_rfl
theorem ty_fld_83_2 : fldB Tryd.prog 83 2 = some (2, 60) := by kernel_rfl
theorem ty_fl_83_2 : flB Tryd.prog 83 2 2 = true := by kernel_rfl
theorem ty_fld_83_3 : fldB Tryd.prog 83 3 = some (3, 60) := by kernel_rfl
theorem ty_fl_83_3 : flB Tryd.prog 83 3 3 = true := by kernel_rfl
theorem ty_fld_83_4 : fldB Tryd.prog 83 4 = some (4, 3) := by kernel_rfl
theorem ty_fl_83_4 : flB Tryd.prog 83 4 4 = true := by kernel_rfl
theorem ty_fld_83_5 : fldB Tryd.prog 83 5 = some (5, 3) := by kernel_rfl
theorem ty_fl_83_5 : flB Tryd.prog 83 5 5 = true := by kernel_rfl
theorem ty_ze_83 : zeB Tryd.prog 83 ([.slice none 0 0, .slice none 0 0, .slice none 0 0, .slice none 0 0, .int .i64 0, .int .i64 0]) := by unfold zeB; kernel_rfl
theorem ty_sc_84 : scB Tryd.prog 84 = true := by kernel_rfl
theorem ty_sc_85 : scB Tryd.prog 85 = true := by kernel_rfl
theorem ty_ag_86 : agB Tryd.prog 86 0 = true := by kernel_rfl
theorem ty_pl_86 : plB Tryd.prog 86 [] = true := by kernel_rfl
theorem ty_ze_86 : zeB Tryd.prog 86 ([]) := by unfold zeB; kernel_rfl
theorem ty_ag_87 : agB Tryd.prog 87 0 = true := by kernel_rfl
theorem ty_pl_87 : plB Tryd.prog 87 [] = true := by kernel_rfl
theorem ty_ze_87 : zeB Tryd.prog 87 ([]) := by unfold zeB; kernel_rfl
theorem ty_sc_88 : scB Tryd.prog 88 = true := by kernel_rfl
theorem ty_int_88 : Tryd.prog.underlying 88 = some (.int .u32) := by kernel_rfl
theorem ty_ze_88 : zeB Tryd.prog 88 ([.int .u32 0]) := by unfold zeB; kernel_rfl
theorem ty_ag_89 : agB Tryd.prog 89 2 = true := by kernel_rfl
theorem ty_pl_89 : plB Tryd.prog 89 [(0, 1), (1, 1)] = true := by kernel_rfl
theorem ty_fld_89_0 : fldB Tryd.prog 89 0 = some (0, 21) := by kernel_rfl
theorem ty_fl_89_0 : flB Tryd.prog 89 0 0 = true := by kernel_rfl
theorem ty_fld_89_1 : fldB Tryd.prog 89 1 = some (1, 88) := by kernel_rfl
theorem ty_fl_89_1 : flB Tryd.prog 89 1 1 = true := by kernel_rfl
theorem ty_ze_89 : zeB Tryd.prog 89 ([.int .i32 0, .int .u32 0]) := by unfold zeB; kernel_rfl
theorem ty_ag_90 : agB Tryd.prog 90 2 = true := by kernel_rfl
theorem ty_pl_90 : plB Tryd.prog 90 [(0, 1), (1, 1)] = true := by kernel_rfl
theorem ty_fld_90_0 : fldB Tryd.prog 90 0 = some (0, 21) := by kernel_rfl
theorem ty_fl_90_0 : flB Tryd.prog 90 0 0 = true := by kernel_rfl
theorem ty_fld_90_1 : fldB Tryd.prog 90 1 = some (1, 88) := by kernel_rfl
theorem ty_fl_90_1 : flB Tryd.prog 90 1 1 = true := by kernel_rfl
theorem ty_ze_90 : zeB Tryd.prog 90 ([.int .i32 0, .int .u32 0]) := by unfold zeB; kernel_rfl
theorem ty_ag_91 : agB Tryd.prog 91 2 = true := by kernel_rfl
theorem ty_pl_91 : plB Tryd.prog 91 [(0, 0), (0, 2)] = true := by kernel_rfl
theorem ty_fld_91_0 : fldB Tryd.prog 91 0 = some (0, 87) := by kernel_rfl
theorem ty_fld_91_1 : fldB Tryd.prog 91 1 = some (0, 90) := by kernel_rfl
theorem ty_fl_91_1 : flB Tryd.prog 91 1 0 = true := by kernel_rfl
theorem ty_ze_91 : zeB Tryd.prog 91 ([.int .i32 0, .int .u32 0]) := by unfold zeB; kernel_rfl
theorem ty_ag_92 : agB Tryd.prog 92 2 = true := by kernel_rfl
theorem ty_pl_92 : plB Tryd.prog 92 [(0, 0), (0, 2)] = true := by kernel_rfl
theorem ty_fld_92_0 : fldB Tryd.prog 92 0 = some (0, 87) := by kernel_rfl
theorem ty_fld_92_1 : fldB Tryd.prog 92 1 = some (0, 90) := by kernel_rfl
theorem ty_fl_92_1 : flB Tryd.prog 92 1 0 = true := by kernel_rfl
theorem ty_ze_92 : zeB Tryd.prog 92 ([.int .i32 0, .int .u32 0]) := by unfold zeB; kernel_rfl
theorem ty_sc_93 : scB Tryd.prog 93 = true := by kernel_rfl
theorem ty_map_93 : Tryd.prog.underlying 93 = some (.map 23 27) := by kernel_rfl
theorem ty_ze_93 : zeB Tryd.prog 93 ([.map none]) := by unfold zeB; kernel_rfl
theorem ty_sc_94 : scB Tryd.prog 94 = true := by kernel_rfl
theorem ty_map_94 : Tryd.prog.underlying 94 = some (.map 102 86) := by kernel_rfl
theorem ty_ze_94 : zeB Tryd.prog 94 ([.map none]) := by unfold zeB; kernel_rfl
theorem ty_sc_95 : scB Tryd.prog 95 = true := by kernel_rfl
theorem ty_map_95 : Tryd.prog.underlying 95 = some (.map 23 104) := by kernel_rfl
theorem ty_ze_95 : zeB Tryd.prog 95 ([.map none]) := by unfold zeB; kernel_rfl
theorem ty_ag_96 : agB Tryd.prog 96 5 = true := by kernel_rfl
theorem ty_pl_96 : plB Tryd.prog 96 [(0, 2), (2, 1), (3, 1), (4, 1)] = true := by kernel_rfl
theorem ty_fld_96_0 : fldB Tryd.prog 96 0 = some (0, 92) := by kernel_rfl
theorem ty_fl_96_0 : flB Tryd.prog 96 0 0 = true := by kernel_rfl
theorem ty_fld_96_1 : fldB Tryd.prog 96 1 = some (2, 93) := by kernel_rfl
theorem ty_fl_96_1 : flB Tryd.prog 96 1 2 = true := by kernel_rfl
theorem ty_fld_96_2 : fldB Tryd.prog 96 2 = some (3, 94) := by kernel_rfl
theorem ty_fl_96_2 : flB Tryd.prog 96 2 3 = true := by kernel_rfl
theorem ty_fld_96_3 : fldB Tryd.prog 96 3 = some (4, 95) := by kernel_rfl
theorem ty_fl_96_3 : flB Tryd.prog 96 3 4 = true := by kernel_rfl
theorem ty_ze_96 : zeB Tryd.prog 96 ([.int .i32 0, .int .u32 0, .map none, .map none, .map none]) := by unfold zeB; kernel_rfl
theorem ty_ag_97 : agB Tryd.prog 97 5 = true := by kernel_rfl
theorem ty_pl_97 : plB Tryd.prog 97 [(0, 2), (2, 1), (3, 1), (4, 1)] = true := by kernel_rfl
theorem ty_fld_97_0 : fldB Tryd.prog 97 0 = some (0, 92) := by kernel_rfl
theorem ty_fl_97_0 : flB Tryd.prog 97 0 0 = true := by kernel_rfl
theorem ty_fld_97_1 : fldB Tryd.prog 97 1 = some (2, 93) := by kernel_rfl
theorem ty_fl_97_1 : flB Tryd.prog 97 1 2 = true := by kernel_rfl
theorem ty_fld_97_2 : fldB Tryd.prog 97 2 = some (3, 94) := by kernel_rfl
theorem ty_fl_97_2 : flB Tryd.prog 97 2 3 = true := by kernel_rfl
theorem ty_fld_97_3 : fldB Tryd.prog 97 3 = some (4, 95) := by kernel_rfl
theorem ty_fl_97_3 : flB Tryd.prog 97 3 4 = true := by kernel_rfl
theorem ty_ze_97 : zeB Tryd.prog 97 ([.int .i32 0, .int .u32 0, .map none, .map none, .map none]) := by unfold zeB; kernel_rfl
theorem ty_sc_98 : scB Tryd.prog 98 = true := by kernel_rfl
theorem ty_ag_99 : agB Tryd.prog 99 2 = true := by kernel_rfl
theorem ty_pl_99 : plB Tryd.prog 99 [(0, 1), (1, 1)] = true := by kernel_rfl
theorem ty_fld_99_0 : fldB Tryd.prog 99 0 = some (0, 25) := by kernel_rfl
theorem ty_fl_99_0 : flB Tryd.prog 99 0 0 = true := by kernel_rfl
theorem ty_fld_99_1 : fldB Tryd.prog 99 1 = some (1, 23) := by kernel_rfl
theorem ty_fl_99_1 : flB Tryd.prog 99 1 1 = true := by kernel_rfl
theorem ty_ze_99 : zeB Tryd.prog 99 ([.pointer none, .int .u64 0]) := by unfold zeB; kernel_rfl
theorem ty_ag_100 : agB Tryd.prog 100 2 = true := by kernel_rfl
theorem ty_pl_100 : plB Tryd.prog 100 [(0, 1), (1, 1)] = true := by kernel_rfl
theorem ty_fld_100_0 : fldB Tryd.prog 100 0 = some (0, 25) := by kernel_rfl
theorem ty_fl_100_0 : flB Tryd.prog 100 0 0 = true := by kernel_rfl
theorem ty_fld_100_1 : fldB Tryd.prog 100 1 = some (1, 23) := by kernel_rfl
theorem ty_fl_100_1 : flB Tryd.prog 100 1 1 = true := by kernel_rfl
theorem ty_ze_100 : zeB Tryd.prog 100 ([.pointer none, .int .u64 0]) := by unfold zeB; kernel_rfl
theorem ty_ag_101 : agB Tryd.prog 101 2 = true := by kernel_rfl
theorem ty_pl_101 : plB Tryd.prog 101 [(0, 1), (1, 1)] = true := by kernel_rfl
theorem ty_fld_101_0 : fldB Tryd.prog 101 0 = some (0, 23) := by kernel_rfl
theorem ty_fl_101_0 : flB Tryd.prog 101 0 0 = true := by kernel_rfl
theorem ty_fld_101_1 : fldB Tryd.prog 101 1 = some (1, 9) := by kernel_rfl
theorem ty_fl_101_1 : flB Tryd.prog 101 1 1 = true := by kernel_rfl
theorem ty_ze_101 : zeB Tryd.prog 101 ([.int .u64 0, .string ByteArray.empty]) := by unfold zeB; kernel_rfl
theorem ty_ag_102 : agB Tryd.prog 102 2 = true := by kernel_rfl
theorem ty_pl_102 : plB Tryd.prog 102 [(0, 1), (1, 1)] = true := by kernel_rfl
theorem ty_fld_102_0 : fldB Tryd.prog 102 0 = some (0, 23) := by kernel_rfl
theorem ty_fl_102_0 : flB Tryd.prog 102 0 0 = true := by kernel_rfl
theorem ty_fld_102_1 : fldB Tryd.prog 102 1 = some (1, 9) := by kernel_rfl
theorem ty_fl_102_1 : flB Tryd.prog 102 1 1 = true := by kernel_rfl
theorem ty_ze_102 : zeB Tryd.prog 102 ([.int .u64 0, .string ByteArray.empty]) := by unfold zeB; kernel_rfl
theorem ty_sc_104 : scB Tryd.prog 104 = true := by kernel_rfl
theorem ty_sl_104 : slB Tryd.prog 104 9 1 16 = true := by kernel_rfl
theorem ty_ap_104 : apB Tryd.prog 9 1 = true := by kernel_rfl
theorem ty_src_104 : srcB Tryd.prog 104 = true := by kernel_rfl
theorem ty_lz_104 : ((Tryd.prog.info? 9).bind (·.zero)).map (·.cells.size) = some 1 := by kernel_rfl
theorem ty_ze_104 : zeB Tryd.prog 104 ([.slice none 0 0]) := by unfold zeB; kernel_rfl
theorem ty_sc_105 : scB Tryd.prog 105 = true := by kernel_rfl
theorem ty_int_105 : Tryd.prog.underlying 105 = some (.int .u64) := by kernel_rfl
theorem ty_ze_105 : zeB Tryd.prog 105 ([.int .u64 0]) := by unfold zeB; kernel_rfl
theorem ty_ar_106 : arB Tryd.prog 106 32 5 1 = true := by kernel_rfl
theorem ty_ag_106 : agB Tryd.prog 106 32 = true := by kernel_rfl
theorem ty_un_106 : Tryd.prog.underlying 106 = some (.array 32 5) := by kernel_rfl
theorem ty_eg_106 : Tryd.prog.eqGuardType Tryd.prog.depth 106 = false := by kernel_rfl
theorem ty_ze_106 : zeB Tryd.prog 106 (List.replicate 32 (.int .u8 0)) := by unfold zeB; kernel_rfl
theorem ty_ar_107 : arB Tryd.prog 107 32 5 1 = true := by kernel_rfl
theorem ty_ag_107 : agB Tryd.prog 107 32 = true := by kernel_rfl
theorem ty_un_107 : Tryd.prog.underlying 107 = some (.array 32 5) := by kernel_rfl
theorem ty_eg_107 : Tryd.prog.eqGuardType Tryd.prog.depth 107 = false := by kernel_rfl
theorem ty_ze_107 : zeB Tryd.prog 107 (List.replicate 32 (.int .u8 0)) := by unfold zeB; kernel_rfl
theorem ty_sc_108 : scB Tryd.prog 108 = true := by kernel_rfl
theorem ty_sc_109 : scB Tryd.prog 109 = true := by kernel_rfl
theorem ty_sc_110 : scB Tryd.prog 110 = true := by kernel_rfl
theorem ty_sc_111 : scB Tryd.prog 111 = true := by kernel_rfl
theorem ty_sc_112 : scB Tryd.prog 112 = true := by kernel_rfl
theorem ty_sc_113 : scB Tryd.prog 113 = true := by kernel_rfl
theorem ty_sc_114 : scB Tryd.prog 114 = true := by kernel_rfl
theorem ty_ptr_114 : Tryd.prog.underlying 114 = some (.pointer 135) := by kernel_rfl
theorem ty_ze_114 : zeB Tryd.prog 114 ([.pointer none]) := by unfold zeB; kernel_rfl
theorem ty_sc_115 : scB Tryd.prog 115 = true := by kernel_rfl
theorem ty_sc_116 : scB Tryd.prog 116 = true := by kernel_rfl
theorem ty_sl_116 : slB Tryd.prog 116 133 2 24 = true := by kernel_rfl
theorem ty_ap_116 : apB Tryd.prog 133 2 = true := by kernel_rfl
theorem ty_src_116 : srcB Tryd.prog 116 = true := by kernel_rfl
theorem ty_lz_116 : ((Tryd.prog.info? 133).bind (·.zero)).map (·.cells.size) = some 2 := by kernel_rfl
theorem ty_ze_116 : zeB Tryd.prog 116 ([.slice none 0 0]) := by unfold zeB; kernel_rfl
theorem ty_ag_117 : agB Tryd.prog 117 3 = true := by kernel_rfl
theorem ty_pl_117 : plB Tryd.prog 117 [(0, 1), (1, 1), (2, 1)] = true := by kernel_rfl
theorem ty_fld_117_0 : fldB Tryd.prog 117 0 = some (0, 4) := by kernel_rfl
theorem ty_fl_117_0 : flB Tryd.prog 117 0 0 = true := by kernel_rfl
theorem ty_fld_117_1 : fldB Tryd.prog 117 1 = some (1, 52) := by kernel_rfl
theorem ty_fl_117_1 : flB Tryd.prog 117 1 1 = true := by kernel_rfl
theorem ty_fld_117_2 : fldB Tryd.prog 117 2 = some (2, 116) := by kernel_rfl
theorem ty_fl_117_2 : flB Tryd.prog 117 2 2 = true := by kernel_rfl
theorem ty_ze_117 : zeB Tryd.prog 117 ([.bool false, .slice none 0 0, .slice none 0 0]) := by unfold zeB; kernel_rfl
theorem ty_ag_118 : agB Tryd.prog 118 3 = true := by kernel_rfl
theorem ty_pl_118 : plB Tryd.prog 118 [(0, 1), (1, 1), (2, 1)] = true := by kernel_rfl
theorem ty_fld_118_0 : fldB Tryd.prog 118 0 = some (0, 4) := by kernel_rfl
theorem ty_fl_118_0 : flB Tryd.prog 118 0 0 = true := by kernel_rfl
theorem ty_fld_118_1 : fldB Tryd.prog 118 1 = some (1, 52) := by kernel_rfl
theorem ty_fl_118_1 : flB Tryd.prog 118 1 1 = true := by kernel_rfl
theorem ty_fld_118_2 : fldB Tryd.prog 118 2 = some (2, 116) := by kernel_rfl
theorem ty_fl_118_2 : flB Tryd.prog 118 2 2 = true := by kernel_rfl
theorem ty_ze_118 : zeB Tryd.prog 118 ([.bool false, .slice none 0 0, .slice none 0 0]) := by unfold zeB; kernel_rfl
theorem ty_sc_119 : scB Tryd.prog 119 = true := by kernel_rfl
theorem ty_sc_120 : scB Tryd.prog 120 = true := by kernel_rfl
theorem ty_ptr_120 : Tryd.prog.underlying 120 = some (.pointer 92) := by kernel_rfl
theorem ty_ze_120 : zeB Tryd.prog 120 ([.pointer none]) := by unfold zeB; kernel_rfl
theorem ty_ar_121 : arB Tryd.prog 121 8 88 1 = true := by kernel_rfl
theorem ty_ag_121 : agB Tryd.prog 121 8 = true := by kernel_rfl
theorem ty_un_121 : Tryd.prog.underlying 121 = some (.array 8 88) := by kernel_rfl
theorem ty_eg_121 : Tryd.prog.eqGuardType Tryd.prog.depth 121 = false := by kernel_rfl
theorem ty_ze_121 : zeB Tryd.prog 121 (List.replicate 8 (.int .u32 0)) := by unfold zeB; kernel_rfl
theorem ty_sc_122 : scB Tryd.prog 122 = true := by kernel_rfl
theorem ty_sc_123 : scB Tryd.prog 123 = true := by kernel_rfl
theorem ty_sc_124 : scB Tryd.prog 124 = true := by kernel_rfl
theorem ty_sc_126 : scB Tryd.prog 126 = true := by kernel_rfl
theorem ty_sc_127 : scB Tryd.prog 127 = true := by kernel_rfl
theorem ty_sc_128 : scB Tryd.prog 128 = true := by kernel_rfl
theorem ty_sc_129 : scB Tryd.prog 129 = true := by kernel_rfl
theorem ty_sc_130 : scB Tryd.prog 130 = true := by kernel_rfl
theorem ty_sc_131 : scB Tryd.prog 131 = true := by kernel_rfl
theorem ty_ag_132 : agB Tryd.prog 132 2 = true := by kernel_rfl
theorem ty_pl_132 : plB Tryd.prog 132 [(0, 1), (1, 1)] = true := by kernel_rfl
theorem ty_fld_132_0 : fldB Tryd.prog 132 0 = some (0, 23) := by kernel_rfl
theorem ty_fl_132_0 : flB Tryd.prog 132 0 0 = true := by kernel_rfl
theorem ty_fld_132_1 : fldB Tryd.prog 132 1 = some (1, 9) := by kernel_rfl
theorem ty_fl_132_1 : flB Tryd.prog 132 1 1 = true := by kernel_rfl
theorem ty_ze_132 : zeB Tryd.prog 132 ([.int .u64 0, .string ByteArray.empty]) := by unfold zeB; kernel_rfl
theorem ty_ag_133 : agB Tryd.prog 133 2 = true := by kernel_rfl
theorem ty_pl_133 : plB Tryd.prog 133 [(0, 1), (1, 1)] = true := by kernel_rfl
theorem ty_fld_133_0 : fldB Tryd.prog 133 0 = some (0, 23) := by kernel_rfl
theorem ty_fl_133_0 : flB Tryd.prog 133 0 0 = true := by kernel_rfl
theorem ty_fld_133_1 : fldB Tryd.prog 133 1 = some (1, 9) := by kernel_rfl
theorem ty_fl_133_1 : flB Tryd.prog 133 1 1 = true := by kernel_rfl
theorem ty_ze_133 : zeB Tryd.prog 133 ([.int .u64 0, .string ByteArray.empty]) := by unfold zeB; kernel_rfl
theorem ty_ag_134 : agB Tryd.prog 134 2 = true := by kernel_rfl
theorem ty_pl_134 : plB Tryd.prog 134 [(0, 1), (1, 1)] = true := by kernel_rfl
theorem ty_fld_134_0 : fldB Tryd.prog 134 0 = some (0, 73) := by kernel_rfl
theorem ty_fl_134_0 : flB Tryd.prog 134 0 0 = true := by kernel_rfl
theorem ty_fld_134_1 : fldB Tryd.prog 134 1 = some (1, 23) := by kernel_rfl
theorem ty_fl_134_1 : flB Tryd.prog 134 1 1 = true := by kernel_rfl
theorem ty_ze_134 : zeB Tryd.prog 134 ([.pointer none, .int .u64 0]) := by unfold zeB; kernel_rfl
theorem ty_ag_135 : agB Tryd.prog 135 2 = true := by kernel_rfl
theorem ty_pl_135 : plB Tryd.prog 135 [(0, 1), (1, 1)] = true := by kernel_rfl
theorem ty_fld_135_0 : fldB Tryd.prog 135 0 = some (0, 73) := by kernel_rfl
theorem ty_fl_135_0 : flB Tryd.prog 135 0 0 = true := by kernel_rfl
theorem ty_fld_135_1 : fldB Tryd.prog 135 1 = some (1, 23) := by kernel_rfl
theorem ty_fl_135_1 : flB Tryd.prog 135 1 1 = true := by kernel_rfl
theorem ty_ze_135 : zeB Tryd.prog 135 ([.pointer none, .int .u64 0]) := by unfold zeB; kernel_rfl
theorem ty_sc_136 : scB Tryd.prog 136 = true := by kernel_rfl
theorem ty_ptr_136 : Tryd.prog.underlying 136 = some (.pointer 90) := by kernel_rfl
theorem ty_ze_136 : zeB Tryd.prog 136 ([.pointer none]) := by unfold zeB; kernel_rfl
theorem ty_sc_137 : scB Tryd.prog 137 = true := by kernel_rfl
theorem ty_sc_138 : scB Tryd.prog 138 = true := by kernel_rfl
theorem ty_ptr_138 : Tryd.prog.underlying 138 = some (.pointer 21) := by kernel_rfl
theorem ty_ze_138 : zeB Tryd.prog 138 ([.pointer none]) := by unfold zeB; kernel_rfl
theorem ty_sc_139 : scB Tryd.prog 139 = true := by kernel_rfl
theorem ty_ze_140 : zeB Tryd.prog 140 ([.pointer none]) := by unfold zeB; kernel_rfl
theorem ty_sc_141 : scB Tryd.prog 141 = true := by kernel_rfl
theorem ty_sc_142 : scB Tryd.prog 142 = true := by kernel_rfl
theorem ty_sc_143 : scB Tryd.prog 143 = true := by kernel_rfl
theorem ty_ar_144 : arB Tryd.prog 144 64 88 1 = true := by kernel_rfl
theorem ty_ag_144 : agB Tryd.prog 144 64 = true := by kernel_rfl
theorem ty_un_144 : Tryd.prog.underlying 144 = some (.array 64 88) := by kernel_rfl
theorem ty_eg_144 : Tryd.prog.eqGuardType Tryd.prog.depth 144 = false := by kernel_rfl
theorem ty_ze_144 : zeB Tryd.prog 144 (List.replicate 64 (.int .u32 0)) := by unfold zeB; kernel_rfl
theorem ty_sc_145 : scB Tryd.prog 145 = true := by kernel_rfl
theorem ty_sc_146 : scB Tryd.prog 146 = true := by kernel_rfl
theorem ty_sc_147 : scB Tryd.prog 147 = true := by kernel_rfl
theorem ty_sc_148 : scB Tryd.prog 148 = true := by kernel_rfl
theorem ty_sc_149 : scB Tryd.prog 149 = true := by kernel_rfl
theorem ty_sc_150 : scB Tryd.prog 150 = true := by kernel_rfl
theorem ty_sc_151 : scB Tryd.prog 151 = true := by kernel_rfl
theorem ty_ptr_151 : Tryd.prog.underlying 151 = some (.pointer 88) := by kernel_rfl
theorem ty_ze_151 : zeB Tryd.prog 151 ([.pointer none]) := by unfold zeB; kernel_rfl
theorem ty_sc_152 : scB Tryd.prog 152 = true := by kernel_rfl
theorem ty_ptr_152 : Tryd.prog.underlying 152 = some (.pointer 158) := by kernel_rfl
theorem ty_ze_152 : zeB Tryd.prog 152 ([.pointer none]) := by unfold zeB; kernel_rfl
theorem ty_sc_153 : scB Tryd.prog 153 = true := by kernel_rfl
theorem ty_sc_154 : scB Tryd.prog 154 = true := by kernel_rfl
theorem ty_ar_155 : arB Tryd.prog 155 8 88 1 = true := by kernel_rfl
theorem ty_ag_155 : agB Tryd.prog 155 8 = true := by kernel_rfl
theorem ty_un_155 : Tryd.prog.underlying 155 = some (.array 8 88) := by kernel_rfl
theorem ty_eg_155 : Tryd.prog.eqGuardType Tryd.prog.depth 155 = false := by kernel_rfl
theorem ty_ze_155 : zeB Tryd.prog 155 (List.replicate 8 (.int .u32 0)) := by unfold zeB; kernel_rfl
theorem ty_ar_156 : arB Tryd.prog 156 64 5 1 = true := by kernel_rfl
theorem ty_ag_156 : agB Tryd.prog 156 64 = true := by kernel_rfl
theorem ty_un_156 : Tryd.prog.underlying 156 = some (.array 64 5) := by kernel_rfl
theorem ty_eg_156 : Tryd.prog.eqGuardType Tryd.prog.depth 156 = false := by kernel_rfl
theorem ty_ze_156 : zeB Tryd.prog 156 (List.replicate 64 (.int .u8 0)) := by unfold zeB; kernel_rfl
theorem ty_ag_157 : agB Tryd.prog 157 75 = true := by kernel_rfl
theorem ty_pl_157 : plB Tryd.prog 157 [(0, 1), (1, 8), (9, 64), (73, 1), (74, 1)] = true := by kernel_rfl
theorem ty_fld_157_0 : fldB Tryd.prog 157 0 = some (0, 4) := by kernel_rfl
theorem ty_fl_157_0 : flB Tryd.prog 157 0 0 = true := by kernel_rfl
theorem ty_fld_157_1 : fldB Tryd.prog 157 1 = some (1, 155) := by kernel_rfl
theorem ty_fl_157_1 : flB Tryd.prog 157 1 1 = true := by kernel_rfl
theorem ty_fld_157_2 : fldB Tryd.prog 157 2 = some (9, 156) := by kernel_rfl
theorem ty_fl_157_2 : flB Tryd.prog 157 2 9 = true := by kernel_rfl
theorem ty_fld_157_3 : fldB Tryd.prog 157 3 = some (73, 3) := by kernel_rfl
theorem ty_fl_157_3 : flB Tryd.prog 157 3 73 = true := by kernel_rfl
theorem ty_fld_157_4 : fldB Tryd.prog 157 4 = some (74, 22) := by kernel_rfl
theorem ty_fl_157_4 : flB Tryd.prog 157 4 74 = true := by kernel_rfl
theorem ty_ze_157 : zeB Tryd.prog 157 ([.bool false] ++ List.replicate 8 (.int .u32 0) ++ List.replicate 64 (.int .u8 0) ++ [.int .i64 0, .int .u64 0]) := by unfold zeB; kernel_rfl
theorem ty_ag_158 : agB Tryd.prog 158 75 = true := by kernel_rfl
theorem ty_pl_158 : plB Tryd.prog 158 [(0, 1), (1, 8), (9, 64), (73, 1), (74, 1)] = true := by kernel_rfl
theorem ty_fld_158_0 : fldB Tryd.prog 158 0 = some (0, 4) := by kernel_rfl
theorem ty_fl_158_0 : flB Tryd.prog 158 0 0 = true := by kernel_rfl
theorem ty_fld_158_1 : fldB Tryd.prog 158 1 = some (1, 155) := by kernel_rfl
theorem ty_fl_158_1 : flB Tryd.prog 158 1 1 = true := by kernel_rfl
theorem ty_fld_158_2 : fldB Tryd.prog 158 2 = some (9, 156) := by kernel_rfl
theorem ty_fl_158_2 : flB Tryd.prog 158 2 9 = true := by kernel_rfl
theorem ty_fld_158_3 : fldB Tryd.prog 158 3 = some (73, 3) := by kernel_rfl
theorem ty_fl_158_3 : flB Tryd.prog 158 3 73 = true := by kernel_rfl
theorem ty_fld_158_4 : fldB Tryd.prog 158 4 = some (74, 22) := by kernel_rfl
theorem ty_fl_158_4 : flB Tryd.prog 158 4 74 = true := by kernel_rfl
theorem ty_ze_158 : zeB Tryd.prog 158 ([.bool false] ++ List.replicate 8 (.int .u32 0) ++ List.replicate 64 (.int .u8 0) ++ [.int .i64 0, .int .u64 0]) := by unfold zeB; kernel_rfl
theorem ty_sc_159 : scB Tryd.prog 159 = true := by kernel_rfl
theorem ty_ar_160 : arB Tryd.prog 160 8 5 1 = true := by kernel_rfl
theorem ty_ag_160 : agB Tryd.prog 160 8 = true := by kernel_rfl
theorem ty_un_160 : Tryd.prog.underlying 160 = some (.array 8 5) := by kernel_rfl
theorem ty_eg_160 : Tryd.prog.eqGuardType Tryd.prog.depth 160 = false := by kernel_rfl
theorem ty_ze_160 : zeB Tryd.prog 160 (List.replicate 8 (.int .u8 0)) := by unfold zeB; kernel_rfl
theorem ty_sc_161 : scB Tryd.prog 161 = true := by kernel_rfl
theorem ty_sc_162 : scB Tryd.prog 162 = true := by kernel_rfl
theorem ty_ag_163 : agB Tryd.prog 163 4 = true := by kernel_rfl
theorem ty_pl_163 : plB Tryd.prog 163 [(0, 1), (1, 1), (2, 1), (3, 1)] = true := by kernel_rfl
theorem ty_fld_163_0 : fldB Tryd.prog 163 0 = some (0, 17) := by kernel_rfl
theorem ty_fl_163_0 : flB Tryd.prog 163 0 0 = true := by kernel_rfl
theorem ty_fld_163_1 : fldB Tryd.prog 163 1 = some (1, 17) := by kernel_rfl
theorem ty_fl_163_1 : flB Tryd.prog 163 1 1 = true := by kernel_rfl
theorem ty_fld_163_2 : fldB Tryd.prog 163 2 = some (2, 17) := by kernel_rfl
theorem ty_fl_163_2 : flB Tryd.prog 163 2 2 = true := by kernel_rfl
theorem ty_fld_163_3 : fldB Tryd.prog 163 3 = some (3, 9) := by kernel_rfl
theorem ty_fl_163_3 : flB Tryd.prog 163 3 3 = true := by kernel_rfl
theorem ty_ze_163 : zeB Tryd.prog 163 ([.pointer none, .pointer none, .pointer none, .string ByteArray.empty]) := by unfold zeB; kernel_rfl
theorem ty_ag_164 : agB Tryd.prog 164 4 = true := by kernel_rfl
theorem ty_pl_164 : plB Tryd.prog 164 [(0, 1), (1, 1), (2, 1), (3, 1)] = true := by kernel_rfl
theorem ty_fld_164_0 : fldB Tryd.prog 164 0 = some (0, 17) := by kernel_rfl
theorem ty_fl_164_0 : flB Tryd.prog 164 0 0 = true := by kernel_rfl
theorem ty_fld_164_1 : fldB Tryd.prog 164 1 = some (1, 17) := by kernel_rfl
theorem ty_fl_164_1 : flB Tryd.prog 164 1 1 = true := by kernel_rfl
theorem ty_fld_164_2 : fldB Tryd.prog 164 2 = some (2, 17) := by kernel_rfl
theorem ty_fl_164_2 : flB Tryd.prog 164 2 2 = true := by kernel_rfl
theorem ty_fld_164_3 : fldB Tryd.prog 164 3 = some (3, 9) := by kernel_rfl
theorem ty_fl_164_3 : flB Tryd.prog 164 3 3 = true := by kernel_rfl
theorem ty_ze_164 : zeB Tryd.prog 164 ([.pointer none, .pointer none, .pointer none, .string ByteArray.empty]) := by unfold zeB; kernel_rfl
theorem ty_ar_165 : arB Tryd.prog 165 0 16 1 = true := by kernel_rfl
theorem ty_ag_165 : agB Tryd.prog 165 0 = true := by kernel_rfl
theorem ty_ze_165 : zeB Tryd.prog 165 ([]) := by unfold zeB; kernel_rfl
theorem ty_ag_166 : agB Tryd.prog 166 0 = true := by kernel_rfl
theorem ty_ze_166 : zeB Tryd.prog 166 ([]) := by unfold zeB; kernel_rfl
theorem ty_ag_167 : agB Tryd.prog 167 0 = true := by kernel_rfl
theorem ty_ze_167 : zeB Tryd.prog 167 ([]) := by unfold zeB; kernel_rfl
theorem ty_sc_168 : scB Tryd.prog 168 = true := by kernel_rfl
theorem ty_int_168 : Tryd.prog.underlying 168 = some (.int .u8) := by kernel_rfl
theorem ty_ze_168 : zeB Tryd.prog 168 ([.int .u8 0]) := by unfold zeB; kernel_rfl
theorem ty_sc_169 : scB Tryd.prog 169 = true := by kernel_rfl
theorem ty_int_169 : Tryd.prog.underlying 169 = some (.int .u8) := by kernel_rfl
theorem ty_ze_169 : zeB Tryd.prog 169 ([.int .u8 0]) := by unfold zeB; kernel_rfl
theorem ty_sc_170 : scB Tryd.prog 170 = true := by kernel_rfl
theorem ty_sc_171 : scB Tryd.prog 171 = true := by kernel_rfl
theorem ty_ptr_171 : Tryd.prog.underlying 171 = some (.pointer 5) := by kernel_rfl
theorem ty_ze_171 : zeB Tryd.prog 171 ([.pointer none]) := by unfold zeB; kernel_rfl
theorem ty_sc_172 : scB Tryd.prog 172 = true := by kernel_rfl
theorem ty_int_172 : Tryd.prog.underlying 172 = some (.int .i32) := by kernel_rfl
theorem ty_ze_172 : zeB Tryd.prog 172 ([.int .i32 0]) := by unfold zeB; kernel_rfl
theorem ty_sc_173 : scB Tryd.prog 173 = true := by kernel_rfl
theorem ty_int_173 : Tryd.prog.underlying 173 = some (.int .i32) := by kernel_rfl
theorem ty_ze_173 : zeB Tryd.prog 173 ([.int .i32 0]) := by unfold zeB; kernel_rfl
theorem ty_ag_174 : agB Tryd.prog 174 11 = true := by kernel_rfl
theorem ty_pl_174 : plB Tryd.prog 174 [(0, 1), (1, 1), (2, 1), (3, 1), (4, 1), (5, 1), (6, 1), (7, 1), (8, 1), (9, 1), (10, 1)] = true := by kernel_rfl
theorem ty_fld_174_0 : fldB Tryd.prog 174 0 = some (0, 12) := by kernel_rfl
theorem ty_fl_174_0 : flB Tryd.prog 174 0 0 = true := by kernel_rfl
theorem ty_fld_174_1 : fldB Tryd.prog 174 1 = some (1, 12) := by kernel_rfl
theorem ty_fl_174_1 : flB Tryd.prog 174 1 1 = true := by kernel_rfl
theorem ty_fld_174_2 : fldB Tryd.prog 174 2 = some (2, 88) := by kernel_rfl
theorem ty_fl_174_2 : flB Tryd.prog 174 2 2 = true := by kernel_rfl
theorem ty_fld_174_3 : fldB Tryd.prog 174 3 = some (3, 168) := by kernel_rfl
theorem ty_fl_174_3 : flB Tryd.prog 174 3 3 = true := by kernel_rfl
theorem ty_fld_174_4 : fldB Tryd.prog 174 4 = some (4, 5) := by kernel_rfl
theorem ty_fl_174_4 : flB Tryd.prog 174 4 4 = true := by kernel_rfl
theorem ty_fld_174_5 : fldB Tryd.prog 174 5 = some (5, 5) := by kernel_rfl
theorem ty_fl_174_5 : flB Tryd.prog 174 5 5 = true := by kernel_rfl
theorem ty_fld_174_6 : fldB Tryd.prog 174 6 = some (6, 169) := by kernel_rfl
theorem ty_fl_174_6 : flB Tryd.prog 174 6 6 = true := by kernel_rfl
theorem ty_fld_174_7 : fldB Tryd.prog 174 7 = some (7, 170) := by kernel_rfl
theorem ty_fl_174_7 : flB Tryd.prog 174 7 7 = true := by kernel_rfl
theorem ty_fld_174_8 : fldB Tryd.prog 174 8 = some (8, 171) := by kernel_rfl
theorem ty_fl_174_8 : flB Tryd.prog 174 8 8 = true := by kernel_rfl
theorem ty_fld_174_9 : fldB Tryd.prog 174 9 = some (9, 172) := by kernel_rfl
theorem ty_fl_174_9 : flB Tryd.prog 174 9 9 = true := by kernel_rfl
theorem ty_fld_174_10 : fldB Tryd.prog 174 10 = some (10, 173) := by kernel_rfl
theorem ty_fl_174_10 : flB Tryd.prog 174 10 10 = true := by kernel_rfl
theorem ty_ze_174 : zeB Tryd.prog 174 ([.int .u64 0, .int .u64 0, .int .u32 0, .int .u8 0, .int .u8 0, .int .u8 0, .int .u8 0, .nilFunc, .pointer none, .int .i32 0, .int .i32 0]) := by unfold zeB; kernel_rfl
theorem ty_ag_175 : agB Tryd.prog 175 11 = true := by kernel_rfl
theorem ty_pl_175 : plB Tryd.prog 175 [(0, 1), (1, 1), (2, 1), (3, 1), (4, 1), (5, 1), (6, 1), (7, 1), (8, 1), (9, 1), (10, 1)] = true := by kernel_rfl
theorem ty_fld_175_0 : fldB Tryd.prog 175 0 = some (0, 12) := by kernel_rfl
theorem ty_fl_175_0 : flB Tryd.prog 175 0 0 = true := by kernel_rfl
theorem ty_fld_175_1 : fldB Tryd.prog 175 1 = some (1, 12) := by kernel_rfl
theorem ty_fl_175_1 : flB Tryd.prog 175 1 1 = true := by kernel_rfl
theorem ty_fld_175_2 : fldB Tryd.prog 175 2 = some (2, 88) := by kernel_rfl
theorem ty_fl_175_2 : flB Tryd.prog 175 2 2 = true := by kernel_rfl
theorem ty_fld_175_3 : fldB Tryd.prog 175 3 = some (3, 168) := by kernel_rfl
theorem ty_fl_175_3 : flB Tryd.prog 175 3 3 = true := by kernel_rfl
theorem ty_fld_175_4 : fldB Tryd.prog 175 4 = some (4, 5) := by kernel_rfl
theorem ty_fl_175_4 : flB Tryd.prog 175 4 4 = true := by kernel_rfl
theorem ty_fld_175_5 : fldB Tryd.prog 175 5 = some (5, 5) := by kernel_rfl
theorem ty_fl_175_5 : flB Tryd.prog 175 5 5 = true := by kernel_rfl
theorem ty_fld_175_6 : fldB Tryd.prog 175 6 = some (6, 169) := by kernel_rfl
theorem ty_fl_175_6 : flB Tryd.prog 175 6 6 = true := by kernel_rfl
theorem ty_fld_175_7 : fldB Tryd.prog 175 7 = some (7, 170) := by kernel_rfl
theorem ty_fl_175_7 : flB Tryd.prog 175 7 7 = true := by kernel_rfl
theorem ty_fld_175_8 : fldB Tryd.prog 175 8 = some (8, 171) := by kernel_rfl
theorem ty_fl_175_8 : flB Tryd.prog 175 8 8 = true := by kernel_rfl
theorem ty_fld_175_9 : fldB Tryd.prog 175 9 = some (9, 172) := by kernel_rfl
theorem ty_fl_175_9 : flB Tryd.prog 175 9 9 = true := by kernel_rfl
theorem ty_fld_175_10 : fldB Tryd.prog 175 10 = some (10, 173) := by kernel_rfl
theorem ty_fl_175_10 : flB Tryd.prog 175 10 10 = true := by kernel_rfl
theorem ty_ze_175 : zeB Tryd.prog 175 ([.int .u64 0, .int .u64 0, .int .u32 0, .int .u8 0, .int .u8 0, .int .u8 0, .int .u8 0, .nilFunc, .pointer none, .int .i32 0, .int .i32 0]) := by unfold zeB; kernel_rfl
theorem ty_zv_27 : (Tryd.prog.info? 27).bind (·.zero) = some (.pointer none) := by kernel_rfl
theorem ty_zv_86 : (Tryd.prog.info? 86).bind (·.zero) = some (.agg #[]) := by kernel_rfl
theorem ty_zv_104 : (Tryd.prog.info? 104).bind (·.zero) = some (.slice none 0 0) := by kernel_rfl
theorem fn_ca_2 : callable Tryd.prog 2 = true := by kernel_rfl
theorem fn_ca_3 : callable Tryd.prog 3 = true := by kernel_rfl
theorem fn_ca_4 : callable Tryd.prog 4 = true := by kernel_rfl
theorem fn_ca_5 : callable Tryd.prog 5 = true := by kernel_rfl
theorem fn_ca_6 : callable Tryd.prog 6 = true := by kernel_rfl
theorem fn_ca_7 : callable Tryd.prog 7 = true := by kernel_rfl
theorem fn_ca_8 : callable Tryd.prog 8 = true := by kernel_rfl
theorem fn_ca_9 : callable Tryd.prog 9 = true := by kernel_rfl
theorem fn_ca_10 : callable Tryd.prog 10 = true := by kernel_rfl
theorem fn_ca_11 : callable Tryd.prog 11 = true := by kernel_rfl
theorem fn_ca_12 : callable Tryd.prog 12 = true := by kernel_rfl
theorem fn_ca_13 : callable Tryd.prog 13 = true := by kernel_rfl
theorem fn_ca_14 : callable Tryd.prog 14 = true := by kernel_rfl
theorem fn_ca_15 : callable Tryd.prog 15 = true := by kernel_rfl
theorem fn_ca_16 : callable Tryd.prog 16 = true := by kernel_rfl
theorem fn_ca_17 : callable Tryd.prog 17 = true := by kernel_rfl
theorem fn_ca_18 : callable Tryd.prog 18 = true := by kernel_rfl
theorem fn_ca_19 : callable Tryd.prog 19 = true := by kernel_rfl
theorem fn_ca_20 : callable Tryd.prog 20 = true := by kernel_rfl
theorem fn_ca_21 : callable Tryd.prog 21 = true := by kernel_rfl
theorem fn_ca_22 : callable Tryd.prog 22 = true := by kernel_rfl
theorem fn_ca_23 : callable Tryd.prog 23 = true := by kernel_rfl
theorem fn_ca_24 : callable Tryd.prog 24 = true := by kernel_rfl
theorem fn_ca_25 : callable Tryd.prog 25 = true := by kernel_rfl
theorem fn_ca_26 : callable Tryd.prog 26 = true := by kernel_rfl
theorem fn_ca_27 : callable Tryd.prog 27 = true := by kernel_rfl
theorem fn_ca_28 : callable Tryd.prog 28 = true := by kernel_rfl
theorem fn_ca_29 : callable Tryd.prog 29 = true := by kernel_rfl
theorem fn_ca_30 : callable Tryd.prog 30 = true := by kernel_rfl
theorem fn_ca_31 : callable Tryd.prog 31 = true := by kernel_rfl
theorem fn_ca_32 : callable Tryd.prog 32 = true := by kernel_rfl
theorem fn_ca_33 : callable Tryd.prog 33 = true := by kernel_rfl
theorem fn_ca_34 : callable Tryd.prog 34 = true := by kernel_rfl
theorem fn_ca_35 : callable Tryd.prog 35 = true := by kernel_rfl
theorem fn_ca_36 : callable Tryd.prog 36 = true := by kernel_rfl
theorem fn_ca_37 : callable Tryd.prog 37 = true := by kernel_rfl
theorem fn_ca_38 : callable Tryd.prog 38 = true := by kernel_rfl
theorem fn_ca_39 : callable Tryd.prog 39 = true := by kernel_rfl
theorem fn_ca_40 : callable Tryd.prog 40 = true := by kernel_rfl
theorem fn_ca_41 : callable Tryd.prog 41 = true := by kernel_rfl
theorem fn_ca_42 : callable Tryd.prog 42 = true := by kernel_rfl
theorem fn_ca_43 : callable Tryd.prog 43 = true := by kernel_rfl
theorem fn_ca_44 : callable Tryd.prog 44 = true := by kernel_rfl
theorem fn_ca_45 : callable Tryd.prog 45 = true := by kernel_rfl
theorem fn_ca_46 : callable Tryd.prog 46 = true := by kernel_rfl
theorem fn_ca_47 : callable Tryd.prog 47 = true := by kernel_rfl
theorem fn_ca_48 : callable Tryd.prog 48 = true := by kernel_rfl
theorem fn_ca_49 : callable Tryd.prog 49 = true := by kernel_rfl
theorem fn_ca_50 : callable Tryd.prog 50 = true := by kernel_rfl
theorem fn_ca_51 : callable Tryd.prog 51 = true := by kernel_rfl
theorem fn_ca_52 : callable Tryd.prog 52 = true := by kernel_rfl
theorem fn_ca_53 : callable Tryd.prog 53 = true := by kernel_rfl
theorem fn_ca_54 : callable Tryd.prog 54 = true := by kernel_rfl
theorem fn_ca_55 : callable Tryd.prog 55 = true := by kernel_rfl
theorem fn_ca_56 : callable Tryd.prog 56 = true := by kernel_rfl
theorem fn_ca_57 : callable Tryd.prog 57 = true := by kernel_rfl
theorem fn_ca_58 : callable Tryd.prog 58 = true := by kernel_rfl
theorem fn_ca_59 : callable Tryd.prog 59 = true := by kernel_rfl
theorem fn_ca_60 : callable Tryd.prog 60 = true := by kernel_rfl
theorem fn_ca_61 : callable Tryd.prog 61 = true := by kernel_rfl
theorem fn_ca_62 : callable Tryd.prog 62 = true := by kernel_rfl
theorem fn_ca_63 : callable Tryd.prog 63 = true := by kernel_rfl
theorem fn_ca_64 : callable Tryd.prog 64 = true := by kernel_rfl
theorem fn_ca_65 : callable Tryd.prog 65 = true := by kernel_rfl
theorem fn_ca_66 : callable Tryd.prog 66 = true := by kernel_rfl
theorem fn_ca_67 : callable Tryd.prog 67 = true := by kernel_rfl
theorem fn_ca_68 : callable Tryd.prog 68 = true := by kernel_rfl
theorem fn_ca_69 : callable Tryd.prog 69 = true := by kernel_rfl
theorem fn_ca_74 : callable Tryd.prog 74 = true := by kernel_rfl
theorem fn_ca_77 : callable Tryd.prog 77 = true := by kernel_rfl
theorem fn_ca_78 : callable Tryd.prog 78 = true := by kernel_rfl
theorem fn_ca_79 : callable Tryd.prog 79 = true := by kernel_rfl
theorem fn_ca_80 : callable Tryd.prog 80 = true := by kernel_rfl
theorem fn_ca_88 : callable Tryd.prog 88 = true := by kernel_rfl
theorem fn_ca_89 : callable Tryd.prog 89 = true := by kernel_rfl
theorem fn_ca_90 : callable Tryd.prog 90 = true := by kernel_rfl
theorem fn_ca_91 : callable Tryd.prog 91 = true := by kernel_rfl
theorem fn_ca_92 : callable Tryd.prog 92 = true := by kernel_rfl
theorem fn_ca_93 : callable Tryd.prog 93 = true := by kernel_rfl
theorem fn_ca_115 : callable Tryd.prog 115 = true := by kernel_rfl
theorem mixed : Tryd.prog.follows .mixedOrders = true := by kernel_rfl
end Go.Proofs.YtnaadddnbfnahaaDoor
