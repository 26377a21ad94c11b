/- Facts on the types and the functions of this seat's translation, each a closed reckoning: printed by gen.py. -/
import Derived.Test.YtjhhpagcejgclaaDoorProg
import Derived.Test.YtjhhpagcejgclaaDoorEngF
set_option linter.unusedVariables false
namespace Go.Proofs.YtjhhpagcejgclaaDoor
open Go Go.Proofs
set_option maxRecDepth 100000
/-- The program, with what its package-level variables held when the call began. -/
noncomputable abbrev cx (gl : Nat → Obj) : Cx := ⟨Tryd.prog, 3, gl⟩
theorem ty_sc_1 : scB Tryd.prog 1 = true := by kernel_rfl
theorem ty_sc_2 : scB Tryd.prog 2 = true := by kernel_rfl
theorem ty_int_2 : Tryd.prog.underlying 2 = some (.int .i64) := by kernel_rfl
theorem ty_ze_2 : zeB Tryd.prog 2 ([.int .i64 0]) := by unfold zeB; kernel_rfl
theorem ty_sc_3 : scB Tryd.prog 3 = true := by kernel_rfl
theorem ty_int_3 : Tryd.prog.underlying 3 = some (.int .i64) := by kernel_rfl
theorem ty_ze_3 : zeB Tryd.prog 3 ([.int .i64 0]) := by unfold zeB; kernel_rfl
theorem ty_sc_4 : scB Tryd.prog 4 = true := by kernel_rfl
theorem ty_bool_4 : Tryd.prog.underlying 4 = some .bool := by kernel_rfl
theorem ty_ze_4 : zeB Tryd.prog 4 ([.bool false]) := by unfold zeB; kernel_rfl
theorem ty_sc_5 : scB Tryd.prog 5 = true := by kernel_rfl
theorem ty_int_5 : Tryd.prog.underlying 5 = some (.int .u8) := by kernel_rfl
theorem ty_ze_5 : zeB Tryd.prog 5 ([.int .u8 0]) := by unfold zeB; kernel_rfl
theorem ty_sc_6 : scB Tryd.prog 6 = true := by kernel_rfl
theorem ty_int_6 : Tryd.prog.underlying 6 = some (.int .u8) := by kernel_rfl
theorem ty_ze_6 : zeB Tryd.prog 6 ([.int .u8 0]) := by unfold zeB; kernel_rfl
theorem ty_ag_7 : agB Tryd.prog 7 4 = true := by kernel_rfl
theorem ty_pl_7 : plB Tryd.prog 7 [(0, 1), (1, 1), (2, 1), (3, 1)] = true := by kernel_rfl
theorem ty_fld_7_0 : fldB Tryd.prog 7 0 = some (0, 2) := by kernel_rfl
theorem ty_fl_7_0 : flB Tryd.prog 7 0 0 = true := by kernel_rfl
theorem ty_fld_7_1 : fldB Tryd.prog 7 1 = some (1, 3) := by kernel_rfl
theorem ty_fl_7_1 : flB Tryd.prog 7 1 1 = true := by kernel_rfl
theorem ty_fld_7_2 : fldB Tryd.prog 7 2 = some (2, 4) := by kernel_rfl
theorem ty_fl_7_2 : flB Tryd.prog 7 2 2 = true := by kernel_rfl
theorem ty_fld_7_3 : fldB Tryd.prog 7 3 = some (3, 6) := by kernel_rfl
theorem ty_fl_7_3 : flB Tryd.prog 7 3 3 = true := by kernel_rfl
theorem ty_ze_7 : zeB Tryd.prog 7 ([.int .i64 0, .int .i64 0, .bool false, .int .u8 0]) := by unfold zeB; kernel_rfl
theorem ty_ag_8 : agB Tryd.prog 8 4 = true := by kernel_rfl
theorem ty_pl_8 : plB Tryd.prog 8 [(0, 1), (1, 1), (2, 1), (3, 1)] = true := by kernel_rfl
theorem ty_fld_8_0 : fldB Tryd.prog 8 0 = some (0, 2) := by kernel_rfl
theorem ty_fl_8_0 : flB Tryd.prog 8 0 0 = true := by kernel_rfl
theorem ty_fld_8_1 : fldB Tryd.prog 8 1 = some (1, 3) := by kernel_rfl
theorem ty_fl_8_1 : flB Tryd.prog 8 1 1 = true := by kernel_rfl
theorem ty_fld_8_2 : fldB Tryd.prog 8 2 = some (2, 4) := by kernel_rfl
theorem ty_fl_8_2 : flB Tryd.prog 8 2 2 = true := by kernel_rfl
theorem ty_fld_8_3 : fldB Tryd.prog 8 3 = some (3, 6) := by kernel_rfl
theorem ty_fl_8_3 : flB Tryd.prog 8 3 3 = true := by kernel_rfl
theorem ty_ze_8 : zeB Tryd.prog 8 ([.int .i64 0, .int .i64 0, .bool false, .int .u8 0]) := by unfold zeB; kernel_rfl
theorem ty_sc_9 : scB Tryd.prog 9 = true := by kernel_rfl
theorem ty_str_9 : Tryd.prog.underlying 9 = some .string := by kernel_rfl
theorem ty_src_9 : srcB Tryd.prog 9 = true := by kernel_rfl
theorem ty_ze_9 : zeB Tryd.prog 9 ([.string ByteArray.empty]) := by unfold zeB; kernel_rfl
theorem ty_sc_10 : scB Tryd.prog 10 = true := by kernel_rfl
theorem ty_str_10 : Tryd.prog.underlying 10 = some .string := by kernel_rfl
theorem ty_src_10 : srcB Tryd.prog 10 = true := by kernel_rfl
theorem ty_ze_10 : zeB Tryd.prog 10 ([.string ByteArray.empty]) := by unfold zeB; kernel_rfl
theorem ty_sc_11 : scB Tryd.prog 11 = true := by kernel_rfl
theorem ty_str_11 : Tryd.prog.underlying 11 = some .string := by kernel_rfl
theorem ty_src_11 : srcB Tryd.prog 11 = true := by kernel_rfl
theorem ty_ze_11 : zeB Tryd.prog 11 ([.string ByteArray.empty]) := by unfold zeB; kernel_rfl
theorem ty_sc_12 : scB Tryd.prog 12 = true := by kernel_rfl
theorem ty_int_12 : Tryd.prog.underlying 12 = some (.int .u64) := by kernel_rfl
theorem ty_ze_12 : zeB Tryd.prog 12 ([.int .u64 0]) := by unfold zeB; kernel_rfl
theorem ty_ag_13 : agB Tryd.prog 13 2 = true := by kernel_rfl
theorem ty_pl_13 : plB Tryd.prog 13 [(0, 1), (1, 1)] = true := by kernel_rfl
theorem ty_fld_13_0 : fldB Tryd.prog 13 0 = some (0, 9) := by kernel_rfl
theorem ty_fl_13_0 : flB Tryd.prog 13 0 0 = true := by kernel_rfl
theorem ty_fld_13_1 : fldB Tryd.prog 13 1 = some (1, 12) := by kernel_rfl
theorem ty_fl_13_1 : flB Tryd.prog 13 1 1 = true := by kernel_rfl
theorem ty_ze_13 : zeB Tryd.prog 13 ([.string ByteArray.empty, .int .u64 0]) := by unfold zeB; kernel_rfl
theorem ty_ag_14 : agB Tryd.prog 14 2 = true := by kernel_rfl
theorem ty_pl_14 : plB Tryd.prog 14 [(0, 1), (1, 1)] = true := by kernel_rfl
theorem ty_fld_14_0 : fldB Tryd.prog 14 0 = some (0, 9) := by kernel_rfl
theorem ty_fl_14_0 : flB Tryd.prog 14 0 0 = true := by kernel_rfl
theorem ty_fld_14_1 : fldB Tryd.prog 14 1 = some (1, 12) := by kernel_rfl
theorem ty_fl_14_1 : flB Tryd.prog 14 1 1 = true := by kernel_rfl
theorem ty_ze_14 : zeB Tryd.prog 14 ([.string ByteArray.empty, .int .u64 0]) := by unfold zeB; kernel_rfl
theorem ty_sc_15 : scB Tryd.prog 15 = true := by kernel_rfl
theorem ty_ptr_15 : Tryd.prog.underlying 15 = some (.pointer 112) := by kernel_rfl
theorem ty_ze_15 : zeB Tryd.prog 15 ([.pointer none]) := by unfold zeB; kernel_rfl
theorem ty_sc_16 : scB Tryd.prog 16 = true := by kernel_rfl
theorem ty_ptr_16 : Tryd.prog.underlying 16 = some (.pointer 115) := by kernel_rfl
theorem ty_ze_16 : zeB Tryd.prog 16 ([.pointer none]) := by unfold zeB; kernel_rfl
theorem ty_sc_17 : scB Tryd.prog 17 = true := by kernel_rfl
theorem ty_ptr_17 : Tryd.prog.underlying 17 = some (.pointer 124) := by kernel_rfl
theorem ty_ze_17 : zeB Tryd.prog 17 ([.pointer none]) := by unfold zeB; kernel_rfl
theorem ty_ag_18 : agB Tryd.prog 18 1 = true := by kernel_rfl
theorem ty_pl_18 : plB Tryd.prog 18 [(0, 1)] = true := by kernel_rfl
theorem ty_fld_18_0 : fldB Tryd.prog 18 0 = some (0, 17) := by kernel_rfl
theorem ty_fl_18_0 : flB Tryd.prog 18 0 0 = true := by kernel_rfl
theorem ty_ze_18 : zeB Tryd.prog 18 ([.pointer none]) := by unfold zeB; kernel_rfl
theorem ty_ag_19 : agB Tryd.prog 19 1 = true := by kernel_rfl
theorem ty_pl_19 : plB Tryd.prog 19 [(0, 1)] = true := by kernel_rfl
theorem ty_fld_19_0 : fldB Tryd.prog 19 0 = some (0, 17) := by kernel_rfl
theorem ty_fl_19_0 : flB Tryd.prog 19 0 0 = true := by kernel_rfl
theorem ty_ze_19 : zeB Tryd.prog 19 ([.pointer none]) := by unfold zeB; kernel_rfl
theorem ty_sc_20 : scB Tryd.prog 20 = true := by kernel_rfl
theorem ty_ze_20 : zeB Tryd.prog 20 ([.nilIface]) := by unfold zeB; kernel_rfl
theorem ty_sc_21 : scB Tryd.prog 21 = true := by kernel_rfl
theorem ty_int_21 : Tryd.prog.underlying 21 = some (.int .i32) := by kernel_rfl
theorem ty_ze_21 : zeB Tryd.prog 21 ([.int .i32 0]) := by unfold zeB; kernel_rfl
theorem ty_sc_22 : scB Tryd.prog 22 = true := by kernel_rfl
theorem ty_sl_22 : slB Tryd.prog 22 37 3 24 = true := by kernel_rfl
theorem ty_ap_22 : apB Tryd.prog 37 3 = true := by kernel_rfl
theorem ty_src_22 : srcB Tryd.prog 22 = true := by kernel_rfl
theorem ty_lz_22 : ((Tryd.prog.info? 37).bind (·.zero)).map (·.cells.size) = some 3 := by kernel_rfl
theorem ty_ze_22 : zeB Tryd.prog 22 ([.slice none 0 0]) := by unfold zeB; kernel_rfl
theorem ty_ag_23 : agB Tryd.prog 23 1 = true := by kernel_rfl
theorem ty_pl_23 : plB Tryd.prog 23 [(0, 1)] = true := by kernel_rfl
theorem ty_fld_23_0 : fldB Tryd.prog 23 0 = some (0, 22) := by kernel_rfl
theorem ty_fl_23_0 : flB Tryd.prog 23 0 0 = true := by kernel_rfl
theorem ty_ze_23 : zeB Tryd.prog 23 ([.slice none 0 0]) := by unfold zeB; kernel_rfl
theorem ty_ag_24 : agB Tryd.prog 24 1 = true := by kernel_rfl
theorem ty_pl_24 : plB Tryd.prog 24 [(0, 1)] = true := by kernel_rfl
theorem ty_fld_24_0 : fldB Tryd.prog 24 0 = some (0, 22) := by kernel_rfl
theorem ty_fl_24_0 : flB Tryd.prog 24 0 0 = true := by kernel_rfl
theorem ty_ze_24 : zeB Tryd.prog 24 ([.slice none 0 0]) := by unfold zeB; kernel_rfl
theorem ty_sc_25 : scB Tryd.prog 25 = true := by kernel_rfl
theorem ty_ar_26 : arB Tryd.prog 26 32 5 1 = true := by kernel_rfl
theorem ty_ag_26 : agB Tryd.prog 26 32 = true := by kernel_rfl
theorem ty_un_26 : Tryd.prog.underlying 26 = some (.array 32 5) := by kernel_rfl
theorem ty_eg_26 : Tryd.prog.eqGuardType Tryd.prog.depth 26 = false := by kernel_rfl
theorem ty_ze_26 : zeB Tryd.prog 26 (List.replicate 32 (.int .u8 0)) := by unfold zeB; kernel_rfl
theorem ty_ar_27 : arB Tryd.prog 27 32 5 1 = true := by kernel_rfl
theorem ty_ag_27 : agB Tryd.prog 27 32 = true := by kernel_rfl
theorem ty_un_27 : Tryd.prog.underlying 27 = some (.array 32 5) := by kernel_rfl
theorem ty_eg_27 : Tryd.prog.eqGuardType Tryd.prog.depth 27 = false := by kernel_rfl
theorem ty_ze_27 : zeB Tryd.prog 27 (List.replicate 32 (.int .u8 0)) := by unfold zeB; kernel_rfl
theorem ty_sc_28 : scB Tryd.prog 28 = true := by kernel_rfl
theorem ty_int_28 : Tryd.prog.underlying 28 = some (.int .i64) := by kernel_rfl
theorem ty_ze_28 : zeB Tryd.prog 28 ([.int .i64 0]) := by unfold zeB; kernel_rfl
theorem ty_sc_30 : scB Tryd.prog 30 = true := by kernel_rfl
theorem ty_sc_32 : scB Tryd.prog 32 = true := by kernel_rfl
theorem ty_sc_33 : scB Tryd.prog 33 = true := by kernel_rfl
theorem ty_sc_34 : scB Tryd.prog 34 = true := by kernel_rfl
theorem ty_int_34 : Tryd.prog.underlying 34 = some (.int .u64) := by kernel_rfl
theorem ty_ze_34 : zeB Tryd.prog 34 ([.int .u64 0]) := by unfold zeB; kernel_rfl
theorem ty_sc_35 : scB Tryd.prog 35 = true := by kernel_rfl
theorem ty_int_35 : Tryd.prog.underlying 35 = some (.int .u64) := by kernel_rfl
theorem ty_ze_35 : zeB Tryd.prog 35 ([.int .u64 0]) := by unfold zeB; kernel_rfl
theorem ty_ag_36 : agB Tryd.prog 36 3 = true := by kernel_rfl
theorem ty_pl_36 : plB Tryd.prog 36 [(0, 1), (1, 1), (2, 1)] = true := by kernel_rfl
theorem ty_fld_36_0 : fldB Tryd.prog 36 0 = some (0, 35) := by kernel_rfl
theorem ty_fl_36_0 : flB Tryd.prog 36 0 0 = true := by kernel_rfl
theorem ty_fld_36_1 : fldB Tryd.prog 36 1 = some (1, 34) := by kernel_rfl
theorem ty_fl_36_1 : flB Tryd.prog 36 1 1 = true := by kernel_rfl
theorem ty_fld_36_2 : fldB Tryd.prog 36 2 = some (2, 2) := by kernel_rfl
theorem ty_fl_36_2 : flB Tryd.prog 36 2 2 = true := by kernel_rfl
theorem ty_ze_36 : zeB Tryd.prog 36 ([.int .u64 0, .int .u64 0, .int .i64 0]) := by unfold zeB; kernel_rfl
theorem ty_ag_37 : agB Tryd.prog 37 3 = true := by kernel_rfl
theorem ty_pl_37 : plB Tryd.prog 37 [(0, 1), (1, 1), (2, 1)] = true := by kernel_rfl
theorem ty_fld_37_0 : fldB Tryd.prog 37 0 = some (0, 35) := by kernel_rfl
theorem ty_fl_37_0 : flB Tryd.prog 37 0 0 = true := by kernel_rfl
theorem ty_fld_37_1 : fldB Tryd.prog 37 1 = some (1, 34) := by kernel_rfl
theorem ty_fl_37_1 : flB Tryd.prog 37 1 1 = true := by kernel_rfl
theorem ty_fld_37_2 : fldB Tryd.prog 37 2 = some (2, 2) := by kernel_rfl
theorem ty_fl_37_2 : flB Tryd.prog 37 2 2 = true := by kernel_rfl
theorem ty_ze_37 : zeB Tryd.prog 37 ([.int .u64 0, .int .u64 0, .int .i64 0]) := by unfold zeB; kernel_rfl
theorem ty_sc_39 : scB Tryd.prog 39 = true := by kernel_rfl
theorem ty_sc_40 : scB Tryd.prog 40 = true := by kernel_rfl
theorem ty_sc_41 : scB Tryd.prog 41 = true := by kernel_rfl
theorem ty_sc_42 : scB Tryd.prog 42 = true := by kernel_rfl
theorem ty_sl_42 : slB Tryd.prog 42 46 1 24 = true := by kernel_rfl
theorem ty_ap_42 : apB Tryd.prog 46 1 = true := by kernel_rfl
theorem ty_src_42 : srcB Tryd.prog 42 = true := by kernel_rfl
theorem ty_lz_42 : ((Tryd.prog.info? 46).bind (·.zero)).map (·.cells.size) = some 1 := by kernel_rfl
theorem ty_ze_42 : zeB Tryd.prog 42 ([.slice none 0 0]) := by unfold zeB; kernel_rfl
theorem ty_sc_43 : scB Tryd.prog 43 = true := by kernel_rfl
theorem ty_ptr_43 : Tryd.prog.underlying 43 = some (.pointer 57) := by kernel_rfl
theorem ty_ze_43 : zeB Tryd.prog 43 ([.pointer none]) := by unfold zeB; kernel_rfl
theorem ty_sc_44 : scB Tryd.prog 44 = true := by kernel_rfl
theorem ty_sc_45 : scB Tryd.prog 45 = true := by kernel_rfl
theorem ty_sc_46 : scB Tryd.prog 46 = true := by kernel_rfl
theorem ty_sl_46 : slB Tryd.prog 46 5 1 1 = true := by kernel_rfl
theorem ty_ap_46 : apB Tryd.prog 5 1 = true := by kernel_rfl
theorem ty_src_46 : srcB Tryd.prog 46 = true := by kernel_rfl
theorem ty_lz_46 : ((Tryd.prog.info? 5).bind (·.zero)).map (·.cells.size) = some 1 := by kernel_rfl
theorem ty_ze_46 : zeB Tryd.prog 46 ([.slice none 0 0]) := by unfold zeB; kernel_rfl
theorem ty_sc_48 : scB Tryd.prog 48 = true := by kernel_rfl
theorem ty_sc_49 : scB Tryd.prog 49 = true := by kernel_rfl
theorem ty_sc_50 : scB Tryd.prog 50 = true := by kernel_rfl
theorem ty_sc_52 : scB Tryd.prog 52 = true := by kernel_rfl
theorem ty_sc_53 : scB Tryd.prog 53 = true := by kernel_rfl
theorem ty_sc_54 : scB Tryd.prog 54 = true := by kernel_rfl
theorem ty_sc_55 : scB Tryd.prog 55 = true := by kernel_rfl
theorem ty_ag_56 : agB Tryd.prog 56 3 = true := by kernel_rfl
theorem ty_pl_56 : plB Tryd.prog 56 [(0, 1), (1, 1), (2, 1)] = true := by kernel_rfl
theorem ty_fld_56_0 : fldB Tryd.prog 56 0 = some (0, 4) := by kernel_rfl
theorem ty_fl_56_0 : flB Tryd.prog 56 0 0 = true := by kernel_rfl
theorem ty_fld_56_1 : fldB Tryd.prog 56 1 = some (1, 46) := by kernel_rfl
theorem ty_fl_56_1 : flB Tryd.prog 56 1 1 = true := by kernel_rfl
theorem ty_fld_56_2 : fldB Tryd.prog 56 2 = some (2, 28) := by kernel_rfl
theorem ty_fl_56_2 : flB Tryd.prog 56 2 2 = true := by kernel_rfl
theorem ty_ze_56 : zeB Tryd.prog 56 ([.bool false, .slice none 0 0, .int .i64 0]) := by unfold zeB; kernel_rfl
theorem ty_ag_57 : agB Tryd.prog 57 3 = true := by kernel_rfl
theorem ty_pl_57 : plB Tryd.prog 57 [(0, 1), (1, 1), (2, 1)] = true := by kernel_rfl
theorem ty_fld_57_0 : fldB Tryd.prog 57 0 = some (0, 4) := by kernel_rfl
theorem ty_fl_57_0 : flB Tryd.prog 57 0 0 = true := by kernel_rfl
theorem ty_fld_57_1 : fldB Tryd.prog 57 1 = some (1, 46) := by kernel_rfl
theorem ty_fl_57_1 : flB Tryd.prog 57 1 1 = true := by kernel_rfl
theorem ty_fld_57_2 : fldB Tryd.prog 57 2 = some (2, 28) := by kernel_rfl
theorem ty_fl_57_2 : flB Tryd.prog 57 2 2 = true := by kernel_rfl
theorem ty_ze_57 : zeB Tryd.prog 57 ([.bool false, .slice none 0 0, .int .i64 0]) := by unfold zeB; kernel_rfl
theorem ty_sc_58 : scB Tryd.prog 58 = true := by kernel_rfl
theorem ty_sc_59 : scB Tryd.prog 59 = true := by kernel_rfl
theorem ty_sc_60 : scB Tryd.prog 60 = true := by kernel_rfl
theorem ty_sl_60 : slB Tryd.prog 60 27 32 32 = true := by kernel_rfl
theorem ty_ap_60 : apB Tryd.prog 27 32 = true := by kernel_rfl
theorem ty_src_60 : srcB Tryd.prog 60 = true := by kernel_rfl
theorem ty_lz_60 : ((Tryd.prog.info? 27).bind (·.zero)).map (·.cells.size) = some 32 := by kernel_rfl
theorem ty_ze_60 : zeB Tryd.prog 60 ([.slice none 0 0]) := by unfold zeB; kernel_rfl
theorem ty_sc_62 : scB Tryd.prog 62 = true := by kernel_rfl
theorem ty_sc_63 : scB Tryd.prog 63 = true := by kernel_rfl
theorem ty_sc_64 : scB Tryd.prog 64 = true := by kernel_rfl
theorem ty_sc_65 : scB Tryd.prog 65 = true := by kernel_rfl
theorem ty_sc_66 : scB Tryd.prog 66 = true := by kernel_rfl
theorem ty_sc_67 : scB Tryd.prog 67 = true := by kernel_rfl
theorem ty_sc_68 : scB Tryd.prog 68 = true := by kernel_rfl
theorem ty_sc_69 : scB Tryd.prog 69 = true := by kernel_rfl
theorem ty_sc_70 : scB Tryd.prog 70 = true := by kernel_rfl
theorem ty_sc_72 : scB Tryd.prog 72 = true := by kernel_rfl
theorem ty_sc_73 : scB Tryd.prog 73 = true := by kernel_rfl
theorem ty_sc_74 : scB Tryd.prog 74 = true := by kernel_rfl
theorem ty_sc_75 : scB Tryd.prog 75 = true := by kernel_rfl
theorem ty_sc_76 : scB Tryd.prog 76 = true := by kernel_rfl
theorem ty_sc_77 : scB Tryd.prog 77 = true := by kernel_rfl
theorem ty_sc_78 : scB Tryd.prog 78 = true := by kernel_rfl
theorem ty_sc_79 : scB Tryd.prog 79 = true := by kernel_rfl
theorem ty_sc_80 : scB Tryd.prog 80 = true := by kernel_rfl
theorem ty_ptr_80 : Tryd.prog.underlying 80 = some (.pointer 37) := by kernel_rfl
theorem ty_ze_80 : zeB Tryd.prog 80 ([.pointer none]) := by unfold zeB; kernel_rfl
theorem ty_sc_81 : scB Tryd.prog 81 = true := by kernel_rfl
theorem ty_sc_82 : scB Tryd.prog 82 = true := by kernel_rfl
theorem ty_sc_83 : scB Tryd.prog 83 = true := by kernel_rfl
theorem ty_ar_84 : arB Tryd.prog 84 8 5 1 = true := by kernel_rfl
theorem ty_ag_84 : agB Tryd.prog 84 8 = true := by kernel_rfl
theorem ty_un_84 : Tryd.prog.underlying 84 = some (.array 8 5) := by kernel_rfl
theorem ty_eg_84 : Tryd.prog.eqGuardType Tryd.prog.depth 84 = false := by kernel_rfl
theorem ty_ze_84 : zeB Tryd.prog 84 (List.replicate 8 (.int .u8 0)) := by unfold zeB; kernel_rfl
theorem ty_sc_85 : scB Tryd.prog 85 = true := by kernel_rfl
theorem ty_sc_86 : scB Tryd.prog 86 = true := by kernel_rfl
theorem ty_sc_87 : scB Tryd.prog 87 = true := by kernel_rfl
theorem ty_sc_88 : scB Tryd.prog 88 = true := by kernel_rfl
theorem ty_int_88 : Tryd.prog.underlying 88 = some (.int .u32) := by kernel_rfl
theorem ty_ze_88 : zeB Tryd.prog 88 ([.int .u32 0]) := by unfold zeB; kernel_rfl
theorem ty_ar_89 : arB Tryd.prog 89 8 88 1 = true := by kernel_rfl
theorem ty_ag_89 : agB Tryd.prog 89 8 = true := by kernel_rfl
theorem ty_un_89 : Tryd.prog.underlying 89 = some (.array 8 88) := by kernel_rfl
theorem ty_eg_89 : Tryd.prog.eqGuardType Tryd.prog.depth 89 = false := by kernel_rfl
theorem ty_ze_89 : zeB Tryd.prog 89 (List.replicate 8 (.int .u32 0)) := by unfold zeB; kernel_rfl
theorem ty_sc_90 : scB Tryd.prog 90 = true := by kernel_rfl
theorem ty_sc_91 : scB Tryd.prog 91 = true := by kernel_rfl
theorem ty_int_91 : Tryd.prog.underlying 91 = some (.int .u64) := by kernel_rfl
theorem ty_ze_91 : zeB Tryd.prog 91 ([.int .u64 0]) := by unfold zeB; kernel_rfl
theorem ty_sc_92 : scB Tryd.prog 92 = true := by kernel_rfl
theorem ty_sc_93 : scB Tryd.prog 93 = true := by kernel_rfl
theorem ty_sl_93 : slB Tryd.prog 93 3 1 8 = true := by kernel_rfl
theorem ty_ap_93 : apB Tryd.prog 3 1 = true := by kernel_rfl
theorem ty_src_93 : srcB Tryd.prog 93 = true := by kernel_rfl
theorem ty_lz_93 : ((Tryd.prog.info? 3).bind (·.zero)).map (·.cells.size) = some 1 := by kernel_rfl
theorem ty_ze_93 : zeB Tryd.prog 93 ([.slice none 0 0]) := by unfold zeB; kernel_rfl
theorem ty_sc_94 : scB Tryd.prog 94 = true := by kernel_rfl
theorem ty_sc_95 : scB Tryd.prog 95 = true := by kernel_rfl
theorem ty_sc_96 : scB Tryd.prog 96 = true := by kernel_rfl
theorem ty_sc_97 : scB Tryd.prog 97 = true := by kernel_rfl
theorem ty_ptr_97 : Tryd.prog.underlying 97 = some (.pointer 107) := by kernel_rfl
theorem ty_ze_97 : zeB Tryd.prog 97 ([.pointer none]) := by unfold zeB; kernel_rfl
theorem ty_sc_98 : scB Tryd.prog 98 = true := by kernel_rfl
theorem ty_sc_99 : scB Tryd.prog 99 = true := by kernel_rfl
theorem ty_sc_100 : scB Tryd.prog 100 = true := by kernel_rfl
theorem ty_sc_101 : scB Tryd.prog 101 = true := by kernel_rfl
theorem ty_ar_102 : arB Tryd.prog 102 64 88 1 = true := by kernel_rfl
theorem ty_ag_102 : agB Tryd.prog 102 64 = true := by kernel_rfl
theorem ty_un_102 : Tryd.prog.underlying 102 = some (.array 64 88) := by kernel_rfl
theorem ty_eg_102 : Tryd.prog.eqGuardType Tryd.prog.depth 102 = false := by kernel_rfl
theorem ty_ze_102 : zeB Tryd.prog 102 (List.replicate 64 (.int .u32 0)) := by unfold zeB; kernel_rfl
theorem ty_sc_103 : scB Tryd.prog 103 = true := by kernel_rfl
theorem ty_ar_104 : arB Tryd.prog 104 8 88 1 = true := by kernel_rfl
theorem ty_ag_104 : agB Tryd.prog 104 8 = true := by kernel_rfl
theorem ty_un_104 : Tryd.prog.underlying 104 = some (.array 8 88) := by kernel_rfl
theorem ty_eg_104 : Tryd.prog.eqGuardType Tryd.prog.depth 104 = false := by kernel_rfl
theorem ty_ze_104 : zeB Tryd.prog 104 (List.replicate 8 (.int .u32 0)) := by unfold zeB; kernel_rfl
theorem ty_ar_105 : arB Tryd.prog 105 64 5 1 = true := by kernel_rfl
theorem ty_ag_105 : agB Tryd.prog 105 64 = true := by kernel_rfl
theorem ty_un_105 : Tryd.prog.underlying 105 = some (.array 64 5) := by kernel_rfl
theorem ty_eg_105 : Tryd.prog.eqGuardType Tryd.prog.depth 105 = false := by kernel_rfl
theorem ty_ze_105 : zeB Tryd.prog 105 (List.replicate 64 (.int .u8 0)) := by unfold zeB; kernel_rfl
theorem ty_ag_106 : agB Tryd.prog 106 75 = true := by kernel_rfl
theorem ty_pl_106 : plB Tryd.prog 106 [(0, 1), (1, 8), (9, 64), (73, 1), (74, 1)] = true := by kernel_rfl
theorem ty_fld_106_0 : fldB Tryd.prog 106 0 = some (0, 4) := by kernel_rfl
theorem ty_fl_106_0 : flB Tryd.prog 106 0 0 = true := by kernel_rfl
theorem ty_fld_106_1 : fldB Tryd.prog 106 1 = some (1, 104) := by kernel_rfl
theorem ty_fl_106_1 : flB Tryd.prog 106 1 1 = true := by kernel_rfl
theorem ty_fld_106_2 : fldB Tryd.prog 106 2 = some (9, 105) := by kernel_rfl
theorem ty_fl_106_2 : flB Tryd.prog 106 2 9 = true := by kernel_rfl
theorem ty_fld_106_3 : fldB Tryd.prog 106 3 = some (73, 3) := by kernel_rfl
theorem ty_fl_106_3 : flB Tryd.prog 106 3 73 = true := by kernel_rfl
theorem ty_fld_106_4 : fldB Tryd.prog 106 4 = some (74, 34) := by kernel_rfl
theorem ty_fl_106_4 : flB Tryd.prog 106 4 74 = true := by kernel_rfl
theorem ty_ze_106 : zeB Tryd.prog 106 ([.bool false] ++ List.replicate 8 (.int .u32 0) ++ List.replicate 64 (.int .u8 0) ++ [.int .i64 0, .int .u64 0]) := by unfold zeB; kernel_rfl
theorem ty_ag_107 : agB Tryd.prog 107 75 = true := by kernel_rfl
theorem ty_pl_107 : plB Tryd.prog 107 [(0, 1), (1, 8), (9, 64), (73, 1), (74, 1)] = true := by kernel_rfl
theorem ty_fld_107_0 : fldB Tryd.prog 107 0 = some (0, 4) := by kernel_rfl
theorem ty_fl_107_0 : flB Tryd.prog 107 0 0 = true := by kernel_rfl
theorem ty_fld_107_1 : fldB Tryd.prog 107 1 = some (1, 104) := by kernel_rfl
theorem ty_fl_107_1 : flB Tryd.prog 107 1 1 = true := by kernel_rfl
theorem ty_fld_107_2 : fldB Tryd.prog 107 2 = some (9, 105) := by kernel_rfl
theorem ty_fl_107_2 : flB Tryd.prog 107 2 9 = true := by kernel_rfl
theorem ty_fld_107_3 : fldB Tryd.prog 107 3 = some (73, 3) := by kernel_rfl
theorem ty_fl_107_3 : flB Tryd.prog 107 3 73 = true := by kernel_rfl
theorem ty_fld_107_4 : fldB Tryd.prog 107 4 = some (74, 34) := by kernel_rfl
theorem ty_fl_107_4 : flB Tryd.prog 107 4 74 = true := by kernel_rfl
theorem ty_ze_107 : zeB Tryd.prog 107 ([.bool false] ++ List.replicate 8 (.int .u32 0) ++ List.replicate 64 (.int .u8 0) ++ [.int .i64 0, .int .u64 0]) := by unfold zeB; kernel_rfl
theorem ty_sc_108 : scB Tryd.prog 108 = true := by kernel_rfl
theorem ty_sc_109 : scB Tryd.prog 109 = true := by kernel_rfl
theorem ty_sc_110 : scB Tryd.prog 110 = true := by kernel_rfl
theorem ty_ag_111 : agB Tryd.prog 111 4 = true := by kernel_rfl
theorem ty_pl_111 : plB Tryd.prog 111 [(0, 1), (1, 1), (2, 1), (3, 1)] = true := by kernel_rfl
theorem ty_fld_111_0 : fldB Tryd.prog 111 0 = some (0, 17) := by kernel_rfl
theorem ty_fl_111_0 : flB Tryd.prog 111 0 0 = true := by kernel_rfl
theorem ty_fld_111_1 : fldB Tryd.prog 111 1 = some (1, 17) := by kernel_rfl
theorem ty_fl_111_1 : flB Tryd.prog 111 1 1 = true := by kernel_rfl
theorem ty_fld_111_2 : fldB Tryd.prog 111 2 = some (2, 17) := by kernel_rfl
theorem ty_fl_111_2 : flB Tryd.prog 111 2 2 = true := by kernel_rfl
theorem ty_fld_111_3 : fldB Tryd.prog 111 3 = some (3, 9) := by kernel_rfl
theorem ty_fl_111_3 : flB Tryd.prog 111 3 3 = true := by kernel_rfl
theorem ty_ze_111 : zeB Tryd.prog 111 ([.pointer none, .pointer none, .pointer none, .string ByteArray.empty]) := by unfold zeB; kernel_rfl
theorem ty_ag_112 : agB Tryd.prog 112 4 = true := by kernel_rfl
theorem ty_pl_112 : plB Tryd.prog 112 [(0, 1), (1, 1), (2, 1), (3, 1)] = true := by kernel_rfl
theorem ty_fld_112_0 : fldB Tryd.prog 112 0 = some (0, 17) := by kernel_rfl
theorem ty_fl_112_0 : flB Tryd.prog 112 0 0 = true := by kernel_rfl
theorem ty_fld_112_1 : fldB Tryd.prog 112 1 = some (1, 17) := by kernel_rfl
theorem ty_fl_112_1 : flB Tryd.prog 112 1 1 = true := by kernel_rfl
theorem ty_fld_112_2 : fldB Tryd.prog 112 2 = some (2, 17) := by kernel_rfl
theorem ty_fl_112_2 : flB Tryd.prog 112 2 2 = true := by kernel_rfl
theorem ty_fld_112_3 : fldB Tryd.prog 112 3 = some (3, 9) := by kernel_rfl
theorem ty_fl_112_3 : flB Tryd.prog 112 3 3 = true := by kernel_rfl
theorem ty_ze_112 : zeB Tryd.prog 112 ([.pointer none, .pointer none, .pointer none, .string ByteArray.empty]) := by unfold zeB; kernel_rfl
theorem ty_ar_113 : arB Tryd.prog 113 0 16 1 = true := by kernel_rfl
theorem ty_ag_113 : agB Tryd.prog 113 0 = true := by kernel_rfl
theorem ty_sc_116 : scB Tryd.prog 116 = true := by kernel_rfl
theorem ty_sc_117 : scB Tryd.prog 117 = true := by kernel_rfl
theorem ty_int_117 : Tryd.prog.underlying 117 = some (.int .u8) := by kernel_rfl
theorem ty_ze_117 : zeB Tryd.prog 117 ([.int .u8 0]) := by unfold zeB; kernel_rfl
theorem ty_sc_118 : scB Tryd.prog 118 = true := by kernel_rfl
theorem ty_int_118 : Tryd.prog.underlying 118 = some (.int .u8) := by kernel_rfl
theorem ty_ze_118 : zeB Tryd.prog 118 ([.int .u8 0]) := by unfold zeB; kernel_rfl
theorem ty_sc_119 : scB Tryd.prog 119 = true := by kernel_rfl
theorem ty_sc_120 : scB Tryd.prog 120 = true := by kernel_rfl
theorem ty_ptr_120 : Tryd.prog.underlying 120 = some (.pointer 5) := by kernel_rfl
theorem ty_ze_120 : zeB Tryd.prog 120 ([.pointer none]) := by unfold zeB; kernel_rfl
theorem ty_sc_121 : scB Tryd.prog 121 = true := by kernel_rfl
theorem ty_int_121 : Tryd.prog.underlying 121 = some (.int .i32) := by kernel_rfl
theorem ty_ze_121 : zeB Tryd.prog 121 ([.int .i32 0]) := by unfold zeB; kernel_rfl
theorem ty_sc_122 : scB Tryd.prog 122 = true := by kernel_rfl
theorem ty_int_122 : Tryd.prog.underlying 122 = some (.int .i32) := by kernel_rfl
theorem ty_ze_122 : zeB Tryd.prog 122 ([.int .i32 0]) := by unfold zeB; kernel_rfl
theorem ty_ag_123 : agB Tryd.prog 123 11 = true := by kernel_rfl
theorem ty_pl_123 : plB Tryd.prog 123 [(0, 1), (1, 1), (2, 1), (3, 1), (4, 1), (5, 1), (6, 1), (7, 1), (8, 1), (9, 1), (10, 1)] = true := by kernel_rfl
theorem ty_fld_123_0 : fldB Tryd.prog 123 0 = some (0, 12) := by kernel_rfl
theorem ty_fl_123_0 : flB Tryd.prog 123 0 0 = true := by kernel_rfl
theorem ty_fld_123_1 : fldB Tryd.prog 123 1 = some (1, 12) := by kernel_rfl
theorem ty_fl_123_1 : flB Tryd.prog 123 1 1 = true := by kernel_rfl
theorem ty_fld_123_2 : fldB Tryd.prog 123 2 = some (2, 88) := by kernel_rfl
theorem ty_fl_123_2 : flB Tryd.prog 123 2 2 = true := by kernel_rfl
theorem ty_fld_123_3 : fldB Tryd.prog 123 3 = some (3, 117) := by kernel_rfl
theorem ty_fl_123_3 : flB Tryd.prog 123 3 3 = true := by kernel_rfl
theorem ty_fld_123_4 : fldB Tryd.prog 123 4 = some (4, 5) := by kernel_rfl
theorem ty_fl_123_4 : flB Tryd.prog 123 4 4 = true := by kernel_rfl
theorem ty_fld_123_5 : fldB Tryd.prog 123 5 = some (5, 5) := by kernel_rfl
theorem ty_fl_123_5 : flB Tryd.prog 123 5 5 = true := by kernel_rfl
theorem ty_fld_123_6 : fldB Tryd.prog 123 6 = some (6, 118) := by kernel_rfl
theorem ty_fl_123_6 : flB Tryd.prog 123 6 6 = true := by kernel_rfl
theorem ty_fld_123_7 : fldB Tryd.prog 123 7 = some (7, 119) := by kernel_rfl
theorem ty_fl_123_7 : flB Tryd.prog 123 7 7 = true := by kernel_rfl
theorem ty_fld_123_8 : fldB Tryd.prog 123 8 = some (8, 120) := by kernel_rfl
theorem ty_fl_123_8 : flB Tryd.prog 123 8 8 = true := by kernel_rfl
theorem ty_fld_123_9 : fldB Tryd.prog 123 9 = some (9, 121) := by kernel_rfl
theorem ty_fl_123_9 : flB Tryd.prog 123 9 9 = true := by kernel_rfl
theorem ty_fld_123_10 : fldB Tryd.prog 123 10 = some (10, 122) := by kernel_rfl
theorem ty_fl_123_10 : flB Tryd.prog 123 10 10 = true := by kernel_rfl
theorem ty_ze_123 : zeB Tryd.prog 123 ([.int .u64 0, .int .u64 0, .int .u32 0, .int .u8 0, .int .u8 0, .int .u8 0, .int .u8 0, .nilFunc, .pointer none, .int .i32 0, .int .i32 0]) := by unfold zeB; kernel_rfl
theorem ty_ag_124 : agB Tryd.prog 124 11 = true := by kernel_rfl
theorem ty_pl_124 : plB Tryd.prog 124 [(0, 1), (1, 1), (2, 1), (3, 1), (4, 1), (5, 1), (6, 1), (7, 1), (8, 1), (9, 1), (10, 1)] = true := by kernel_rfl
theorem ty_fld_124_0 : fldB Tryd.prog 124 0 = some (0, 12) := by kernel_rfl
theorem ty_fl_124_0 : flB Tryd.prog 124 0 0 = true := by kernel_rfl
theorem ty_fld_124_1 : fldB Tryd.prog 124 1 = some (1, 12) := by kernel_rfl
theorem ty_fl_124_1 : flB Tryd.prog 124 1 1 = true := by kernel_rfl
theorem ty_fld_124_2 : fldB Tryd.prog 124 2 = some (2, 88) := by kernel_rfl
theorem ty_fl_124_2 : flB Tryd.prog 124 2 2 = true := by kernel_rfl
theorem ty_fld_124_3 : fldB Tryd.prog 124 3 = some (3, 117) := by kernel_rfl
theorem ty_fl_124_3 : flB Tryd.prog 124 3 3 = true := by kernel_rfl
theorem ty_fld_124_4 : fldB Tryd.prog 124 4 = some (4, 5) := by kernel_rfl
theorem ty_fl_124_4 : flB Tryd.prog 124 4 4 = true := by kernel_rfl
theorem ty_fld_124_5 : fldB Tryd.prog 124 5 = some (5, 5) := by kernel_rfl
theorem ty_fl_124_5 : flB Tryd.prog 124 5 5 = true := by kernel_rfl
theorem ty_fld_124_6 : fldB Tryd.prog 124 6 = some (6, 118) := by kernel_rfl
theorem ty_fl_124_6 : flB Tryd.prog 124 6 6 = true := by kernel_rfl
theorem ty_fld_124_7 : fldB Tryd.prog 124 7 = some (7, 119) := by kernel_rfl
theorem ty_fl_124_7 : flB Tryd.prog 124 7 7 = true := by kernel_rfl
theorem ty_fld_124_8 : fldB Tryd.prog 124 8 = some (8, 120) := by kernel_rfl
theorem ty_fl_124_8 : flB Tryd.prog 124 8 8 = true := by kernel_rfl
theorem ty_fld_124_9 : fldB Tryd.prog 124 9 = some (9, 121) := by kernel_rfl
theorem ty_fl_124_9 : flB Tryd.prog 124 9 9 = true := by kernel_rfl
theorem ty_fld_124_10 : fldB Tryd.prog 124 10 = some (10, 122) := by kernel_rfl
theorem ty_fl_124_10 : flB Tryd.prog 124 10 10 = true := by kernel_rfl
theorem ty_ze_124 : zeB Tryd.prog 124 ([.int .u64 0, .int .u64 0, .int .u32 0, .int .u8 0, .int .u8 0, .int .u8 0, .int .u8 0, .nilFunc, .pointer none, .int .i32 0, .int .i32 0]) := by unfold zeB; kernel_rfl
theorem ty_sc_125 : scB Tryd.prog 125 = true := by kernel_rfl
theorem ty_ze_126 : zeB Tryd.prog 126 ([.pointer none]) := by unfold zeB; kernel_rfl
theorem fn_ca_2 : callable Tryd.prog 2 = true := by kernel_rfl
theorem fn_ca_3 : callable Tryd.prog 3 = true := by kernel_rfl
theorem fn_ca_4 : callable Tryd.prog 4 = true := by kernel_rfl
theorem fn_ca_5 : callable Tryd.prog 5 = true := by kernel_rfl
theorem fn_ca_6 : callable Tryd.prog 6 = true := by kernel_rfl
theorem fn_ca_7 : callable Tryd.prog 7 = true := by kernel_rfl
theorem fn_ca_8 : callable Tryd.prog 8 = true := by kernel_rfl
theorem fn_ca_9 : callable Tryd.prog 9 = true := by kernel_rfl
theorem fn_ca_10 : callable Tryd.prog 10 = true := by kernel_rfl
theorem fn_ca_11 : callable Tryd.prog 11 = true := by kernel_rfl
theorem fn_ca_12 : callable Tryd.prog 12 = true := by kernel_rfl
theorem fn_ca_13 : callable Tryd.prog 13 = true := by kernel_rfl
theorem fn_ca_14 : callable Tryd.prog 14 = true := by kernel_rfl
theorem fn_ca_15 : callable Tryd.prog 15 = true := by kernel_rfl
theorem fn_ca_16 : callable Tryd.prog 16 = true := by kernel_rfl
theorem fn_ca_17 : callable Tryd.prog 17 = true := by kernel_rfl
theorem fn_ca_18 : callable Tryd.prog 18 = true := by kernel_rfl
theorem fn_ca_19 : callable Tryd.prog 19 = true := by kernel_rfl
theorem fn_ca_20 : callable Tryd.prog 20 = true := by kernel_rfl
theorem fn_ca_21 : callable Tryd.prog 21 = true := by kernel_rfl
theorem fn_ca_22 : callable Tryd.prog 22 = true := by kernel_rfl
theorem fn_ca_23 : callable Tryd.prog 23 = true := by kernel_rfl
theorem fn_ca_24 : callable Tryd.prog 24 = true := by kernel_rfl
theorem fn_ca_25 : callable Tryd.prog 25 = true := by kernel_rfl
theorem fn_ca_26 : callable Tryd.prog 26 = true := by kernel_rfl
theorem fn_ca_27 : callable Tryd.prog 27 = true := by kernel_rfl
theorem fn_ca_28 : callable Tryd.prog 28 = true := by kernel_rfl
theorem fn_ca_29 : callable Tryd.prog 29 = true := by kernel_rfl
theorem fn_ca_30 : callable Tryd.prog 30 = true := by kernel_rfl
theorem fn_ca_31 : callable Tryd.prog 31 = true := by kernel_rfl
theorem fn_ca_32 : callable Tryd.prog 32 = true := by kernel_rfl
theorem fn_ca_33 : callable Tryd.prog 33 = true := by kernel_rfl
theorem fn_ca_34 : callable Tryd.prog 34 = true := by kernel_rfl
theorem fn_ca_35 : callable Tryd.prog 35 = true := by kernel_rfl
theorem fn_ca_36 : callable Tryd.prog 36 = true := by kernel_rfl
theorem fn_ca_37 : callable Tryd.prog 37 = true := by kernel_rfl
theorem fn_ca_38 : callable Tryd.prog 38 = true := by kernel_rfl
theorem fn_ca_39 : callable Tryd.prog 39 = true := by kernel_rfl
theorem fn_ca_40 : callable Tryd.prog 40 = true := by kernel_rfl
theorem fn_ca_41 : callable Tryd.prog 41 = true := by kernel_rfl
theorem fn_ca_42 : callable Tryd.prog 42 = true := by kernel_rfl
theorem fn_ca_43 : callable Tryd.prog 43 = true := by kernel_rfl
theorem fn_ca_44 : callable Tryd.prog 44 = true := by kernel_rfl
theorem fn_ca_45 : callable Tryd.prog 45 = true := by kernel_rfl
theorem fn_ca_46 : callable Tryd.prog 46 = true := by kernel_rfl
theorem fn_ca_47 : callable Tryd.prog 47 = true := by kernel_rfl
theorem fn_ca_48 : callable Tryd.prog 48 = true := by kernel_rfl
theorem fn_ca_49 : callable Tryd.prog 49 = true := by kernel_rfl
theorem fn_ca_50 : callable Tryd.prog 50 = true := by kernel_rfl
theorem fn_ca_51 : callable Tryd.prog 51 = true := by kernel_rfl
theorem fn_ca_52 : callable Tryd.prog 52 = true := by kernel_rfl
theorem fn_ca_53 : callable Tryd.prog 53 = true := by kernel_rfl
theorem fn_ca_54 : callable Tryd.prog 54 = true := by kernel_rfl
theorem fn_ca_55 : callable Tryd.prog 55 = true := by kernel_rfl
theorem fn_ca_56 : callable Tryd.prog 56 = true := by kernel_rfl
theorem fn_ca_57 : callable Tryd.prog 57 = true := by kernel_rfl
theorem fn_ca_58 : callable Tryd.prog 58 = true := by kernel_rfl
theorem fn_ca_59 : callable Tryd.prog 59 = true := by kernel_rfl
theorem fn_ca_60 : callable Tryd.prog 60 = true := by kernel_rfl
theorem fn_ca_61 : callable Tryd.prog 61 = true := by kernel_rfl
theorem fn_ca_62 : callable Tryd.prog 62 = true := by kernel_rfl
theorem fn_ca_63 : callable Tryd.prog 63 = true := by kernel_rfl
theorem fn_ca_64 : callable Tryd.prog 64 = true := by kernel_rfl
theorem fn_ca_65 : callable Tryd.prog 65 = true := by kernel_rfl
theorem fn_ca_66 : callable Tryd.prog 66 = true := by kernel_rfl
theorem fn_ca_89 : callable Tryd.prog 89 = true := by kernel_rfl
theorem mixed : Tryd.prog.follows .mixedOrders = true := by kernel_rfl
end Go.Proofs.YtjhhpagcejgclaaDoor
