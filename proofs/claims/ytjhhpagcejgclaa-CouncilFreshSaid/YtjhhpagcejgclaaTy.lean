/- Facts on the types and the functions of this seat's translation, each a closed reckoning: printed by gen.py. -/
import Derived.Test.YtjhhpagcejgclaaProg
import Derived.Test.YtjhhpagcejgclaaEngF
set_option linter.unusedVariables false
namespace Go.Proofs.Ytjhhpagcejgclaa
open Go Go.Proofs
set_option maxRecDepth 100000
/-- The program, with what its package-level variables held when the call began. -/
noncomputable abbrev cx (gl : Nat → Obj) : Cx := ⟨Try.prog, 0, gl⟩
theorem ty_sc_1 : scB Try.prog 1 = true := by kernel_rfl
theorem ty_sc_2 : scB Try.prog 2 = true := by kernel_rfl
theorem ty_int_2 : Try.prog.underlying 2 = some (.int .i64) := by kernel_rfl
theorem ty_ze_2 : zeB Try.prog 2 ([.int .i64 0]) := by unfold zeB; kernel_rfl
theorem ty_sc_3 : scB Try.prog 3 = true := by kernel_rfl
theorem ty_int_3 : Try.prog.underlying 3 = some (.int .i64) := by kernel_rfl
theorem ty_ze_3 : zeB Try.prog 3 ([.int .i64 0]) := by unfold zeB; kernel_rfl
theorem ty_sc_4 : scB Try.prog 4 = true := by kernel_rfl
theorem ty_bool_4 : Try.prog.underlying 4 = some .bool := by kernel_rfl
theorem ty_ze_4 : zeB Try.prog 4 ([.bool false]) := by unfold zeB; kernel_rfl
theorem ty_sc_5 : scB Try.prog 5 = true := by kernel_rfl
theorem ty_int_5 : Try.prog.underlying 5 = some (.int .u8) := by kernel_rfl
theorem ty_ze_5 : zeB Try.prog 5 ([.int .u8 0]) := by unfold zeB; kernel_rfl
theorem ty_sc_6 : scB Try.prog 6 = true := by kernel_rfl
theorem ty_int_6 : Try.prog.underlying 6 = some (.int .u8) := by kernel_rfl
theorem ty_ze_6 : zeB Try.prog 6 ([.int .u8 0]) := by unfold zeB; kernel_rfl
theorem ty_ag_7 : agB Try.prog 7 4 = true := by kernel_rfl
theorem ty_pl_7 : plB Try.prog 7 [(0, 1), (1, 1), (2, 1), (3, 1)] = true := by kernel_rfl
theorem ty_fld_7_0 : fldB Try.prog 7 0 = some (0, 2) := by kernel_rfl
theorem ty_fl_7_0 : flB Try.prog 7 0 0 = true := by kernel_rfl
theorem ty_fld_7_1 : fldB Try.prog 7 1 = some (1, 3) := by kernel_rfl
theorem ty_fl_7_1 : flB Try.prog 7 1 1 = true := by kernel_rfl
theorem ty_fld_7_2 : fldB Try.prog 7 2 = some (2, 4) := by kernel_rfl
theorem ty_fl_7_2 : flB Try.prog 7 2 2 = true := by kernel_rfl
theorem ty_fld_7_3 : fldB Try.prog 7 3 = some (3, 6) := by kernel_rfl
theorem ty_fl_7_3 : flB Try.prog 7 3 3 = true := by kernel_rfl
theorem ty_ze_7 : zeB Try.prog 7 ([.int .i64 0, .int .i64 0, .bool false, .int .u8 0]) := by unfold zeB; kernel_rfl
theorem ty_ag_8 : agB Try.prog 8 4 = true := by kernel_rfl
theorem ty_pl_8 : plB Try.prog 8 [(0, 1), (1, 1), (2, 1), (3, 1)] = true := by kernel_rfl
theorem ty_fld_8_0 : fldB Try.prog 8 0 = some (0, 2) := by kernel_rfl
theorem ty_fl_8_0 : flB Try.prog 8 0 0 = true := by kernel_rfl
theorem ty_fld_8_1 : fldB Try.prog 8 1 = some (1, 3) := by kernel_rfl
theorem ty_fl_8_1 : flB Try.prog 8 1 1 = true := by kernel_rfl
theorem ty_fld_8_2 : fldB Try.prog 8 2 = some (2, 4) := by kernel_rfl
theorem ty_fl_8_2 : flB Try.prog 8 2 2 = true := by kernel_rfl
theorem ty_fld_8_3 : fldB Try.prog 8 3 = some (3, 6) := by kernel_rfl
theorem ty_fl_8_3 : flB Try.prog 8 3 3 = true := by kernel_rfl
theorem ty_ze_8 : zeB Try.prog 8 ([.int .i64 0, .int .i64 0, .bool false, .int .u8 0]) := by unfold zeB; kernel_rfl
theorem ty_sc_9 : scB Try.prog 9 = true := by kernel_rfl
theorem ty_str_9 : Try.prog.underlying 9 = some .string := by kernel_rfl
theorem ty_src_9 : srcB Try.prog 9 = true := by kernel_rfl
theorem ty_ze_9 : zeB Try.prog 9 ([.string ByteArray.empty]) := by unfold zeB; kernel_rfl
theorem ty_sc_10 : scB Try.prog 10 = true := by kernel_rfl
theorem ty_str_10 : Try.prog.underlying 10 = some .string := by kernel_rfl
theorem ty_src_10 : srcB Try.prog 10 = true := by kernel_rfl
theorem ty_ze_10 : zeB Try.prog 10 ([.string ByteArray.empty]) := by unfold zeB; kernel_rfl
theorem ty_sc_11 : scB Try.prog 11 = true := by kernel_rfl
theorem ty_str_11 : Try.prog.underlying 11 = some .string := by kernel_rfl
theorem ty_src_11 : srcB Try.prog 11 = true := by kernel_rfl
theorem ty_ze_11 : zeB Try.prog 11 ([.string ByteArray.empty]) := by unfold zeB; kernel_rfl
theorem ty_sc_12 : scB Try.prog 12 = true := by kernel_rfl
theorem ty_int_12 : Try.prog.underlying 12 = some (.int .u64) := by kernel_rfl
theorem ty_ze_12 : zeB Try.prog 12 ([.int .u64 0]) := by unfold zeB; kernel_rfl
theorem ty_ag_13 : agB Try.prog 13 2 = true := by kernel_rfl
theorem ty_pl_13 : plB Try.prog 13 [(0, 1), (1, 1)] = true := by kernel_rfl
theorem ty_fld_13_0 : fldB Try.prog 13 0 = some (0, 9) := by kernel_rfl
theorem ty_fl_13_0 : flB Try.prog 13 0 0 = true := by kernel_rfl
theorem ty_fld_13_1 : fldB Try.prog 13 1 = some (1, 12) := by kernel_rfl
theorem ty_fl_13_1 : flB Try.prog 13 1 1 = true := by kernel_rfl
theorem ty_ze_13 : zeB Try.prog 13 ([.string ByteArray.empty, .int .u64 0]) := by unfold zeB; kernel_rfl
theorem ty_ag_14 : agB Try.prog 14 2 = true := by kernel_rfl
theorem ty_pl_14 : plB Try.prog 14 [(0, 1), (1, 1)] = true := by kernel_rfl
theorem ty_fld_14_0 : fldB Try.prog 14 0 = some (0, 9) := by kernel_rfl
theorem ty_fl_14_0 : flB Try.prog 14 0 0 = true := by kernel_rfl
theorem ty_fld_14_1 : fldB Try.prog 14 1 = some (1, 12) := by kernel_rfl
theorem ty_fl_14_1 : flB Try.prog 14 1 1 = true := by kernel_rfl
theorem ty_ze_14 : zeB Try.prog 14 ([.string ByteArray.empty, .int .u64 0]) := by unfold zeB; kernel_rfl
theorem ty_sc_15 : scB Try.prog 15 = true := by kernel_rfl
theorem ty_ptr_15 : Try.prog.underlying 15 = some (.pointer 98) := by kernel_rfl
theorem ty_ze_15 : zeB Try.prog 15 ([.pointer none]) := by unfold zeB; kernel_rfl
theorem ty_sc_16 : scB Try.prog 16 = true := by kernel_rfl
theorem ty_ptr_16 : Try.prog.underlying 16 = some (.pointer 101) := by kernel_rfl
theorem ty_ze_16 : zeB Try.prog 16 ([.pointer none]) := by unfold zeB; kernel_rfl
theorem ty_sc_17 : scB Try.prog 17 = true := by kernel_rfl
theorem ty_ptr_17 : Try.prog.underlying 17 = some (.pointer 111) := by kernel_rfl
theorem ty_ze_17 : zeB Try.prog 17 ([.pointer none]) := by unfold zeB; kernel_rfl
theorem ty_ag_18 : agB Try.prog 18 1 = true := by kernel_rfl
theorem ty_pl_18 : plB Try.prog 18 [(0, 1)] = true := by kernel_rfl
theorem ty_fld_18_0 : fldB Try.prog 18 0 = some (0, 17) := by kernel_rfl
theorem ty_fl_18_0 : flB Try.prog 18 0 0 = true := by kernel_rfl
theorem ty_ze_18 : zeB Try.prog 18 ([.pointer none]) := by unfold zeB; kernel_rfl
theorem ty_ag_19 : agB Try.prog 19 1 = true := by kernel_rfl
theorem ty_pl_19 : plB Try.prog 19 [(0, 1)] = true := by kernel_rfl
theorem ty_fld_19_0 : fldB Try.prog 19 0 = some (0, 17) := by kernel_rfl
theorem ty_fl_19_0 : flB Try.prog 19 0 0 = true := by kernel_rfl
theorem ty_ze_19 : zeB Try.prog 19 ([.pointer none]) := by unfold zeB; kernel_rfl
theorem ty_sc_20 : scB Try.prog 20 = true := by kernel_rfl
theorem ty_ze_20 : zeB Try.prog 20 ([.nilIface]) := by unfold zeB; kernel_rfl
theorem ty_sc_21 : scB Try.prog 21 = true := by kernel_rfl
theorem ty_int_21 : Try.prog.underlying 21 = some (.int .i32) := by kernel_rfl
theorem ty_ze_21 : zeB Try.prog 21 ([.int .i32 0]) := by unfold zeB; kernel_rfl
theorem ty_sc_22 : scB Try.prog 22 = true := by kernel_rfl
theorem ty_sl_22 : slB Try.prog 22 48 3 24 = true := by kernel_rfl
theorem ty_ap_22 : apB Try.prog 48 3 = true := by kernel_rfl
theorem ty_src_22 : srcB Try.prog 22 = true := by kernel_rfl
theorem ty_lz_22 : ((Try.prog.info? 48).bind (·.zero)).map (·.cells.size) = some 3 := by kernel_rfl
theorem ty_ze_22 : zeB Try.prog 22 ([.slice none 0 0]) := by unfold zeB; kernel_rfl
theorem ty_sc_23 : scB Try.prog 23 = true := by kernel_rfl
theorem ty_ag_24 : agB Try.prog 24 1 = true := by kernel_rfl
theorem ty_pl_24 : plB Try.prog 24 [(0, 1)] = true := by kernel_rfl
theorem ty_fld_24_0 : fldB Try.prog 24 0 = some (0, 22) := by kernel_rfl
theorem ty_fl_24_0 : flB Try.prog 24 0 0 = true := by kernel_rfl
theorem ty_ze_24 : zeB Try.prog 24 ([.slice none 0 0]) := by unfold zeB; kernel_rfl
theorem ty_ag_25 : agB Try.prog 25 1 = true := by kernel_rfl
theorem ty_pl_25 : plB Try.prog 25 [(0, 1)] = true := by kernel_rfl
theorem ty_fld_25_0 : fldB Try.prog 25 0 = some (0, 22) := by kernel_rfl
theorem ty_fl_25_0 : flB Try.prog 25 0 0 = true := by kernel_rfl
theorem ty_ze_25 : zeB Try.prog 25 ([.slice none 0 0]) := by unfold zeB; kernel_rfl
theorem ty_sc_26 : scB Try.prog 26 = true := by kernel_rfl
theorem ty_int_26 : Try.prog.underlying 26 = some (.int .i64) := by kernel_rfl
theorem ty_ze_26 : zeB Try.prog 26 ([.int .i64 0]) := by unfold zeB; kernel_rfl
theorem ty_sc_28 : scB Try.prog 28 = true := by kernel_rfl
theorem ty_sc_29 : scB Try.prog 29 = true := by kernel_rfl
theorem ty_sc_30 : scB Try.prog 30 = true := by kernel_rfl
theorem ty_sc_31 : scB Try.prog 31 = true := by kernel_rfl
theorem ty_sc_32 : scB Try.prog 32 = true := by kernel_rfl
theorem ty_int_32 : Try.prog.underlying 32 = some (.int .u64) := by kernel_rfl
theorem ty_ze_32 : zeB Try.prog 32 ([.int .u64 0]) := by unfold zeB; kernel_rfl
theorem ty_sc_33 : scB Try.prog 33 = true := by kernel_rfl
theorem ty_sc_34 : scB Try.prog 34 = true := by kernel_rfl
theorem ty_sc_35 : scB Try.prog 35 = true := by kernel_rfl
theorem ty_sc_36 : scB Try.prog 36 = true := by kernel_rfl
theorem ty_sc_37 : scB Try.prog 37 = true := by kernel_rfl
theorem ty_sc_38 : scB Try.prog 38 = true := by kernel_rfl
theorem ty_sc_39 : scB Try.prog 39 = true := by kernel_rfl
theorem ty_int_39 : Try.prog.underlying 39 = some (.int .u64) := by kernel_rfl
theorem ty_ze_39 : zeB Try.prog 39 ([.int .u64 0]) := by unfold zeB; kernel_rfl
theorem ty_sc_41 : scB Try.prog 41 = true := by kernel_rfl
theorem ty_sc_42 : scB Try.prog 42 = true := by kernel_rfl
theorem ty_sc_43 : scB Try.prog 43 = true := by kernel_rfl
theorem ty_sc_44 : scB Try.prog 44 = true := by kernel_rfl
theorem ty_sc_45 : scB Try.prog 45 = true := by kernel_rfl
theorem ty_sc_46 : scB Try.prog 46 = true := by kernel_rfl
theorem ty_sl_46 : slB Try.prog 46 2 1 8 = true := by kernel_rfl
theorem ty_ap_46 : apB Try.prog 2 1 = true := by kernel_rfl
theorem ty_src_46 : srcB Try.prog 46 = true := by kernel_rfl
theorem ty_lz_46 : ((Try.prog.info? 2).bind (·.zero)).map (·.cells.size) = some 1 := by kernel_rfl
theorem ty_ze_46 : zeB Try.prog 46 ([.slice none 0 0]) := by unfold zeB; kernel_rfl
theorem ty_ag_47 : agB Try.prog 47 3 = true := by kernel_rfl
theorem ty_pl_47 : plB Try.prog 47 [(0, 1), (1, 1), (2, 1)] = true := by kernel_rfl
theorem ty_fld_47_0 : fldB Try.prog 47 0 = some (0, 39) := by kernel_rfl
theorem ty_fl_47_0 : flB Try.prog 47 0 0 = true := by kernel_rfl
theorem ty_fld_47_1 : fldB Try.prog 47 1 = some (1, 32) := by kernel_rfl
theorem ty_fl_47_1 : flB Try.prog 47 1 1 = true := by kernel_rfl
theorem ty_fld_47_2 : fldB Try.prog 47 2 = some (2, 2) := by kernel_rfl
theorem ty_fl_47_2 : flB Try.prog 47 2 2 = true := by kernel_rfl
theorem ty_ze_47 : zeB Try.prog 47 ([.int .u64 0, .int .u64 0, .int .i64 0]) := by unfold zeB; kernel_rfl
theorem ty_ag_48 : agB Try.prog 48 3 = true := by kernel_rfl
theorem ty_pl_48 : plB Try.prog 48 [(0, 1), (1, 1), (2, 1)] = true := by kernel_rfl
theorem ty_fld_48_0 : fldB Try.prog 48 0 = some (0, 39) := by kernel_rfl
theorem ty_fl_48_0 : flB Try.prog 48 0 0 = true := by kernel_rfl
theorem ty_fld_48_1 : fldB Try.prog 48 1 = some (1, 32) := by kernel_rfl
theorem ty_fl_48_1 : flB Try.prog 48 1 1 = true := by kernel_rfl
theorem ty_fld_48_2 : fldB Try.prog 48 2 = some (2, 2) := by kernel_rfl
theorem ty_fl_48_2 : flB Try.prog 48 2 2 = true := by kernel_rfl
theorem ty_ze_48 : zeB Try.prog 48 ([.int .u64 0, .int .u64 0, .int .i64 0]) := by unfold zeB; kernel_rfl
theorem ty_sc_49 : scB Try.prog 49 = true := by kernel_rfl
theorem ty_sc_50 : scB Try.prog 50 = true := by kernel_rfl
theorem ty_sc_51 : scB Try.prog 51 = true := by kernel_rfl
theorem ty_sc_52 : scB Try.prog 52 = true := by kernel_rfl
theorem ty_sl_52 : slB Try.prog 52 79 2 32 = true := by kernel_rfl
theorem ty_ap_52 : apB Try.prog 79 2 = true := by kernel_rfl
theorem ty_src_52 : srcB Try.prog 52 = true := by kernel_rfl
theorem ty_lz_52 : ((Try.prog.info? 79).bind (·.zero)).map (·.cells.size) = some 2 := by kernel_rfl
theorem ty_ze_52 : zeB Try.prog 52 ([.slice none 0 0]) := by unfold zeB; kernel_rfl
theorem ty_sc_54 : scB Try.prog 54 = true := by kernel_rfl
theorem ty_sc_55 : scB Try.prog 55 = true := by kernel_rfl
theorem ty_sc_56 : scB Try.prog 56 = true := by kernel_rfl
theorem ty_sc_57 : scB Try.prog 57 = true := by kernel_rfl
theorem ty_sc_58 : scB Try.prog 58 = true := by kernel_rfl
theorem ty_sc_59 : scB Try.prog 59 = true := by kernel_rfl
theorem ty_sc_60 : scB Try.prog 60 = true := by kernel_rfl
theorem ty_sl_60 : slB Try.prog 60 22 1 24 = true := by kernel_rfl
theorem ty_ap_60 : apB Try.prog 22 1 = true := by kernel_rfl
theorem ty_src_60 : srcB Try.prog 60 = true := by kernel_rfl
theorem ty_lz_60 : ((Try.prog.info? 22).bind (·.zero)).map (·.cells.size) = some 1 := by kernel_rfl
theorem ty_ze_60 : zeB Try.prog 60 ([.slice none 0 0]) := by unfold zeB; kernel_rfl
theorem ty_sc_61 : scB Try.prog 61 = true := by kernel_rfl
theorem ty_sc_62 : scB Try.prog 62 = true := by kernel_rfl
theorem ty_sc_64 : scB Try.prog 64 = true := by kernel_rfl
theorem ty_sc_65 : scB Try.prog 65 = true := by kernel_rfl
theorem ty_sc_66 : scB Try.prog 66 = true := by kernel_rfl
theorem ty_sc_67 : scB Try.prog 67 = true := by kernel_rfl
theorem ty_sc_68 : scB Try.prog 68 = true := by kernel_rfl
theorem ty_sc_69 : scB Try.prog 69 = true := by kernel_rfl
theorem ty_sc_70 : scB Try.prog 70 = true := by kernel_rfl
theorem ty_sc_71 : scB Try.prog 71 = true := by kernel_rfl
theorem ty_sc_72 : scB Try.prog 72 = true := by kernel_rfl
theorem ty_sc_74 : scB Try.prog 74 = true := by kernel_rfl
theorem ty_sc_75 : scB Try.prog 75 = true := by kernel_rfl
theorem ty_ptr_75 : Try.prog.underlying 75 = some (.pointer 48) := by kernel_rfl
theorem ty_ze_75 : zeB Try.prog 75 ([.pointer none]) := by unfold zeB; kernel_rfl
theorem ty_sc_76 : scB Try.prog 76 = true := by kernel_rfl
theorem ty_sc_77 : scB Try.prog 77 = true := by kernel_rfl
theorem ty_ag_78 : agB Try.prog 78 2 = true := by kernel_rfl
theorem ty_pl_78 : plB Try.prog 78 [(0, 1), (1, 1)] = true := by kernel_rfl
theorem ty_fld_78_0 : fldB Try.prog 78 0 = some (0, 3) := by kernel_rfl
theorem ty_fl_78_0 : flB Try.prog 78 0 0 = true := by kernel_rfl
theorem ty_fld_78_1 : fldB Try.prog 78 1 = some (1, 22) := by kernel_rfl
theorem ty_fl_78_1 : flB Try.prog 78 1 1 = true := by kernel_rfl
theorem ty_ze_78 : zeB Try.prog 78 ([.int .i64 0, .slice none 0 0]) := by unfold zeB; kernel_rfl
theorem ty_ag_79 : agB Try.prog 79 2 = true := by kernel_rfl
theorem ty_pl_79 : plB Try.prog 79 [(0, 1), (1, 1)] = true := by kernel_rfl
theorem ty_fld_79_0 : fldB Try.prog 79 0 = some (0, 3) := by kernel_rfl
theorem ty_fl_79_0 : flB Try.prog 79 0 0 = true := by kernel_rfl
theorem ty_fld_79_1 : fldB Try.prog 79 1 = some (1, 22) := by kernel_rfl
theorem ty_fl_79_1 : flB Try.prog 79 1 1 = true := by kernel_rfl
theorem ty_ze_79 : zeB Try.prog 79 ([.int .i64 0, .slice none 0 0]) := by unfold zeB; kernel_rfl
theorem ty_sc_80 : scB Try.prog 80 = true := by kernel_rfl
theorem ty_int_80 : Try.prog.underlying 80 = some (.int .u64) := by kernel_rfl
theorem ty_ze_80 : zeB Try.prog 80 ([.int .u64 0]) := by unfold zeB; kernel_rfl
theorem ty_sc_81 : scB Try.prog 81 = true := by kernel_rfl
theorem ty_sc_82 : scB Try.prog 82 = true := by kernel_rfl
theorem ty_sc_83 : scB Try.prog 83 = true := by kernel_rfl
theorem ty_sc_84 : scB Try.prog 84 = true := by kernel_rfl
theorem ty_sc_85 : scB Try.prog 85 = true := by kernel_rfl
theorem ty_sc_87 : scB Try.prog 87 = true := by kernel_rfl
theorem ty_sc_89 : scB Try.prog 89 = true := by kernel_rfl
theorem ty_sc_90 : scB Try.prog 90 = true := by kernel_rfl
theorem ty_sl_90 : slB Try.prog 90 3 1 8 = true := by kernel_rfl
theorem ty_ap_90 : apB Try.prog 3 1 = true := by kernel_rfl
theorem ty_src_90 : srcB Try.prog 90 = true := by kernel_rfl
theorem ty_lz_90 : ((Try.prog.info? 3).bind (·.zero)).map (·.cells.size) = some 1 := by kernel_rfl
theorem ty_ze_90 : zeB Try.prog 90 ([.slice none 0 0]) := by unfold zeB; kernel_rfl
theorem ty_sc_91 : scB Try.prog 91 = true := by kernel_rfl
theorem ty_sc_92 : scB Try.prog 92 = true := by kernel_rfl
theorem ty_sc_93 : scB Try.prog 93 = true := by kernel_rfl
theorem ty_ze_93 : zeB Try.prog 93 ([.nilIface]) := by unfold zeB; kernel_rfl
theorem ty_sc_94 : scB Try.prog 94 = true := by kernel_rfl
theorem ty_ze_94 : zeB Try.prog 94 ([.nilIface]) := by unfold zeB; kernel_rfl
theorem ty_sc_95 : scB Try.prog 95 = true := by kernel_rfl
theorem ty_sc_96 : scB Try.prog 96 = true := by kernel_rfl
theorem ty_ag_97 : agB Try.prog 97 4 = true := by kernel_rfl
theorem ty_pl_97 : plB Try.prog 97 [(0, 1), (1, 1), (2, 1), (3, 1)] = true := by kernel_rfl
theorem ty_fld_97_0 : fldB Try.prog 97 0 = some (0, 17) := by kernel_rfl
theorem ty_fl_97_0 : flB Try.prog 97 0 0 = true := by kernel_rfl
theorem ty_fld_97_1 : fldB Try.prog 97 1 = some (1, 17) := by kernel_rfl
theorem ty_fl_97_1 : flB Try.prog 97 1 1 = true := by kernel_rfl
theorem ty_fld_97_2 : fldB Try.prog 97 2 = some (2, 17) := by kernel_rfl
theorem ty_fl_97_2 : flB Try.prog 97 2 2 = true := by kernel_rfl
theorem ty_fld_97_3 : fldB Try.prog 97 3 = some (3, 9) := by kernel_rfl
theorem ty_fl_97_3 : flB Try.prog 97 3 3 = true := by kernel_rfl
theorem ty_ze_97 : zeB Try.prog 97 ([.pointer none, .pointer none, .pointer none, .string ByteArray.empty]) := by unfold zeB; kernel_rfl
theorem ty_ag_98 : agB Try.prog 98 4 = true := by kernel_rfl
theorem ty_pl_98 : plB Try.prog 98 [(0, 1), (1, 1), (2, 1), (3, 1)] = true := by kernel_rfl
theorem ty_fld_98_0 : fldB Try.prog 98 0 = some (0, 17) := by kernel_rfl
theorem ty_fl_98_0 : flB Try.prog 98 0 0 = true := by kernel_rfl
theorem ty_fld_98_1 : fldB Try.prog 98 1 = some (1, 17) := by kernel_rfl
theorem ty_fl_98_1 : flB Try.prog 98 1 1 = true := by kernel_rfl
theorem ty_fld_98_2 : fldB Try.prog 98 2 = some (2, 17) := by kernel_rfl
theorem ty_fl_98_2 : flB Try.prog 98 2 2 = true := by kernel_rfl
theorem ty_fld_98_3 : fldB Try.prog 98 3 = some (3, 9) := by kernel_rfl
theorem ty_fl_98_3 : flB Try.prog 98 3 3 = true := by kernel_rfl
theorem ty_ze_98 : zeB Try.prog 98 ([.pointer none, .pointer none, .pointer none, .string ByteArray.empty]) := by unfold zeB; kernel_rfl
theorem ty_ar_99 : arB Try.prog 99 0 16 1 = true := by kernel_rfl
theorem ty_ag_99 : agB Try.prog 99 0 = true := by kernel_rfl
theorem ty_sc_102 : scB Try.prog 102 = true := by kernel_rfl
theorem ty_sc_103 : scB Try.prog 103 = true := by kernel_rfl
theorem ty_int_103 : Try.prog.underlying 103 = some (.int .u32) := by kernel_rfl
theorem ty_ze_103 : zeB Try.prog 103 ([.int .u32 0]) := by unfold zeB; kernel_rfl
theorem ty_sc_104 : scB Try.prog 104 = true := by kernel_rfl
theorem ty_int_104 : Try.prog.underlying 104 = some (.int .u8) := by kernel_rfl
theorem ty_ze_104 : zeB Try.prog 104 ([.int .u8 0]) := by unfold zeB; kernel_rfl
theorem ty_sc_105 : scB Try.prog 105 = true := by kernel_rfl
theorem ty_int_105 : Try.prog.underlying 105 = some (.int .u8) := by kernel_rfl
theorem ty_ze_105 : zeB Try.prog 105 ([.int .u8 0]) := by unfold zeB; kernel_rfl
theorem ty_sc_106 : scB Try.prog 106 = true := by kernel_rfl
theorem ty_sc_107 : scB Try.prog 107 = true := by kernel_rfl
theorem ty_ptr_107 : Try.prog.underlying 107 = some (.pointer 5) := by kernel_rfl
theorem ty_ze_107 : zeB Try.prog 107 ([.pointer none]) := by unfold zeB; kernel_rfl
theorem ty_sc_108 : scB Try.prog 108 = true := by kernel_rfl
theorem ty_int_108 : Try.prog.underlying 108 = some (.int .i32) := by kernel_rfl
theorem ty_ze_108 : zeB Try.prog 108 ([.int .i32 0]) := by unfold zeB; kernel_rfl
theorem ty_sc_109 : scB Try.prog 109 = true := by kernel_rfl
theorem ty_int_109 : Try.prog.underlying 109 = some (.int .i32) := by kernel_rfl
theorem ty_ze_109 : zeB Try.prog 109 ([.int .i32 0]) := by unfold zeB; kernel_rfl
theorem ty_ag_110 : agB Try.prog 110 11 = true := by kernel_rfl
theorem ty_pl_110 : plB Try.prog 110 [(0, 1), (1, 1), (2, 1), (3, 1), (4, 1), (5, 1), (6, 1), (7, 1), (8, 1), (9, 1), (10, 1)] = true := by kernel_rfl
theorem ty_fld_110_0 : fldB Try.prog 110 0 = some (0, 12) := by kernel_rfl
theorem ty_fl_110_0 : flB Try.prog 110 0 0 = true := by kernel_rfl
theorem ty_fld_110_1 : fldB Try.prog 110 1 = some (1, 12) := by kernel_rfl
theorem ty_fl_110_1 : flB Try.prog 110 1 1 = true := by kernel_rfl
theorem ty_fld_110_2 : fldB Try.prog 110 2 = some (2, 103) := by kernel_rfl
theorem ty_fl_110_2 : flB Try.prog 110 2 2 = true := by kernel_rfl
theorem ty_fld_110_3 : fldB Try.prog 110 3 = some (3, 104) := by kernel_rfl
theorem ty_fl_110_3 : flB Try.prog 110 3 3 = true := by kernel_rfl
theorem ty_fld_110_4 : fldB Try.prog 110 4 = some (4, 5) := by kernel_rfl
theorem ty_fl_110_4 : flB Try.prog 110 4 4 = true := by kernel_rfl
theorem ty_fld_110_5 : fldB Try.prog 110 5 = some (5, 5) := by kernel_rfl
theorem ty_fl_110_5 : flB Try.prog 110 5 5 = true := by kernel_rfl
theorem ty_fld_110_6 : fldB Try.prog 110 6 = some (6, 105) := by kernel_rfl
theorem ty_fl_110_6 : flB Try.prog 110 6 6 = true := by kernel_rfl
theorem ty_fld_110_7 : fldB Try.prog 110 7 = some (7, 106) := by kernel_rfl
theorem ty_fl_110_7 : flB Try.prog 110 7 7 = true := by kernel_rfl
theorem ty_fld_110_8 : fldB Try.prog 110 8 = some (8, 107) := by kernel_rfl
theorem ty_fl_110_8 : flB Try.prog 110 8 8 = true := by kernel_rfl
theorem ty_fld_110_9 : fldB Try.prog 110 9 = some (9, 108) := by kernel_rfl
theorem ty_fl_110_9 : flB Try.prog 110 9 9 = true := by kernel_rfl
theorem ty_fld_110_10 : fldB Try.prog 110 10 = some (10, 109) := by kernel_rfl
theorem ty_fl_110_10 : flB Try.prog 110 10 10 = true := by kernel_rfl
theorem ty_ze_110 : zeB Try.prog 110 ([.int .u64 0, .int .u64 0, .int .u32 0, .int .u8 0, .int .u8 0, .int .u8 0, .int .u8 0, .nilFunc, .pointer none, .int .i32 0, .int .i32 0]) := by unfold zeB; kernel_rfl
theorem ty_ag_111 : agB Try.prog 111 11 = true := by kernel_rfl
theorem ty_pl_111 : plB Try.prog 111 [(0, 1), (1, 1), (2, 1), (3, 1), (4, 1), (5, 1), (6, 1), (7, 1), (8, 1), (9, 1), (10, 1)] = true := by kernel_rfl
theorem ty_fld_111_0 : fldB Try.prog 111 0 = some (0, 12) := by kernel_rfl
theorem ty_fl_111_0 : flB Try.prog 111 0 0 = true := by kernel_rfl
theorem ty_fld_111_1 : fldB Try.prog 111 1 = some (1, 12) := by kernel_rfl
theorem ty_fl_111_1 : flB Try.prog 111 1 1 = true := by kernel_rfl
theorem ty_fld_111_2 : fldB Try.prog 111 2 = some (2, 103) := by kernel_rfl
theorem ty_fl_111_2 : flB Try.prog 111 2 2 = true := by kernel_rfl
theorem ty_fld_111_3 : fldB Try.prog 111 3 = some (3, 104) := by kernel_rfl
theorem ty_fl_111_3 : flB Try.prog 111 3 3 = true := by kernel_rfl
theorem ty_fld_111_4 : fldB Try.prog 111 4 = some (4, 5) := by kernel_rfl
theorem ty_fl_111_4 : flB Try.prog 111 4 4 = true := by kernel_rfl
theorem ty_fld_111_5 : fldB Try.prog 111 5 = some (5, 5) := by kernel_rfl
theorem ty_fl_111_5 : flB Try.prog 111 5 5 = true := by kernel_rfl
theorem ty_fld_111_6 : fldB Try.prog 111 6 = some (6, 105) := by kernel_rfl
theorem ty_fl_111_6 : flB Try.prog 111 6 6 = true := by kernel_rfl
theorem ty_fld_111_7 : fldB Try.prog 111 7 = some (7, 106) := by kernel_rfl
theorem ty_fl_111_7 : flB Try.prog 111 7 7 = true := by kernel_rfl
theorem ty_fld_111_8 : fldB Try.prog 111 8 = some (8, 107) := by kernel_rfl
theorem ty_fl_111_8 : flB Try.prog 111 8 8 = true := by kernel_rfl
theorem ty_fld_111_9 : fldB Try.prog 111 9 = some (9, 108) := by kernel_rfl
theorem ty_fl_111_9 : flB Try.prog 111 9 9 = true := by kernel_rfl
theorem ty_fld_111_10 : fldB Try.prog 111 10 = some (10, 109) := by kernel_rfl
theorem ty_fl_111_10 : flB Try.prog 111 10 10 = true := by kernel_rfl
theorem ty_ze_111 : zeB Try.prog 111 ([.int .u64 0, .int .u64 0, .int .u32 0, .int .u8 0, .int .u8 0, .int .u8 0, .int .u8 0, .nilFunc, .pointer none, .int .i32 0, .int .i32 0]) := by unfold zeB; kernel_rfl
theorem ty_ze_112 : zeB Try.prog 112 ([.pointer none]) := by unfold zeB; kernel_rfl
theorem fn_ca_2 : callable Try.prog 2 = true := by kernel_rfl
theorem fn_ca_3 : callable Try.prog 3 = true := by kernel_rfl
theorem fn_ca_4 : callable Try.prog 4 = true := by kernel_rfl
theorem fn_ca_5 : callable Try.prog 5 = true := by kernel_rfl
theorem fn_ca_6 : callable Try.prog 6 = true := by kernel_rfl
theorem fn_ca_7 : callable Try.prog 7 = true := by kernel_rfl
theorem fn_ca_8 : callable Try.prog 8 = true := by kernel_rfl
theorem fn_ca_9 : callable Try.prog 9 = true := by kernel_rfl
theorem fn_ca_10 : callable Try.prog 10 = true := by kernel_rfl
theorem fn_ca_11 : callable Try.prog 11 = true := by kernel_rfl
theorem fn_ca_12 : callable Try.prog 12 = true := by kernel_rfl
theorem fn_ca_13 : callable Try.prog 13 = true := by kernel_rfl
theorem fn_ca_14 : callable Try.prog 14 = true := by kernel_rfl
theorem fn_ca_15 : callable Try.prog 15 = true := by kernel_rfl
theorem fn_ca_16 : callable Try.prog 16 = true := by kernel_rfl
theorem fn_ca_17 : callable Try.prog 17 = true := by kernel_rfl
theorem fn_ca_18 : callable Try.prog 18 = true := by kernel_rfl
theorem fn_ca_19 : callable Try.prog 19 = true := by kernel_rfl
theorem fn_ca_20 : callable Try.prog 20 = true := by kernel_rfl
theorem fn_ca_21 : callable Try.prog 21 = true := by kernel_rfl
theorem fn_ca_22 : callable Try.prog 22 = true := by kernel_rfl
theorem fn_ca_23 : callable Try.prog 23 = true := by kernel_rfl
theorem fn_ca_24 : callable Try.prog 24 = true := by kernel_rfl
theorem fn_ca_25 : callable Try.prog 25 = true := by kernel_rfl
theorem fn_ca_26 : callable Try.prog 26 = true := by kernel_rfl
theorem fn_ca_27 : callable Try.prog 27 = true := by kernel_rfl
theorem fn_ca_28 : callable Try.prog 28 = true := by kernel_rfl
theorem fn_ca_29 : callable Try.prog 29 = true := by kernel_rfl
theorem fn_ca_30 : callable Try.prog 30 = true := by kernel_rfl
theorem fn_ca_31 : callable Try.prog 31 = true := by kernel_rfl
theorem fn_ca_32 : callable Try.prog 32 = true := by kernel_rfl
theorem fn_ca_33 : callable Try.prog 33 = true := by kernel_rfl
theorem fn_ca_34 : callable Try.prog 34 = true := by kernel_rfl
theorem fn_ca_35 : callable Try.prog 35 = true := by kernel_rfl
theorem fn_ca_36 : callable Try.prog 36 = true := by kernel_rfl
theorem fn_ca_37 : callable Try.prog 37 = true := by kernel_rfl
theorem fn_ca_38 : callable Try.prog 38 = true := by kernel_rfl
theorem fn_ca_39 : callable Try.prog 39 = true := by kernel_rfl
theorem fn_ca_40 : callable Try.prog 40 = true := by kernel_rfl
theorem fn_ca_41 : callable Try.prog 41 = true := by kernel_rfl
theorem fn_ca_42 : callable Try.prog 42 = true := by kernel_rfl
theorem fn_ca_43 : callable Try.prog 43 = true := by kernel_rfl
theorem fn_ca_44 : callable Try.prog 44 = true := by kernel_rfl
theorem fn_ca_45 : callable Try.prog 45 = true := by kernel_rfl
theorem fn_ca_46 : callable Try.prog 46 = true := by kernel_rfl
theorem fn_ca_47 : callable Try.prog 47 = true := by kernel_rfl
theorem fn_ca_48 : callable Try.prog 48 = true := by kernel_rfl
theorem fn_ca_49 : callable Try.prog 49 = true := by kernel_rfl
theorem fn_ca_50 : callable Try.prog 50 = true := by kernel_rfl
theorem fn_ca_51 : callable Try.prog 51 = true := by kernel_rfl
theorem fn_ca_52 : callable Try.prog 52 = true := by kernel_rfl
theorem fn_ca_53 : callable Try.prog 53 = true := by kernel_rfl
theorem fn_ca_54 : callable Try.prog 54 = true := by kernel_rfl
theorem fn_ca_55 : callable Try.prog 55 = true := by kernel_rfl
theorem fn_ca_56 : callable Try.prog 56 = true := by kernel_rfl
theorem fn_ca_57 : callable Try.prog 57 = true := by kernel_rfl
theorem fn_ca_58 : callable Try.prog 58 = true := by kernel_rfl
theorem fn_ca_59 : callable Try.prog 59 = true := by kernel_rfl
theorem fn_ca_60 : callable Try.prog 60 = true := by kernel_rfl
theorem fn_ca_61 : callable Try.prog 61 = true := by kernel_rfl
theorem fn_ca_62 : callable Try.prog 62 = true := by kernel_rfl
theorem fn_ca_63 : callable Try.prog 63 = true := by kernel_rfl
theorem fn_ca_64 : callable Try.prog 64 = true := by kernel_rfl
theorem fn_ca_65 : callable Try.prog 65 = true := by kernel_rfl
theorem fn_ca_68 : callable Try.prog 68 = true := by kernel_rfl
theorem fn_ca_69 : callable Try.prog 69 = true := by kernel_rfl
theorem fn_ca_70 : callable Try.prog 70 = true := by kernel_rfl
theorem fn_ca_71 : callable Try.prog 71 = true := by kernel_rfl
theorem fn_ca_72 : callable Try.prog 72 = true := by kernel_rfl
theorem fn_ca_73 : callable Try.prog 73 = true := by kernel_rfl
theorem mixed : Try.prog.follows .mixedOrders = true := by kernel_rfl
end Go.Proofs.Ytjhhpagcejgclaa
