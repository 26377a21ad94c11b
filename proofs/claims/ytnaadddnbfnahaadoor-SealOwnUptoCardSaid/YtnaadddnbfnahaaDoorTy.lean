/- Facts on the types and the functions of this seat's translation, each a closed reckoning: printed by gen.py. -/
import Derived.Test.YtnaadddnbfnahaaDoorProg
import Derived.Test.YtnaadddnbfnahaaDoorEngF
set_option linter.unusedVariables false
namespace Go.Proofs.YtnaadddnbfnahaaDoor
open Go Go.Proofs
set_option maxRecDepth 100000
/-- The program, with what its package-level variables held when the call began. -/
noncomputable abbrev cx (gl : Nat → Obj) : Cx := ⟨Tryd.prog, 3, gl⟩
theorem ty_sc_3 : scB Tryd.prog 3 = true := by kernel_rfl
theorem ty_int_3 : Tryd.prog.underlying 3 = some (.int .i64) := by kernel_rfl
theorem ty_sc_4 : scB Tryd.prog 4 = true := by kernel_rfl
theorem ty_bool_4 : Tryd.prog.underlying 4 = some .bool := by kernel_rfl
theorem ty_sc_5 : scB Tryd.prog 5 = true := by kernel_rfl
theorem ty_int_5 : Tryd.prog.underlying 5 = some (.int .u8) := by kernel_rfl
theorem ty_ze_5 : zeB Tryd.prog 5 ([.int .u8 0]) := by unfold zeB; kernel_rfl
theorem ty_sc_9 : scB Tryd.prog 9 = true := by kernel_rfl
theorem ty_str_9 : Tryd.prog.underlying 9 = some .string := by kernel_rfl
theorem ty_sc_21 : scB Tryd.prog 21 = true := by kernel_rfl
theorem ty_sc_22 : scB Tryd.prog 22 = true := by kernel_rfl
theorem ty_int_22 : Tryd.prog.underlying 22 = some (.int .u64) := by kernel_rfl
theorem ty_sc_23 : scB Tryd.prog 23 = true := by kernel_rfl
theorem ty_int_23 : Tryd.prog.underlying 23 = some (.int .u64) := by kernel_rfl
theorem ty_sc_24 : scB Tryd.prog 24 = true := by kernel_rfl
theorem ty_sl_24 : slB Tryd.prog 24 5 1 1 = true := by kernel_rfl
theorem ty_ap_24 : apB Tryd.prog 5 1 = true := by kernel_rfl
theorem ty_src_24 : srcB Tryd.prog 24 = true := by kernel_rfl
theorem ty_lz_24 : ((Tryd.prog.info? 5).bind (·.zero)).map (·.cells.size) = some 1 := by kernel_rfl
theorem ty_sc_25 : scB Tryd.prog 25 = true := by kernel_rfl
theorem ty_ptr_25 : Tryd.prog.underlying 25 = some (.pointer 97) := by kernel_rfl
theorem ty_sc_27 : scB Tryd.prog 27 = true := by kernel_rfl
theorem ty_ptr_27 : Tryd.prog.underlying 27 = some (.pointer 100) := by kernel_rfl
theorem ty_ar_33 : arB Tryd.prog 33 16 5 1 = true := by kernel_rfl
theorem ty_ag_33 : agB Tryd.prog 33 16 = true := by kernel_rfl
theorem ty_un_33 : Tryd.prog.underlying 33 = some (.array 16 5) := by kernel_rfl
theorem ty_eg_33 : Tryd.prog.eqGuardType Tryd.prog.depth 33 = false := by kernel_rfl
theorem ty_ze_33 : zeB Tryd.prog 33 (List.replicate 16 (.int .u8 0)) := by unfold zeB; kernel_rfl
theorem ty_sl_39 : slB Tryd.prog 39 72 23 88 = true := by kernel_rfl
theorem ty_sc_52 : scB Tryd.prog 52 = true := by kernel_rfl
theorem ty_sl_52 : slB Tryd.prog 52 23 1 8 = true := by kernel_rfl
theorem ty_ap_52 : apB Tryd.prog 23 1 = true := by kernel_rfl
theorem ty_src_52 : srcB Tryd.prog 52 = true := by kernel_rfl
theorem ty_lz_52 : ((Tryd.prog.info? 23).bind (·.zero)).map (·.cells.size) = some 1 := by kernel_rfl
theorem ty_ar_53 : arB Tryd.prog 53 2 25 1 = true := by kernel_rfl
theorem ty_sc_54 : scB Tryd.prog 54 = true := by kernel_rfl
theorem ty_sl_54 : slB Tryd.prog 54 27 1 8 = true := by kernel_rfl
theorem ty_ap_54 : apB Tryd.prog 27 1 = true := by kernel_rfl
theorem ty_src_54 : srcB Tryd.prog 54 = true := by kernel_rfl
theorem ty_lz_54 : ((Tryd.prog.info? 27).bind (·.zero)).map (·.cells.size) = some 1 := by kernel_rfl
theorem ty_ar_55 : arB Tryd.prog 55 2 54 1 = true := by kernel_rfl
theorem ty_sc_60 : scB Tryd.prog 60 = true := by kernel_rfl
theorem ty_sl_60 : slB Tryd.prog 60 24 1 24 = true := by kernel_rfl
theorem ty_ap_60 : apB Tryd.prog 24 1 = true := by kernel_rfl
theorem ty_src_60 : srcB Tryd.prog 60 = true := by kernel_rfl
theorem ty_lz_60 : ((Tryd.prog.info? 24).bind (·.zero)).map (·.cells.size) = some 1 := by kernel_rfl
theorem ty_ag_72 : agB Tryd.prog 72 23 = true := by kernel_rfl
theorem ty_fl_72_0 : flB Tryd.prog 72 0 0 = true := by kernel_rfl
theorem ty_fl_72_1 : flB Tryd.prog 72 1 1 = true := by kernel_rfl
theorem ty_fl_72_2 : flB Tryd.prog 72 2 2 = true := by kernel_rfl
theorem ty_fl_72_3 : flB Tryd.prog 72 3 3 = true := by kernel_rfl
theorem ty_fl_72_4 : flB Tryd.prog 72 4 4 = true := by kernel_rfl
theorem ty_fl_72_5 : flB Tryd.prog 72 5 5 = true := by kernel_rfl
theorem ty_fl_72_6 : flB Tryd.prog 72 6 21 = true := by kernel_rfl
theorem ty_fl_72_7 : flB Tryd.prog 72 7 22 = true := by kernel_rfl
theorem ty_sc_73 : scB Tryd.prog 73 = true := by kernel_rfl
theorem ty_ptr_73 : Tryd.prog.underlying 73 = some (.pointer 118) := by kernel_rfl
theorem ty_ar_74 : arB Tryd.prog 74 2 73 1 = true := by kernel_rfl
theorem ty_sc_75 : scB Tryd.prog 75 = true := by kernel_rfl
theorem ty_sl_75 : slB Tryd.prog 75 114 1 8 = true := by kernel_rfl
theorem ty_ap_75 : apB Tryd.prog 114 1 = true := by kernel_rfl
theorem ty_src_75 : srcB Tryd.prog 75 = true := by kernel_rfl
theorem ty_lz_75 : ((Tryd.prog.info? 114).bind (·.zero)).map (·.cells.size) = some 1 := by kernel_rfl
theorem ty_ar_76 : arB Tryd.prog 76 2 75 1 = true := by kernel_rfl
theorem ty_sc_77 : scB Tryd.prog 77 = true := by kernel_rfl
theorem ty_sl_77 : slB Tryd.prog 77 33 16 16 = true := by kernel_rfl
theorem ty_ap_77 : apB Tryd.prog 33 16 = true := by kernel_rfl
theorem ty_src_77 : srcB Tryd.prog 77 = true := by kernel_rfl
theorem ty_lz_77 : ((Tryd.prog.info? 33).bind (·.zero)).map (·.cells.size) = some 16 := by kernel_rfl
theorem ty_pl_79 : plB Tryd.prog 79 [(0, 2), (2, 2), (4, 2), (6, 2), (8, 1)] = true := by kernel_rfl
theorem ty_fl_79_0 : flB Tryd.prog 79 0 0 = true := by kernel_rfl
theorem ty_fl_79_1 : flB Tryd.prog 79 1 2 = true := by kernel_rfl
theorem ty_fl_79_2 : flB Tryd.prog 79 2 4 = true := by kernel_rfl
theorem ty_fl_79_3 : flB Tryd.prog 79 3 6 = true := by kernel_rfl
theorem ty_fl_79_4 : flB Tryd.prog 79 4 8 = true := by kernel_rfl
theorem ty_ze_79 : zeB Tryd.prog 79 ([.pointer none, .pointer none, .pointer none, .pointer none] ++ List.replicate 5 (.slice none 0 0)) := by unfold zeB; kernel_rfl
theorem ty_sc_81 : scB Tryd.prog 81 = true := by kernel_rfl
theorem ty_sl_81 : slB Tryd.prog 81 60 1 24 = true := by kernel_rfl
theorem ty_ap_81 : apB Tryd.prog 60 1 = true := by kernel_rfl
theorem ty_src_81 : srcB Tryd.prog 81 = true := by kernel_rfl
theorem ty_lz_81 : ((Tryd.prog.info? 60).bind (·.zero)).map (·.cells.size) = some 1 := by kernel_rfl
theorem ty_pl_83 : plB Tryd.prog 83 [(0, 1), (1, 1), (2, 1), (3, 1), (4, 1), (5, 1)] = true := by kernel_rfl
theorem ty_fl_83_0 : flB Tryd.prog 83 0 0 = true := by kernel_rfl
theorem ty_fl_83_1 : flB Tryd.prog 83 1 1 = true := by kernel_rfl
theorem ty_fl_83_2 : flB Tryd.prog 83 2 2 = true := by kernel_rfl
theorem ty_fl_83_3 : flB Tryd.prog 83 3 3 = true := by kernel_rfl
theorem ty_fl_83_4 : flB Tryd.prog 83 4 4 = true := by kernel_rfl
theorem ty_fl_83_5 : flB Tryd.prog 83 5 5 = true := by kernel_rfl
theorem ty_ze_83 : zeB Tryd.prog 83 ([.slice none 0 0, .slice none 0 0, .slice none 0 0, .slice none 0 0, .int .i64 0, .int .i64 0]) := by unfold zeB; kernel_rfl
theorem ty_ag_86 : agB Tryd.prog 86 0 = true := by kernel_rfl
theorem ty_pl_86 : plB Tryd.prog 86 [] = true := by kernel_rfl
theorem ty_ze_86 : zeB Tryd.prog 86 ([]) := by unfold zeB; kernel_rfl
theorem ty_sc_88 : scB Tryd.prog 88 = true := by kernel_rfl
theorem ty_int_88 : Tryd.prog.underlying 88 = some (.int .u32) := by kernel_rfl
theorem ty_fl_90_0 : flB Tryd.prog 90 0 0 = true := by kernel_rfl
theorem ty_fl_92_1 : flB Tryd.prog 92 1 0 = true := by kernel_rfl
theorem ty_sc_93 : scB Tryd.prog 93 = true := by kernel_rfl
theorem ty_map_93 : Tryd.prog.underlying 93 = some (.map 23 27) := by kernel_rfl
theorem ty_sc_94 : scB Tryd.prog 94 = true := by kernel_rfl
theorem ty_map_94 : Tryd.prog.underlying 94 = some (.map 102 86) := by kernel_rfl
theorem ty_sc_95 : scB Tryd.prog 95 = true := by kernel_rfl
theorem ty_map_95 : Tryd.prog.underlying 95 = some (.map 23 104) := by kernel_rfl
theorem ty_pl_97 : plB Tryd.prog 97 [(0, 2), (2, 1), (3, 1), (4, 1)] = true := by kernel_rfl
theorem ty_fl_97_0 : flB Tryd.prog 97 0 0 = true := by kernel_rfl
theorem ty_fl_97_1 : flB Tryd.prog 97 1 2 = true := by kernel_rfl
theorem ty_fl_97_2 : flB Tryd.prog 97 2 3 = true := by kernel_rfl
theorem ty_fl_97_3 : flB Tryd.prog 97 3 4 = true := by kernel_rfl
theorem ty_ze_97 : zeB Tryd.prog 97 ([.int .i32 0, .int .u32 0, .map none, .map none, .map none]) := by unfold zeB; kernel_rfl
theorem ty_pl_100 : plB Tryd.prog 100 [(0, 1), (1, 1)] = true := by kernel_rfl
theorem ty_fl_100_0 : flB Tryd.prog 100 0 0 = true := by kernel_rfl
theorem ty_fl_100_1 : flB Tryd.prog 100 1 1 = true := by kernel_rfl
theorem ty_ze_100 : zeB Tryd.prog 100 ([.pointer none, .int .u64 0]) := by unfold zeB; kernel_rfl
theorem ty_ag_102 : agB Tryd.prog 102 2 = true := by kernel_rfl
theorem ty_pl_102 : plB Tryd.prog 102 [(0, 1), (1, 1)] = true := by kernel_rfl
theorem ty_fl_102_1 : flB Tryd.prog 102 1 1 = true := by kernel_rfl
theorem ty_ze_102 : zeB Tryd.prog 102 ([.int .u64 0, .string ByteArray.empty]) := by unfold zeB; kernel_rfl
theorem ty_sl_104 : slB Tryd.prog 104 9 1 16 = true := by kernel_rfl
theorem ty_ap_104 : apB Tryd.prog 9 1 = true := by kernel_rfl
theorem ty_src_104 : srcB Tryd.prog 104 = true := by kernel_rfl
theorem ty_lz_104 : ((Tryd.prog.info? 9).bind (·.zero)).map (·.cells.size) = some 1 := by kernel_rfl
theorem ty_int_105 : Tryd.prog.underlying 105 = some (.int .u64) := by kernel_rfl
theorem ty_ar_107 : arB Tryd.prog 107 32 5 1 = true := by kernel_rfl
theorem ty_ag_107 : agB Tryd.prog 107 32 = true := by kernel_rfl
theorem ty_ze_107 : zeB Tryd.prog 107 (List.replicate 32 (.int .u8 0)) := by unfold zeB; kernel_rfl
theorem ty_sc_114 : scB Tryd.prog 114 = true := by kernel_rfl
theorem ty_ptr_114 : Tryd.prog.underlying 114 = some (.pointer 135) := by kernel_rfl
theorem ty_sc_116 : scB Tryd.prog 116 = true := by kernel_rfl
theorem ty_sl_116 : slB Tryd.prog 116 133 2 24 = true := by kernel_rfl
theorem ty_ap_116 : apB Tryd.prog 133 2 = true := by kernel_rfl
theorem ty_src_116 : srcB Tryd.prog 116 = true := by kernel_rfl
theorem ty_lz_116 : ((Tryd.prog.info? 133).bind (·.zero)).map (·.cells.size) = some 2 := by kernel_rfl
theorem ty_pl_118 : plB Tryd.prog 118 [(0, 1), (1, 1), (2, 1)] = true := by kernel_rfl
theorem ty_fl_118_0 : flB Tryd.prog 118 0 0 = true := by kernel_rfl
theorem ty_fl_118_1 : flB Tryd.prog 118 1 1 = true := by kernel_rfl
theorem ty_fl_118_2 : flB Tryd.prog 118 2 2 = true := by kernel_rfl
theorem ty_ze_118 : zeB Tryd.prog 118 ([.bool false, .slice none 0 0, .slice none 0 0]) := by unfold zeB; kernel_rfl
theorem ty_ar_121 : arB Tryd.prog 121 8 88 1 = true := by kernel_rfl
theorem ty_ag_121 : agB Tryd.prog 121 8 = true := by kernel_rfl
theorem ty_un_121 : Tryd.prog.underlying 121 = some (.array 8 88) := by kernel_rfl
theorem ty_ze_121 : zeB Tryd.prog 121 (List.replicate 8 (.int .u32 0)) := by unfold zeB; kernel_rfl
theorem ty_pl_133 : plB Tryd.prog 133 [(0, 1), (1, 1)] = true := by kernel_rfl
theorem ty_fl_133_0 : flB Tryd.prog 133 0 0 = true := by kernel_rfl
theorem ty_fl_133_1 : flB Tryd.prog 133 1 1 = true := by kernel_rfl
theorem ty_ze_133 : zeB Tryd.prog 133 ([.int .u64 0, .string ByteArray.empty]) := by unfold zeB; kernel_rfl
theorem ty_pl_135 : plB Tryd.prog 135 [(0, 1), (1, 1)] = true := by kernel_rfl
theorem ty_fl_135_0 : flB Tryd.prog 135 0 0 = true := by kernel_rfl
theorem ty_fl_135_1 : flB Tryd.prog 135 1 1 = true := by kernel_rfl
theorem ty_ze_135 : zeB Tryd.prog 135 ([.pointer none, .int .u64 0]) := by unfold zeB; kernel_rfl
theorem ty_ptr_136 : Tryd.prog.underlying 136 = some (.pointer 90) := by kernel_rfl
theorem ty_ar_144 : arB Tryd.prog 144 64 88 1 = true := by kernel_rfl
theorem ty_un_144 : Tryd.prog.underlying 144 = some (.array 64 88) := by kernel_rfl
theorem ty_ze_144 : zeB Tryd.prog 144 (List.replicate 64 (.int .u32 0)) := by unfold zeB; kernel_rfl
theorem ty_ptr_152 : Tryd.prog.underlying 152 = some (.pointer 158) := by kernel_rfl
theorem ty_ar_155 : arB Tryd.prog 155 8 88 1 = true := by kernel_rfl
theorem ty_ag_155 : agB Tryd.prog 155 8 = true := by kernel_rfl
theorem ty_ze_155 : zeB Tryd.prog 155 (List.replicate 8 (.int .u32 0)) := by unfold zeB; kernel_rfl
theorem ty_ar_156 : arB Tryd.prog 156 64 5 1 = true := by kernel_rfl
theorem ty_ag_156 : agB Tryd.prog 156 64 = true := by kernel_rfl
theorem ty_ag_158 : agB Tryd.prog 158 75 = true := by kernel_rfl
theorem ty_pl_158 : plB Tryd.prog 158 [(0, 1), (1, 8), (9, 64), (73, 1), (74, 1)] = true := by kernel_rfl
theorem ty_fl_158_0 : flB Tryd.prog 158 0 0 = true := by kernel_rfl
theorem ty_fl_158_1 : flB Tryd.prog 158 1 1 = true := by kernel_rfl
theorem ty_fl_158_2 : flB Tryd.prog 158 2 9 = true := by kernel_rfl
theorem ty_fl_158_3 : flB Tryd.prog 158 3 73 = true := by kernel_rfl
theorem ty_fl_158_4 : flB Tryd.prog 158 4 74 = true := by kernel_rfl
theorem ty_ze_158 : zeB Tryd.prog 158 ([.bool false] ++ List.replicate 8 (.int .u32 0) ++ List.replicate 64 (.int .u8 0) ++ [.int .i64 0, .int .u64 0]) := by unfold zeB; kernel_rfl
theorem ty_ar_160 : arB Tryd.prog 160 8 5 1 = true := by kernel_rfl
theorem ty_ze_160 : zeB Tryd.prog 160 (List.replicate 8 (.int .u8 0)) := by unfold zeB; kernel_rfl
theorem ty_zv_27 : (Tryd.prog.info? 27).bind (·.zero) = some (.pointer none) := by kernel_rfl
theorem ty_zv_86 : (Tryd.prog.info? 86).bind (·.zero) = some (.agg #[]) := by kernel_rfl
theorem ty_zv_104 : (Tryd.prog.info? 104).bind (·.zero) = some (.slice none 0 0) := by kernel_rfl
theorem fn_ca_15 : callable Tryd.prog 15 = true := by kernel_rfl
theorem fn_ca_16 : callable Tryd.prog 16 = true := by kernel_rfl
theorem fn_ca_17 : callable Tryd.prog 17 = true := by kernel_rfl
theorem fn_ca_18 : callable Tryd.prog 18 = true := by kernel_rfl
theorem fn_ca_19 : callable Tryd.prog 19 = true := by kernel_rfl
theorem fn_ca_20 : callable Tryd.prog 20 = true := by kernel_rfl
theorem fn_ca_23 : callable Tryd.prog 23 = true := by kernel_rfl
theorem fn_ca_24 : callable Tryd.prog 24 = true := by kernel_rfl
theorem fn_ca_25 : callable Tryd.prog 25 = true := by kernel_rfl
theorem fn_ca_26 : callable Tryd.prog 26 = true := by kernel_rfl
theorem fn_ca_27 : callable Tryd.prog 27 = true := by kernel_rfl
theorem fn_ca_28 : callable Tryd.prog 28 = true := by kernel_rfl
theorem fn_ca_30 : callable Tryd.prog 30 = true := by kernel_rfl
theorem fn_ca_31 : callable Tryd.prog 31 = true := by kernel_rfl
theorem fn_ca_32 : callable Tryd.prog 32 = true := by kernel_rfl
theorem fn_ca_33 : callable Tryd.prog 33 = true := by kernel_rfl
theorem fn_ca_34 : callable Tryd.prog 34 = true := by kernel_rfl
theorem fn_ca_35 : callable Tryd.prog 35 = true := by kernel_rfl
theorem fn_ca_36 : callable Tryd.prog 36 = true := by kernel_rfl
theorem fn_ca_39 : callable Tryd.prog 39 = true := by kernel_rfl
theorem fn_ca_40 : callable Tryd.prog 40 = true := by kernel_rfl
theorem fn_ca_41 : callable Tryd.prog 41 = true := by kernel_rfl
theorem fn_ca_42 : callable Tryd.prog 42 = true := by kernel_rfl
theorem fn_ca_43 : callable Tryd.prog 43 = true := by kernel_rfl
theorem fn_ca_47 : callable Tryd.prog 47 = true := by kernel_rfl
theorem fn_ca_48 : callable Tryd.prog 48 = true := by kernel_rfl
theorem fn_ca_49 : callable Tryd.prog 49 = true := by kernel_rfl
theorem fn_ca_50 : callable Tryd.prog 50 = true := by kernel_rfl
theorem fn_ca_51 : callable Tryd.prog 51 = true := by kernel_rfl
theorem fn_ca_52 : callable Tryd.prog 52 = true := by kernel_rfl
theorem fn_ca_53 : callable Tryd.prog 53 = true := by kernel_rfl
theorem fn_ca_54 : callable Tryd.prog 54 = true := by kernel_rfl
theorem fn_ca_55 : callable Tryd.prog 55 = true := by kernel_rfl
theorem fn_ca_56 : callable Tryd.prog 56 = true := by kernel_rfl
theorem fn_ca_57 : callable Tryd.prog 57 = true := by kernel_rfl
theorem fn_ca_58 : callable Tryd.prog 58 = true := by kernel_rfl
theorem fn_ca_59 : callable Tryd.prog 59 = true := by kernel_rfl
theorem fn_ca_62 : callable Tryd.prog 62 = true := by kernel_rfl
theorem fn_ca_63 : callable Tryd.prog 63 = true := by kernel_rfl
theorem fn_ca_64 : callable Tryd.prog 64 = true := by kernel_rfl
theorem fn_ca_65 : callable Tryd.prog 65 = true := by kernel_rfl
theorem fn_ca_66 : callable Tryd.prog 66 = true := by kernel_rfl
theorem fn_ca_67 : callable Tryd.prog 67 = true := by kernel_rfl
theorem fn_ca_68 : callable Tryd.prog 68 = true := by kernel_rfl
theorem fn_ca_69 : callable Tryd.prog 69 = true := by kernel_rfl
theorem fn_ca_78 : callable Tryd.prog 78 = true := by kernel_rfl
theorem fn_ca_79 : callable Tryd.prog 79 = true := by kernel_rfl
theorem fn_ca_80 : callable Tryd.prog 80 = true := by kernel_rfl
theorem fn_ca_88 : callable Tryd.prog 88 = true := by kernel_rfl
theorem fn_ca_89 : callable Tryd.prog 89 = true := by kernel_rfl
theorem fn_ca_90 : callable Tryd.prog 90 = true := by kernel_rfl
theorem fn_ca_91 : callable Tryd.prog 91 = true := by kernel_rfl
theorem fn_ca_92 : callable Tryd.prog 92 = true := by kernel_rfl
theorem fn_ca_93 : callable Tryd.prog 93 = true := by kernel_rfl
theorem mixed : Tryd.prog.follows .mixedOrders = true := by kernel_rfl
end Go.Proofs.YtnaadddnbfnahaaDoor
