/- A registry: Check. Printed by gen.py. -/
import Derived.Test.YtnaadddnbfnahaaDoorS4
set_option linter.unusedVariables false
set_option linter.unusedSimpArgs false
set_option maxRecDepth 100000
namespace Go.Proofs.YtnaadddnbfnahaaDoor
open Go Go.RowKit Go.Proofs
theorem check_ok {gl : Nat → Obj} (hG : Globs gl) (p : Nat) (sg : List (Int × Nat)) (rc : List Rcd) (a : Int) (base : Option Addr) (c : Nat) (xs : List Int) (sl : List Int) (hb : IsB xs) (hmax : xs.length ≤ 140737488355000) (hsl : sl.length = 16) : SpecR (cx gl) 19 [.pointer (some ⟨p, 0, none⟩), .int .u64 a, .slice base xs.length c, .agg (ints .u8 sl).toArray] (fun w h => Seen w h base (ints .u8 xs)) [REG p sg rc] (.bool (decide ((a, xs) ∈ rc) && decide (sl = sealH a xs))) [REG p sg rc] := by
  refine Spec.enterX (C := cx gl) Tryd.func19 rfl 40 rfl rfl fun w0 h0 hsep hsub hpre => ?_
  show St (cx gl) _ [(0, .pointer (some ⟨p, 0, none⟩)), (1, .int .u64 a), (2, .slice base xs.length c), (3, .agg (ints .u8 sl).toArray)] _ _
  refine St.openP (p := []) (fun ⟨m1, m2, m3, sd⟩ hreg => ?_)
  refine St.unbundle [] ?_
  refine R_seq ?_
  refine R_region ?_
  refine L_op rfl (W_box (ints .u8 sl) rfl rfl rfl rfl rfl fun b7 => ?_)
  refine L_val rfl rfl rfl (OpP.v (P_assign rfl rfl)) ?_
  refine L_nil ?_
  refine St.env (.cons (t := 0) rfl (.cons (t := 1) rfl (.cons (t := 2) rfl (.cons (t := 7) rfl (.cons (t := 8) rfl .nil))))) ?_
  refine Q_then ?_
  refine R_seq ?_
  refine R_seq ?_
  refine St.res (rs' := [blk p [.int .i32 0, .int .u32 0, .map (some m1), .map (some m2), .map (some m3)] 97, mapK kU64 m1 (sgM sg), mapK recK m2 (rcM rc), mapK kU64 m3 (sdM sd), fam (sgH p) sg, fam sdH sd, blk b7 (ints .u8 sl) 33]) (Weak.p1 (Weak.p1 (Weak.p1 (Weak.p1 (Weak.p1 (Weak.p1 (Weak.refl _))))))) ?_
  refine R_region ?_
  refine L_val rfl rfl rfl (OpP.v (P_move rfl rfl)) ?_
  refine L_op rfl (W_callR rfl rfl rfl rfl fn_ca_39 (missing_ok p (.int .i32 0) (.int .u32 0) (.map (some m2)) (.map (some m3)) (some m1)) (Split.one (p := [])) (fun _ _ _ _ _ _ _ => trivial) ?_)
  refine St.res (rs' := [blk p [.int .i32 0, .int .u32 0, .map (some m1), .map (some m2), .map (some m3)] 97, mapK kU64 m1 (sgM sg), mapK recK m2 (rcM rc), mapK kU64 m3 (sdM sd), fam (sgH p) sg, fam sdH sd, blk b7 (ints .u8 sl) 33]) (Weak.refl _) ?_
  refine E_false (t := 12) rfl (rfl) ?_
  refine L_nil ?_
  refine St.env (.cons (t := 0) rfl (.cons (t := 1) rfl (.cons (t := 2) rfl (.cons (t := 7) rfl (.cons (t := 8) rfl (.cons (t := 12) rfl .nil)))))) ?_
  refine Q_then ?_
  refine R_condF rfl ?_
  refine R_skip ?_
  refine Q_then ?_
  refine R_seq ?_
  refine R_region ?_
  refine L_val rfl rfl rfl (OpP.v (P_move rfl rfl)) ?_
  refine L_val rfl rfl rfl (OpP.v (P_nil rfl rfl)) ?_
  refine L_val rfl rfl rfl (OpP.v (P_fld0 rfl ty_fl_97_0 rfl)) ?_
  refine L_op rfl (W_callR rfl rfl rfl rfl fn_ca_40 (lock_ok p 97 [.int .u32 0, .map (some m1), .map (some m2), .map (some m3)]) (Split.one (p := [])) (fun _ _ _ _ _ _ _ => trivial) ?_)
  refine St.res (rs' := [blk p [.int .i32 1, .int .u32 0, .map (some m1), .map (some m2), .map (some m3)] 97, mapK kU64 m1 (sgM sg), mapK recK m2 (rcM rc), mapK kU64 m3 (sdM sd), fam (sgH p) sg, fam sdH sd, blk b7 (ints .u8 sl) 33]) (Weak.refl _) ?_
  refine L_nil ?_
  refine St.env (.cons (t := 0) rfl (.cons (t := 1) rfl (.cons (t := 2) rfl (.cons (t := 7) rfl (.cons (t := 8) rfl .nil))))) ?_
  refine Q_then ?_
  refine R_seq ?_
  refine R_region ?_
  refine L_val rfl rfl rfl (OpP.v (P_move rfl rfl)) ?_
  refine L_val rfl rfl rfl (OpP.v (P_nil rfl rfl)) ?_
  refine L_val rfl rfl rfl (OpP.v (P_fld0 rfl ty_fl_97_0 rfl)) ?_
  refine L_op rfl (W_defer rfl rfl rfl ?_)
  refine L_nil ?_
  refine St.env (.cons (t := 0) rfl (.cons (t := 1) rfl (.cons (t := 2) rfl (.cons (t := 7) rfl (.cons (t := 8) rfl .nil))))) ?_
  refine Q_then ?_
  refine R_seq ?_
  refine R_open [(0, 0), (1, 0), (2, 0), (3, 1), (4, 0), (5, 0), (6, 1), (7, 0), (8, 1), (9, 0), (10, 0), (11, 0), (12, 2), (13, 3), (14, 0)] mixed (by kernel_rfl) (QOk.then QOk.bodyX) ?_
  refine O_pure rfl rfl rfl rfl (P_move rfl rfl) ?_
  refine O_pure rfl rfl rfl rfl (P_nil rfl rfl) ?_
  refine O_pure rfl rfl rfl rfl (P_fld0 rfl ty_fl_97_2 rfl) ?_
  refine O_val rfl rfl rfl rfl (V_load rfl rfl ty_sc_94 (by first | exact Rd.blk .h0 rfl | exact Rd.blk .h1 rfl | exact Rd.blk .h2 rfl | exact Rd.blk .h3 rfl | exact Rd.blk .h4 rfl | exact Rd.blk .h5 rfl | exact Rd.blk .h6 rfl | exact Rd.blk .h7 rfl)) ?_
  refine O_pure rfl rfl rfl rfl (P_move rfl rfl) ?_
  refine O_pure rfl rfl rfl rfl (P_move rfl rfl) ?_
  refine O_val rfl rfl rfl rfl (V_str rfl (slB_spec ty_sl_24).1 ty_int_5 ty_str_9 rfl ((Sn.old hpre).rw_)) ?_
  refine O_pure rfl rfl rfl rfl (P_buildStruct rfl ty_pl_102 ty_ze_102 rfl rfl (rfl)) ?_
  refine O_val rfl rfl rfl rfl (V_lookupK (k := (a, xs)) rfl ty_map_94 (keyRec rec_102) rfl rfl (hb) (rcM_ok hreg.1) .h2 (run_zeroValue_of ty_zv_86)) ?_
  refine E_as (t := 29) (v' := .tuple #[.agg #[], .bool (decide ((a, xs) ∈ rc))]) rfl (look_rc rc (a, xs)) ?_
  refine O_pure rfl rfl rfl rfl (P_move rfl rfl) ?_
  refine O_pure rfl rfl rfl rfl (P_extract rfl rfl rfl) ?_
  refine O_pure rfl rfl rfl rfl (P_extract rfl rfl rfl) ?_
  refine O_keep rfl rfl (W_alloc rfl rfl rfl ty_ze_86 fun b9 => (K_keep (Weak.drop (Weak.refl _)) ?_))
  refine O_new rfl rfl (W_storeAll rfl rfl rfl rfl ty_ag_86 (rfl) (fun _ h => by cases h) .h0 (rfl) (K_new ?_))
  refine O_pure rfl rfl rfl rfl (P_assign rfl rfl) ?_
  refine O_nil ?_
  refine St.env (.cons (t := 1) rfl (.cons (t := 2) rfl (.cons (t := 7) rfl (.cons (t := 8) rfl (.cons (t := 10) rfl .nil))))) ?_
  refine Q_then ?_
  refine R_seq ?_
  refine St.res (rs' := [blk p [.int .i32 1, .int .u32 0, .map (some m1), .map (some m2), .map (some m3)] 97, mapK kU64 m1 (sgM sg), mapK recK m2 (rcM rc), mapK kU64 m3 (sdM sd), fam (sgH p) sg, fam sdH sd, blk b7 (ints .u8 sl) 33]) (Weak.drop (Weak.refl _)) ?_
  refine R_open [(0, 0), (1, 0), (2, 1), (3, 0), (4, 0), (5, 2), (6, 0), (7, 0), (8, 0)] mixed (by kernel_rfl) (QOk.then QOk.bodyX) ?_
  refine O_pure rfl rfl rfl rfl (P_move rfl rfl) ?_
  refine O_pure rfl rfl rfl rfl (P_move rfl rfl) ?_
  refine E_bool (t := 33) rfl (fun hok => ?_) (fun hok => ?_)
  · skip
    refine O_val rfl rfl rfl rfl (V_loadAgg rfl rfl ty_ag_33 (Rds.blk .h6) (by rw [ints_length, hsl])) ?_
    refine O_pure rfl rfl rfl rfl (P_move rfl rfl) ?_
    refine O_pure rfl rfl rfl rfl (P_move rfl rfl) ?_
    refine O_keep rfl rfl (W_callV rfl rfl rfl rfl fn_ca_42 (seal_ok hG a base c xs hmax) ((Sn.old hpre).rw_) (K_keep (Weak.refl _) ?_))
    refine O_pure rfl rfl rfl rfl (P_eqArr rfl rfl rfl ty_un_33 ty_int_5 ty_sc_5 ty_eg_33 (hsl) (sealH_length _ _)) ?_
    refine O_pure rfl rfl rfl rfl (P_pick rfl rfl rfl) ?_
    refine O_pure rfl rfl rfl rfl (P_assign rfl rfl) ?_
    refine O_nil ?_
    refine St.env (.cons (t := 8) rfl .nil) ?_
    refine Q_then ?_
    refine R_ret ?_
    exact R_endX (rs2 := [REG p (sg) (rc)]) rfl fn_ca_41 (unlockD_ok p 97 [.int .u32 0, .map (some m1), .map (some m2), .map (some m3)]) (Split.one (p := [])) (fun _ _ _ _ _ _ _ => trivial) rfl (.tmp rfl .nil) (⟨by show Value.bool _ = Value.bool _; rw [hok]; rfl, rfl⟩) ((reg_close (rs := [blk b7 (ints .u8 sl) 33]) hreg).trans (Weak.keep (Weak.nil _)))
  · skip
    refine O_noX rfl rfl rfl rfl ?_
    refine O_no rfl rfl rfl rfl ?_
    refine O_no rfl rfl rfl rfl ?_
    refine O_no2 rfl rfl rfl rfl ?_
    refine O_no rfl rfl rfl rfl ?_
    refine O_pure rfl rfl rfl rfl (P_pick rfl rfl rfl) ?_
    refine O_pure rfl rfl rfl rfl (P_assign rfl rfl) ?_
    refine O_nil ?_
    refine St.env (.cons (t := 8) rfl .nil) ?_
    refine Q_then ?_
    refine R_ret ?_
    exact R_endX (rs2 := [REG p (sg) (rc)]) rfl fn_ca_41 (unlockD_ok p 97 [.int .u32 0, .map (some m1), .map (some m2), .map (some m3)]) (Split.one (p := [])) (fun _ _ _ _ _ _ _ => trivial) rfl (.tmp rfl .nil) (⟨by show Value.bool _ = Value.bool _; rw [hok]; rfl, rfl⟩) ((reg_close (rs := [blk b7 (ints .u8 sl) 33]) hreg).trans (Weak.keep (Weak.nil _)))
end Go.Proofs.YtnaadddnbfnahaaDoor
