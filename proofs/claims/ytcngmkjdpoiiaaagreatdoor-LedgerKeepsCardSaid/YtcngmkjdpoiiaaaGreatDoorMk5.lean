/- Texts that ledgerKeeps_holds leans on, part 5: each says at its head what it holds; no condition beyond its theorems' own. -/
import Derived.Test.YtcngmkjdpoiiaaaGreatDoorMk4
set_option linter.unusedVariables false
set_option linter.unusedSimpArgs false
set_option linter.unusedSectionVars false
/- The document's registry: Enter, Sign, Check, Signed. Printed by gen.py. -/
set_option maxRecDepth 100000
namespace Go.Proofs.YtcngmkjdpoiiaaaGreatDoor
open Go Go.RowKit Go.Proofs
theorem renter_new {gl : Nat → Obj} (q : Nat) (tg : List (Int × Nat)) (rc : List Rcd) (a : Int) (ha : a ≠ 0) (hin : a ∉ enOf tg) (hmax : tg.length ≤ 4398046511104) : Spec (cx gl) 150 [.pointer (some ⟨q, 0, none⟩), .int .u64 a] (fun _ _ => True) [REF q tg rc] (fun v rs => ∃ s, v = .tuple #[.pointer (some ⟨s, 0, none⟩), .int .i64 0] ∧ rs = [REF q (tg ++ [(a, s)]) rc]) := by
 refine Spec.enter (C := cx gl) Tryz.func150 rfl 28 rfl rfl fun w0 h0 hsep hsub hpre => ?_
 show St (cx gl) _ [(0, .pointer (some ⟨q, 0, none⟩)), (1, .int .u64 a)] _ _
 refine St.openP (p := []) (fun ⟨ve, vr⟩ hok => ?_)
 refine St.unbundle [] ?_
 refine St.ownForm (p := [_]) fun eb ec heb hec => ?_
 dsimp only at heb; subst heb
 refine St.ownForm (p := [_, _]) fun rb rcap hrb hrc_ => ?_
 dsimp only at hrb; subst hrb
 refine St.res (rs' := [blk q [.bool true, .slice eb tg.length ec, .slice rb rc.length rcap] 300, ownS 26 1 (.slice eb tg.length ec) (tg).length (ints .u64 (enOf (tg))), ownS 315 2 (.slice rb rc.length rcap) (rc).length (recC (rc)), fam (tgH q) (tg)]) (Weak.refl _) (rT (lA (k:=lA (k:=?_))))
 refine L_nil (qT (rS (rT (lM (k:=?_)))))
 refine lO (W_callR rfl rfl rfl rfl fn_ca_128 (rgood_ok q (.slice eb tg.length ec) (.slice rb rc.length rcap) true) (Split.one (p := [])) (fun _ _ _ _ _ _ _ => trivial) ?_)
 refine St.res (rs' := [blk q [.bool true, .slice eb tg.length ec, .slice rb rc.length rcap] 300, ownS 26 1 (.slice eb tg.length ec) (tg).length (ints .u64 (enOf (tg))), ownS 315 2 (.slice rb rc.length rcap) (rc).length (recC (rc)), fam (tgH q) (tg)]) (Weak.refl _) (lP pO (k:=?_))
 refine E_false (t := 8) rfl (rfl) ?_
 refine lQ (cE 0 rfl (cE 1 rfl (cE 4 rfl (cE 5 rfl (cE 8 rfl .nil))))) (kF (k:=R_skip (qT (rS (rT (lM (k:=lP pEq (k:=?_))))))))
 refine E_false (t := 10) rfl (decide_eq_false ha) ?_
 refine lQ (cE 0 rfl (cE 1 rfl (cE 4 rfl (cE 5 rfl (cE 10 rfl .nil))))) (kF (k:=R_skip (qT (rS (rS ?_)))))
 refine St.res (rs' := [REF q tg rc]) (ref_close (rs := []) hok) (rR (lM (k:=lM (k:=?_))))
 refine lO (W_callR rfl rfl rfl rfl fn_ca_149 (rknown_ok q tg rc a hmax) (Split.one (p := [])) (fun _ _ _ _ _ _ _ => trivial) ?_)
 refine St.res (rs' := [REF q tg rc]) (Weak.refl _) ?_
 refine E_false (t := 13) rfl (decide_eq_false hin) ?_
 refine lQ (cE 0 rfl (cE 1 rfl (cE 4 rfl (cE 5 rfl (cE 13 rfl .nil))))) (kF (k:=R_skip (qT (rS ?_))))
 refine St.openP (p := []) (fun ⟨ve, vr⟩ hok => ?_)
 refine St.unbundle [] ?_
 refine St.ownForm (p := [_]) fun eb ec heb hec => ?_
 dsimp only at heb; subst heb
 refine St.ownForm (p := [_, _]) fun rb rcap hrb hrc_ => ?_
 dsimp only at hrb; subst hrb
 refine St.res (rs' := [blk q [.bool true, .slice eb tg.length ec, .slice rb rc.length rcap] 300, ownS 26 1 (.slice eb tg.length ec) (tg).length (ints .u64 (enOf (tg))), ownS 315 2 (.slice rb rc.length rcap) (rc).length (recC (rc)), fam (tgH q) (tg)]) (Weak.refl _) (rR (lM (k:=lM (k:=lP pN (k:=lP (pF ty_fl_300_1) (k:=?_))))))
 refine lV (V_load rfl rfl ty_sc_297 (by first | exact Rd.blk .h0 rfl | exact Rd.blk .h1 rfl | exact Rd.blk .h2 rfl | exact Rd.blk .h3 rfl | exact Rd.blk .h4 rfl | exact Rd.blk .h5 rfl | exact Rd.blk .h6 rfl | exact Rd.blk .h7 rfl)) (k:=lM (k:=?_))
 refine lO (W_lit (z := .nilIface) (ints .u64 [a]) rfl rfl rfl ty_sl_297 ty_lz_297 rfl rfl rfl (by decide) (by decide) (by simp [Value.cells]) (rfl) fun b20 => ?_)
 refine lO (W_append (p := [_, _]) rfl rfl rfl ty_sl_297 ty_ap_297 ty_src_297 rfl rfl rfl (Src.slice (sz := 1) (news := ints .u64 [a]) (Rds.blk .h0) rfl ints_one) (by omega) (by simp only [maxLen]; omega) fun v21 => ?_)
 refine St.ownForm (p := [_, _]) fun nb nc hnv hnc => ?_
 subst hnv
 refine lP pN (k:=lP (pF ty_fl_300_1) (k:=?_))
 refine lO (W_store rfl rfl rfl rfl ty_sc_297 rfl .h1 (by first | decide | (simp [ints]; done) | (simp [ints]; omega)) ?_)
 refine lQ (cE 0 rfl (cE 1 rfl (cE 4 rfl (cE 5 rfl .nil)))) (rT (lM (k:=lM (k:=?_))))
 refine lP (P_buildStruct rfl ty_pl_312 ty_ze_312 rfl rfl (rfl)) (k:=?_)
 refine E_as (t := 26) (v' := .agg [.pointer (some ⟨q, 0, none⟩), .int .u64 a].toArray) rfl (rfl) ?_
 refine lO (W_box ([.pointer (some ⟨q, 0, none⟩), .int .u64 a]) rfl rfl rfl rfl rfl fun b27 => lA (k:=lA (k:=?_)))
 refine lQ (cE 4 rfl (cE 5 rfl .nil)) (R_ret ?_)
 exact R_end (rs2 := _) rfl rfl (.tmp rfl (.tmp rfl .nil)) (⟨b27, rfl, rfl⟩) (by have e : tg.length + 1 = (tg ++ [(a, b27)]).length := (by simp); rw [ints_append, show enOf tg ++ [a] = enOf (tg ++ [(a, b27)]) by simp [enOf], e]; exact Weak.trans (Weak.p2 (Weak.p2 (Weak.p2 ((Weak.keep (Weak.drop (Weak.refl _))).trans (Weak.famAdd (f := tgH q) (x := (a, b27))))))) (ref_close (rs := []) hok))
theorem rsign_old {gl : Nat → Obj} (hG : GlobsR gl) (q : Nat) (tg : List (Int × Nat)) (rc : List Rcd) (i : Nat) (a : Int) (s : Nat) (hi : tg[i]? = some (a, s)) (base : Option Addr) (c : Nat) (xs : List Int) (hb : IsB xs) (hmax : xs.length ≤ 1048576) (hC : rc.length ≤ 4398046511104) (hm : (a, xs) ∈ rc) : SpecR (cx gl) 126 [.pointer (some ⟨s, 0, none⟩), .slice base xs.length c] (fun w h => Seen w h base (ints .u8 xs)) [REF q tg rc] (.tuple #[.agg (ints .u8 (sealH a xs)).toArray, .int .i64 0]) [REF q tg rc] := by
 refine Spec.enter (C := cx gl) Tryz.func126 rfl 59 rfl rfl fun w0 h0 hsep hsub hpre => ?_
 show St (cx gl) _ [(0, .pointer (some ⟨s, 0, none⟩)), (1, .slice base xs.length c)] _ _
 refine St.openP (p := []) (fun ⟨ve, vr⟩ hok => ?_)
 refine St.unbundle [] ?_
 refine St.ownForm (p := [_]) fun eb ec heb hec => ?_
 dsimp only at heb; subst heb
 refine St.ownForm (p := [_, _]) fun rb rcap hrb hrc_ => ?_
 dsimp only at hrb; subst hrb
 refine St.res (rs' := [blk q [.bool true, .slice eb tg.length ec, .slice rb rc.length rcap] 300, ownS 26 1 (.slice eb tg.length ec) (tg).length (ints .u64 (enOf (tg))), ownS 315 2 (.slice rb rc.length rcap) (rc).length (recC (rc)), fam (tgH q) (tg)]) (Weak.refl _) (rT ?_)
 refine lO (W_alloc rfl rfl rfl ty_ze_65 fun b4 => lA (k:=?_))
 refine L_nil (qT (rS (rS ?_)))
 refine St.res (rs' := [blk q [.bool true, .slice eb tg.length ec, .slice rb rc.length rcap] 300, ownS 26 1 (.slice eb tg.length ec) (tg).length (ints .u64 (enOf (tg))), ownS 315 2 (.slice rb rc.length rcap) (rc).length (recC (rc)), fam (tgH q) (tg), blk b4 (List.replicate 16 (.int .u8 0)) 65]) (Weak.p1 (Weak.p1 (Weak.p1 (Weak.p1 (Weak.refl _))))) (rR (lM (k:=?_)))
 refine lP (P_eqNil rfl ty_ptr_222 rfl rfl) (k:=lM (k:=lM (k:=lP pN (k:=lP (pF ty_fl_312_0) (k:=?_)))))
 refine lV (V_load rfl rfl ty_sc_103 (by first | exact (rd_tg .h3 hi).1 | exact (rd_tg .h4 hi).1)) (k:=?_)
 refine lP (P_eqNil rfl ty_ptr_103 rfl rfl) (k:=lP pK (k:=?_))
 refine lQ (cE 0 rfl (cE 1 rfl (cE 4 rfl (cE 5 rfl (cE 14 rfl .nil))))) (kF (k:=R_skip (qT (rS (rT (lM (k:=lP (pL ty_sl_198) (k:=lP pGt (k:=?_)))))))))
 refine E_false (t := 18) rfl (decide_eq_false (by omega)) ?_
 refine lQ (cE 0 rfl (cE 1 rfl (cE 4 rfl (cE 5 rfl (cE 18 rfl .nil))))) (kF (k:=R_skip (qT (rS (rS ?_)))))
 refine R_open [(0, 0), (1, 0), (2, 0), (3, 1), (4, 0), (5, 0), (6, 0), (7, 1), (8, 0), (9, 2), (10, 0)] mixed (by kernel_rfl) (QOk.then (QOk.then QOk.body)) (oP rfl pM (k:=oP rfl pN (k:=oP rfl (pF ty_fl_312_0) (k:=?_))))
 refine oV rfl (V_load rfl rfl ty_sc_103 (by first | exact (rd_tg .h3 hi).1 | exact (rd_tg .h4 hi).1)) (k:=oP rfl pM (k:=oP rfl pN (k:=oP rfl (pF ty_fl_312_1) (k:=?_))))
 refine oV rfl (V_load rfl rfl ty_sc_26 (by first | exact (rd_tg .h3 hi).2 | exact (rd_tg .h4 hi).2)) (k:=oP rfl pM (k:=?_))
 refine O_keep rfl rfl (W_callR rfl rfl rfl rfl fn_ca_198 (rhas_ok q tg rc eb rb ec rcap hok a base c xs hb hC) (Weak.refl _) (Sn.pre (Sn.old hpre)) (K_keep (Weak.refl _) (oP rfl pO (k:=?_))))
 refine E_false (t := 30) rfl (by simp [hm]) (O_nil ?_)
 refine St.env (cE 0 rfl (cE 1 rfl (cE 4 rfl (cE 5 rfl (cE 30 rfl .nil))))) (qT (kF (k:=R_skip (qT (rS ?_)))))
 refine St.res (rs' := [blk q [.bool true, .slice eb tg.length ec, .slice rb rc.length rcap] 300, ownS 26 1 (.slice eb tg.length ec) (tg).length (ints .u64 (enOf (tg))), ownS 315 2 (.slice rb rc.length rcap) (rc).length (recC (rc)), fam (tgH q) (tg), blk b4 (List.replicate 16 (.int .u8 0)) 65]) (Weak.refl _) (rR (lM (k:=lP pN (k:=lP (pF ty_fl_312_1) (k:=?_)))))
 refine lV (V_load rfl rfl ty_sc_26 (by first | exact (rd_tg .h3 hi).2 | exact (rd_tg .h4 hi).2)) (k:=lM (k:=?_))
 refine lO (W_callV rfl rfl rfl rfl fn_ca_199 (of_ok hG a base c xs (by omega)) ((Sn.old hpre).rw_) ?_)
 refine lO (W_storeAll rfl rfl rfl rfl ty_ag_65 (by rw [ints_length, sealH_length]) (ints_one) .h4 (by rw [ints_length, sealH_length]; rfl) (lA (k:=?_)))
 refine lQ (cE 4 rfl (cE 5 rfl .nil)) (R_ret ?_)
 exact R_end (rs2 := [REF q tg rc]) rfl rfl (.cell rfl (Rds.loadVar ty_ag_65 (Rds.blk .h4) (by rw [ints_length, sealH_length])) (.tmp rfl .nil)) (⟨rfl, rfl⟩) ((ref_close (rs := [_]) hok).trans (Weak.keep (Weak.nil _)))
theorem rsign_new {gl : Nat → Obj} (hG : GlobsR gl) (q : Nat) (tg : List (Int × Nat)) (rc : List Rcd) (i : Nat) (a : Int) (s : Nat) (hi : tg[i]? = some (a, s)) (base : Option Addr) (c : Nat) (xs : List Int) (hb : IsB xs) (hmax : xs.length ≤ 1048576) (hC : rc.length ≤ 4398046511104) (hm : (a, xs) ∉ rc) : SpecR (cx gl) 126 [.pointer (some ⟨s, 0, none⟩), .slice base xs.length c] (fun w h => Seen w h base (ints .u8 xs)) [REF q tg rc] (.tuple #[.agg (ints .u8 (sealH a xs)).toArray, .int .i64 0]) [REF q tg (rc ++ [(a, xs)])] := by
 refine Spec.enter (C := cx gl) Tryz.func126 rfl 59 rfl rfl fun w0 h0 hsep hsub hpre => ?_
 show St (cx gl) _ [(0, .pointer (some ⟨s, 0, none⟩)), (1, .slice base xs.length c)] _ _
 refine St.openP (p := []) (fun ⟨ve, vr⟩ hok => ?_)
 refine St.unbundle [] ?_
 refine St.ownForm (p := [_]) fun eb ec heb hec => ?_
 dsimp only at heb; subst heb
 refine St.ownForm (p := [_, _]) fun rb rcap hrb hrc_ => ?_
 dsimp only at hrb; subst hrb
 refine St.res (rs' := [blk q [.bool true, .slice eb tg.length ec, .slice rb rc.length rcap] 300, ownS 26 1 (.slice eb tg.length ec) (tg).length (ints .u64 (enOf (tg))), ownS 315 2 (.slice rb rc.length rcap) (rc).length (recC (rc)), fam (tgH q) (tg)]) (Weak.refl _) (rT ?_)
 refine lO (W_alloc rfl rfl rfl ty_ze_65 fun b4 => lA (k:=?_))
 refine L_nil (qT (rS (rS ?_)))
 refine St.res (rs' := [blk q [.bool true, .slice eb tg.length ec, .slice rb rc.length rcap] 300, ownS 26 1 (.slice eb tg.length ec) (tg).length (ints .u64 (enOf (tg))), ownS 315 2 (.slice rb rc.length rcap) (rc).length (recC (rc)), fam (tgH q) (tg), blk b4 (List.replicate 16 (.int .u8 0)) 65]) (Weak.p1 (Weak.p1 (Weak.p1 (Weak.p1 (Weak.refl _))))) (rR (lM (k:=?_)))
 refine lP (P_eqNil rfl ty_ptr_222 rfl rfl) (k:=lM (k:=lM (k:=lP pN (k:=lP (pF ty_fl_312_0) (k:=?_)))))
 refine lV (V_load rfl rfl ty_sc_103 (by first | exact (rd_tg .h3 hi).1 | exact (rd_tg .h4 hi).1)) (k:=?_)
 refine lP (P_eqNil rfl ty_ptr_103 rfl rfl) (k:=lP pK (k:=?_))
 refine lQ (cE 0 rfl (cE 1 rfl (cE 4 rfl (cE 5 rfl (cE 14 rfl .nil))))) (kF (k:=R_skip (qT (rS (rT (lM (k:=lP (pL ty_sl_198) (k:=lP pGt (k:=?_)))))))))
 refine E_false (t := 18) rfl (decide_eq_false (by omega)) ?_
 refine lQ (cE 0 rfl (cE 1 rfl (cE 4 rfl (cE 5 rfl (cE 18 rfl .nil))))) (kF (k:=R_skip (qT (rS (rS ?_)))))
 refine R_open [(0, 0), (1, 0), (2, 0), (3, 1), (4, 0), (5, 0), (6, 0), (7, 1), (8, 0), (9, 2), (10, 0)] mixed (by kernel_rfl) (QOk.then (QOk.then QOk.body)) (oP rfl pM (k:=oP rfl pN (k:=oP rfl (pF ty_fl_312_0) (k:=?_))))
 refine oV rfl (V_load rfl rfl ty_sc_103 (by first | exact (rd_tg .h3 hi).1 | exact (rd_tg .h4 hi).1)) (k:=oP rfl pM (k:=oP rfl pN (k:=oP rfl (pF ty_fl_312_1) (k:=?_))))
 refine oV rfl (V_load rfl rfl ty_sc_26 (by first | exact (rd_tg .h3 hi).2 | exact (rd_tg .h4 hi).2)) (k:=oP rfl pM (k:=?_))
 refine O_keep rfl rfl (W_callR rfl rfl rfl rfl fn_ca_198 (rhas_ok q tg rc eb rb ec rcap hok a base c xs hb hC) (Weak.refl _) (Sn.pre (Sn.old hpre)) (K_keep (Weak.refl _) (oP rfl pO (k:=?_))))
 refine E_true (t := 30) rfl (by simp [hm]) (O_nil ?_)
 refine St.env (cE 0 rfl (cE 1 rfl (cE 4 rfl (cE 5 rfl (cE 30 rfl .nil))))) (qT (kT (k:=?_)))
 refine St.res (rs' := [blk q [.bool true, .slice eb tg.length ec, .slice rb rc.length rcap] 300, ownS 26 1 (.slice eb tg.length ec) (tg).length (ints .u64 (enOf (tg))), ownS 315 2 (.slice rb rc.length rcap) (rc).length (recC (rc)), fam (tgH q) (tg), blk b4 (List.replicate 16 (.int .u8 0)) 65]) (Weak.refl _) ?_
 refine R_openQ [(0, 0), (1, 0), (2, 0), (3, 1), (4, 0), (5, 0), (6, 0), (7, 1), (8, 0), (9, 0), (10, 1), (11, 0), (12, 0), (13, 0), (14, 1), (15, 0), (16, 1), (17, 0), (18, 2), (19, 2), (20, 0), (21, 0), (22, 3)] [blk q [.bool true, .slice eb tg.length ec, .slice rb rc.length rcap] 300, fam (tgH q) (tg), blk b4 (List.replicate 16 (.int .u8 0)) 65] (Weak.keep (Weak.drop (Weak.drop (Weak.refl _)))) mixed (by kernel_rfl) (QOk.then QOk.body) ?_
 refine O_pureQ rfl rfl rfl rfl (P_move rfl rfl) ?_
 refine O_pureQ rfl rfl rfl rfl (P_nil rfl rfl) ?_
 refine O_pureQ rfl rfl rfl rfl (P_fld0 rfl ty_fl_312_0 rfl) ?_
 refine O_valQ rfl rfl rfl rfl (V_load rfl rfl ty_sc_103 (by first | exact (rd_tg .h1 hi).1)) ?_
 refine O_pureQ rfl rfl rfl rfl (P_move rfl rfl) ?_
 refine O_pureQ rfl rfl rfl rfl (P_nil rfl rfl) ?_
 refine O_pureQ rfl rfl rfl rfl (P_fld0 rfl ty_fl_312_0 rfl) ?_
 refine O_valQ rfl rfl rfl rfl (V_load rfl rfl ty_sc_103 (by first | exact (rd_tg .h1 hi).1)) ?_
 refine O_pureQ rfl rfl rfl rfl (P_nil rfl rfl) ?_
 refine O_pureQ rfl rfl rfl rfl (P_fld0 rfl ty_fl_300_2 rfl) ?_
 refine O_valQ rfl rfl rfl rfl (V_load rfl rfl ty_sc_298 (by first | exact Rd.blk .h0 rfl | exact Rd.blk .h1 rfl | exact Rd.blk .h2 rfl | exact Rd.blk .h3 rfl | exact Rd.blk .h4 rfl | exact Rd.blk .h5 rfl | exact Rd.blk .h6 rfl | exact Rd.blk .h7 rfl)) ?_
 refine O_pureQ rfl rfl rfl rfl (P_move rfl rfl) ?_
 refine O_pureQ rfl rfl rfl rfl (P_nil rfl rfl) ?_
 refine O_pureQ rfl rfl rfl rfl (P_fld0 rfl ty_fl_312_1 rfl) ?_
 refine O_valQ rfl rfl rfl rfl (V_load rfl rfl ty_sc_26 (by first | exact (rd_tg .h1 hi).2)) ?_
 refine O_pureQ rfl rfl rfl rfl (P_move rfl rfl) ?_
 refine O_valQ rfl rfl rfl rfl (V_str rfl (slB_spec ty_sl_198).1 ty_int_5 ty_str_9 rfl ((Sn.old hpre).rw_)) ?_
 refine O_pureQ rfl rfl rfl rfl (P_buildStruct rfl ty_pl_315 ty_ze_315 rfl rfl (rfl)) ?_
 refine E_as (t := 48) (v' := .agg [.int .u64 a, .string (strOfNums xs)].toArray) rfl (rfl) ?_
 refine O_keepQ rfl rfl (W_lit (z := .nilIface) ([.int .u64 a, .string (strOfNums xs)]) rfl rfl rfl ty_sl_298 ty_lz_298 rfl rfl rfl (by decide) (by decide) (by simp [Value.cells]) (rfl) fun b49 => (K_keepQ (Weak.drop (Weak.keep (Weak.drop (Weak.drop (Weak.refl _))))) ?_))
 refine O_keepQ rfl rfl (W_append (p := [_, _, _]) rfl rfl rfl ty_sl_298 ty_ap_298 ty_src_298 rfl rfl rfl (Src.slice (sz := 2) (news := [.int .u64 a, .string (strOfNums xs)]) (Rds.blk .h0) rfl (by intro v hv; simp only [List.mem_cons, List.not_mem_nil, or_false] at hv; rcases hv with rfl | rfl <;> rfl)) (by omega) (by simp only [maxLen]; omega) fun v50 => (K_keepQ (Weak.drop (Weak.keep (Weak.drop (Weak.drop (Weak.refl _))))) ?_))
 refine St.ownForm (p := [_, _, _]) fun nb nc hnv hnc => ?_
 subst hnv
 refine O_pureQ rfl rfl rfl rfl (P_nil rfl rfl) ?_
 refine O_pureQ rfl rfl rfl rfl (P_fld0 rfl ty_fl_300_2 rfl) ?_
 refine O_newQ rfl rfl (W_store rfl rfl rfl rfl ty_sc_298 rfl .h1 (by first | decide | (simp [ints]; done) | (simp [ints]; omega)) (K_newQ _ (Weak.refl _) ?_))
 refine O_nilQ ?_
 refine St.env (cE 0 rfl (cE 1 rfl (cE 4 rfl (cE 5 rfl .nil)))) (qT (rS ?_))
 have hok2 : RecOK (rc ++ [(a, xs)]) := hok.snoc hb hmax
 refine St.res (rs' := [blk q [.bool true, .slice eb tg.length ec, .slice nb (rc.length + 1) nc] 300, ownS 26 1 (.slice eb tg.length ec) (tg).length (ints .u64 (enOf (tg))), ownS 315 2 (.slice nb (rc.length + 1) nc) (rc ++ [(a, xs)]).length (recC (rc ++ [(a, xs)])), fam (tgH q) (tg), blk b4 (List.replicate 16 (.int .u8 0)) 65]) (by rw [← recC_snoc, List.length_append]; exact Weak.drop (Weak.refl _)) (rR (lM (k:=lP pN (k:=lP (pF ty_fl_312_1) (k:=?_)))))
 refine lV (V_load rfl rfl ty_sc_26 (by first | exact (rd_tg .h3 hi).2 | exact (rd_tg .h4 hi).2)) (k:=lM (k:=?_))
 refine lO (W_callV rfl rfl rfl rfl fn_ca_199 (of_ok hG a base c xs (by omega)) ((Sn.old hpre).rw_) ?_)
 refine lO (W_storeAll rfl rfl rfl rfl ty_ag_65 (by rw [ints_length, sealH_length]) (ints_one) .h4 (by rw [ints_length, sealH_length]; rfl) (lA (k:=?_)))
 refine lQ (cE 4 rfl (cE 5 rfl .nil)) (R_ret ?_)
 exact R_end (rs2 := [REF q tg (rc ++ [(a, xs)])]) rfl rfl (.cell rfl (Rds.loadVar ty_ag_65 (Rds.blk .h4) (by rw [ints_length, sealH_length])) (.tmp rfl .nil)) (⟨rfl, rfl⟩) ((ref_close (rs := [_]) hok2).trans (Weak.keep (Weak.nil _)))
theorem rsign_any {gl : Nat → Obj} (hG : GlobsR gl) (q : Nat) (tg : List (Int × Nat)) (rc : List Rcd) (i : Nat) (a : Int) (s : Nat) (hi : tg[i]? = some (a, s)) (base : Option Addr) (c : Nat) (xs : List Int) (hb : IsB xs) (hmax : xs.length ≤ 1048576) (hC : rc.length ≤ 4398046511104) : SpecR (cx gl) 126 [.pointer (some ⟨s, 0, none⟩), .slice base xs.length c] (fun w h => Seen w h base (ints .u8 xs)) [REF q tg rc] (.tuple #[.agg (ints .u8 (sealH a xs)).toArray, .int .i64 0]) [REF q tg (addR rc (a, xs))] := by
 unfold addR
 split
 ·exact rsign_old hG q tg rc i a s hi base c xs hb hmax hC ‹_›
 ·exact rsign_new hG q tg rc i a s hi base c xs hb hmax hC ‹_›
end Go.Proofs.YtcngmkjdpoiiaaaGreatDoor

/- The world of the statements: enters, signed. Printed by gen.py. -/
set_option maxRecDepth 100000
namespace Go.Proofs.YtcngmkjdpoiiaaaGreatDoor
open Go Go.RowKit Go.Proofs
/-- A step of a script. -/
structure Stp where
 kind : Int
 tx : Tx
 wrong : Bool
 h : Int
 b : Int
 a : Int
 n : Int
def Stp.cells (x : Stp) : List Value := [.int .i64 x.kind] ++ x.tx.cells ++ [.bool x.wrong, .int .u64 x.h, .int .u64 x.b, .int .u64 x.a, .int .u64 x.n]
structure Stp.ok (x : Stp) : Prop where
 tx : x.tx.ok
 h : u64 x.h
 b : u64 x.b
 a : u64 x.a
 n : u64 x.n
/-- A step whose transaction's cells are as many as they are. -/
structure StpR where
 s : Stp
 ok : s.ok
theorem Stp.len {x : Stp} (h : x.ok) : x.cells.length = 28 := by unfold Stp.cells; rw [List.length_append, List.length_append, h.tx.cellsLen]; rfl
theorem Stp.one (x : Stp) : ∀ v ∈ x.cells, v.oneCell' = true := by
 intro v hv; unfold Stp.cells at hv
 rcases List.mem_append.1 hv with hv | hv
 ·rcases List.mem_append.1 hv with hv | hv
  ·simp only [List.mem_cons, List.not_mem_nil, or_false] at hv; subst hv; rfl
  ·exact x.tx.one v hv
 ·simp only [List.mem_cons, List.not_mem_nil, or_false] at hv; rcases hv with rfl | rfl | rfl | rfl | rfl <;> rfl
instance : Rec StpR := ⟨fun x => x.s.cells, 28, fun x => Stp.len x.ok, fun x => x.s.one⟩
theorem stp_tx (x : Stp) (i : Nat) (v : Value) (h : x.tx.cells[i]? = some v) : x.cells[1 + i]? = some v := by
 unfold Stp.cells
 rw [List.getElem?_append_left (by rw [List.length_append]; have := (List.getElem?_eq_some_iff.1 h).1; simp; omega), List.getElem?_append_right (by simp)]
 simpa using h
theorem stp_end {x : Stp} (hx : x.ok) (i : Nat) (v : Value) (h : [Value.bool x.wrong, .int .u64 x.h, .int .u64 x.b, .int .u64 x.a, .int .u64 x.n][i]? = some v) : x.cells[23 + i]? = some v := by
 unfold Stp.cells
 have hl : ([Value.int .i64 x.kind] ++ x.tx.cells).length = 23 := by rw [List.length_append, hx.tx.cellsLen]; rfl
 rw [List.getElem?_append_right (by omega), hl, show 23 + i - 23 = i by omega]; exact h
/-- Who is entered by a script. -/
def entL : List Int → List Int → List Int
 | es, [] => es
 | es, a :: l => entL (if a = 0 ∨ a ∈ es then es else es ++ [a]) l
def entS (l : List StpR) : List Int := entL [] (l.map fun x => x.s.tx.frm)
theorem entL_app (es l k : List Int) : entL es (l ++ k) = entL (entL es l) k := by
 induction l generalizing es with
 | nil => rfl
 | cons a l ih => exact ih _
theorem entS_next {l : List StpR} {i : Nat} {x : StpR} (h : l[i]? = some x) : entS (l.take (i + 1)) = if x.s.tx.frm = 0 ∨ x.s.tx.frm ∈ entS (l.take i) then entS (l.take i) else entS (l.take i) ++ [x.s.tx.frm] := by
 unfold entS
 rw [List.take_add_one, h, List.map_append, entL_app]; rfl
def ptrs (l : List (Int × Nat)) : List Value := l.map fun x => .pointer (some ⟨x.2, 0, none⟩)
theorem ptrs_at {l : List (Int × Nat)} {i : Nat} {x : Int × Nat} (h : l[i]? = some x) : (ptrs l)[i]? = some (.pointer (some ⟨x.2, 0, none⟩)) := by unfold ptrs; rw [List.getElem?_map, h]; rfl
/-- The two registries know the same. -/
structure WOk (es : List Int) (sg tg : List (Int × Nat)) : Prop where
 sg : sg.map (·.1) = es
 tg : tg.map (·.1) = es
 nd : es.Nodup
theorem WOk.nil : WOk [] [] [] := ⟨rfl, rfl, List.nodup_nil⟩
theorem WOk.snoc {es : List Int} {sg tg : List (Int × Nat)} (h : WOk es sg tg) {a : Int} (ha : a ∉ es) (s t : Nat) : WOk (es ++ [a]) (sg ++ [(a, s)]) (tg ++ [(a, t)]) :=
 ⟨by rw [List.map_append, h.sg]; rfl, by rw [List.map_append, h.tg]; rfl, List.nodup_append.2 ⟨h.nd, List.nodup_cons.2 ⟨List.not_mem_nil, List.nodup_nil⟩, fun x hx y hy e => by rw [List.mem_singleton.1 hy] at e; exact ha (e ▸ hx)⟩⟩
theorem WOk.isIn {es : List Int} {sg tg : List (Int × Nat)} (h : WOk es sg tg) {a : Int} (ha : a ∉ es) : isIn sg a = false := by
 unfold Go.Proofs.YtcngmkjdpoiiaaaGreatDoor.isIn sgP
 have : sg.find? (fun x => decide (x.1 = a)) = none := List.find?_eq_none.2 fun x hx => by
  simp only [decide_eq_true_eq]; intro e; subst e; exact ha (h.sg ▸ List.mem_map_of_mem hx)
 rw [this]; rfl
theorem WOk.enOf {es : List Int} {sg tg : List (Int × Nat)} (h : WOk es sg tg) : enOf tg = es := h.tg
theorem WOk.lens {es : List Int} {sg tg : List (Int × Nat)} (h : WOk es sg tg) : sg.length = es.length ∧ tg.length = es.length := by
 have h1 := congrArg List.length h.sg; have h2 := congrArg List.length h.tg
 rw [List.length_map] at h1 h2; exact ⟨h1, h2⟩
theorem entL_len : ∀ (l es : List Int), (entL es l).length ≤ es.length + l.length
 | [], es => by simp [entL]
 | a :: l, es => by
  rw [entL, List.length_cons]
  split
  ·have := entL_len l es; omega
  ·have := entL_len l (es ++ [a]); rw [List.length_append, List.length_singleton] at this; omega
theorem entS_len (l : List StpR) : (entS l).length ≤ l.length := by have := entL_len (l.map fun x => x.s.tx.frm) []; rw [List.length_map] at this; unfold entS; simpa using this
theorem enters_ok {gl : Nat → Obj} (sb : Option Addr) (sc : Nat) (st : List StpR) (hsc : st.length ≤ sc) (hms : st.length ≤ 1300000000000) (ch : List Int) : Spec (cx gl) 63 [.slice sb st.length sc, .string (strOfNums ch)] (fun w _ => Row w sb (rc st)) [] (fun v rs => ∃ wb p q mv ov sg tg, v = .tuple #[.pointer (some ⟨wb, 0, none⟩), .bool true] ∧ WOk (entS st) sg tg ∧ rs = [blk wb [.pointer (some ⟨p, 0, none⟩), .pointer (some ⟨q, 0, none⟩), mv, ov, .string (strOfNums ch)] 154, REG p (sg) ([]), REF q (tg) ([]), ownS 220 1 (mv) (sg.length) (ptrs (sg)), ownS 222 1 (ov) (tg.length) (ptrs (tg))]) := by
 refine Spec.enter (C := cx gl) Tryz.func63 rfl 94 rfl rfl fun w0 h0 hsep hsub hpre => ?_
 obtain rfl : h0 = Heap.none := hsep
 show St (cx gl) _ [(0, .slice sb st.length sc), (1, .string (strOfNums ch))] _ _
 refine rT (lA (k:=lA (k:=?_)))
 refine L_nil (qT (rT ?_))
 refine lO (W_call rfl rfl rfl rfl fn_ca_31 (snew_ok) (Split.nil _) (fun _ _ _ _ _ _ _ => trivial) fun v1 rs1 ⟨p, e1, e2⟩ => ?_)
 subst e1; subst e2
 refine lO (W_call rfl rfl rfl rfl fn_ca_120 (rnew_ok) (Split.nil _) (fun _ _ _ _ _ _ _ => trivial) fun v2 rs2 ⟨q, e1, e2⟩ => ?_)
 subst e1; subst e2
 refine lM (k:=?_)
 refine lP (P_buildStruct rfl ty_pl_154 ty_ze_154 rfl rfl (rfl)) (k:=?_)
 refine E_as (t := 16) (v' := .agg [.pointer (some ⟨p, 0, none⟩), .pointer (some ⟨q, 0, none⟩), .slice none 0 0, .slice none 0 0, .string (strOfNums ch)].toArray) rfl (rfl) ?_
 refine lO (W_box ([.pointer (some ⟨p, 0, none⟩), .pointer (some ⟨q, 0, none⟩), .slice none 0 0, .slice none 0 0, .string (strOfNums ch)]) rfl rfl rfl rfl rfl fun b17 => lA (k:=?_))
 refine lQ (cE 0 rfl (cE 4 rfl (cE 5 rfl (cE 6 rfl .nil)))) (rS (rT (lM (k:=lP pN (k:=lP (pF ty_fl_154_0) (k:=lV (vB ty_sc_69 .h0) (k:=?_)))))))
 refine lP (P_eqNil rfl ty_ptr_69 rfl rfl) (k:=?_)
 refine lQ (cE 0 rfl (cE 4 rfl (cE 5 rfl (cE 6 rfl (cE 22 rfl .nil))))) (kF (k:=R_skip (qT (rS (rT (lA (k:=?_)))))))
 refine lQ (cE 0 rfl (cE 4 rfl (cE 5 rfl (cE 6 rfl (cE 7 rfl .nil))))) (R_block ?_)
 refine R_loopE (G := Nat × Value × Value × List (Int × Nat) × List (Int × Nat)) (cE 0 rfl (cE 4 rfl (cE 5 rfl (cE 6 rfl .nil)))) (fun g => [(7, .int .i64 ((g.1 : Int)))]) (fun g => [blk b17 [.pointer (some ⟨p, 0, none⟩), .pointer (some ⟨q, 0, none⟩), g.2.1, g.2.2.1, .string (strOfNums ch)] 154, REG p (g.2.2.2.1) ([]), REF q (g.2.2.2.2) ([]), ownS 220 1 (g.2.1) (g.2.2.2.1.length) (ptrs (g.2.2.2.1)), ownS 222 1 (g.2.2.1) (g.2.2.2.2.length) (ptrs (g.2.2.2.2))]) (fun g => g.1 ≤ st.length ∧ WOk (entS (st.take g.1)) g.2.2.2.1 g.2.2.2.2) (fun g => st.length - g.1) (0, .slice none 0 0, .slice none 0 0, [], []) (by show (0) ≤ st.length ∧ WOk (entS (st.take (0))) ([]) ([]); exact ⟨Nat.zero_le _, WOk.nil⟩) (by repeat (first | exact .nil | refine .cons rfl ?_ | refine .consE rfl (by first | rfl | (congr 1; omega) | (congr 1; push_cast; omega)) ?_)) (Weak.trans (Weak.newNil (T := 220) (sz := 1)) (Weak.trans (Weak.newNil (T := 222) (sz := 1)) (Weak.pick (p := [_, _]) (Weak.pick (p := [_, _, _]) (Weak.pick (p := [_, _]) (Weak.pick (p := [_]) (Weak.keep (Weak.nil _)))))))) ?_
 rintro ⟨i, mv, ov, sg, tg⟩ hinv
 replace hinv : i ≤ st.length ∧ WOk (entS (st.take i)) sg tg := hinv
 show St (cx gl) _ ((7, .int .i64 ((i : Int))) :: _) [blk b17 [.pointer (some ⟨p, 0, none⟩), .pointer (some ⟨q, 0, none⟩), mv, ov, .string (strOfNums ch)] 154, REG p (sg) ([]), REF q (tg) ([]), ownS 220 1 (mv) (sg.length) (ptrs (sg)), ownS 222 1 (ov) (tg.length) (ptrs (tg))] _
 obtain ⟨hi, hw⟩ := hinv
 refine rS (rT (lM (k:=lM (k:=lP (pL ty_sl_141) (k:=lP pLt (k:=?_))))))
 refine L_nil (qT ?_)
 refine R_condP rfl (fun hlt => ?_) (fun hlt => ?_)
 ·skip
  have hil : i < st.length := by omega
  obtain ⟨x, hx⟩ : ∃ x, st[i]? = some x := ⟨_, List.getElem?_eq_getElem hil⟩
  obtain ⟨pb, pj, rfl, hrow⟩ := hpre.some_ (by rw [rc_length]; show 0 < _ * 28; omega)
  have hlens := hw.lens
  have hel := entS_len (st.take i)
  rw [List.length_take] at hel
  refine R_skip (qT (rS (R_block (rT (lM (k:=lM (k:=?_)))))))
  refine lP (P_ixs (i) rfl ty_sl_141 rfl rfl (by first | rfl | omega) (by omega)) (k:=lP (pG ty_fl_147_1) (k:=lP (pG ty_fl_67_1) (k:=?_)))
  refine lV (V_load rfl rfl ty_sc_26 (rd_rc (k := 2) (Rds.row hrow rfl) hx (stp_tx x.s 1 _ rfl))) (k:=lA (k:=?_))
  refine L_nil (qT (rS (rT (lM (k:=lP pEq (k:=?_))))))
  refine E_bool (t := 36) rfl (fun hz => ?_) (fun hz => ?_)
  ·skip
   have hz := of_decide_eq_true hz
   refine lM (k:=lN (k:=lN (k:=lN (k:=lN (k:=lN (k:=lN (k:=lP pK (k:=?_))))))))
   refine L_nil (qT (kT (k:=R_exit (Q_then_exit (Q_block_eq (qT (rR (lM (k:=?_)))))))))
   first | (refine L_val rfl rfl rfl (OpP.v (P_addN rfl rfl rfl (by simp only [fits]; omega))) ?_) | (refine L_val rfl rfl rfl (OpP.v (P_add rfl rfl rfl)) ?_)
   refine lA (k:=?_)
   refine L_nil ?_
   exact Q_round (i + 1, mv, ov, sg, tg) (by show (i + 1) ≤ st.length ∧ WOk (entS (st.take (i + 1))) (sg) (tg); exact ⟨by omega, by rw [entS_next hx, if_pos (.inl hz)]; exact hw⟩) (by show st.length - (i + 1) < st.length - i; omega) (by repeat (first | exact .nil | refine .cons rfl ?_ | refine .consE rfl (by first | rfl | (congr 1; omega) | (congr 1; push_cast; omega)) ?_)) (Weak.refl _)
  ·skip
   have hz := of_decide_eq_false hz
   refine lM (k:=lM (k:=lP pN (k:=lP (pF ty_fl_154_1) (k:=lV (vB ty_sc_103 .h0) (k:=lM (k:=?_))))))
   refine lO (W_callR rfl rfl rfl rfl fn_ca_149 (rknown_ok q tg [] (x.s.tx.frm) (by omega)) (Weak.pick (p := [_, _]) (Weak.keep (Weak.keep (Weak.keep (Weak.keep (Weak.nil _)))))) (fun _ _ _ _ _ _ _ => trivial) ?_)
   refine St.res (rs' := [blk b17 [.pointer (some ⟨p, 0, none⟩), .pointer (some ⟨q, 0, none⟩), mv, ov, .string (strOfNums ch)] 154, REG p (sg) ([]), REF q (tg) ([]), ownS 220 1 (mv) (sg.length) (ptrs (sg)), ownS 222 1 (ov) (tg.length) (ptrs (tg))]) (Weak.pick (p := [_]) (Weak.pick (p := [_]) (Weak.keep (Weak.keep (Weak.keep (Weak.nil _)))))) ?_
   refine E_bool (t := 43) rfl (fun hk => ?_) (fun hk => ?_)
   ·skip
    have hk : x.s.tx.frm ∈ entS (st.take i) := by rw [← hw.enOf]; exact of_decide_eq_true hk
    refine lP pK (k:=?_)
    refine L_nil (qT (kT (k:=R_exit (Q_then_exit (Q_block_eq (qT (rR (lM (k:=?_)))))))))
    first | (refine L_val rfl rfl rfl (OpP.v (P_addN rfl rfl rfl (by simp only [fits]; omega))) ?_) | (refine L_val rfl rfl rfl (OpP.v (P_add rfl rfl rfl)) ?_)
    refine lA (k:=?_)
    refine L_nil ?_
    exact Q_round (i + 1, mv, ov, sg, tg) (by show (i + 1) ≤ st.length ∧ WOk (entS (st.take (i + 1))) (sg) (tg); exact ⟨by omega, by rw [entS_next hx, if_pos (.inr hk)]; exact hw⟩) (by show st.length - (i + 1) < st.length - i; omega) (by repeat (first | exact .nil | refine .cons rfl ?_ | refine .consE rfl (by first | rfl | (congr 1; omega) | (congr 1; push_cast; omega)) ?_)) (Weak.refl _)
   ·skip
    have hk : x.s.tx.frm ∉ entS (st.take i) := by rw [← hw.enOf]; exact of_decide_eq_false hk
    refine lP pK (k:=?_)
    refine L_nil (qT (kF (k:=R_skip (qT (rT (lM (k:=lP pN (k:=lP (pF ty_fl_154_0) (k:=lV (vB ty_sc_69 .h0) (k:=lM (k:=?_)))))))))))
    refine lO (W_call rfl rfl rfl rfl fn_ca_146 (enter_new p sg [] (x.s.tx.frm) hz (hw.isIn hk)) (Weak.pick (p := [_]) (Weak.keep (Weak.keep (Weak.keep (Weak.keep (Weak.nil _)))))) (fun _ _ _ _ _ _ _ => trivial) fun v3 rs3 ⟨s, e3, e4⟩ => ?_)
    subst e3; subst e4
    refine St.res (rs' := [blk b17 [.pointer (some ⟨p, 0, none⟩), .pointer (some ⟨q, 0, none⟩), mv, ov, .string (strOfNums ch)] 154, REG p (sg ++ [(x.s.tx.frm, s)]) [], REF q tg [], ownS 220 1 (mv) (sg.length) (ptrs (sg)), ownS 222 1 (ov) (tg.length) (ptrs (tg))]) (Weak.pick (p := [_]) (Weak.keep (Weak.keep (Weak.keep (Weak.keep (Weak.nil _)))))) (lM (k:=lP pX (k:=lP pX (k:=lA (k:=lA (k:=?_))))))
    refine L_nil (qT (rT (lM (k:=lP pN (k:=lP (pF ty_fl_154_1) (k:=lV (vB ty_sc_103 .h0) (k:=lM (k:=?_))))))))
    refine lO (W_call rfl rfl rfl rfl fn_ca_150 (renter_new q tg [] (x.s.tx.frm) hz (by rw [hw.enOf]; exact hk) (by omega)) (Weak.pick (p := [_, _]) (Weak.keep (Weak.keep (Weak.keep (Weak.keep (Weak.nil _)))))) (fun _ _ _ _ _ _ _ => trivial) fun v4 rs4 ⟨s', e3, e4⟩ => ?_)
    subst e3; subst e4
    refine St.res (rs' := [blk b17 [.pointer (some ⟨p, 0, none⟩), .pointer (some ⟨q, 0, none⟩), mv, ov, .string (strOfNums ch)] 154, REG p (sg ++ [(x.s.tx.frm, s)]) [], REF q (tg ++ [(x.s.tx.frm, s')]) [], ownS 220 1 (mv) (sg.length) (ptrs (sg)), ownS 222 1 (ov) (tg.length) (ptrs (tg))]) (Weak.pick (p := [_]) (Weak.pick (p := [_]) (Weak.keep (Weak.keep (Weak.keep (Weak.nil _)))))) (lM (k:=lP pX (k:=lP pX (k:=lA (k:=lA (k:=?_))))))
    refine L_nil (qT (rS (rT (lM (k:=lP pNe (k:=?_))))))
    refine E_false (t := 64) rfl (rfl) (lM (k:=lM (k:=lP pNe (k:=?_))))
    refine E_false (t := 67) rfl (rfl) (lP pK (k:=lM (k:=lM (k:=?_))))
    refine lP (P_eqNil rfl ty_ptr_220 rfl rfl) (k:=lP pK (k:=?_))
    refine L_nil (qT (kF (k:=R_skip (qT (rT (lM (k:=lM (k:=lP pN (k:=lP (pF ty_fl_154_2) (k:=lV (vB ty_sc_104 .h0) (k:=lM (k:=?_))))))))))))
    refine lO (W_lit (z := .nilIface) ([.pointer (some ⟨s, 0, none⟩)]) rfl rfl rfl ty_sl_104 ty_lz_104 rfl rfl rfl (by decide) (by decide) (by simp [Value.cells]) (rfl) fun b79 => ?_)
    refine lO (W_append (p := [_, _, _, _]) rfl rfl rfl ty_sl_104 ty_ap_104 ty_src_104 rfl rfl rfl (Src.slice (sz := 1) (m := 1) (news := [.pointer (some ⟨s, 0, none⟩)]) (Rds.blk .h0) rfl (by intro v hv; rw [List.mem_singleton] at hv; subst hv; rfl)) (by omega) (by simp only [maxLen]; omega) fun v80 => ?_)
    refine St.ownForm (p := [_, _, _, _]) fun mb mc hmv hmc => ?_
    subst hmv
    refine lP pN (k:=lP (pF ty_fl_154_2) (k:=?_))
    refine lO (W_store rfl rfl rfl rfl ty_sc_104 rfl .h1 (by first | decide | (simp [ints]; done) | (simp [ints]; omega)) ?_)
    refine L_nil (qT ?_)
    refine St.res (rs' := [blk b17 [.pointer (some ⟨p, 0, none⟩), .pointer (some ⟨q, 0, none⟩), .slice mb (sg.length + 1) mc, ov, .string (strOfNums ch)] 154, REG p (sg ++ [(x.s.tx.frm, s)]) [], REF q (tg ++ [(x.s.tx.frm, s')]) [], ownS 220 1 (.slice mb (sg.length + 1) mc) (sg.length + 1) (ptrs sg ++ [.pointer (some ⟨s, 0, none⟩)]), ownS 222 1 (ov) (tg.length) (ptrs (tg))]) (Weak.drop (Weak.refl _)) (rR (lM (k:=lM (k:=lP pN (k:=lP (pF ty_fl_154_3) (k:=lV (vB ty_sc_105 .h0) (k:=lM (k:=?_))))))))
    refine lO (W_lit (z := .nilIface) ([.pointer (some ⟨s', 0, none⟩)]) rfl rfl rfl ty_sl_105 ty_lz_105 rfl rfl rfl (by decide) (by decide) (by simp [Value.cells]) (rfl) fun b89 => ?_)
    refine lO (W_append (p := [_, _, _, _, _]) rfl rfl rfl ty_sl_105 ty_ap_105 ty_src_105 rfl rfl rfl (Src.slice (sz := 1) (m := 1) (news := [.pointer (some ⟨s', 0, none⟩)]) (Rds.blk .h0) rfl (by intro v hv; rw [List.mem_singleton] at hv; subst hv; rfl)) (by omega) (by simp only [maxLen]; omega) fun v90 => ?_)
    refine St.ownForm (p := [_, _, _, _, _]) fun ob oc hov hoc => ?_
    subst hov
    refine lP pN (k:=lP (pF ty_fl_154_3) (k:=?_))
    refine lO (W_store rfl rfl rfl rfl ty_sc_105 rfl .h1 (by first | decide | (simp [ints]; done) | (simp [ints]; omega)) ?_)
    refine L_nil (Q_block (qT (rR (lM (k:=?_)))))
    first | (refine L_val rfl rfl rfl (OpP.v (P_addN rfl rfl rfl (by simp only [fits]; omega))) ?_) | (refine L_val rfl rfl rfl (OpP.v (P_add rfl rfl rfl)) ?_)
    refine lA (k:=?_)
    refine L_nil ?_
    exact Q_round (i + 1, .slice mb (sg.length + 1) mc, .slice ob (tg.length + 1) oc, sg ++ [(x.s.tx.frm, s)], tg ++ [(x.s.tx.frm, s')]) (by show (i + 1) ≤ st.length ∧ WOk (entS (st.take (i + 1))) (sg ++ [(x.s.tx.frm, s)]) (tg ++ [(x.s.tx.frm, s')]); exact ⟨by omega, by rw [entS_next hx, if_neg (fun h9 => h9.elim hz hk)]; exact hw.snoc hk s s'⟩) (by show st.length - (i + 1) < st.length - i; omega) (by repeat (first | exact .nil | refine .cons rfl ?_ | refine .consE rfl (by first | rfl | (congr 1; omega) | (congr 1; push_cast; omega)) ?_)) (Weak.drop (Weak.keep (Weak.keep (Weak.keep (Weak.trans (ownS.to1 (by rw [List.length_append]; rfl) (by unfold ptrs; rw [List.map_append]; rfl)) (Weak.keep (ownS.to1 (by rw [List.length_append]; rfl) (by unfold ptrs; rw [List.map_append]; rfl))))))))
 ·skip
  have hin : i = st.length := by omega
  subst hin
  rw [List.take_length] at hw
  refine R_exit (Q_then_exit (Q_then_exit (Q_block_eq ?_)))
  refine St.env (cE 4 rfl (cE 5 rfl (cE 6 rfl .nil))) (qT (rT (lM (k:=lA (k:=lA (k:=?_))))))
  refine lQ (cE 4 rfl (cE 5 rfl .nil)) (R_ret ?_)
  exact R_end (rs2 := _) rfl rfl (.tmp rfl (.tmp rfl .nil)) (⟨b17, p, q, mv, ov, sg, tg, rfl, hw, rfl⟩) (Weak.refl _)
end Go.Proofs.YtcngmkjdpoiiaaaGreatDoor

/- How steps are read. Printed by gen.py. -/
set_option maxRecDepth 100000
namespace Go.Proofs.YtcngmkjdpoiiaaaGreatDoor
open Go Go.RowKit Go.ChangeShapes Go.WideShapes Go.Proofs
theorem cells_stp : Tryz.prog.cellsOf 147 = 28 := by kernel_rfl
theorem fs_stp : fsB Tryz.prog 147 [(3, 0, 1), (67, 1, 22), (4, 23, 1), (23, 24, 1), (26, 25, 1), (26, 26, 1), (23, 27, 1)] = true := by kernel_rfl
def stpOf (a : Int × Tx × Bool × Int × Int × Int × Int × Unit) : Stp := ⟨a.1, a.2.1, a.2.2.1, a.2.2.2.1, a.2.2.2.2.1, a.2.2.2.2.2.1, a.2.2.2.2.2.2.1⟩
def rd_stp := PLift.up (Reads.as (cells' := Stp.cells) (Hd' := fun _ x => x.ok) (bulk' := fun _ => 1) (Small' := fun _ => True) stpOf (Reads.struct fs_stp cells_stp (ReadsF.cons (Reads.int ty_int_3) (ReadsF.cons rd_tx.down (ReadsF.cons (Reads.bool ty_bool_4) (ReadsF.cons (Reads.int ty_int_23) (ReadsF.cons (Reads.int ty_int_26) (ReadsF.cons (Reads.int ty_int_26) (ReadsF.cons (Reads.int ty_int_23) ReadsF.nil)))))))) (fun a => by simp [Stp.cells, stpOf]) (fun W a h => by
 obtain ⟨⟨⟨h0, _⟩, ⟨h1, _⟩, ⟨h2, _⟩, ⟨h3, _⟩, ⟨h4, _⟩, ⟨h5, _⟩, ⟨h6, _⟩, _⟩, _⟩ := h
 exact ⟨h1, fits64 h3, fits64 h4, fits64 h5, fits64 h6⟩) (fun _ => by omega) (fun _ _ => trivial))
end Go.Proofs.YtcngmkjdpoiiaaaGreatDoor

/- The world of the statements: signed. Printed by gen.py. -/
set_option maxRecDepth 100000
namespace Go.Proofs.YtcngmkjdpoiiaaaGreatDoor
open Go Go.RowKit Go.Proofs
/-- A transaction with another seal. -/
def withSeal (x : Tx) (s : List Int) : Tx := ⟨x.kind, x.frm, x.to, x.amt, x.fee, x.non, s⟩
def tx0 : Tx := ⟨0, 0, 0, 0, 0, 0, List.replicate 16 0⟩
def wrongS : List Int := [1, 2, 3, 0, 0, 0, 0, 0, 0, 0, 0, 0, 0, 0, 0, 0]
def sigS (ch : List Int) (x : Tx) (wr : Bool) : List Int := if wr = true then wrongS else sealH x.frm (txbB ch x)
/-- What signed answers, and what is signed behind it. -/
def sgnTx (es : List Int) (ch : List Int) (x : Tx) (wr : Bool) : Tx := if txbE ch x = 0 ∧ x.frm ∈ es then withSeal x (sigS ch x wr) else x
def sgnR (es : List Int) (ch : List Int) (x : Tx) (wr : Bool) (rc : List Rcd) : List Rcd := if (txbE ch x = 0 ∧ x.frm ∈ es) ∧ wr = false then addR rc (x.frm, txbB ch x) else rc
theorem sgnTx_bad {es ch : List Int} {x : Tx} {wr : Bool} (h : txbE ch x ≠ 0) : sgnTx es ch x wr = x := if_neg fun h1 => h h1.1
theorem sgnR_bad {es ch : List Int} {x : Tx} {wr : Bool} {rc : List Rcd} (h : txbE ch x ≠ 0) : sgnR es ch x wr rc = rc := if_neg fun h1 => h h1.1.1
theorem sgnTx_not {es ch : List Int} {x : Tx} {wr : Bool} (h : x.frm ∉ es) : sgnTx es ch x wr = x := if_neg fun h1 => h h1.2
theorem sgnR_not {es ch : List Int} {x : Tx} {wr : Bool} {rc : List Rcd} (h : x.frm ∉ es) : sgnR es ch x wr rc = rc := if_neg fun h1 => h h1.1.2
theorem sgnTx_yes {es ch : List Int} {x : Tx} {wr : Bool} (he : txbE ch x = 0) (h : x.frm ∈ es) : sgnTx es ch x wr = withSeal x (sigS ch x wr) := if_pos ⟨he, h⟩
theorem sgnR_yes {es ch : List Int} {x : Tx} {rc : List Rcd} (he : txbE ch x = 0) (h : x.frm ∈ es) : sgnR es ch x false rc = addR rc (x.frm, txbB ch x) := if_pos ⟨⟨he, h⟩, rfl⟩
theorem sgnR_wrong {es ch : List Int} {x : Tx} {rc : List Rcd} : sgnR es ch x true rc = rc := if_neg fun h => Bool.noConfusion h.2
theorem take_mem {es : List Int} {i : Nat} {a : Int} (h : es[i]? = some a) (f : Int) : f ∈ es.take (i + 1) ↔ f ∈ es.take i ∨ f = a := by
 rw [List.take_add_one, h, List.mem_append]; simp
theorem sgnTx_skip {es : List Int} {i : Nat} {a : Int} (h : es[i]? = some a) {x : Tx} (hn : a ≠ x.frm) (ch : List Int) (wr : Bool) : sgnTx (es.take (i + 1)) ch x wr = sgnTx (es.take i) ch x wr := by
 have : x.frm ∈ es.take (i + 1) ↔ x.frm ∈ es.take i := by rw [take_mem h]; exact ⟨fun h1 => h1.elim id fun h2 => absurd h2.symm hn, .inl⟩
 unfold sgnTx; simp only [this]
theorem sgnR_skip {es : List Int} {i : Nat} {a : Int} (h : es[i]? = some a) {x : Tx} (hn : a ≠ x.frm) (ch : List Int) (wr : Bool) (rc : List Rcd) : sgnR (es.take (i + 1)) ch x wr rc = sgnR (es.take i) ch x wr rc := by
 have : x.frm ∈ es.take (i + 1) ↔ x.frm ∈ es.take i := by rw [take_mem h]; exact ⟨fun h1 => h1.elim id fun h2 => absurd h2.symm hn, .inl⟩
 unfold sgnR; simp only [this]
theorem nodup_take {es : List Int} (hd : es.Nodup) {i : Nat} {a : Int} (h : es[i]? = some a) : a ∉ es.take i := fun hm => by
 obtain ⟨j, hj, e⟩ := List.mem_iff_getElem.1 hm
 rw [List.length_take] at hj
 rw [List.getElem_take] at e
 obtain ⟨hi, e2⟩ := List.getElem?_eq_some_iff.1 h
 exact List.pairwise_iff_getElem.1 hd j i (by omega) hi (by omega) (e.trans e2.symm)
theorem withSeal_cells (x : Tx) (s : List Int) (h1 : x.sg16.length = 16) (h2 : s.length = 16) : splice x.cells 6 (ints .u8 s) = (withSeal x s).cells := by
 have e := splice_at (A := [Value.int .i64 x.kind, .int .u64 x.frm, .int .u64 x.to, .int .u64 x.amt, .int .u64 x.fee, .int .u64 x.non]) (B := ints .u8 x.sg16) (D := []) (news := ints .u8 s) (by rw [ints_length, ints_length, h1, h2])
 rw [List.append_nil, List.append_nil] at e
 exact e
theorem sealH_b (a : Int) (xs : List Int) : IsB (sealH a xs) := fun y hy => isB_sha _ y (List.mem_of_mem_take hy)
theorem sigS_ok (ch : List Int) (x : Tx) (wr : Bool) : IsB (sigS ch x wr) ∧ (sigS ch x wr).length = 16 := by
 unfold sigS; split
 ·exact ⟨by intro y hy; simp only [wrongS, List.mem_cons, List.not_mem_nil, or_false] at hy; omega, rfl⟩
 ·exact ⟨sealH_b _ _, sealH_length _ _⟩
theorem sgnTx_ok (es ch : List Int) {x : Tx} (wr : Bool) (h : x.ok) : (sgnTx es ch x wr).ok := by
 unfold sgnTx; split
 ·exact ⟨h.kind, h.frm, h.to, h.amt, h.fee, h.non, (sigS_ok ch x wr).1, (sigS_ok ch x wr).2⟩
 ·exact h
theorem sgnTx_frm (es ch : List Int) (x : Tx) (wr : Bool) : (sgnTx es ch x wr).frm = x.frm := by unfold sgnTx; split <;> rfl
theorem signed_ok {gl : Nat → Obj} (hG : GlobsR gl) (wb p q : Nat) (mv ov : Value) (sg tg : List (Int × Nat)) (rc : List Rcd) (hrc : rc.length ≤ 4398046511104) (es : List Int) (hw : WOk es sg tg) (hel : es.length ≤ 1300000000000) (ch : List Int) (hcb : IsB ch) (x : Tx) (hx : x.ok) (wr : Bool) : SpecR (cx gl) 64 [.pointer (some ⟨wb, 0, none⟩), .agg x.cells.toArray, .bool wr] (fun _ _ => True) [blk wb [.pointer (some ⟨p, 0, none⟩), .pointer (some ⟨q, 0, none⟩), mv, ov, .string (strOfNums ch)] 154, REG p (sg) (rc), REF q (tg) (rc), ownS 220 1 (mv) (sg.length) (ptrs (sg)), ownS 222 1 (ov) (tg.length) (ptrs (tg))] (.tuple #[.agg (sgnTx es ch x wr).cells.toArray, .bool true]) [blk wb [.pointer (some ⟨p, 0, none⟩), .pointer (some ⟨q, 0, none⟩), mv, ov, .string (strOfNums ch)] 154, REG p (sg) (sgnR es ch x wr rc), REF q (tg) (sgnR es ch x wr rc), ownS 220 1 (mv) (sg.length) (ptrs (sg)), ownS 222 1 (ov) (tg.length) (ptrs (tg))] := by
 refine Spec.enter (C := cx gl) Tryz.func64 rfl 87 rfl rfl fun w0 h0 hsep hsub hpre => ?_
 show St (cx gl) _ [(0, .pointer (some ⟨wb, 0, none⟩)), (1, .agg x.cells.toArray), (2, .bool wr)] _ _
 have hlens := hw.lens
 refine rT ?_
 refine lO (W_box (x.cells) rfl rfl rfl rfl rfl fun b4 => ?_)
 refine lO (W_alloc rfl rfl rfl ty_ze_67 fun b6 => lA (k:=?_))
 refine lQ (cE 0 rfl (cE 2 rfl (cE 4 rfl (cE 6 rfl (cE 7 rfl .nil))))) (rS ?_)
 refine St.res (rs' := [blk wb [.pointer (some ⟨p, 0, none⟩), .pointer (some ⟨q, 0, none⟩), mv, ov, .string (strOfNums ch)] 154, REG p (sg) (rc), REF q (tg) (rc), ownS 220 1 (mv) (sg.length) (ptrs (sg)), ownS 222 1 (ov) (tg.length) (ptrs (tg)), blk b4 x.cells 67, blk b6 tx0.cells 67]) (Weak.pick (p := [_, _]) (Weak.pick (p := [_, _]) (Weak.pick (p := [_, _]) (Weak.pick (p := [_, _]) (Weak.pick (p := [_, _]) (Weak.pick (p := [_]) (Weak.keep (Weak.nil _)))))))) ?_
 refine St.ownForm (p := [_, _, _]) fun mb mc hmv hmc => ?_
 subst hmv
 refine St.ownForm (p := [_, _, _, _]) fun ob oc hov hoc => ?_
 subst hov
 refine R_open [(0, 0), (1, 0), (2, 0), (3, 1), (4, 1), (5, 2), (6, 0), (7, 0), (8, 0), (9, 0), (10, 0)] mixed (by kernel_rfl) (QOk.then QOk.body) (oP rfl pM (k:=oP rfl pN (k:=oP rfl (pF ty_fl_154_4) (k:=oV rfl (vB ty_sc_9 .h0) (k:=?_)))))
 refine oV rfl (V_loadAgg rfl rfl ty_ag_67 (Rds.blk .h5) (hx.cellsLen)) (k:=?_)
 refine O_keep rfl rfl (W_call rfl rfl rfl rfl fn_ca_123 (rtxBytes_ok ch hcb x hx) (Split.nil _) (fun _ _ _ _ _ _ _ => trivial) fun v1 rs1 ⟨u, e1, e2⟩ => ?_)
 subst e1; subst e2
 refine St.ownForm (p := []) fun ub uc huv huc => ?_
 subst huv
 refine K_keep (Weak.drop (Weak.refl _)) (oP rfl pM (k:=oP rfl pX (k:=oP rfl pX (k:=oP rfl pA (k:=oP rfl pA (k:=O_nil ?_))))))
 refine St.env (cE 0 rfl (cE 2 rfl (cE 4 rfl (cE 6 rfl (cE 7 rfl (cE 8 rfl (cE 9 rfl .nil))))))) (qT (rS (rS ?_)))
 refine St.res (rs' := [blk wb [.pointer (some ⟨p, 0, none⟩), .pointer (some ⟨q, 0, none⟩), .slice mb sg.length mc, .slice ob tg.length oc, .string (strOfNums ch)] 154, REG p (sg) (rc), REF q (tg) (rc), ownS 220 1 (.slice mb sg.length mc) (sg.length) (ptrs (sg)), ownS 222 1 (.slice ob tg.length oc) (tg.length) (ptrs (tg)), blk b4 x.cells 67, blk b6 tx0.cells 67, ownS 5 1 (.slice ub (txbB ch x).length uc) ((txbB ch x).length) (ints .u8 (txbB ch x))]) (Weak.pick (p := [_]) (Weak.pick (p := [_]) (Weak.pick (p := [_]) (Weak.pick (p := [_]) (Weak.pick (p := [_]) (Weak.pick (p := [_]) (Weak.pick (p := [_]) (Weak.keep (Weak.nil _))))))))) (rR (lM (k:=lP pNe (k:=?_))))
 refine lQ (cE 0 rfl (cE 2 rfl (cE 4 rfl (cE 6 rfl (cE 7 rfl (cE 8 rfl (cE 25 rfl .nil))))))) ?_
 refine R_condP rfl (fun he => ?_) (fun he => ?_)
 ·skip
  refine rT ?_
  refine lV (V_loadAgg rfl rfl ty_ag_67 (Rds.blk .h5) (hx.cellsLen)) (k:=?_)
  refine lO (W_storeAll rfl rfl rfl rfl ty_ag_67 (hx.cellsLen) (Tx.one x) .h6 (hx.cellsLen) (lA (k:=?_)))
  refine lQ (cE 0 rfl (cE 2 rfl (cE 4 rfl (cE 6 rfl (cE 7 rfl (cE 8 rfl .nil)))))) (R_ret (Q_then_ret ?_))
  exact R_end (rs2 := _) rfl rfl (.cell rfl (Rds.loadVar ty_ag_67 (Rds.blk .h6) hx.cellsLen) (.tmp rfl .nil)) (⟨by rw [sgnTx_bad he]; rfl, rfl⟩) (by rw [sgnR_bad he]; exact Weak.keep (Weak.keep (Weak.keep (Weak.keep (Weak.keep (Weak.nil _))))))
 ·skip
  have he : txbE ch x = 0 := Classical.not_not.1 he
  have htl := txbB_len ch x
  refine R_skip (qT (rS (rT (lA (k:=?_)))))
  refine lQ (cE 0 rfl (cE 2 rfl (cE 4 rfl (cE 6 rfl (cE 7 rfl (cE 8 rfl (cE 10 rfl .nil))))))) (R_block ?_)
  refine R_loopE (G := Nat) (cE 0 rfl (cE 2 rfl (cE 4 rfl (cE 6 rfl (cE 7 rfl (cE 8 rfl .nil)))))) (fun g => [(10, .int .i64 ((g : Int)))]) (fun g => [blk wb [.pointer (some ⟨p, 0, none⟩), .pointer (some ⟨q, 0, none⟩), .slice mb sg.length mc, .slice ob tg.length oc, .string (strOfNums ch)] 154, REG p (sg) ((sgnR (es.take (g)) ch x wr rc)), REF q (tg) ((sgnR (es.take (g)) ch x wr rc)), ownS 220 1 (.slice mb sg.length mc) (sg.length) (ptrs (sg)), ownS 222 1 (.slice ob tg.length oc) (tg.length) (ptrs (tg)), blk b4 (sgnTx (es.take (g)) ch x wr).cells 67, blk b6 tx0.cells 67, ownS 5 1 (.slice ub (txbB ch x).length uc) ((txbB ch x).length) (ints .u8 (txbB ch x))]) (fun g => g ≤ es.length) (fun g => es.length - g) (0) (Nat.zero_le _) (by repeat (first | exact .nil | refine .cons rfl ?_ | refine .consE rfl (by first | rfl | (congr 1; omega) | (congr 1; push_cast; omega)) ?_)) (by rw [sgnTx_not (es := es.take 0) (by simp), sgnR_not (es := es.take 0) (by simp)]; exact Weak.refl _) ?_
  intro i hinv
  replace hinv : i ≤ es.length := hinv
  show St (cx gl) _ ((10, .int .i64 ((i : Int))) :: _) [blk wb [.pointer (some ⟨p, 0, none⟩), .pointer (some ⟨q, 0, none⟩), .slice mb sg.length mc, .slice ob tg.length oc, .string (strOfNums ch)] 154, REG p (sg) ((sgnR (es.take (i)) ch x wr rc)), REF q (tg) ((sgnR (es.take (i)) ch x wr rc)), ownS 220 1 (.slice mb sg.length mc) (sg.length) (ptrs (sg)), ownS 222 1 (.slice ob tg.length oc) (tg.length) (ptrs (tg)), blk b4 (sgnTx (es.take (i)) ch x wr).cells 67, blk b6 tx0.cells 67, ownS 5 1 (.slice ub (txbB ch x).length uc) ((txbB ch x).length) (ints .u8 (txbB ch x))] _
  have hi := hinv
  refine rS (rT (lM (k:=lM (k:=lP pN (k:=lP (pF ty_fl_154_3) (k:=lV (vB ty_sc_105 .h0) (k:=lP (pL ty_sl_105) (k:=lP pLt (k:=?_)))))))))
  refine L_nil (qT ?_)
  refine R_condP rfl (fun hlt => ?_) (fun hlt => ?_)
  ·skip
   have hil : i < es.length := by omega
   obtain ⟨⟨a, s'⟩, ht⟩ : ∃ y, tg[i]? = some y := ⟨_, List.getElem?_eq_getElem (by omega)⟩
   obtain ⟨⟨a', s⟩, hs⟩ : ∃ y, sg[i]? = some y := ⟨_, List.getElem?_eq_getElem (by omega)⟩
   have hes : es[i]? = some a := by rw [← hw.tg, List.getElem?_map, ht]; rfl
   have hes2 : es[i]? = some a' := by rw [← hw.sg, List.getElem?_map, hs]; rfl
   obtain rfl : a = a' := by rw [hes] at hes2; exact Option.some.inj hes2
   refine St.ownSome (p := [_, _, _]) (by omega) fun mbb mbc hq _ => ?_
   simp only [Value.slice.injEq] at hq
   obtain ⟨rfl, _, rfl⟩ := hq
   refine St.ownSome (p := [_, _, _, _]) (by omega) fun obb obc hq _ => ?_
   simp only [Value.slice.injEq] at hq
   obtain ⟨rfl, _, rfl⟩ := hq
   refine R_skip (qT (rS (R_block (rS (rS ?_)))))
   refine R_open [(0, 0), (1, 0), (2, 0), (3, 1), (4, 0), (5, 0), (6, 1), (8, 0), (9, 1), (7, 2), (10, 0)] mixed (by kernel_rfl) (QOk.then (QOk.then (QOk.block (QOk.then (QOk.then (QOk.block (QOk.then QOk.body))))))) (oP rfl pM (k:=oP rfl pN (k:=oP rfl (pF ty_fl_154_3) (k:=oV rfl (vB ty_sc_105 .h0) (k:=oP rfl pM (k:=?_))))))
   refine oP rfl (P_ixs (i) rfl ty_sl_105 rfl rfl (by first | rfl | omega) (by omega)) (k:=?_)
   refine oV rfl (V_load rfl rfl ty_sc_222 (rd_own1 .h4 (ptrs_at ht))) (k:=oP rfl (pF ty_fl_67_1) (k:=oV rfl (vB ty_sc_26 .h5) (k:=?_)))
   refine O_keep rfl rfl (W_callR rfl rfl rfl rfl fn_ca_151 (raddr_ok q tg _ i a s' ht) (Split.one (p := [_, _])) (fun _ _ _ _ _ _ _ => trivial) (K_keep (Weak.pick (p := [_]) (Weak.pick (p := [_]) (Weak.keep (Weak.keep (Weak.keep (Weak.keep (Weak.keep (Weak.keep (Weak.nil _))))))))) (oP rfl pNe (k:=O_nil (qT ?_)))))
   refine R_condP rfl (fun hne => ?_) (fun hne => ?_)
   ·skip
    have hne : a ≠ x.frm := by rw [sgnTx_frm] at hne; exact hne
    refine St.res (rs' := [blk wb [.pointer (some ⟨p, 0, none⟩), .pointer (some ⟨q, 0, none⟩), .slice (some ⟨mbb, 0, none⟩) sg.length mc, .slice (some ⟨obb, 0, none⟩) tg.length oc, .string (strOfNums ch)] 154, REG p (sg) ((sgnR (es.take (i)) ch x wr rc)), REF q (tg) ((sgnR (es.take (i)) ch x wr rc)), ownS 220 1 (.slice (some ⟨mbb, 0, none⟩) sg.length mc) (sg.length) (ptrs (sg)), ownS 222 1 (.slice (some ⟨obb, 0, none⟩) tg.length oc) (tg.length) (ptrs (tg)), blk b4 (sgnTx (es.take (i)) ch x wr).cells 67, blk b6 tx0.cells 67, ownS 5 1 (.slice ub (txbB ch x).length uc) ((txbB ch x).length) (ints .u8 (txbB ch x))]) (Weak.pick (p := [_]) (Weak.pick (p := [_]) (Weak.keep (Weak.keep (Weak.keep (Weak.keep (Weak.keep (Weak.keep (Weak.nil _))))))))) (R_exit (Q_then_exit (Q_block_eq (qT (rR (lM (k:=?_)))))))
    first | (refine L_val rfl rfl rfl (OpP.v (P_addN rfl rfl rfl (by simp only [fits]; omega))) ?_) | (refine L_val rfl rfl rfl (OpP.v (P_add rfl rfl rfl)) ?_)
    refine lA (k:=?_)
    refine L_nil ?_
    exact Q_round (i + 1) (by omega) (by show es.length - (i + 1) < es.length - i; omega) (by repeat (first | exact .nil | refine .cons rfl ?_ | refine .consE rfl (by first | rfl | (congr 1; omega) | (congr 1; push_cast; omega)) ?_)) (by rw [sgnTx_skip hes hne, sgnR_skip hes hne]; exact Weak.refl _)
   ·skip
    have hne : a = x.frm := by rw [sgnTx_frm] at hne; exact Classical.not_not.1 hne
    subst hne
    have hni := nodup_take hw.nd hes
    have hin := (take_mem hes x.frm).2 (.inr rfl)
    refine St.res (rs' := [blk wb [.pointer (some ⟨p, 0, none⟩), .pointer (some ⟨q, 0, none⟩), .slice (some ⟨mbb, 0, none⟩) sg.length mc, .slice (some ⟨obb, 0, none⟩) tg.length oc, .string (strOfNums ch)] 154, REG p (sg) (rc), REF q (tg) (rc), ownS 220 1 (.slice (some ⟨mbb, 0, none⟩) sg.length mc) (sg.length) (ptrs (sg)), ownS 222 1 (.slice (some ⟨obb, 0, none⟩) tg.length oc) (tg.length) (ptrs (tg)), blk b4 x.cells 67, blk b6 tx0.cells 67, ownS 5 1 (.slice ub (txbB ch x).length uc) ((txbB ch x).length) (ints .u8 (txbB ch x))]) (by rw [sgnTx_not hni, sgnR_not hni]; exact Weak.pick (p := [_]) (Weak.pick (p := [_]) (Weak.keep (Weak.keep (Weak.keep (Weak.keep (Weak.keep (Weak.keep (Weak.nil _))))))))) (R_skip (qT (rT (lM (k:=lP pO (k:=?_))))))
    refine L_nil (qT ?_)
    refine R_cond rfl (fun hw2 => ?_) (fun hw2 => ?_)
    ·skip
     have hw2 : wr = false := by simpa using hw2
     refine rT (lM (k:=lP pN (k:=lP (pF ty_fl_154_2) (k:=lV (vB ty_sc_104 .h0) (k:=lM (k:=?_))))))
     refine lP (P_ixs (i) rfl ty_sl_104 rfl rfl (by first | rfl | omega) (by omega)) (k:=?_)
     refine lV (V_load rfl rfl ty_sc_220 (rd_own1 .h3 (ptrs_at hs))) (k:=lM (k:=?_))
     refine lO (W_callR rfl rfl rfl rfl fn_ca_125 (sign_any hG.toGlobs p sg rc i x.frm s hs ub uc (txbB ch x) (txbB_b hcb hx) (by omega) hrc) (Split.one (p := [_])) (Sn.pre (Sn.own .h6 rfl)) ?_)
     refine St.res (rs' := [blk wb [.pointer (some ⟨p, 0, none⟩), .pointer (some ⟨q, 0, none⟩), .slice (some ⟨mbb, 0, none⟩) sg.length mc, .slice (some ⟨obb, 0, none⟩) tg.length oc, .string (strOfNums ch)] 154, REG p (sg) (addR rc (x.frm, txbB ch x)), REF q (tg) (rc), ownS 220 1 (.slice (some ⟨mbb, 0, none⟩) sg.length mc) (sg.length) (ptrs (sg)), ownS 222 1 (.slice (some ⟨obb, 0, none⟩) tg.length oc) (tg.length) (ptrs (tg)), blk b4 x.cells 67, blk b6 tx0.cells 67, ownS 5 1 (.slice ub (txbB ch x).length uc) ((txbB ch x).length) (ints .u8 (txbB ch x))]) (Weak.pick (p := [_]) (Weak.keep (Weak.keep (Weak.keep (Weak.keep (Weak.keep (Weak.keep (Weak.keep (Weak.nil _))))))))) (lM (k:=lP pX (k:=lP pX (k:=?_))))
     refine lO (W_alloc rfl rfl rfl ty_ze_65 fun b11 => ?_)
     refine lO (W_storeAll rfl rfl rfl rfl ty_ag_65 (by rw [ints_length, sealH_length]) (ints_one) .h0 (by rw [ints_length, sealH_length]; rfl) (lA (k:=?_)))
     refine L_nil (qT (rT (lM (k:=lP pN (k:=lP (pF ty_fl_154_3) (k:=lV (vB ty_sc_105 .h1) (k:=lM (k:=?_))))))))
     refine lP (P_ixs (i) rfl ty_sl_105 rfl rfl (by first | rfl | omega) (by omega)) (k:=?_)
     refine lV (V_load rfl rfl ty_sc_222 (rd_own1 .h5 (ptrs_at ht))) (k:=lM (k:=?_))
     refine lO (W_callR rfl rfl rfl rfl fn_ca_126 (rsign_any hG q tg rc i x.frm s' ht ub uc (txbB ch x) (txbB_b hcb hx) (by omega) hrc) (Split.one (p := [_, _, _])) (Sn.pre (Sn.own .h7 rfl)) ?_)
     refine St.res (rs' := [blk b11 (ints .u8 (sealH x.frm (txbB ch x))) 65, blk wb [.pointer (some ⟨p, 0, none⟩), .pointer (some ⟨q, 0, none⟩), .slice (some ⟨mbb, 0, none⟩) sg.length mc, .slice (some ⟨obb, 0, none⟩) tg.length oc, .string (strOfNums ch)] 154, REG p (sg) (addR rc (x.frm, txbB ch x)), REF q (tg) (addR rc (x.frm, txbB ch x)), ownS 220 1 (.slice (some ⟨mbb, 0, none⟩) sg.length mc) (sg.length) (ptrs (sg)), ownS 222 1 (.slice (some ⟨obb, 0, none⟩) tg.length oc) (tg.length) (ptrs (tg)), blk b4 x.cells 67, blk b6 tx0.cells 67, ownS 5 1 (.slice ub (txbB ch x).length uc) ((txbB ch x).length) (ints .u8 (txbB ch x))]) (Weak.pick (p := [_]) (Weak.pick (p := [_]) (Weak.pick (p := [_]) (Weak.keep (Weak.keep (Weak.keep (Weak.keep (Weak.keep (Weak.keep (Weak.nil _)))))))))) (lM (k:=lP pX (k:=lP pX (k:=?_))))
     refine lO (W_alloc rfl rfl rfl ty_ze_65 fun b13 => ?_)
     refine lO (W_storeAll rfl rfl rfl rfl ty_ag_65 (by rw [ints_length, sealH_length]) (ints_one) .h0 (by rw [ints_length, sealH_length]; rfl) (lA (k:=?_)))
     refine L_nil (qT (rS (rT ?_)))
     refine lV (V_loadAgg rfl rfl ty_ag_65 (Rds.blk .h1) (by rw [ints_length, sealH_length])) (k:=?_)
     refine lV (V_loadAgg rfl rfl ty_ag_65 (Rds.blk .h0) (by rw [ints_length, sealH_length])) (k:=?_)
     refine lP (P_neArr rfl rfl rfl ty_un_65 ty_int_5 ty_sc_5 ty_eg_65 (sealH_length _ _) (sealH_length _ _)) (k:=?_)
     refine E_false (t := 75) rfl (decide_eq_false (fun h => h rfl)) (lM (k:=lM (k:=lM (k:=lP pNe (k:=?_)))))
     refine E_false (t := 79) rfl (decide_eq_false (fun h => h rfl)) (lP pK (k:=?_))
     refine L_nil (qT (kF (k:=R_skip (qT (rR ?_)))))
     refine lV (V_loadAgg rfl rfl ty_ag_65 (Rds.blk .h0) (by rw [ints_length, sealH_length])) (k:=lP (pF ty_fl_67_6) (k:=?_))
     refine lO (W_storeAgg rfl rfl rfl rfl ty_ag_65 (by rw [ints_length, sealH_length]) (ints_one) .h7 (by rw [ints_length, sealH_length, hx.cellsLen]; decide) ?_)
     refine L_nil (Q_block (qT (rR (lM (k:=?_)))))
     first | (refine L_val rfl rfl rfl (OpP.v (P_addN rfl rfl rfl (by simp only [fits]; omega))) ?_) | (refine L_val rfl rfl rfl (OpP.v (P_add rfl rfl rfl)) ?_)
     refine lA (k:=?_)
     refine L_nil ?_
     exact Q_round (i + 1) (by omega) (by show es.length - (i + 1) < es.length - i; omega) (by repeat (first | exact .nil | refine .cons rfl ?_ | refine .consE rfl (by first | rfl | (congr 1; omega) | (congr 1; push_cast; omega)) ?_)) (by subst hw2; rw [sgnTx_yes he hin, sgnR_yes he hin, ← withSeal_cells x (sigS ch x false) hx.len (sigS_ok ch x false).2]; exact Weak.drop (Weak.drop (Weak.refl _)))
    ·skip
     have hw2 : wr = true := by simpa using hw2
     refine rR ?_
     refine lP (P_buildArrR rfl ty_ar_65 ty_ze_65 rfl rfl rfl (by first | decide | (simp only [List.length_cons, List.length_nil]; omega)) (by simp [Value.oneCell'])) (k:=?_)
     refine E_as (t := 84) (v' := .agg (ints .u8 (wrongS)).toArray) rfl (rfl) (lP (pF ty_fl_67_6) (k:=?_))
     refine lO (W_storeAgg rfl rfl rfl rfl ty_ag_65 (rfl) (ints_one) .h5 (by rw [hx.cellsLen]; decide) ?_)
     refine L_nil (Q_block (qT (rR (lM (k:=?_)))))
     first | (refine L_val rfl rfl rfl (OpP.v (P_addN rfl rfl rfl (by simp only [fits]; omega))) ?_) | (refine L_val rfl rfl rfl (OpP.v (P_add rfl rfl rfl)) ?_)
     refine lA (k:=?_)
     refine L_nil ?_
     exact Q_round (i + 1) (by omega) (by show es.length - (i + 1) < es.length - i; omega) (by repeat (first | exact .nil | refine .cons rfl ?_ | refine .consE rfl (by first | rfl | (congr 1; omega) | (congr 1; push_cast; omega)) ?_)) (by subst hw2; rw [sgnTx_yes he hin, sgnR_wrong, ← withSeal_cells x (sigS ch x true) hx.len (sigS_ok ch x true).2]; exact Weak.refl _)
  ·skip
   obtain rfl : i = es.length := by omega
   refine St.res (rs' := [blk wb [.pointer (some ⟨p, 0, none⟩), .pointer (some ⟨q, 0, none⟩), .slice mb sg.length mc, .slice ob tg.length oc, .string (strOfNums ch)] 154, REG p (sg) ((sgnR es ch x wr rc)), REF q (tg) ((sgnR es ch x wr rc)), ownS 220 1 (.slice mb sg.length mc) (sg.length) (ptrs (sg)), ownS 222 1 (.slice ob tg.length oc) (tg.length) (ptrs (tg)), blk b4 (sgnTx es ch x wr).cells 67, blk b6 tx0.cells 67, ownS 5 1 (.slice ub (txbB ch x).length uc) ((txbB ch x).length) (ints .u8 (txbB ch x))]) (by rw [List.take_length]; exact Weak.refl _) (R_exit (Q_then_exit (Q_then_exit (Q_block_eq ?_))))
   refine St.env (cE 4 rfl (cE 6 rfl (cE 7 rfl .nil))) (qT (rT ?_))
   refine lV (V_loadAgg rfl rfl ty_ag_67 (Rds.blk .h5) ((sgnTx_ok es ch wr hx).cellsLen)) (k:=?_)
   refine lO (W_storeAll rfl rfl rfl rfl ty_ag_67 ((sgnTx_ok es ch wr hx).cellsLen) (Tx.one _) .h6 ((sgnTx_ok es ch wr hx).cellsLen) (lA (k:=?_)))
   refine lQ (cE 6 rfl (cE 7 rfl .nil)) (R_ret ?_)
   exact R_end (rs2 := _) rfl rfl (.cell rfl (Rds.loadVar ty_ag_67 (Rds.blk .h6) (sgnTx_ok es ch wr hx).cellsLen) (.tmp rfl .nil)) (⟨rfl, rfl⟩) (Weak.keep (Weak.keep (Weak.keep (Weak.keep (Weak.keep (Weak.nil _))))))
end Go.Proofs.YtcngmkjdpoiiaaaGreatDoor

/- Plain: two transactions of unlike senders, their accounts. Printed by gen.py. -/
set_option maxRecDepth 100000
namespace Go.Proofs.YtcngmkjdpoiiaaaGreatDoor
open Go Go.RowKit Go.Proofs
/-- The account of an address is changed; where there is none, one of nothing is. -/
def updR : List Acc → Int → (Acc → Acc) → List Acc
 | [], a, f => [f ⟨a, 0, 0, 0, false⟩]
 | x :: l, a, f => if x.a = a then f x :: l else if a < x.a then f ⟨a, 0, 0, 0, false⟩ :: x :: l else x :: updR l a f
/-- A change keeps addresses. -/
def Keeps (f : Acc → Acc) : Prop := ∀ x, (f x).a = x.a
/-- Addresses rise. -/
def Up (l : List Acc) : Prop := l.Pairwise fun x y => x.a < y.a
theorem updR_mem {f : Acc → Acc} {a : Int} : ∀ {l : List Acc} {y : Acc}, y ∈ updR l a f → y ∈ l ∨ ∃ x, (x ∈ l ∨ x = ⟨a, 0, 0, 0, false⟩) ∧ x.a = a ∧ y = f x
 | [], y, h => .inr ⟨_, .inr rfl, rfl, by simpa [updR] using h⟩
 | x :: l, y, h => by
  rw [updR] at h
  split at h
  ·rcases List.mem_cons.1 h with rfl | h
   ·exact .inr ⟨x, .inl (List.mem_cons_self ..), by assumption, rfl⟩
   ·exact .inl (List.mem_cons_of_mem _ h)
  ·split at h
   ·rcases List.mem_cons.1 h with rfl | h
    ·exact .inr ⟨_, .inr rfl, rfl, rfl⟩
    ·exact .inl h
   ·rcases List.mem_cons.1 h with rfl | h
    ·exact .inl (List.mem_cons_self ..)
    ·rcases updR_mem h with h | ⟨z, h1, h2, h3⟩
     ·exact .inl (List.mem_cons_of_mem _ h)
     ·exact .inr ⟨z, h1.imp (List.mem_cons_of_mem _) id, h2, h3⟩
theorem updR_up {f : Acc → Acc} (hf : Keeps f) {a : Int} : ∀ {l : List Acc}, Up l → Up (updR l a f)
 | [], _ => List.pairwise_singleton ..
 | x :: l, h => by
  obtain ⟨h1, h2⟩ := List.pairwise_cons.1 h
  rw [updR]
  split
  ·exact List.pairwise_cons.2 ⟨fun y hy => by rw [hf]; exact h1 y hy, h2⟩
  ·split
   ·refine List.pairwise_cons.2 ⟨fun y hy => ?_, h⟩
    rw [hf]
    rcases List.mem_cons.1 hy with rfl | hy
    ·assumption
    ·have := h1 y hy; show a < y.a; omega
   ·refine List.pairwise_cons.2 ⟨fun y hy => ?_, updR_up hf h2⟩
    rcases updR_mem hy with hy | ⟨z, _, e1, rfl⟩
    ·exact h1 y hy
    ·rw [hf, e1]; omega
theorem updR_ok {f : Acc → Acc} (hf : ∀ x, x.ok → (f x).ok) {a : Int} (ha : u64 a) {l : List Acc} (h : ∀ x ∈ l, x.ok) : ∀ x ∈ updR l a f, x.ok := fun y hy => by
 rcases updR_mem hy with hy | ⟨z, hz, _, rfl⟩
 ·exact h y hy
 ·refine hf z (hz.elim (h z) fun e => ?_)
  subst e; exact ⟨ha, ⟨Int.le_refl 0, show (0 : Int) ≤ 18446744073709551615 by decide⟩, ⟨Int.le_refl 0, show (0 : Int) ≤ 18446744073709551615 by decide⟩, ⟨Int.le_refl 0, show (0 : Int) ≤ 18446744073709551615 by decide⟩⟩
theorem updR_has {f : Acc → Acc} (hf : Keeps f) {a b : Int} : ∀ {l : List Acc}, (∃ x ∈ l, x.a = b) → ∃ x ∈ updR l a f, x.a = b
 | x :: l, ⟨y, hy, e⟩ => by
  rw [updR]
  split
  ·rcases List.mem_cons.1 hy with rfl | hy
   ·exact ⟨_, List.mem_cons_self .., by rw [hf, e]⟩
   ·exact ⟨y, List.mem_cons_of_mem _ hy, e⟩
  ·split
   ·exact ⟨y, List.mem_cons_of_mem _ hy, e⟩
   ·rcases List.mem_cons.1 hy with rfl | hy
    ·exact ⟨y, List.mem_cons_self .., e⟩
    ·obtain ⟨z, hz, e2⟩ := updR_has hf (l := l) ⟨y, hy, e⟩
     exact ⟨z, List.mem_cons_of_mem _ hz, e2⟩
 | [], ⟨_, hy, _⟩ => by cases hy
theorem spot_up {l : List Acc} (h : Up l) (a : Int) : (∀ i, i < spotI l a → (accAt l i).a < a) ∧ (∀ i, spotI l a ≤ i → i < l.length → a ≤ (accAt l i).a) := by
 obtain ⟨h1, h2⟩ := bsN_spec (p := fun i => decide ((accAt l i).a < a)) l.length 0 l.length (Nat.le_refl _) (Nat.zero_le _) fun i j _ hij hj hp => by
  have h3 := List.pairwise_iff_getElem.1 h i j (by omega) hj hij
  rw [accAt_of (List.getElem?_eq_getElem (show i < l.length by omega))]
  rw [accAt_of (List.getElem?_eq_getElem hj)] at hp
  exact decide_eq_true (Int.lt_trans h3 (of_decide_eq_true hp))
 exact ⟨fun i hi => of_decide_eq_true (h1 i (Nat.zero_le _) hi), fun i hi hn => Int.not_lt.1 (of_decide_eq_false (h2 i hi hn))⟩
theorem upd_set {f : Acc → Acc} {a : Int} : ∀ {l : List Acc} {i : Nat}, (∀ j, j < i → (accAt l j).a < a) → i < l.length → (accAt l i).a = a → l.set i (f (accAt l i)) = updR l a f
 | [], i, _, h, _ => by simp at h
 | x :: l, 0, _, _, e => by rw [updR, if_pos (show x.a = a from e)]; rfl
 | x :: l, i + 1, h, hi, e => by
  have h0 : x.a < a := h 0 (Nat.succ_pos _)
  rw [updR, if_neg (by omega), if_neg (by omega)]
  exact congrArg (x :: ·) (upd_set (l := l) (i := i) (fun j hj => h (j + 1) (by omega)) (by simpa using hi) e)
theorem upd_ins {f : Acc → Acc} {a : Int} : ∀ {l : List Acc} {i : Nat}, (∀ j, j < i → (accAt l j).a < a) → (∀ j, i ≤ j → j < l.length → a < (accAt l j).a) → i ≤ l.length → insL l i (f ⟨a, 0, 0, 0, false⟩) = updR l a f
  | [], i, _, _, h => by obtain rfl : i = 0 := by simpa using h
                         rfl
  | x :: l, 0, _, h, _ => by
    have h0 : a < x.a := h 0 (Nat.le_refl _) (Nat.succ_pos _)
    rw [updR, if_neg (by omega), if_pos h0]; rfl
  | x :: l, i + 1, h, h2, hi => by
    have h0 : x.a < a := h 0 (Nat.succ_pos _)
    rw [updR, if_neg (by omega), if_neg (by omega)]
    exact congrArg (x :: ·) (upd_ins (l := l) (i := i) (fun j hj => h (j + 1) (by omega)) (fun j h3 h4 => h2 (j + 1) (by omega) (by simpa using h4)) (by simpa using hi))
theorem spotB_at {l : List Acc} {a : Int} (h : spotB l a = true) : spotI l a < l.length ∧ (accAt l (spotI l a)).a = a := by unfold spotB at h; rwa [Bool.and_eq_true, decide_eq_true_eq, decide_eq_true_eq] at h
theorem upd_yes {l : List Acc} (h : Up l) {a : Int} (hb : spotB l a = true) (f : Acc → Acc) : l.set (spotI l a) (f (accAt l (spotI l a))) = updR l a f :=
 upd_set (spot_up h a).1 (spotB_at hb).1 (spotB_at hb).2
theorem spotB_has {l : List Acc} (h : Up l) {a : Int} : spotB l a = true ↔ ∃ x ∈ l, x.a = a := by
 refine ⟨fun hb => ⟨_, accAt_mem (spotB_at hb).1, (spotB_at hb).2⟩, fun ⟨x, hx, e⟩ => ?_⟩
 obtain ⟨i, hi, e2⟩ := List.mem_iff_getElem.1 hx
 have e3 : (accAt l i).a = a := by rw [accAt_of (List.getElem?_eq_getElem hi), e2]; exact e
 obtain ⟨h1, h2⟩ := spot_up h a
 have h4 : spotI l a ≤ i := Nat.not_lt.1 fun h5 => by have := h1 i h5; omega
 have h5 := h2 _ (Nat.le_refl _) (show spotI l a < l.length by omega)
 unfold spotB
 rw [Bool.and_eq_true, decide_eq_true_eq, decide_eq_true_eq]
 refine ⟨by omega, ?_⟩
 rcases Nat.lt_or_ge (spotI l a) i with h6 | h6
 ·have h7 := List.pairwise_iff_getElem.1 h _ i (by omega) hi h6
  rw [← accAt_of (List.getElem?_eq_getElem (show spotI l a < l.length by omega)), ← accAt_of (List.getElem?_eq_getElem hi)] at h7
  omega
 ·rw [show spotI l a = i by omega]; exact e3
theorem upd_no {l : List Acc} (h : Up l) {a : Int} (hb : spotB l a = false) (f : Acc → Acc) : insL l (spotI l a) (f ⟨a, 0, 0, 0, false⟩) = updR l a f := by
 refine upd_ins (spot_up h a).1 (fun j h1 h2 => ?_) (spotI_le l a)
 have h3 := (spot_up h a).2 j h1 h2
 rcases Int.lt_or_eq_of_le h3 with h4 | h4
 ·exact h4
 ·have := (spotB_has h).2 ⟨_, accAt_mem h2, h4.symm⟩
  rw [hb] at this; cases this
theorem accFine_up {l : List Acc} (h : AccFine l) : Up l := List.pairwise_iff_getElem.2 fun i j hi hj hij => by
 have := h.mono i j hij hj
 rwa [accAt_of (List.getElem?_eq_getElem hi), accAt_of (List.getElem?_eq_getElem hj)] at this
/-! ### What a transaction does -/
theorem w64_eq (x : Int) : w64 x = x % 18446744073709551616 := by unfold w64; simp only [IntKind.wrap, IntKind.signed, IntKind.bits, Bool.false_and, Bool.false_eq_true, if_false]; rfl
theorem w64_id {x : Int} (h : u64 x) : w64 x = x := by obtain ⟨h1, h2⟩ := h; rw [w64_eq]; omega
theorem w64_ok (x : Int) : u64 (w64 x) := by rw [w64_eq]; exact ⟨by omega, by omega⟩
/-- What the sender's account becomes. -/
def payK (x : Tx) (A : Acc) : Acc := ⟨A.a, w64 (A.bal + -costI x), if x.kind = 2 then w64 (A.bond + x.amt) else if x.kind = 3 then w64 (A.bond - x.amt) else A.bond, w64 (A.non + 1), if x.kind = 4 then false else A.jail⟩
def toK (x : Tx) (l : List Acc) : List Acc := if x.kind = 1 then updR l x.to (addBal x.amt) else l
theorem keeps_pay (x : Tx) : Keeps (payK x) := fun _ => rfl
theorem keeps_add (n : Int) : Keeps (addBal n) := fun _ => rfl
theorem ok_add (n : Int) (x : Acc) (h : x.ok) : (addBal n x).ok := ⟨h.1, w64_ok _, h.2.2.1, h.2.2.2⟩
theorem ok_pay (x : Tx) (A : Acc) (h : A.ok) : (payK x A).ok := ⟨h.1, w64_ok _, by show u64 (if _ then _ else _); split; exact w64_ok _; split; exact w64_ok _; exact h.2.2.1, w64_ok _⟩
theorem pay_mid {l : List Acc} (h : Up l) (a n : Int) : payP l a n = updR l a (addBal n) := by
 unfold payP midA
 cases hb : spotB l a with
 | true => rw [if_pos rfl]; exact upd_yes h hb _
 | false =>
  rw [if_neg (by decide), ← upd_no h hb]
  have hi := spotI_le l a
  have e : (insL l (spotI l a) ⟨a, 0, 0, 0, false⟩)[spotI l a]? = some ⟨a, 0, 0, 0, false⟩ := by
   unfold insL; rw [List.getElem?_append_right (by rw [List.length_take]; omega), List.length_take, Nat.min_eq_left hi, Nat.sub_self]; rfl
  rw [accAt_of e]
  unfold insL
  rw [List.set_append_right _ _ (by rw [List.length_take]; omega), List.length_take, Nat.min_eq_left hi, Nat.sub_self]; rfl
/-- Behind a transaction that Check lets, the accounts are these. -/
theorem accK_eq {rc : List Rcd} {ch : List Int} {L : Led} {p : Par} {h : Int} {x : Tx} (hu : Up L.acc) (hok : ∀ y ∈ L.acc, y.ok) (hx : x.ok) (hc : ChkFine rc ch L p h x) : accK L x = toK x (updR L.acc x.frm (payK x)) := by
 have hF := txFine_of (txbE_fine hc.tx).2
 have hlt := (spotB_at hc.frm).1
 have hA : (senderA L x).ok := hok _ (accAt_mem hlt)
 obtain ⟨⟨ha0, ha1⟩, ⟨hb0, hb1⟩, ⟨hd0, hd1⟩, ⟨hn0, hn1⟩⟩ := hA
 have hcost : 0 ≤ costI x := by unfold costI; have := hx.fee.1; have := hx.amt.1; split <;> omega
 have hbal := hc.bal
 have hn := hc.non
 have hn2 := hc.top
 have e1 : w64 ((senderA L x).bal + -costI x) = (senderA L x).bal - costI x := w64_id ⟨by omega, by omega⟩
 have e2 : w64 ((senderA L x).non + 1) = (senderA L x).non + 1 := w64_id ⟨by omega, by omega⟩
 have key : ∀ (f : Acc → Acc), f (senderA L x) = payK x (senderA L x) → L.acc.set (spotI L.acc x.frm) (f (senderA L x)) = updR L.acc x.frm (payK x) := fun f hf => by rw [hf]; exact upd_yes hu hc.frm _
 unfold accK toK
 by_cases k1 : x.kind = 1
 ·rw [if_pos k1, if_pos k1]
  have := key (payer x) (by unfold payer payK; rw [e1, e2, if_neg (by omega), if_neg (by omega), if_neg (by omega)])
  unfold paidL
  rw [this]
  exact pay_mid (updR_up (keeps_pay _) hu) _ _
 ·rw [if_neg k1, if_neg k1]
  by_cases k2 : x.kind = 2
  ·rw [if_pos k2]; exact key (fun A => addBond x.amt (payer x A)) (by unfold addBond payer payK; simp only; rw [e1, e2, if_pos k2, if_neg (by omega)])
  ·rw [if_neg k2]
   by_cases k3 : x.kind = 3
   ·rw [if_pos k3]
    have hkd := hc.kind
    have hsub : x.amt ≤ (senderA L x).bond := by unfold kindE at hkd; rw [if_neg k1, if_pos k3] at hkd; split at hkd <;> omega
    exact key (fun A => subBond x.amt (payer x A)) (by unfold subBond payer payK; simp only; rw [e1, e2, if_neg k2, if_pos k3, if_neg (by omega), w64_id ⟨by omega, by have := hx.amt.1; omega⟩])
   ·have k4 : x.kind = 4 := by have := hF.k1; have := hF.k2; omega
    rw [if_neg k3, if_pos k4]
    exact key (fun A => unjail (payer x A)) (by unfold unjail payer payK; simp only; rw [e1, e2, if_neg k2, if_neg k3, if_pos k4])
end Go.Proofs.YtcngmkjdpoiiaaaGreatDoor

/- The reference: accounts, sums, rows, places. Printed by gen.py. -/
set_option maxRecDepth 100000
namespace Go.Proofs.YtcngmkjdpoiiaaaGreatDoor
open Go Go.RowKit Go.Proofs
def raccE (l : List Acc) : Int := if 65536 < l.length then 86 else accE l
/-- Balances and bonds, one by one. -/
def sumL (l : List Acc) : List Int := l.flatMap fun x => [x.bal, x.bond]
theorem sumL_snoc {l : List Acc} {i : Nat} {x : Acc} (h : l[i]? = some x) : sumL (l.take (i + 1)) = sumL (l.take i) ++ [x.bal, x.bond] := by
 unfold sumL; rw [List.take_add_one, h, List.flatMap_append]; rfl
theorem sumL_sum (l : List Acc) : (sumL l).sum = sumA l := by
 induction l with
 | nil => rfl
 | cons x l ih => rw [sumA_cons, ← ih]; show x.bal + (x.bond + (sumL l).sum) = _; omega
theorem sumL_nn {l : List Acc} (h : ∀ x ∈ l, x.ok) : ∀ y ∈ sumL l, 0 ≤ y := by
 intro y hy
 obtain ⟨x, hx, hy⟩ := List.mem_flatMap.1 hy
 simp only [List.mem_cons, List.not_mem_nil, or_false] at hy
 obtain ⟨_, ⟨h2, _⟩, ⟨h3, _⟩, _⟩ := h x hx
 rcases hy with rfl | rfl <;> assumption
theorem amts_nn {l : List Rel} (h : ∀ x ∈ l, x.ok) : ∀ y ∈ l.map Rel.amt, 0 ≤ y := by
 intro y hy
 obtain ⟨x, hx, rfl⟩ := List.mem_map.1 hy
 exact (h x hx).2.2.2.1
theorem amts_snoc {l : List Rel} {i : Nat} {x : Rel} (h : l[i]? = some x) : (l.take (i + 1)).map Rel.amt = (l.take i).map Rel.amt ++ [x.amt] := by
 rw [List.take_add_one, h, List.map_append]; rfl
theorem addC_nn {t x : Int} (ht : 0 ≤ t) (hx : 0 ≤ x) : 0 ≤ addC t x := by
 unfold addC; split
 ·decide
 ·omega
theorem capF_nn : ∀ (l : List Int) (t : Int), (∀ x ∈ l, 0 ≤ x) → 0 ≤ t → 0 ≤ capF t l
 | [], _, _, h => h
 | x :: l, t, hl, h => capF_nn l _ (fun y hy => hl y (by simp [hy])) (addC_nn h (hl x (by simp)))
/-- What the document's sum answers. -/
def totC (l : List Acc) (r : List Rel) (bu : Int) : Int := capF (capF (addC 0 bu) (sumL l)) (r.map Rel.amt)
theorem totC_spec {l : List Acc} {r : List Rel} {bu : Int} (hl : ∀ x ∈ l, x.ok) (hr : ∀ x ∈ r, x.ok) (hb : 0 ≤ bu) : (totC l r bu ≤ MS ↔ bu + sumA l + sumR r ≤ MS) ∧ (totC l r bu ≤ MS → totC l r bu = bu + sumA l + sumR r) := by
 have h := capF_spec (l := bu :: (sumL l ++ r.map Rel.amt)) (fun x hx => by
  rcases List.mem_cons.1 hx with rfl | hx
  ·exact hb
  ·rcases List.mem_append.1 hx with hx | hx
   ·exact sumL_nn hl x hx
   ·exact amts_nn hr x hx) 0 (Int.le_refl _)
 have e : capF 0 (bu :: (sumL l ++ r.map Rel.amt)) = totC l r bu := by
  show capF (addC 0 bu) (sumL l ++ r.map Rel.amt) = _
  rw [capF_app]; rfl
 have e2 : (0 : Int) + (bu :: (sumL l ++ r.map Rel.amt)).sum = bu + sumA l + sumR r := by
  rw [List.sum_cons, List.sum_append, sumL_sum]; show 0 + (bu + (sumA l + sumR r)) = _; omega
 rw [e, e2] at h
 exact h
def findA (l : List Acc) (a : Int) : Acc := if idxG (isAc a) l < 0 then acc0 else accAt l (idxG (isAc a) l).toNat
theorem findA_at {l : List Acc} {a : Int} {i : Nat} (h : idxG (isAc a) l = (i : Int)) : findA l a = accAt l i := by
 unfold findA; rw [if_neg (by omega), h]; rfl
theorem findA_no {l : List Acc} {a : Int} (h : idxG (isAc a) l = -1) : findA l a = acc0 := by unfold findA; rw [if_pos (by omega)]
theorem radd_ok {gl : Nat → Obj} (t x : Int) (ht : 0 ≤ t) (hx : 0 ≤ x) : SpecV (cx gl) 163 [.int .u64 t, .int .u64 x] noPre (.int .u64 (addC t x)) := by
 refine Spec.enter (C := cx gl) Tryz.func163 rfl 14 rfl rfl fun w0 h0 hsep hsub hpre => ?_
 obtain rfl : h0 = Heap.none := hsep
 show St (cx gl) _ [(0, .int .u64 t), (1, .int .u64 x)] _ _
 have hms : MS = 1152921504606846975 := rfl
 refine rT (lA (k:=?_))
 refine L_nil (qT (rS (rT (lM (k:=lP pGt (k:=?_))))))
 refine E_bool (t := 6) rfl (fun q1 => ?_) (fun q1 => ?_)
 ·skip
  have q1 := of_decide_eq_true q1
  refine lM (k:=lN (k:=lN (k:=lP pK (k:=?_))))
  refine lQ (cE 0 rfl (cE 1 rfl (cE 4 rfl (cE 10 rfl .nil)))) (kT (k:=rT (lA (k:=?_))))
  refine lQ (cE 0 rfl (cE 1 rfl (cE 4 rfl .nil))) (R_ret (Q_then_ret ?_))
  exact R_endV rfl rfl (.tmp rfl .nil) (by unfold addC; rw [if_pos (by rw [hms]; omega)]; rfl)
 ·skip
  have q1 := of_decide_eq_false q1
  refine lM (k:=lM (k:=lP pGt (k:=lP pK (k:=?_))))
  refine lQ (cE 0 rfl (cE 1 rfl (cE 4 rfl (cE 10 rfl .nil)))) ?_
  refine R_condP rfl (fun q2 => ?_) (fun q2 => ?_)
  ·skip
   refine rT (lA (k:=?_))
   refine lQ (cE 0 rfl (cE 1 rfl (cE 4 rfl .nil))) (R_ret (Q_then_ret ?_))
   exact R_endV rfl rfl (.tmp rfl .nil) (by unfold addC; rw [if_pos (by rw [hms]; omega)]; rfl)
  ·skip
   refine R_skip (qT (rT (lM (k:=lM (k:=?_)))))
   refine lP (P_addN rfl rfl rfl (by simp only [fits]; omega)) (k:=lA (k:=?_))
   refine lQ (cE 4 rfl .nil) (R_ret ?_)
   exact R_endV rfl rfl (.tmp rfl .nil) (by unfold addC; rw [if_neg (by rw [hms]; omega)]; rfl)
theorem racc_ok {gl : Nat → Obj} (base : Option Addr) (c : Nat) (l : List Acc) (hc : l.length ≤ c) (hm : l.length ≤ 3518437208883) : SpecV (cx gl) 76 [.slice base l.length c] (fun w => Row w base (rc l)) (.int .i64 (raccE l)) := by
 refine Spec.enter (C := cx gl) Tryz.func76 rfl 49 rfl rfl fun w0 h0 hsep hsub hpre => ?_
 obtain rfl : h0 = Heap.none := hsep
 show St (cx gl) _ [(0, .slice base l.length c)] _ _
 have hms : MS = 1152921504606846975 := rfl
 refine rT (lA (k:=?_))
 refine L_nil (qT (rS (rT (lM (k:=lP (pL ty_sl_22) (k:=lP pGt (k:=?_)))))))
 refine lQ (cE 0 rfl (cE 2 rfl (cE 6 rfl .nil))) ?_
 refine R_condP rfl (fun hbig => ?_) (fun hbig => ?_)
 ·skip
  refine rT (lA (k:=?_))
  refine lQ (cE 0 rfl (cE 2 rfl .nil)) (R_ret (Q_then_ret ?_))
  exact R_endV rfl rfl (.tmp rfl .nil) (by unfold raccE; rw [if_pos (by omega)]; rfl)
 ·skip
  have hbig : ¬ 65536 < l.length := by omega
  refine R_skip (qT (rS (rT (lA (k:=?_)))))
  refine lQ (cE 0 rfl (cE 2 rfl (cE 3 rfl .nil))) (R_block ?_)
  refine R_loopE (G := Nat) (cE 0 rfl (cE 2 rfl .nil)) (fun g => [(3, .int .i64 (g : Int))]) (fun _ => _) (fun g => g ≤ l.length ∧ firstE (accBad l) g = 0) (fun g => l.length - g) (0) (by show (0) ≤ l.length ∧ firstE (accBad l) (0) = 0; exact ⟨Nat.zero_le _, rfl⟩) (by repeat (first | exact .nil | refine .cons rfl ?_ | refine .consE rfl (by first | rfl | (congr 1; omega) | (congr 1; push_cast; omega)) ?_)) (Weak.refl _) ?_
  intro i hinv
  replace hinv : i ≤ l.length ∧ firstE (accBad l) i = 0 := hinv
  show St (cx gl) _ ((3, .int .i64 (i : Int)) :: _) _ _
  obtain ⟨hi, h0⟩ := hinv
  refine rS (rT (lM (k:=lM (k:=lP (pL ty_sl_22) (k:=lP pLt (k:=?_))))))
  refine L_nil (qT ?_)
  refine R_condP rfl (fun hlt => ?_) (fun hlt => ?_)
  ·skip
   have hx0 := accAt_get (l := l) (i := i) (by omega)
   obtain ⟨x, ex⟩ : ∃ x, x = accAt l i := ⟨_, rfl⟩
   have hx : l[i]? = some x := by rw [ex]; exact hx0
   obtain ⟨pb, pj, rfl, hrow⟩ := hpre.some_ (by rw [rc_length]; show 0 < _ * 5; omega)
   refine R_skip (qT (rS (R_block (rS (rT (lM (k:=lM (k:=?_))))))))
   refine lP (P_ixs (i) rfl ty_sl_22 rfl rfl (by first | rfl | omega) (by omega)) (k:=lP (pG ty_fl_50_0) (k:=?_))
   refine lV (V_load rfl rfl ty_sc_26 (rd_rc (Rds.row hrow rfl) hx rfl)) (k:=lP pEq (k:=?_))
   refine L_nil (qT ?_)
   refine R_condP rfl (fun ha => ?_) (fun ha => ?_)
   ·skip
    refine rT (lA (k:=?_))
    refine L_nil (qT (R_ret (Q_then_ret (Q_block_ret (Q_then_ret (Q_then_ret (Q_block_ret (Q_then_ret ?_))))))))
    exact R_endV rfl rfl (.tmp rfl .nil) (by unfold raccE; rw [if_neg hbig, show accE l = 85 from firstE_hit h0 (show accBad l i = 85 by unfold accBad; rw [← ex]; rw [if_pos ha]) (by decide) (by omega)]; rfl)
   ·skip
    refine R_skip (qT (rS (rS ?_)))
    refine R_open [(0, 0), (1, 0), (2, 0), (3, 0), (4, 0), (5, 0), (6, 0), (7, 1), (8, 0), (9, 0), (10, 0), (11, 0), (12, 0), (13, 1), (14, 0), (15, 0)] mixed (by kernel_rfl) (QOk.then (QOk.then (QOk.block (QOk.then (QOk.then (QOk.block (QOk.then QOk.body))))))) (oP rfl pM (k:=oP rfl pGt (k:=?_)))
    refine E_bool (t := 20) rfl (fun hi0 => ?_) (fun hi0 => ?_)
    ·skip
     have hi0 : 0 < i := by have := of_decide_eq_true hi0; omega
     obtain ⟨y, ey⟩ : ∃ y, y = accAt l (i - 1) := ⟨_, rfl⟩
     have hy : l[i - 1]? = some y := by rw [ey]; exact accAt_get (by omega)
     refine oP rfl pM (k:=oP rfl pM (k:=oP rfl pM (k:=?_)))
     refine oP rfl (P_ixs (i) rfl ty_sl_22 rfl rfl (by first | rfl | omega) (by omega)) (k:=oP rfl (pG ty_fl_50_0) (k:=?_))
     refine oV rfl (V_load rfl rfl ty_sc_26 (rd_rc (Rds.row hrow rfl) hx rfl)) (k:=oP rfl pM (k:=oP rfl pM (k:=?_)))
     first | (refine O_pure rfl rfl rfl rfl (P_subN rfl rfl rfl (by simp only [fits]; omega)) ?_) | (refine O_pure rfl rfl rfl rfl (P_sub rfl rfl rfl) ?_)
     refine oP rfl (P_ixs (i - 1) rfl ty_sl_22 rfl rfl (by first | rfl | omega) (by omega)) (k:=oP rfl (pG ty_fl_50_0) (k:=?_))
     refine oV rfl (V_load rfl rfl ty_sc_26 (rd_rc (Rds.row hrow rfl) hy rfl)) (k:=oP rfl pLe (k:=oP rfl pK (k:=O_nil (qT ?_))))
     refine R_condP rfl (fun hle => ?_) (fun hle => ?_)
     ·skip
      refine rT (lA (k:=?_))
      refine L_nil (qT (R_ret (Q_then_ret (Q_block_ret (Q_then_ret (Q_then_ret (Q_block_ret (Q_then_ret ?_))))))))
      exact R_endV rfl rfl (.tmp rfl .nil) (by unfold raccE; rw [if_neg hbig, show accE l = 42 from firstE_hit h0 (show accBad l i = 42 by unfold accBad; rw [← ex]; rw [if_neg ha, if_pos ⟨hi0, by rw [← ey]; exact hle⟩]) (by decide) (by omega)]; rfl)
     ·skip
      have hn42 : ¬ (0 < i ∧ x.a ≤ (accAt l (i - 1)).a) := by rw [← ey]; omega
      refine R_skip (qT (rT (lM (k:=lM (k:=?_)))))
      refine lP (P_ixs (i) rfl ty_sl_22 rfl rfl (by first | rfl | omega) (by omega)) (k:=lP (pG ty_fl_50_1) (k:=?_))
      refine lV (V_load rfl rfl ty_sc_23 (rd_rc (Rds.row hrow rfl) hx rfl)) (k:=lP pGt (k:=?_))
      refine E_bool (t := 40) rfl (fun hb => ?_) (fun hb => ?_)
      ·skip
       have hb := of_decide_eq_true hb
       refine lM (k:=lN (k:=lN (k:=lN (k:=lN (k:=lN (k:=lN (k:=lP pK (k:=?_))))))))
       refine L_nil (qT (kT (k:=rT (lA (k:=?_)))))
       refine L_nil (qT (R_ret (Q_block_ret (Q_then_ret (Q_then_ret (Q_block_ret (Q_then_ret ?_)))))))
       exact R_endV rfl rfl (.tmp rfl .nil) (by unfold raccE; rw [if_neg hbig, show accE l = 87 from firstE_hit h0 (show accBad l i = 87 by unfold accBad; rw [← ex]; rw [if_neg ha, if_neg hn42, if_pos (by rw [hms]; omega)]) (by decide) (by omega)]; rfl)
      ·skip
       have hb := of_decide_eq_false hb
       refine lM (k:=lM (k:=lM (k:=?_)))
       refine lP (P_ixs (i) rfl ty_sl_22 rfl rfl (by first | rfl | omega) (by omega)) (k:=lP (pG ty_fl_50_2) (k:=?_))
       refine lV (V_load rfl rfl ty_sc_23 (rd_rc (Rds.row hrow rfl) hx rfl)) (k:=lP pGt (k:=lP pK (k:=?_)))
       refine L_nil (qT ?_)
       refine R_condP rfl (fun hd => ?_) (fun hd => ?_)
       ·skip
        refine rT (lA (k:=?_))
        refine L_nil (qT (R_ret (Q_block_ret (Q_then_ret (Q_then_ret (Q_block_ret (Q_then_ret ?_)))))))
        exact R_endV rfl rfl (.tmp rfl .nil) (by unfold raccE; rw [if_neg hbig, show accE l = 87 from firstE_hit h0 (show accBad l i = 87 by unfold accBad; rw [← ex]; rw [if_neg ha, if_neg hn42, if_pos (by rw [hms]; omega)]) (by decide) (by omega)]; rfl)
       ·skip
        refine R_skip (Q_block (qT (rR (lM (k:=?_)))))
        first | (refine L_val rfl rfl rfl (OpP.v (P_addN rfl rfl rfl (by simp only [fits]; omega))) ?_) | (refine L_val rfl rfl rfl (OpP.v (P_add rfl rfl rfl)) ?_)
        refine lA (k:=?_)
        refine L_nil ?_
        exact Q_round (i + 1) (by show (i + 1) ≤ l.length ∧ firstE (accBad l) (i + 1) = 0; exact ⟨by omega, firstE_next h0 (by unfold accBad; rw [← ex, if_neg ha, if_neg hn42, if_neg (by rw [hms]; omega)])⟩) (by show l.length - (i + 1) < l.length - i; omega) (by repeat (first | exact .nil | refine .cons rfl ?_ | refine .consE rfl (by first | rfl | (congr 1; omega) | (congr 1; push_cast; omega)) ?_)) (Weak.refl _)
    ·skip
     have hi0 : ¬ 0 < i := by have := of_decide_eq_false hi0; omega
     have hn42 : ¬ (0 < i ∧ x.a ≤ (accAt l (i - 1)).a) := by omega
     refine oP rfl pM (k:=?_)
     refine O_no rfl rfl rfl rfl ?_
     refine O_no rfl rfl rfl rfl ?_
     refine O_no rfl rfl rfl rfl ?_
     refine O_no rfl rfl rfl rfl ?_
     refine O_noX rfl rfl rfl rfl ?_
     refine O_no rfl rfl rfl rfl ?_
     refine O_no rfl rfl rfl rfl ?_
     refine O_no rfl rfl rfl rfl ?_
     refine O_no rfl rfl rfl rfl ?_
     refine O_no rfl rfl rfl rfl ?_
     refine O_noX rfl rfl rfl rfl ?_
     refine O_no rfl rfl rfl rfl (oP rfl pK (k:=O_nil (qT (kF (k:=R_skip (qT (rT (lM (k:=lM (k:=?_))))))))))
     refine lP (P_ixs (i) rfl ty_sl_22 rfl rfl (by first | rfl | omega) (by omega)) (k:=lP (pG ty_fl_50_1) (k:=?_))
     refine lV (V_load rfl rfl ty_sc_23 (rd_rc (Rds.row hrow rfl) hx rfl)) (k:=lP pGt (k:=?_))
     refine E_bool (t := 40) rfl (fun hb => ?_) (fun hb => ?_)
     ·skip
      have hb := of_decide_eq_true hb
      refine lM (k:=lN (k:=lN (k:=lN (k:=lN (k:=lN (k:=lN (k:=lP pK (k:=?_))))))))
      refine L_nil (qT (kT (k:=rT (lA (k:=?_)))))
      refine L_nil (qT (R_ret (Q_block_ret (Q_then_ret (Q_then_ret (Q_block_ret (Q_then_ret ?_)))))))
      exact R_endV rfl rfl (.tmp rfl .nil) (by unfold raccE; rw [if_neg hbig, show accE l = 87 from firstE_hit h0 (show accBad l i = 87 by unfold accBad; rw [← ex]; rw [if_neg ha, if_neg hn42, if_pos (by rw [hms]; omega)]) (by decide) (by omega)]; rfl)
     ·skip
      have hb := of_decide_eq_false hb
      refine lM (k:=lM (k:=lM (k:=?_)))
      refine lP (P_ixs (i) rfl ty_sl_22 rfl rfl (by first | rfl | omega) (by omega)) (k:=lP (pG ty_fl_50_2) (k:=?_))
      refine lV (V_load rfl rfl ty_sc_23 (rd_rc (Rds.row hrow rfl) hx rfl)) (k:=lP pGt (k:=lP pK (k:=?_)))
      refine L_nil (qT ?_)
      refine R_condP rfl (fun hd => ?_) (fun hd => ?_)
      ·skip
       refine rT (lA (k:=?_))
       refine L_nil (qT (R_ret (Q_block_ret (Q_then_ret (Q_then_ret (Q_block_ret (Q_then_ret ?_)))))))
       exact R_endV rfl rfl (.tmp rfl .nil) (by unfold raccE; rw [if_neg hbig, show accE l = 87 from firstE_hit h0 (show accBad l i = 87 by unfold accBad; rw [← ex]; rw [if_neg ha, if_neg hn42, if_pos (by rw [hms]; omega)]) (by decide) (by omega)]; rfl)
      ·skip
       refine R_skip (Q_block (qT (rR (lM (k:=?_)))))
       first | (refine L_val rfl rfl rfl (OpP.v (P_addN rfl rfl rfl (by simp only [fits]; omega))) ?_) | (refine L_val rfl rfl rfl (OpP.v (P_add rfl rfl rfl)) ?_)
       refine lA (k:=?_)
       refine L_nil ?_
       exact Q_round (i + 1) (by show (i + 1) ≤ l.length ∧ firstE (accBad l) (i + 1) = 0; exact ⟨by omega, firstE_next h0 (by unfold accBad; rw [← ex, if_neg ha, if_neg hn42, if_neg (by rw [hms]; omega)])⟩) (by show l.length - (i + 1) < l.length - i; omega) (by repeat (first | exact .nil | refine .cons rfl ?_ | refine .consE rfl (by first | rfl | (congr 1; omega) | (congr 1; push_cast; omega)) ?_)) (Weak.refl _)
  ·skip
   have hin : i = l.length := by omega
   rw [hin] at h0
   refine R_exit (Q_then_exit (Q_then_exit (Q_block_eq ?_)))
   refine St.env (cE 2 rfl .nil) (qT (rT (lA (k:=?_))))
   refine L_nil (qT (R_ret ?_))
   exact R_endV rfl rfl (.tmp rfl .nil) (by unfold raccE; rw [if_neg hbig, show accE l = 0 from h0]; rfl)
theorem rtot_ok {gl : Nat → Obj} (base : Option Addr) (c : Nat) (l : List Acc) (hc : l.length ≤ c)(hm : l.length ≤ 3518437208883)(hok : ∀ x ∈ l, x.ok)(base' : Option Addr) (c' : Nat) (r : List Rel) (hc' : r.length ≤ c')(hm' : r.length ≤ 4398046511104) (hok' : ∀ x ∈ r, x.ok) (bu su : Int) (hbu : u64 bu) : SpecV (cx gl) 77 [.agg (ledV (.slice base l.length c) (.slice base' r.length c') bu su).toArray] (fun w => Row w base (rc l) ∧ Row w base' (rc r)) (.int .u64 (totC l r bu)) := by
 refine Spec.enter (C := cx gl) Tryz.func77 rfl 48 rfl rfl fun w0 h0 hsep hsub hpre => ?_
 obtain rfl : h0 = Heap.none := hsep
 show St (cx gl) _ [(0, .agg (ledV (.slice base l.length c) (.slice base' r.length c') bu su).toArray)] _ _
 refine rT ?_
 refine lO (W_box (ledV (.slice base l.length c) (.slice base' r.length c') bu su) rfl rfl rfl rfl rfl fun b1 => lA (k:=?_))
 refine lQ (cE 1 rfl (cE 2 rfl .nil)) (rT (lP (pF ty_fl_30_2) (k:=lV (vB ty_sc_23 .h0) (k:=?_))))
 refine lO (W_callV rfl rfl rfl rfl fn_ca_163 (radd_ok 0 bu (Int.le_refl _) hbu.1) (fun _ _ => trivial) (lA (k:=?_)))
 refine lQ (cE 1 rfl (cE 2 rfl (cE 3 rfl .nil))) (rS (rT (lA (k:=?_))))
 refine L_nil (qT (R_block ?_))
 have hn0 : 0 ≤ addC 0 bu := addC_nn (Int.le_refl _) hbu.1
 refine R_loopE (G := Nat) (cE 1 rfl (cE 2 rfl .nil)) (fun g => [(3, .int .u64 (capF (addC 0 bu) (sumL (l.take (g))))), (4, .int .i64 (g : Int))]) (fun _ => _) (fun g => g ≤ l.length) (fun g => l.length - g) (0) (Nat.zero_le _) (by repeat (first | exact .nil | refine .cons rfl ?_ | refine .consE rfl (by first | rfl | (congr 1; omega) | (congr 1; push_cast; omega)) ?_)) (Weak.refl _) ?_
 intro i hinv
 replace hinv : i ≤ l.length := hinv
 show St (cx gl) _ ((3, .int .u64 (capF (addC 0 bu) (sumL (l.take (i))))) :: (4, .int .i64 (i : Int)) :: _) _ _
 refine rS (rT (lM (k:=lP (pF ty_fl_30_0) (k:=lV (vB ty_sc_22 .h0) (k:=lP (pL ty_sl_22) (k:=lP pLt (k:=?_)))))))
 refine L_nil (qT ?_)
 refine R_condP rfl (fun hlt => ?_) (fun hlt => ?_)
 ·skip
  have hi : i ≤ l.length := hinv
  have hx0 := accAt_get (l := l) (i := i) (by omega)
  obtain ⟨x, ex⟩ : ∃ x, x = accAt l i := ⟨_, rfl⟩
  have hx : l[i]? = some x := by rw [ex]; exact hx0
  obtain ⟨pb, pj, rfl, hrow⟩ := hpre.1.some_ (by rw [rc_length]; show 0 < _ * 5; omega)
  obtain ⟨ha1, hb1, hb2, hb3⟩ := hok x (List.mem_of_getElem? hx)
  have hn1 : 0 ≤ capF (addC 0 bu) (sumL (l.take (i))) := capF_nn _ _ (sumL_nn fun y hy => hok y (List.mem_of_mem_take hy)) hn0
  refine R_skip (qT (rS (R_block (rT (lM (k:=lP (pF ty_fl_30_0) (k:=lV (vB ty_sc_22 .h0) (k:=lM (k:=?_)))))))))
  refine lP (P_ixs (i) rfl ty_sl_22 rfl rfl (by first | rfl | omega) (by omega)) (k:=lP (pG ty_fl_50_1) (k:=?_))
  refine lV (V_load rfl rfl ty_sc_23 (rd_rc (Rds.row hrow rfl) hx rfl)) (k:=?_)
  refine lO (W_callV rfl rfl rfl rfl fn_ca_163 (radd_ok (capF (addC 0 bu) (sumL (l.take (i)))) x.bal hn1 hb1.1) (fun _ _ => trivial) (lA (k:=?_)))
  refine L_nil (qT (rR (lM (k:=lP (pF ty_fl_30_0) (k:=lV (vB ty_sc_22 .h0) (k:=lM (k:=?_)))))))
  refine lP (P_ixs (i) rfl ty_sl_22 rfl rfl (by first | rfl | omega) (by omega)) (k:=lP (pG ty_fl_50_2) (k:=?_))
  refine lV (V_load rfl rfl ty_sc_23 (rd_rc (Rds.row hrow rfl) hx rfl)) (k:=?_)
  refine lO (W_callV rfl rfl rfl rfl fn_ca_163 (radd_ok (addC (capF (addC 0 bu) (sumL (l.take (i)))) x.bal) x.bond (addC_nn hn1 hb1.1) hb2.1) (fun _ _ => trivial) ?_)
  refine E_as (t := 31) (v' := .int .u64 (capF (addC 0 bu) (sumL (l.take (i + 1))))) rfl (by rw [sumL_snoc hx, capF_app]; rfl) (lA (k:=?_))
  refine L_nil (Q_block (qT (rR (lM (k:=?_)))))
  first | (refine L_val rfl rfl rfl (OpP.v (P_addN rfl rfl rfl (by simp only [fits]; omega))) ?_) | (refine L_val rfl rfl rfl (OpP.v (P_add rfl rfl rfl)) ?_)
  refine lA (k:=?_)
  refine L_nil ?_
  exact Q_round (i + 1) (by show i + 1 ≤ l.length; omega) (by show l.length - (i + 1) < l.length - i; omega) (by repeat (first | exact .nil | refine .cons rfl ?_ | refine .consE rfl (by first | rfl | (congr 1; omega) | (congr 1; push_cast; omega)) ?_)) (Weak.refl _)
 ·skip
  have hi : i ≤ l.length := hinv
  have hin : i = l.length := by omega
  rw [hin, List.take_length]
  refine R_exit (Q_then_exit (Q_then_exit (Q_block_eq ?_)))
  refine St.env (cE 1 rfl (cE 2 rfl (cE 3 rfl .nil))) (qT (rS (rT (lA (k:=?_)))))
  refine L_nil (qT (R_block ?_))
  refine R_loopE (G := Nat) (cE 1 rfl (cE 2 rfl .nil)) (fun g => [(3, .int .u64 (capF (capF (addC 0 bu) (sumL l)) ((r.take (g)).map Rel.amt))), (5, .int .i64 (g : Int))]) (fun _ => _) (fun g => g ≤ r.length) (fun g => r.length - g) (0) (Nat.zero_le _) (by repeat (first | exact .nil | refine .cons rfl ?_ | refine .consE rfl (by first | rfl | (congr 1; omega) | (congr 1; push_cast; omega)) ?_)) (Weak.refl _) ?_
  intro i hinv
  replace hinv : i ≤ r.length := hinv
  show St (cx gl) _ ((3, .int .u64 (capF (capF (addC 0 bu) (sumL l)) ((r.take (i)).map Rel.amt))) :: (5, .int .i64 (i : Int)) :: _) _ _
  refine rS (rT (lM (k:=lP (pF ty_fl_30_1) (k:=lV (vB ty_sc_28 .h0) (k:=lP (pL ty_sl_28) (k:=lP pLt (k:=?_)))))))
  refine L_nil (qT ?_)
  refine R_condP rfl (fun hlt => ?_) (fun hlt => ?_)
  ·skip
   have hi : i ≤ r.length := hinv
   have hx0 := relAt_get (l := r) (i := i) (by omega)
   obtain ⟨x, ex⟩ : ∃ x, x = relAt r i := ⟨_, rfl⟩
   have hx : r[i]? = some x := by rw [ex]; exact hx0
   obtain ⟨pb, pj, rfl, hrow⟩ := hpre.2.some_ (by rw [rc_length]; show 0 < _ * 4; omega)
   obtain ⟨ha1, hb1, hb2, hb3⟩ := hok' x (List.mem_of_getElem? hx)
   have hn2 : 0 ≤ capF (capF (addC 0 bu) (sumL l)) ((r.take (i)).map Rel.amt) := capF_nn _ _ (amts_nn fun y hy => hok' y (List.mem_of_mem_take hy)) (capF_nn _ _ (sumL_nn hok) hn0)
   refine R_skip (qT (rS (R_block (rR (lM (k:=lP (pF ty_fl_30_1) (k:=lV (vB ty_sc_28 .h0) (k:=lM (k:=?_)))))))))
   refine lP (P_ixs (i) rfl ty_sl_28 rfl rfl (by first | rfl | omega) (by omega)) (k:=lP (pG ty_fl_175_3) (k:=?_))
   refine lV (V_load rfl rfl ty_sc_23 (rd_rc (Rds.row hrow rfl) hx rfl)) (k:=?_)
   refine lO (W_callV rfl rfl rfl rfl fn_ca_163 (radd_ok (capF (capF (addC 0 bu) (sumL l)) ((r.take (i)).map Rel.amt)) x.amt hn2 hb3.1) (fun _ _ => trivial) ?_)
   refine E_as (t := 46) (v' := .int .u64 (capF (capF (addC 0 bu) (sumL l)) ((r.take (i + 1)).map Rel.amt))) rfl (by rw [amts_snoc hx, capF_app]; rfl) (lA (k:=?_))
   refine L_nil (Q_block (qT (rR (lM (k:=?_)))))
   first | (refine L_val rfl rfl rfl (OpP.v (P_addN rfl rfl rfl (by simp only [fits]; omega))) ?_) | (refine L_val rfl rfl rfl (OpP.v (P_add rfl rfl rfl)) ?_)
   refine lA (k:=?_)
   refine L_nil ?_
   exact Q_round (i + 1) (by show i + 1 ≤ r.length; omega) (by show r.length - (i + 1) < r.length - i; omega) (by repeat (first | exact .nil | refine .cons rfl ?_ | refine .consE rfl (by first | rfl | (congr 1; omega) | (congr 1; push_cast; omega)) ?_)) (Weak.refl _)
  ·skip
   have hi : i ≤ r.length := hinv
   have hin : i = r.length := by omega
   rw [hin, List.take_length]
   refine R_exit (Q_then_exit (Q_then_exit (Q_block_eq ?_)))
   refine St.env (cE 2 rfl (cE 3 rfl .nil)) (qT (rT (lM (k:=lA (k:=?_)))))
   refine lQ (cE 2 rfl .nil) (R_ret ?_)
   exact R_endV rfl rfl (.tmp rfl .nil) (rfl)
theorem lfind_ok {gl : Nat → Obj} (base : Option Addr) (c : Nat) (l : List Acc) (hc : l.length ≤ c)(hm : l.length ≤ 3518437208883) (r : Value) (hr : r.oneCell' = true) (bu su a : Int) : SpecV (cx gl) 66 [.agg (ledV (.slice base l.length c) r bu su).toArray, .int .u64 a] (fun w => Row w base (rc l)) (.agg (findA l a).cells.toArray) := by
 refine Spec.enter (C := cx gl) Tryz.func66 rfl 27 rfl rfl fun w0 h0 hsep hsub hpre => ?_
 obtain rfl : h0 = Heap.none := hsep
 show St (cx gl) _ [(0, .agg (ledV (.slice base l.length c) r bu su).toArray), (1, .int .u64 a)] _ _
 refine rT ?_
 refine lO (W_box (ledV (.slice base l.length c) r bu su) rfl rfl rfl rfl rfl fun b2 => ?_)
 refine lO (W_alloc rfl rfl rfl ty_ze_50 fun b4 => ?_)
 refine lQ (cE 1 rfl (cE 2 rfl (cE 4 rfl .nil))) (rS (rT (lA (k:=?_))))
 refine L_nil (qT (R_block ?_))
 refine R_loopE (G := Nat) (cE 1 rfl (cE 2 rfl (cE 4 rfl .nil))) (fun g => [(5, .int .i64 (g : Int))]) (fun _ => _) (fun g => g ≤ l.length ∧ ∀ j m', j < g → l[j]? = some m' → isAc a m' = false) (fun g => l.length - g) (0) (by show (0) ≤ l.length ∧ ∀ j m', j < (0) → l[j]? = some m' → isAc a m' = false; exact ⟨Nat.zero_le _, fun j _ h => by omega⟩) (by repeat (first | exact .nil | refine .cons rfl ?_ | refine .consE rfl (by first | rfl | (congr 1; omega) | (congr 1; push_cast; omega)) ?_)) (Weak.refl _) ?_
 intro i hinv
 replace hinv : i ≤ l.length ∧ ∀ j m', j < i → l[j]? = some m' → isAc a m' = false := hinv
 show St (cx gl) _ ((5, .int .i64 (i : Int)) :: _) _ _
 obtain ⟨hi, h0⟩ := hinv
 refine rS (rT (lM (k:=lP (pF ty_fl_30_0) (k:=lV (vB ty_sc_22 .h1) (k:=lP (pL ty_sl_22) (k:=lP pLt (k:=?_)))))))
 refine L_nil (qT ?_)
 refine R_condP rfl (fun hlt => ?_) (fun hlt => ?_)
 ·skip
  have hx0 := accAt_get (l := l) (i := i) (by omega)
  obtain ⟨x, ex⟩ : ∃ x, x = accAt l i := ⟨_, rfl⟩
  have hx : l[i]? = some x := by rw [ex]; exact hx0
  obtain ⟨pb, pj, rfl, hrow⟩ := hpre.some_ (by rw [rc_length]; show 0 < _ * 5; omega)
  refine R_skip (qT (rS (R_block (rT (lP (pF ty_fl_30_0) (k:=lV (vB ty_sc_22 .h1) (k:=lM (k:=?_))))))))
  refine lP (P_ixs (i) rfl ty_sl_22 rfl rfl (by first | rfl | omega) (by omega)) (k:=lP (pG ty_fl_50_0) (k:=?_))
  refine lV (V_load rfl rfl ty_sc_26 (rd_rc (Rds.row hrow rfl) hx rfl)) (k:=lM (k:=lP pEq (k:=?_)))
  refine L_nil (qT ?_)
  refine R_condP rfl (fun e1 => ?_) (fun e1 => ?_)
  ·skip
   have hpx : isAc a x = true := decide_eq_true e1
   refine rT (lP (pF ty_fl_30_0) (k:=lV (vB ty_sc_22 .h1) (k:=lM (k:=?_))))
   refine lP (P_ixs (i) rfl ty_sl_22 rfl rfl (by first | rfl | omega) (by omega)) (k:=?_)
   refine lV (V_loadAgg rfl rfl ty_ag_50 (rds_rc (Rds.row hrow rfl) hx) (rfl)) (k:=?_)
   refine lO (W_storeAll rfl rfl rfl rfl ty_ag_50 (rfl) (Rec.one x) .h0 (rfl) ?_)
   refine L_nil (qT (R_ret (Q_block_ret (Q_then_ret (Q_then_ret (Q_block_ret (Q_then_ret ?_)))))))
   exact R_endV rfl rfl (.cell rfl (Rds.loadVar ty_ag_50 (Rds.blk .h0) rfl) .nil) (by rw [findA_at (idxG_hit h0 hx hpx), ← ex]; rfl)
  ·skip
   have hpx : isAc a x = false := decide_eq_false e1
   refine R_skip (Q_block (qT (rR (lM (k:=?_)))))
   first | (refine L_val rfl rfl rfl (OpP.v (P_addN rfl rfl rfl (by simp only [fits]; omega))) ?_) | (refine L_val rfl rfl rfl (OpP.v (P_add rfl rfl rfl)) ?_)
   refine lA (k:=?_)
   refine L_nil ?_
   exact Q_round (i + 1) (by show (i + 1) ≤ l.length ∧ ∀ j m', j < (i + 1) → l[j]? = some m' → isAc a m' = false; exact ⟨by omega, no_next h0 hx hpx⟩) (by show l.length - (i + 1) < l.length - i; omega) (by repeat (first | exact .nil | refine .cons rfl ?_ | refine .consE rfl (by first | rfl | (congr 1; omega) | (congr 1; push_cast; omega)) ?_)) (Weak.refl _)
 ·skip
  have hin : i = l.length := by omega
  rw [hin] at h0
  refine R_exit (Q_then_exit (Q_then_exit (Q_block_eq ?_)))
  refine St.env (cE 4 rfl .nil) (qT (rT ?_))
  refine lP (P_buildStruct rfl ty_pl_50 ty_ze_50 rfl rfl (rfl)) (k:=?_)
  refine lO (W_storeAll rfl rfl rfl rfl ty_ag_50 (rfl) (Rec.one acc0) .h0 (rfl) ?_)
  refine lQ (cE 4 rfl .nil) (R_ret ?_)
  exact R_endV rfl rfl (.cell rfl (Rds.loadVar ty_ag_50 (Rds.blk .h0) rfl) .nil) (by rw [findA_no (idxG_none h0)]; rfl)
end Go.Proofs.YtcngmkjdpoiiaaaGreatDoor

/- Plain: turning, with the rows. Printed by gen.py. -/
set_option maxRecDepth 100000
namespace Go.Proofs.YtcngmkjdpoiiaaaGreatDoor
open Go Go.RowKit Go.Proofs
theorem appL_zero {rc : List Rcd} {ch : List Int} {L : Led} {p : Par} {h b : Int} {x : Tx} (c : chkE rc ch L p h x = 0) : appL rc ch L p h b x = appP L p h b x := if_pos c
end Go.Proofs.YtcngmkjdpoiiaaaGreatDoor

/- Plain: what an address has; a sound ledger; rows. Printed by gen.py. -/
set_option maxRecDepth 100000
namespace Go.Proofs.YtcngmkjdpoiiaaaGreatDoor
open Go Go.RowKit Go.Proofs
/-! ### What an address has -/
def nilA (a : Int) : Acc := ⟨a, 0, 0, 0, false⟩
def getA : List Acc → Int → Acc
 | [], a => nilA a
 | x :: l, a => if x.a = a then x else if a < x.a then nilA a else getA l a
def hasA (l : List Acc) (a : Int) : Prop := ∃ x ∈ l, x.a = a
theorem getA_a : ∀ (l : List Acc) (a : Int), (getA l a).a = a
 | [], a => rfl
 | x :: l, a => by
  rw [getA]
  split
  ·assumption
  ·split
   ·rfl
   ·exact getA_a l a
theorem getA_of {l : List Acc} (h : Up l) {x : Acc} (hx : x ∈ l) : getA l x.a = x := by
 induction l with
 | nil => cases hx
 | cons y l ih =>
  obtain ⟨h1, h2⟩ := List.pairwise_cons.1 h
  rw [getA]
  rcases List.mem_cons.1 hx with rfl | hx
  ·rw [if_pos rfl]
  ·have := h1 x hx
   rw [if_neg (by omega), if_neg (by omega)]
   exact ih h2 hx
theorem getA_mem {l : List Acc} (h : Up l) {a : Int} (hh : hasA l a) : getA l a ∈ l := by
 obtain ⟨x, hx, rfl⟩ := hh
 rw [getA_of h hx]; exact hx
theorem getA_none {l : List Acc} {a : Int} (hh : ¬ hasA l a) : getA l a = nilA a := by
 induction l with
 | nil => rfl
 | cons x l ih =>
  rw [getA, if_neg (fun e => hh ⟨x, List.mem_cons_self .., e⟩)]
  split
  ·rfl
  ·exact ih fun ⟨y, hy, e⟩ => hh ⟨y, List.mem_cons_of_mem _ hy, e⟩
theorem sumA_updR (f : Acc → Acc) (a : Int) : ∀ l, sumA (updR l a f) = sumA l + ((f (getA l a)).bal + (f (getA l a)).bond) - ((getA l a).bal + (getA l a).bond)
 | [] => by simp [updR, getA, sumA, nilA]
 | x :: l => by
  rw [updR, getA]
  split
  ·rw [sumA_cons, sumA_cons]; omega
  ·split
   ·rw [sumA_cons, sumA_cons]; unfold nilA; simp only; omega
   ·rw [sumA_cons, sumA_cons, sumA_updR f a l]; omega
theorem mem_updR {f : Acc → Acc} (hf : Keeps f) {a : Int} : ∀ {l : List Acc}, Up l → ∀ {y : Acc}, y ∈ updR l a f ↔ (y ∈ l ∧ y.a ≠ a) ∨ y = f (getA l a)
 | [], _, y => by simp [updR, getA, nilA]
 | x :: l, h, y => by
  obtain ⟨h1, h2⟩ := List.pairwise_cons.1 h
  rw [updR, getA]
  split
  ·rename_i e
   refine ⟨fun hy => ?_, fun hy => ?_⟩
   ·rcases List.mem_cons.1 hy with rfl | hy
    ·exact .inr rfl
    ·exact .inl ⟨List.mem_cons_of_mem _ hy, by have := h1 y hy; omega⟩
   ·rcases hy with ⟨hy, hn⟩ | rfl
    ·rcases List.mem_cons.1 hy with rfl | hy
     ·exact absurd e hn
     ·exact List.mem_cons_of_mem _ hy
    ·exact List.mem_cons_self ..
  ·split
   ·rename_i e e2
    refine ⟨fun hy => ?_, fun hy => ?_⟩
    ·rcases List.mem_cons.1 hy with rfl | hy
     ·exact .inr rfl
     ·refine .inl ⟨hy, ?_⟩
      rcases List.mem_cons.1 hy with rfl | hy
      ·exact e
      ·have := h1 y hy; omega
    ·rcases hy with ⟨hy, hn⟩ | rfl
     ·exact List.mem_cons_of_mem _ hy
     ·exact List.mem_cons_self ..
   ·rename_i e e2
    rw [List.mem_cons, List.mem_cons, mem_updR hf h2]
    refine ⟨fun hy => ?_, fun hy => ?_⟩
    ·rcases hy with rfl | ⟨hy, hn⟩ | rfl
     ·exact .inl ⟨.inl rfl, e⟩
     ·exact .inl ⟨.inr hy, hn⟩
     ·exact .inr rfl
    ·rcases hy with ⟨rfl | hy, hn⟩ | rfl
     ·exact .inl rfl
     ·exact .inr (.inl ⟨hy, hn⟩)
     ·exact .inr (.inr rfl)
theorem getA_updR {f : Acc → Acc} (hf : Keeps f) {l : List Acc} (h : Up l) (a b : Int) : getA (updR l a f) b = if b = a then f (getA l a) else getA l b := by
 have hu := updR_up hf (a := a) h
 split
 ·rename_i e
  subst e
  have hm : f (getA l b) ∈ updR l b f := (mem_updR hf h).2 (.inr rfl)
  have := getA_of hu hm
  rw [hf, getA_a] at this; exact this
 ·rename_i e
  cases Classical.em (hasA l b) with
  | inl hb =>
   obtain ⟨x, hx, rfl⟩ := hb
   rw [getA_of h hx]; exact getA_of hu ((mem_updR hf h).2 (.inl ⟨hx, e⟩))
  | inr hb =>
   rw [getA_none hb, getA_none]
   rintro ⟨y, hy, e2⟩
   rcases (mem_updR hf h).1 hy with ⟨h1, _⟩ | rfl
   ·exact hb ⟨y, h1, e2⟩
   ·rw [hf, getA_a] at e2; exact e e2.symm
theorem hasA_updR {f : Acc → Acc} (hf : Keeps f) {l : List Acc} (h : Up l) {a b : Int} : hasA (updR l a f) b ↔ hasA l b ∨ b = a := by
 refine ⟨fun ⟨y, hy, e⟩ => ?_, fun hh => ?_⟩
 ·rcases (mem_updR hf h).1 hy with ⟨h1, _⟩ | rfl
  ·exact .inl ⟨y, h1, e⟩
  ·rw [hf, getA_a] at e; exact .inr e.symm
 ·rcases hh with hh | rfl
  ·exact updR_has hf hh
  ·exact ⟨_, (mem_updR hf h).2 (.inr rfl), by rw [hf, getA_a]⟩
theorem updR_len {f : Acc → Acc} {a : Int} : ∀ l, (updR l a f).length ≤ l.length + 1
 | [] => by simp [updR]
 | x :: l => by
  rw [updR]
  split
  ·simp
  ·split
   ·simp
   ·have := updR_len (f := f) (a := a) l; simp; omega
theorem updR_len_has {f : Acc → Acc} {l : List Acc} (h : Up l) {a : Int} (hh : hasA l a) : (updR l a f).length = l.length := by
 rw [← upd_yes h ((spotB_has h).2 hh), List.length_set]
theorem mem_sumA {l : List Acc} (hok : ∀ x ∈ l, x.ok) {x : Acc} (hx : x ∈ l) : x.bal + x.bond ≤ sumA l := by
 induction l with
 | nil => cases hx
 | cons y l ih =>
  rw [sumA_cons]
  have h2 : ∀ x ∈ l, x.ok := fun z hz => hok z (List.mem_cons_of_mem _ hz)
  have h0 := sumA_nn h2
  obtain ⟨_, ⟨h3, _⟩, ⟨h4, _⟩, _⟩ := hok y (List.mem_cons_self ..)
  rcases List.mem_cons.1 hx with rfl | hx
  ·omega
  ·have := ih h2 hx; omega
theorem mem_sumR {l : List Rel} (hok : ∀ x ∈ l, x.ok) {x : Rel} (hx : x ∈ l) : x.amt ≤ sumR l := by
 induction l with
 | nil => cases hx
 | cons y l ih =>
  rw [sumR_cons]
  have h2 : ∀ x ∈ l, x.ok := fun z hz => hok z (List.mem_cons_of_mem _ hz)
  have h0 := sumR_nn h2
  obtain ⟨_, _, _, ⟨h4, _⟩⟩ := hok y (List.mem_cons_self ..)
  rcases List.mem_cons.1 hx with rfl | hx
  ·omega
  ·have := ih h2 hx; omega
theorem getA_ok {l : List Acc} (h : Up l) (hok : ∀ x ∈ l, x.ok) {a : Int} (ha : u64 a) : (getA l a).ok := by
 cases Classical.em (hasA l a) with
 | inl hh => exact hok _ (getA_mem h hh)
 | inr hh => rw [getA_none hh]; exact ⟨ha, ⟨Int.le_refl 0, show (0 : Int) ≤ 18446744073709551615 by decide⟩, ⟨Int.le_refl 0, show (0 : Int) ≤ 18446744073709551615 by decide⟩, ⟨Int.le_refl 0, show (0 : Int) ≤ 18446744073709551615 by decide⟩⟩
theorem getA_le {l : List Acc} (h : Up l) (hok : ∀ x ∈ l, x.ok) (a : Int) : 0 ≤ (getA l a).bal ∧ 0 ≤ (getA l a).bond ∧ (getA l a).bal + (getA l a).bond ≤ sumA l := by
 cases Classical.em (hasA l a) with
 | inl hh =>
  have hm := getA_mem h hh
  obtain ⟨_, ⟨h3, _⟩, ⟨h4, _⟩, _⟩ := hok _ hm
  exact ⟨h3, h4, mem_sumA hok hm⟩
 | inr hh => rw [getA_none hh]; have := sumA_nn hok; exact ⟨Int.le_refl 0, Int.le_refl 0, by show (0 : Int) + 0 ≤ _; omega⟩
theorem accAt_getA {l : List Acc} (h : Up l) {a : Int} (hb : spotB l a = true) : accAt l (spotI l a) = getA l a := by
 have h1 := spotB_at hb
 have := getA_of h (accAt_mem h1.1)
 rw [h1.2] at this; exact this.symm
theorem findA_getA {l : List Acc} (h : Up l) {a : Int} (hh : hasA l a) : findA l a = getA l a := by
 rcases idxG_cases (isAc a) l with h1 | ⟨i, hi, e⟩
 ·exfalso
  obtain ⟨x, hx, e⟩ := hh
  unfold idxG at h1
  split at h1
  ·omega
  ·rename_i hn
   rw [List.findIdx?_eq_none_iff] at hn
   have := hn x hx
   unfold isAc at this
   rw [decide_eq_false_iff_not] at this
   exact this e
 ·have h2 := findA_at e
  rw [h2]
  unfold idxG at e
  split at e
  ·rename_i j hj
   obtain ⟨hj1, hj2, _⟩ := List.findIdx?_eq_some_iff_getElem.1 hj
   have hij : j = i := by omega
   subst hij
   have e3 : (accAt l j).a = a := by rw [accAt_of (List.getElem?_eq_getElem hj1)]; exact of_decide_eq_true hj2
   have := getA_of h (accAt_mem hj1)
   rw [e3] at this; exact this.symm
  ·omega
/-- A sound ledger, in words that are easily kept. -/
def RUp (r : List Rel) : Prop := r.Pairwise fun x y => x.h < y.h ∨ (x.h = y.h ∧ x.a < y.a)
structure RowOk (l : List Acc) (y : Rel) : Prop where
 has : hasA l y.a
 born : y.born ≤ 1099511627776
 le : y.born ≤ y.h
 last : y.h ≤ 1103806595072
 some_ : y.amt ≠ 0
structure LF (L : Led) : Prop where
 ok : ∀ x ∈ L.acc, x.ok
 ok' : ∀ y ∈ L.rel, y.ok
 few : L.acc.length ≤ 65536
 few' : L.rel.length ≤ 65536
 up : Up L.acc
 no0 : ∀ x ∈ L.acc, x.a ≠ 0
 rup : RUp L.rel
 rows : ∀ y ∈ L.rel, RowOk L.acc y
 b0 : 0 ≤ L.burnt
 sup : L.sup ≤ MS
 sum : L.burnt + sumA L.acc + sumR L.rel = L.sup
theorem firstE_zero {f : Nat → Int} : ∀ n, (∀ i, i < n → f i = 0) → firstE f n = 0
 | 0, _ => rfl
 | n + 1, h => by rw [firstE, if_pos (firstE_zero n fun i hi => h i (by omega)), h n (by omega)]
theorem LF.fine {L : Led} (h : LF L) : LedFine L := by
 have hs := h.sum; have hsu := h.sup; have hb := h.b0; have hR := sumR_nn h.ok'; have hA := sumA_nn h.ok
 refine ⟨h.few, h.few', firstE_zero _ fun i hi => ?_, firstE_zero _ fun i hi => ?_, h.sup, h.sum⟩
 ·have hm := accAt_mem hi
  have h1 := mem_sumA h.ok hm
  obtain ⟨_, ⟨h3, _⟩, ⟨h4, _⟩, _⟩ := h.ok _ hm
  unfold accBad
  rw [if_neg (h.no0 _ hm), if_neg, if_neg (by omega)]
  rintro ⟨h5, h6⟩
  have := List.pairwise_iff_getElem.1 h.up (i - 1) i (by omega) hi (by omega)
  rw [← accAt_of (List.getElem?_eq_getElem (show i - 1 < L.acc.length by omega)), ← accAt_of (List.getElem?_eq_getElem hi)] at this
  omega
 ·have hm := relAt_mem hi
  have h1 := mem_sumR h.ok' hm
  obtain ⟨q1, q2, q3, q4, q5⟩ := h.rows _ hm
  unfold relBad
  rw [if_neg (by rw [(spotB_has h.up).2 q1]; decide), if_neg (by omega), if_neg, if_neg (by omega)]
  rintro ⟨h5, h6⟩
  have := List.pairwise_iff_getElem.1 h.rup (i - 1) i (by omega) hi (by omega)
  rw [← relAt_of (List.getElem?_eq_getElem (show i - 1 < L.rel.length by omega)), ← relAt_of (List.getElem?_eq_getElem hi)] at this
  unfold laterB at h6
  rw [Bool.or_eq_false_iff, Bool.and_eq_false_iff, decide_eq_false_iff_not, decide_eq_false_iff_not, decide_eq_false_iff_not] at h6
  omega
theorem LF.new {l : List Acc} (h : newE l = 0) (hok : ∀ x ∈ l, x.ok) : LF ⟨l, [], 0, sumA l⟩ := by
 obtain ⟨h1, h2, h3⟩ := newE_zero h
 have hf := accFine_of h2
 refine ⟨hok, fun y hy => (by cases hy), h1, Nat.zero_le _, accFine_up hf, fun x hx => ?_, List.Pairwise.nil, fun y hy => (by cases hy), Int.le_refl 0, h3, by simp [sumR]⟩
 obtain ⟨i, hi, e⟩ := List.mem_iff_getElem.1 hx
 have := hf.no0 i hi
 rw [accAt_of (List.getElem?_eq_getElem hi), e] at this; exact this
/-! ### Rows -/
def updW : List Rel → Int → Int → Int → Int → List Rel
 | [], h, a, b, n => [addAmt n ⟨h, a, b, 0⟩]
 | y :: r, h, a, b, n => if y.h = h ∧ y.a = a then addAmt n y :: r else if h < y.h ∨ (h = y.h ∧ a < y.a) then addAmt n ⟨h, a, b, 0⟩ :: y :: r else y :: updW r h a b n
theorem later_key (y : Rel) (h a : Int) : (laterI y (rowK h a) < 0 ↔ y.h < h ∨ (y.h = h ∧ y.a < a)) ∧ (laterI y (rowK h a) = 0 ↔ y.h = h ∧ y.a = a) := by
 have e : laterI y (rowK h a) = orI (cmpI y.h h) (cmpI y.a a) := rfl
 rw [e]
 unfold orI cmpI
 by_cases h1 : y.h < h
 ·simp [h1]; omega
 ·by_cases h2 : h < y.h
  ·simp [h1, h2]; omega
  ·have h3 : y.h = h := by omega
   by_cases h4 : y.a < a
   ·simp [h3, h4]; omega
   ·by_cases h5 : a < y.a
    ·simp [h3, h4, h5]; omega
    ·have h6 : y.a = a := by omega
     simp [h3, h6]
theorem row_up {r : List Rel} (hr : RUp r) (h a : Int) : (∀ i, i < rowI r h a → (relAt r i).h < h ∨ ((relAt r i).h = h ∧ (relAt r i).a < a)) ∧ (∀ i, rowI r h a ≤ i → i < r.length → h < (relAt r i).h ∨ (h = (relAt r i).h ∧ a ≤ (relAt r i).a)) := by
 obtain ⟨h1, h2⟩ := bsN_spec (p := fun i => decide (laterI (relAt r i) (rowK h a) < 0)) r.length 0 r.length (Nat.le_refl _) (Nat.zero_le _) fun i j _ hij hj hp => by
  have h3 := List.pairwise_iff_getElem.1 hr i j (by omega) hj hij
  rw [← relAt_of (List.getElem?_eq_getElem (show i < r.length by omega)), ← relAt_of (List.getElem?_eq_getElem hj)] at h3
  have hp := (later_key _ h a).1.1 (of_decide_eq_true hp)
  exact decide_eq_true ((later_key _ h a).1.2 (by omega))
 refine ⟨fun i hi => (later_key _ h a).1.1 (of_decide_eq_true (h1 i (Nat.zero_le _) hi)), fun i hi hn => ?_⟩
 have h3 := of_decide_eq_false (h2 i hi hn)
 rw [(later_key _ h a).1] at h3
 omega
theorem updW_set {h a b n : Int} : ∀ {r : List Rel} {i : Nat}, (∀ j, j < i → (relAt r j).h < h ∨ ((relAt r j).h = h ∧ (relAt r j).a < a)) → i < r.length → (relAt r i).h = h → (relAt r i).a = a → r.set i (addAmt n (relAt r i)) = updW r h a b n
 | [], i, _, hi, _, _ => by simp at hi
 | x :: r, 0, _, _, e, e2 => by rw [updW, if_pos (show x.h = h ∧ x.a = a from ⟨e, e2⟩)]; rfl
 | x :: r, i + 1, hl, hi, e, e2 => by
  have h0 : x.h < h ∨ (x.h = h ∧ x.a < a) := hl 0 (Nat.succ_pos _)
  rw [updW, if_neg (by omega), if_neg (by omega)]
  exact congrArg (x :: ·) (updW_set (r := r) (i := i) (fun j hj => hl (j + 1) (by omega)) (by simpa using hi) e e2)
theorem updW_ins {h a b n : Int} : ∀ {r : List Rel} {i : Nat}, (∀ j, j < i → (relAt r j).h < h ∨ ((relAt r j).h = h ∧ (relAt r j).a < a)) → (∀ j, i ≤ j → j < r.length → h < (relAt r j).h ∨ (h = (relAt r j).h ∧ a < (relAt r j).a)) → i ≤ r.length → insL r i (addAmt n ⟨h, a, b, 0⟩) = updW r h a b n
 | [], i, _, _, hi => by
  obtain rfl : i = 0 := by simpa using hi
  rfl
 | x :: r, 0, _, h2, _ => by
  have h0 : h < x.h ∨ (h = x.h ∧ a < x.a) := h2 0 (Nat.le_refl _) (Nat.succ_pos _)
  rw [updW, if_neg (by omega), if_pos h0]; rfl
 | x :: r, i + 1, hl, h2, hi => by
  have h0 : x.h < h ∨ (x.h = h ∧ x.a < a) := hl 0 (Nat.succ_pos _)
  rw [updW, if_neg (by omega), if_neg (by omega)]
  exact congrArg (x :: ·) (updW_ins (r := r) (i := i) (fun j hj => hl (j + 1) (by omega)) (fun j h3 h4 => h2 (j + 1) (by omega) (by simpa using h4)) (by simpa using hi))
theorem rowB_at {r : List Rel} {h a : Int} (e : rowB r h a = true) : rowI r h a < r.length ∧ (relAt r (rowI r h a)).h = h ∧ (relAt r (rowI r h a)).a = a := by
 unfold rowB at e
 rw [Bool.and_eq_true, decide_eq_true_eq, decide_eq_true_eq, (later_key _ h a).2] at e
 exact e
theorem relP_eq {r : List Rel} (hr : RUp r) (h a b n : Int) : relP r h a b n = updW r h a b n := by
 obtain ⟨h1, h2⟩ := row_up hr h a
 have hi := rowI_le r h a
 unfold relP
 cases e : rowB r h a with
 | true =>
  obtain ⟨q1, q2, q3⟩ := rowB_at e
  rw [midR_yes e]
  exact updW_set h1 q1 q2 q3
 | false =>
  rw [midR_no e]
  have e2 : (insL r (rowI r h a) ⟨h, a, b, 0⟩)[rowI r h a]? = some ⟨h, a, b, 0⟩ := by
   unfold insL; rw [List.getElem?_append_right (by rw [List.length_take]; omega), List.length_take, Nat.min_eq_left hi, Nat.sub_self]; rfl
  rw [relAt_of e2, ← updW_ins h1 (fun j h3 h4 => ?_) hi]
  ·unfold insL
   rw [List.set_append_right _ _ (by rw [List.length_take]; omega), List.length_take, Nat.min_eq_left hi, Nat.sub_self]; rfl
  ·rcases h2 j h3 h4 with h5 | ⟨h5, h6⟩
   ·exact .inl h5
   ·refine .inr ⟨h5, ?_⟩
    rcases Int.lt_or_eq_of_le h6 with h7 | h7
    ·exact h7
    ·exfalso
     have e3 : rowI r h a = j := by
      rcases Nat.lt_or_ge (rowI r h a) j with h8 | h8
      ·have h9 := List.pairwise_iff_getElem.1 hr _ j (by omega) h4 h8
       rw [← relAt_of (List.getElem?_eq_getElem (show rowI r h a < r.length by omega)), ← relAt_of (List.getElem?_eq_getElem h4)] at h9
       have := h2 _ (Nat.le_refl _) (show rowI r h a < r.length by omega)
       omega
      ·omega
     have : rowB r h a = true := by
      unfold rowB
      rw [Bool.and_eq_true, decide_eq_true_eq, decide_eq_true_eq, (later_key _ h a).2, e3]
      exact ⟨h4, h5.symm, h7.symm⟩
     rw [e] at this; cases this
theorem updW_mem {h a b n : Int} : ∀ {r : List Rel} {z : Rel}, z ∈ updW r h a b n → z ∈ r ∨ ∃ y, (y ∈ r ∨ y = ⟨h, a, b, 0⟩) ∧ y.h = h ∧ y.a = a ∧ z = addAmt n y
 | [], z, hz => .inr ⟨_, .inr rfl, rfl, rfl, by simpa [updW] using hz⟩
 | x :: r, z, hz => by
  rw [updW] at hz
  split at hz
  ·rename_i e
   rcases List.mem_cons.1 hz with rfl | hz
   ·exact .inr ⟨x, .inl (List.mem_cons_self ..), e.1, e.2, rfl⟩
   ·exact .inl (List.mem_cons_of_mem _ hz)
  ·split at hz
   ·rcases List.mem_cons.1 hz with rfl | hz
    ·exact .inr ⟨_, .inr rfl, rfl, rfl, rfl⟩
    ·exact .inl hz
   ·rcases List.mem_cons.1 hz with rfl | hz
    ·exact .inl (List.mem_cons_self ..)
    ·rcases updW_mem hz with hz | ⟨y, h1, h2⟩
     ·exact .inl (List.mem_cons_of_mem _ hz)
     ·exact .inr ⟨y, h1.imp (List.mem_cons_of_mem _) id, h2⟩
theorem updW_up {h a b n : Int} : ∀ {r : List Rel}, RUp r → RUp (updW r h a b n)
 | [], _ => List.pairwise_singleton ..
 | x :: r, hr => by
  obtain ⟨h1, h2⟩ := List.pairwise_cons.1 hr
  rw [updW]
  split
  ·exact List.pairwise_cons.2 ⟨fun y hy => h1 y hy, h2⟩
  ·split
   ·rename_i e
    refine List.pairwise_cons.2 ⟨fun y hy => ?_, hr⟩
    show h < y.h ∨ (h = y.h ∧ a < y.a)
    rcases List.mem_cons.1 hy with rfl | hy
    ·exact e
    ·have := h1 y hy; omega
   ·refine List.pairwise_cons.2 ⟨fun y hy => ?_, updW_up h2⟩
    rcases updW_mem hy with hy | ⟨z, _, e1, e2, rfl⟩
    ·exact h1 y hy
    ·show x.h < z.h ∨ (x.h = z.h ∧ x.a < z.a); omega
theorem sumR_updW {h a b n : Int} (hn : 0 ≤ n) (hn2 : n ≤ MS) : ∀ {r : List Rel}, (∀ y ∈ r, y.ok) → sumR r ≤ MS → sumR (updW r h a b n) = sumR r + n
 | [], _, _ => by
  have : w64 (0 + n) = n := by rw [w64_eq]; have : MS = 1152921504606846975 := rfl; omega
  show sumR [addAmt n ⟨h, a, b, 0⟩] = sumR [] + n
  simp [sumR, addAmt, w64_eq]; have : MS = 1152921504606846975 := rfl; omega
 | x :: r, hok, hs => by
  have hms : MS = 1152921504606846975 := rfl
  have hok2 : ∀ y ∈ r, y.ok := fun y hy => hok y (List.mem_cons_of_mem _ hy)
  have h0 := sumR_nn hok2
  obtain ⟨_, _, _, ⟨h4, _⟩⟩ := hok x (List.mem_cons_self ..)
  rw [sumR_cons] at hs
  rw [updW]
  split
  ·rw [sumR_cons, sumR_cons]
   show w64 (x.amt + n) + _ = _
   rw [w64_eq]; omega
  ·split
   ·rw [sumR_cons, sumR_cons]
    show w64 (0 + n) + _ = _
    rw [w64_eq]; omega
   ·rw [sumR_cons, sumR_cons, sumR_updW hn hn2 hok2 (by omega)]; omega
theorem updW_len_has {r : List Rel} {h a b n : Int} (hr : RUp r) (e : rowB r h a = true) : (updW r h a b n).length = r.length := by
 rw [← relP_eq hr]; unfold relP; rw [List.length_set, midR_yes e]
end Go.Proofs.YtcngmkjdpoiiaaaGreatDoor

/- Plain: what Apply keeps. Printed by gen.py. -/
set_option maxRecDepth 100000
namespace Go.Proofs.YtcngmkjdpoiiaaaGreatDoor
open Go Go.RowKit Go.Proofs
set_option maxHeartbeats 2000000
structure Nice (l : List Acc) : Prop where
 up : Up l
 ok : ∀ x ∈ l, x.ok
 no0 : ∀ x ∈ l, x.a ≠ 0
theorem Nice.upd {f : Acc → Acc} (hf : Keeps f) (hok : ∀ x, x.ok → (f x).ok) {a : Int} (ha : u64 a) (h0 : a ≠ 0) {l : List Acc} (h : Nice l) : Nice (updR l a f) :=
 ⟨updR_up hf h.up, updR_ok hok ha h.ok, fun x hx => by
  rcases (mem_updR hf h.up).1 hx with ⟨h1, _⟩ | rfl
  ·exact h.no0 x h1
  ·rw [hf, getA_a]; exact h0⟩
theorem u64_of_sum {x : Int} (h0 : 0 ≤ x) (h1 : x ≤ 2305843009213693951) : w64 x = x := w64_id ⟨h0, by omega⟩
theorem sum_addBal {l : List Acc} (h : Nice l) (hs : sumA l ≤ MS) {n : Int} (h0 : 0 ≤ n) (h1 : n ≤ MS) (a : Int) : sumA (updR l a (addBal n)) = sumA l + n := by
 have hms : MS = 1152921504606846975 := rfl
 obtain ⟨q1, q2, q3⟩ := getA_le h.up h.ok a
 rw [sumA_updR]
 show _ + (w64 ((getA l a).bal + n) + (getA l a).bond) - _ = _
 rw [u64_of_sum (by omega) (by omega)]; omega
theorem non_addBal {l : List Acc} (h : Up l) (a n b : Int) : (getA (updR l a (addBal n)) b).non = (getA l b).non := by
 rw [getA_updR (keeps_add n) h]
 split
 ·rename_i e; rw [e]; rfl
 ·rfl
/-- What every call keeps. -/
structure Kept (L M : Led) : Prop where
 lf : LF M
 sup : M.sup = L.sup
 has : ∀ a, hasA L.acc a → hasA M.acc a
 non : ∀ a, hasA L.acc a → (getA L.acc a).non ≤ (getA M.acc a).non
theorem Kept.there {L M : Led} (h : Kept L M) (hL : LF L) : ∀ z ∈ L.acc, (findA M.acc z.a).a = z.a := fun z hz => by
 rw [findA_getA h.lf.up (h.has _ ⟨z, hz, rfl⟩), getA_a]
theorem find_self {L : Led} (hL : LF L) {z : Acc} (hz : z ∈ L.acc) : z = findA L.acc z.a := by
 rw [findA_getA hL.up ⟨z, hz, rfl⟩, getA_of hL.up hz]
/-! ### Apply -/
structure AppKept (L M : Led) (x : Tx) (b : Int) : Prop where
 kept : Kept L M
 oth : ∀ z ∈ M.acc, z.a ≠ x.frm → z.a ≠ x.to → z.a ≠ b → z = findA L.acc z.a
 nonc : (findA M.acc x.frm).non = (findA L.acc x.frm).non + 1
 one : (findA L.acc x.frm).non = x.non
 frm : hasA L.acc x.frm
theorem sender_getA {rc : List Rcd} {ch : List Int} {L : Led} {p : Par} {h : Int} {x : Tx} (hu : Up L.acc) (hc : ChkFine rc ch L p h x) : senderA L x = getA L.acc x.frm := accAt_getA hu hc.frm
theorem bond_pay {x : Tx} {A : Acc} (hA : A.ok) (hk : x.kind = 3 → x.amt ≤ A.bond) (hx : x.ok) (hb : A.bond ≤ MS) (ha : x.amt ≤ MS) : (payK x A).bond = if x.kind = 2 then A.bond + x.amt else if x.kind = 3 then A.bond - x.amt else A.bond := by
 have hms : MS = 1152921504606846975 := rfl
 obtain ⟨_, _, ⟨b0, b1⟩, _⟩ := hA
 have := hx.amt.1
 show (if x.kind = 2 then w64 (A.bond + x.amt) else if x.kind = 3 then w64 (A.bond - x.amt) else A.bond) = _
 split
 ·rw [u64_of_sum (by omega) (by omega)]
 ·split
  ·rename_i h1 h2; have := hk h2; rw [u64_of_sum (by omega) (by omega)]
  ·rfl
theorem keep_app {rc : List Rcd} {ch : List Int} {L : Led} {p : Par} {h b : Int} {x : Tx} (hL : LF L) (hx : x.ok) (hbu : u64 b) (hh : u64 h) (hp3 : u64 p.p3) (hc : ChkFine rc ch L p h x) : AppKept L (appP L p h b x) x b := by
 have hms : MS = 1152921504606846975 := rfl
 have hF := txFine_of (txbE_fine hc.tx).2
 have hs := hL.sum; have hsu := hL.sup; have hb0 := hL.b0; have hR := sumR_nn hL.ok'; have hS := sumA_nn hL.ok
 have hsa := sender_getA hL.up hc
 have hfrm : hasA L.acc x.frm := (spotB_has hL.up).1 hc.frm
 have hkd := hc.kind
 have hbal := hc.bal
 have hnon := hc.non
 have htop := hc.top
 rw [hsa] at hkd hbal hnon
 have hAok := getA_ok hL.up hL.ok hx.frm
 obtain ⟨a0, a1, a2⟩ := getA_le hL.up hL.ok x.frm
 have hamt := hx.amt.1; have hfee := hx.fee.1
 have hamt1 := hF.amt; have hfee1 := hF.fee
 have hnz := (hx.non).1
 have hA := accK_eq hL.up hL.ok hx hc
 have hkb : x.kind = 3 → x.amt ≤ (getA L.acc x.frm).bond := fun k3 => by
  unfold kindE at hkd; rw [if_neg (by omega), if_pos k3] at hkd; split at hkd <;> omega
 have hpb := bond_pay (x := x) hAok hkb hx (by omega) hamt1
 have hcost : costI x = if x.kind = 1 ∨ x.kind = 2 then x.fee + x.amt else x.fee := rfl
 have hpl : (payK x (getA L.acc x.frm)).bal = (getA L.acc x.frm).bal - costI x := by
  have hc0 : 0 ≤ costI x := by rw [hcost]; split <;> omega
  show w64 (_ + -costI x) = _
  rw [u64_of_sum (by omega) (by omega)]; omega
 have hpn : (payK x (getA L.acc x.frm)).non = (getA L.acc x.frm).non + 1 := by
  show w64 (_ + 1) = _
  obtain ⟨_, _, _, n0, n1⟩ := hAok
  exact w64_id ⟨by omega, by omega⟩
 have n0 : Nice L.acc := ⟨hL.up, hL.ok, hL.no0⟩
 have n1 : Nice (updR L.acc x.frm (payK x)) := n0.upd (keeps_pay x) (ok_pay x) hx.frm hF.frm
 have s1 := sumA_updR (payK x) x.frm L.acc
 rw [hpl, hpb] at s1
 have l1 := updR_len_has (f := payK x) hL.up hfrm
 have m1 : ∀ z ∈ updR L.acc x.frm (payK x), z.a ≠ x.frm → z ∈ L.acc := fun z hz hn => by
  rcases (mem_updR (keeps_pay x) hL.up).1 hz with ⟨h1, _⟩ | rfl
  ·exact h1
  ·exact absurd (show (payK x (getA L.acc x.frm)).a = x.frm from getA_a _ _) hn
 have g1 := getA_updR (keeps_pay x) hL.up x.frm
 have h1 : ∀ a, hasA L.acc a → hasA (updR L.acc x.frm (payK x)) a := fun a ha => (hasA_updR (keeps_pay x) hL.up).2 (.inl ha)
 generalize updR L.acc x.frm (payK x) = T1 at *
 have hsum1 : sumA T1 = sumA L.acc - x.fee - (if x.kind = 1 then x.amt else 0) - (if x.kind = 3 then x.amt else 0) := by
  rw [s1, hcost]
  have := hF.k1; have := hF.k2
  by_cases k1 : x.kind = 1
  ·rw [if_pos (.inl k1), if_neg (by omega), if_neg (by omega), if_pos k1, if_neg (by omega)]; omega
  ·by_cases k2 : x.kind = 2
   ·rw [if_pos (.inr k2), if_pos k2, if_neg k1, if_neg (by omega)]; omega
   ·by_cases k3 : x.kind = 3
    ·rw [if_neg (by omega), if_neg k2, if_pos k3, if_neg k1, if_pos k3]; omega
    ·rw [if_neg (by omega), if_neg k2, if_neg k3, if_neg k1, if_neg k3]; omega
 have hx3 : 0 ≤ (if x.kind = 3 then x.amt else 0) := by split <;> omega
 have hx1 : 0 ≤ (if x.kind = 1 then x.amt else 0) := by split <;> omega
 -- the second list
 have key2 : Nice (toK x T1) ∧ sumA (toK x T1) = sumA L.acc - x.fee - (if x.kind = 3 then x.amt else 0) ∧ (toK x T1).length ≤ 65536 ∧ (∀ z ∈ toK x T1, z.a ≠ x.to → z ∈ T1) ∧ (∀ a, (getA (toK x T1) a).non = (getA T1 a).non) ∧ (∀ a, hasA T1 a → hasA (toK x T1) a) := by
  unfold toK
  by_cases k1 : x.kind = 1
  ·rw [if_pos k1] at hsum1
   rw [if_pos k1]
   refine ⟨n1.upd (keeps_add _) (ok_add _) hx.to (hF.to.1 k1), by rw [sum_addBal n1 (by omega) hamt hamt1, hsum1]; omega, ?_, fun z hz hn => ?_, fun a => non_addBal n1.up _ _ _, fun a ha => updR_has (keeps_add _) ha⟩
   ·cases Classical.em (hasA T1 x.to) with
    | inl ht => rw [updR_len_has n1.up ht, l1]; exact hL.few
    | inr ht =>
     have := updR_len (f := addBal x.amt) (a := x.to) T1
     have ht2 : spotB L.acc x.to = false := by
      cases hq : spotB L.acc x.to with
      | false => rfl
      | true => exact absurd (h1 _ ((spotB_has hL.up).1 hq)) ht
     unfold kindE at hkd
     rw [if_pos k1] at hkd
     split at hkd
     ·omega
     ·rename_i hq
      have : ¬ 65536 ≤ L.acc.length := fun h9 => hq ⟨ht2, h9⟩
      omega
   ·rcases (mem_updR (keeps_add _) n1.up).1 hz with ⟨h2, _⟩ | rfl
    ·exact h2
    ·exact absurd (show (addBal x.amt (getA T1 x.to)).a = x.to from getA_a _ _) hn
  ·rw [if_neg k1] at hsum1
   rw [if_neg k1]
   exact ⟨n1, by omega, by rw [l1]; exact hL.few, fun z hz _ => hz, fun _ => rfl, fun _ ha => ha⟩
 obtain ⟨n2, hsum2, l2, m2, g2, h2⟩ := key2
 -- the third
 have hM : appP L p h b x = if spotB (toK x T1) b = true then ⟨updR (toK x T1) b (addBal x.fee), relK L p h x, L.burnt, L.sup⟩ else ⟨toK x T1, relK L p h x, w64 (L.burnt + x.fee), L.sup⟩ := by
  unfold appP
  rw [hA]
  cases hq : spotB (toK x T1) b with
  | true => rw [if_pos rfl, if_pos rfl, upd_yes n2.up hq]
  | false => rw [if_neg (by decide), if_neg (by decide)]
 have key3 : ∃ T3 bu, appP L p h b x = ⟨T3, relK L p h x, bu, L.sup⟩ ∧ Nice T3 ∧ bu + sumA T3 = L.burnt + sumA L.acc - (if x.kind = 3 then x.amt else 0) ∧ 0 ≤ bu ∧ T3.length ≤ 65536 ∧ (∀ z ∈ T3, z.a ≠ b → z ∈ toK x T1) ∧ (∀ a, (getA T3 a).non = (getA (toK x T1) a).non) ∧ (∀ a, hasA (toK x T1) a → hasA T3 a) := by
  rw [hM]
  split
  ·rename_i hb
   replace hb := (spotB_has n2.up).1 hb
   have hb2 : b ≠ 0 := by obtain ⟨z, hz, e⟩ := hb; rw [← e]; exact n2.no0 z hz
   refine ⟨_, _, rfl, n2.upd (keeps_add _) (ok_add _) hbu hb2, by rw [sum_addBal n2 (by omega) hfee hfee1, hsum2]; omega, hb0, by rw [updR_len_has n2.up hb]; exact l2, fun z hz hn => ?_, fun a => non_addBal n2.up _ _ _, fun a ha => updR_has (keeps_add _) ha⟩
   rcases (mem_updR (keeps_add _) n2.up).1 hz with ⟨h3, _⟩ | rfl
   ·exact h3
   ·exact absurd (show (addBal x.fee (getA (toK x T1) b)).a = b from getA_a _ _) hn
  ·have e : w64 (L.burnt + x.fee) = L.burnt + x.fee := u64_of_sum (by omega) (by omega)
   exact ⟨_, _, rfl, n2, by rw [e, hsum2]; omega, by rw [e]; omega, l2, fun z hz _ => hz, fun _ => rfl, fun _ ha => ha⟩
 obtain ⟨T3, bu, e3, n3, hsum3, hbu3, l3, m3, g3, h3⟩ := key3
 have hasM : ∀ a, hasA L.acc a → hasA T3 a := fun a ha => h3 a (h2 a (h1 a ha))
 have nonM : ∀ a, (getA T3 a).non = if a = x.frm then (getA L.acc x.frm).non + 1 else (getA L.acc a).non := fun a => by
  rw [g3, g2, g1]; split
  ·exact hpn
  ·rfl
 -- the rows
 have keyR : RUp (relK L p h x) ∧ (∀ y ∈ relK L p h x, y.ok) ∧ (∀ y ∈ relK L p h x, RowOk T3 y) ∧ sumR (relK L p h x) = sumR L.rel + (if x.kind = 3 then x.amt else 0) ∧ (relK L p h x).length ≤ 65536 := by
  have hrows : ∀ y ∈ L.rel, RowOk T3 y := fun y hy => ⟨hasM _ (hL.rows y hy).has, (hL.rows y hy).born, (hL.rows y hy).le, (hL.rows y hy).last, (hL.rows y hy).some_⟩
  unfold relK
  by_cases k3 : x.kind = 3
  ·have ht := hc.time
   unfold timeB at ht
   obtain ⟨q1, q2⟩ := hp3
   obtain ⟨q3, q4⟩ := hh
   unfold kindE at hkd
   rw [if_neg (by omega), if_pos k3] at hkd
   have ha0 : x.amt ≠ 0 := by intro h9; rw [if_pos (.inl h9)] at hkd; omega
   rw [if_neg (by have := hkb k3; omega)] at hkd
   rw [if_pos k3, if_pos k3, relP_eq hL.rup]
   have hnew : ∀ y, (y ∈ L.rel ∨ y = ⟨h + p.p3, x.frm, h, 0⟩) → y.h = h + p.p3 → y.a = x.frm → u64 y.amt ∧ y.amt ≤ MS ∧ u64 y.born ∧ y.born ≤ 1099511627776 ∧ y.born ≤ y.h := fun y hy e1 e2 => by
    rcases hy with hy | rfl
    ·have h5 := hL.ok' y hy
     have h6 := mem_sumR hL.ok' hy
     have h7 := hL.rows y hy
     exact ⟨h5.2.2.2, by omega, h5.2.2.1, h7.born, h7.le⟩
    ·exact ⟨⟨Int.le_refl 0, show (0 : Int) ≤ 18446744073709551615 by decide⟩, show (0 : Int) ≤ MS by omega, ⟨q3, q4⟩, show h ≤ 1099511627776 by omega, show h ≤ h + p.p3 by omega⟩
   refine ⟨updW_up hL.rup, fun z hz => ?_, fun z hz => ?_, sumR_updW hamt hamt1 hL.ok' (by omega), ?_⟩
   ·rcases updW_mem hz with hz | ⟨y, hy, e1, e2, rfl⟩
    ·exact hL.ok' z hz
    ·obtain ⟨w1, w2, w3, w4, w5⟩ := hnew y hy e1 e2
     exact ⟨by show u64 y.h; rw [e1]; exact ⟨by omega, by omega⟩, by show u64 y.a; rw [e2]; exact hx.frm, w3, w64_ok _⟩
   ·rcases updW_mem hz with hz | ⟨y, hy, e1, e2, rfl⟩
    ·exact hrows z hz
    ·obtain ⟨⟨w0, w1⟩, w2, w3, w4, w5⟩ := hnew y hy e1 e2
     refine ⟨by show hasA T3 y.a; rw [e2]; exact hasM _ hfrm, w4, w5, by show y.h ≤ _; omega, ?_⟩
     show w64 (y.amt + x.amt) ≠ 0
     rw [u64_of_sum (by omega) (by omega)]; omega
   ·cases hq : rowB L.rel (h + p.p3) x.frm with
    | true => rw [updW_len_has hL.rup hq]; exact hL.few'
    | false =>
     rw [← relP_eq hL.rup]
     have := midR_le L.rel (h + p.p3) x.frm h
     unfold relP
     rw [List.length_set]
     split at hkd
     ·omega
     ·rename_i h9
      have : ¬ 65536 ≤ L.rel.length := fun h8 => h9 ⟨hq, h8⟩
      omega
  ·rw [if_neg k3, if_neg k3]
   exact ⟨hL.rup, hL.ok', hrows, by omega, hL.few'⟩
 obtain ⟨r1, r2, r3, r4, r5⟩ := keyR
 rw [e3]
 have hLF : LF ⟨T3, relK L p h x, bu, L.sup⟩ := ⟨n3.ok, r2, l3, r5, n3.up, n3.no0, r1, r3, hbu3, hsu, by show bu + sumA T3 + sumR (relK L p h x) = L.sup; omega⟩
 refine ⟨⟨hLF, rfl, hasM, fun a ha => ?_⟩, fun z hz hn1 hn2 hn3 => find_self hL (m1 z (m2 z (m3 z hz hn3) hn2) hn1), ?_, ?_, hfrm⟩
 ·show _ ≤ (getA T3 a).non
  rw [nonM]; split
  ·rename_i e; rw [e]; omega
  ·exact Int.le_refl _
 ·show (findA T3 x.frm).non = _
  rw [findA_getA n3.up (hasM _ hfrm), findA_getA hL.up hfrm, nonM, if_pos rfl]
 ·rw [findA_getA hL.up hfrm]; exact hnon.symm
end Go.Proofs.YtcngmkjdpoiiaaaGreatDoor

/- Walks: Mul64, Div64 by a thousand, part. Printed by gen.py. -/
set_option maxRecDepth 100000
namespace Go.Proofs.YtcngmkjdpoiiaaaGreatDoor
open Go Go.RowKit Go.Proofs
theorem shr_10 (x : Int) : shrI .u64 x (64 - 54) = x / 1024 := by
 unfold shrI
 show x.fdiv (2 ^ 10) = _
 rw [Int.fdiv_eq_ediv_of_nonneg _ (by decide)]; rfl
theorem div_thou {hi lo U u D : Int} (h0 : 0 ≤ hi) (h1 : hi < 1000) (l0 : 0 ≤ lo) (l1 : lo < 18446744073709551616) (hU : U = hi * (4194304 * 4294967296) + lo / 1024) (hu : u = lo % 1024 * 4194304) (hD : D = U % 4194304000 * 4294967296 + u) :
  U / 4194304000 * 4294967296 + D / 4194304000 = (hi * 18446744073709551616 + lo) / 1000 ∧ D % 4194304000 / 4194304 = (hi * 18446744073709551616 + lo) % 1000 := by
 have e1 := Int.mul_ediv_add_emod U 4194304000
 have e2 := Int.mul_ediv_add_emod D 4194304000
 have r0 := Int.emod_nonneg D (show (4194304000 : Int) ≠ 0 by decide)
 have r1 := Int.emod_lt_of_pos D (show (0 : Int) < 4194304000 by decide)
 have e3 := Int.mul_ediv_add_emod lo 1024
 have m0 := Int.emod_nonneg lo (show (1024 : Int) ≠ 0 by decide)
 generalize D / 4194304000 = b at *
 generalize D % 4194304000 = r at *
 generalize U / 4194304000 = a at *
 generalize U % 4194304000 = t at *
 generalize lo / 1024 = g at *
 generalize lo % 1024 = m at *
 have hN : (hi * 18446744073709551616 + lo) * 4194304 = 4194304000 * (a * 4294967296 + b) + r := by omega
 have hr : r = (hi * 18446744073709551616 + lo - 1000 * (a * 4294967296 + b)) * 4194304 := by omega
 generalize hi * 18446744073709551616 + lo = N at *
 generalize a * 4294967296 + b = Q at *
 omega
theorem len1000 {gl : Nat → Obj} : SpecV (cx gl) 231 [.int .u64 1000] noPre (.int .i64 10) := by
 refine Spec.enter (C := cx gl) Tryz.func231 rfl 25 rfl rfl fun w0 h0 hsep hsub hpre => ?_
 obtain rfl : h0 = Heap.none := hsep
 show St (cx gl) _ [(0, .int .u64 1000)] _ _
 refine rT (lA (k:=?_))
 refine L_nil (qT (rS (rT (lM (k:=lP pGe (k:=?_))))))
 refine E_false (t := 4) rfl (by decide) ?_
 refine lQ (cE 0 rfl (cE 2 rfl (cE 4 rfl .nil))) (kF (k:=R_skip (qT (rS (rT (lM (k:=lP pGe (k:=?_))))))))
 refine E_false (t := 8) rfl (by decide) ?_
 refine lQ (cE 0 rfl (cE 2 rfl (cE 8 rfl .nil))) (kF (k:=R_skip (qT (rS (rT (lM (k:=lP pGe (k:=?_))))))))
 refine E_true (t := 14) rfl (by decide) ?_
 refine lQ (cE 0 rfl (cE 2 rfl (cE 14 rfl .nil))) (kT (k:=rT (lM (k:=?_))))
 refine lP (P_shr rfl rfl rfl (by omega)) (k:=?_)
 refine E_as (t := 16) (v' := .int .u64 3) rfl (by rfl) (lA (k:=?_))
 refine lQ (cE 0 rfl (cE 2 rfl .nil)) (rR (lM (k:=?_)))
 refine lP (P_addN rfl rfl rfl (by simp only [fits]; omega)) (k:=lA (k:=?_))
 refine lQ (cE 0 rfl (cE 2 rfl .nil)) (rT (lM (k:=lM (k:=?_))))
 refine lP (P_convN rfl ty_int_23 ty_int_5 rfl (by simp only [fits]; omega)) (k:=?_)
 refine lO (W_val rfl rfl (OpP.v (P_indexStr rfl ty_str_9 rfl rfl (by decide) (tab_at (m := 3) (by kernel_rfl) (by decide) (by decide)))) ?_)
 refine E_as (t := 22) (v' := .int .u8 2) rfl (by rfl) ?_
 refine lP (P_convN rfl ty_int_5 ty_int_3 rfl (by simp only [fits]; omega)) (k:=?_)
 refine lP (P_addN rfl rfl rfl (by simp only [fits]; omega)) (k:=lA (k:=?_))
 refine lQ (cE 2 rfl .nil) (R_ret ?_)
 exact R_endV rfl rfl (.tmp rfl .nil) (rfl)
theorem lz1000 {gl : Nat → Obj} : SpecV (cx gl) 220 [.int .u64 1000] noPre (.int .i64 54) := by
 refine Spec.enter (C := cx gl) Tryz.func220 rfl 6 rfl rfl fun w0 h0 hsep hsub hpre => ?_
 obtain rfl : h0 = Heap.none := hsep
 show St (cx gl) _ [(0, .int .u64 1000)] _ _
 refine rT (lA (k:=?_))
 refine L_nil (qT (rT (lM (k:=?_))))
 refine lO (W_callV rfl rfl rfl rfl fn_ca_231 (len1000) (fun _ _ => trivial) ?_)
 refine lP (P_subN rfl rfl rfl (by simp only [fits]; omega)) (k:=lA (k:=?_))
 refine lQ (cE 2 rfl .nil) (R_ret ?_)
 exact R_endV rfl rfl (.tmp rfl .nil) (rfl)
theorem div1000_ok {gl : Nat → Obj} (hi lo : Int) (h0 : 0 ≤ hi) (h1 : hi < 1000) (l0 : 0 ≤ lo) (l1 : lo < 18446744073709551616) : SpecV (cx gl) 166 [.int .u64 hi, .int .u64 lo, .int .u64 1000] noPre (.tuple #[.int .u64 ((hi * 18446744073709551616 + lo) / 1000), .int .u64 ((hi * 18446744073709551616 + lo) % 1000)]) := by
 refine Spec.enter (C := cx gl) Tryz.func166 rfl 135 rfl rfl fun w0 h0 hsep hsub hpre => ?_
 obtain rfl : h0 = Heap.none := hsep
 show St (cx gl) _ [(0, .int .u64 hi), (1, .int .u64 lo), (2, .int .u64 1000)] _ _
 refine rT (lA (k:=lA (k:=?_)))
 refine L_nil (qT (rS (rT (lM (k:=lP pEq (k:=?_))))))
 refine E_false (t := 20) rfl (by decide) ?_
 refine lQ (cE 0 rfl (cE 1 rfl (cE 2 rfl (cE 6 rfl (cE 7 rfl (cE 20 rfl .nil)))))) (kF (k:=R_skip (qT (rS (rT (lM (k:=lM (k:=lP pLe (k:=?_)))))))))
 refine E_false (t := 24) rfl (decide_eq_false (by omega)) ?_
 refine lQ (cE 0 rfl (cE 1 rfl (cE 2 rfl (cE 6 rfl (cE 7 rfl (cE 24 rfl .nil)))))) (kF (k:=R_skip (qT (rS (rT (lM (k:=lP pEq (k:=?_))))))))
 refine lQ (cE 0 rfl (cE 1 rfl (cE 2 rfl (cE 6 rfl (cE 7 rfl (cE 27 rfl .nil)))))) ?_
 refine R_condP rfl (fun hz => ?_) (fun hz => ?_)
 ·skip
  refine rS ?_
  refine R_open [(0, 0), (1, 0), (2, 0), (3, 0), (4, 0), (5, 0), (6, 0), (7, 0)] mixed (by kernel_rfl) (QOk.then (QOk.then QOk.body)) (oP rfl pM (k:=oP rfl pM (k:=?_)))
  refine oP rfl (P_quo rfl rfl rfl (by omega)) (k:=?_)
  refine E_as (t := 30) (v' := .int .u64 (lo / 1000)) rfl (by rw [Int.tdiv_eq_ediv_of_nonneg (by omega), wrap_fits (by simp only [fits]; omega)]) (oP rfl pM (k:=oP rfl pM (k:=?_)))
  refine oP rfl (P_rem rfl rfl rfl (by omega)) (k:=?_)
  refine E_as (t := 33) (v' := .int .u64 (lo % 1000)) rfl (by rw [Int.tmod_eq_emod_of_nonneg (by omega)]) (oP rfl pA (k:=oP rfl pA (k:=O_nil ?_)))
  refine St.env (cE 0 rfl (cE 1 rfl (cE 2 rfl (cE 6 rfl (cE 7 rfl .nil))))) (qT (R_ret (Q_then_ret ?_)))
  exact R_endV rfl rfl (.tmp rfl (.tmp rfl .nil)) (by rw [hz, show (0 : Int) * 18446744073709551616 + lo = lo by omega]; rfl)
 ·skip
  refine R_skip (qT (rS ?_))
  obtain ⟨U, hU⟩ : ∃ U : Int, U = hi * (4194304 * 4294967296) + lo / 1024 := ⟨_, rfl⟩
  obtain ⟨u, hu⟩ : ∃ u : Int, u = lo % 1024 * 4194304 := ⟨_, rfl⟩
  obtain ⟨D, hD⟩ : ∃ D : Int, D = U % 4194304000 * 4294967296 + u := ⟨_, rfl⟩
  obtain ⟨he1, he2⟩ := div_thou h0 h1 l0 l1 hU hu hD
  have U0 : 0 ≤ U := by omega
  have U1 : U < 4194304000 * 4294967296 := by omega
  have u0 : 0 ≤ u := by omega
  have u1 : u < 4294967296 := by omega
  have D0 : 0 ≤ D := by omega
  have D1 : D < 4194304000 * 4294967296 := by omega
  refine rR (lM (k:=?_))
  refine lO (W_callV rfl rfl rfl rfl fn_ca_220 (lz1000) (fun _ _ => trivial) ?_)
  refine lP (P_convN rfl ty_int_3 ty_int_271 rfl (by simp only [fits]; omega)) (k:=lA (k:=?_))
  refine lQ (cE 0 rfl (cE 1 rfl (cE 2 rfl (cE 6 rfl (cE 7 rfl (cE 8 rfl .nil)))))) (rT (lM (k:=lM (k:=?_))))
  refine lP (P_shl rfl rfl rfl (by omega)) (k:=?_)
  refine E_as (t := 39) (v' := .int .u64 18014398509481984000) rfl (by rfl) (lA (k:=?_))
  refine lQ (cE 0 rfl (cE 1 rfl (cE 2 rfl (cE 6 rfl (cE 7 rfl (cE 8 rfl .nil)))))) (rT (lM (k:=?_)))
  refine lP (P_shr rfl rfl rfl (by omega)) (k:=?_)
  refine E_as (t := 41) (v' := .int .u64 4194304000) rfl (by rfl) (lA (k:=?_))
  refine lQ (cE 0 rfl (cE 1 rfl (cE 2 rfl (cE 6 rfl (cE 7 rfl (cE 8 rfl (cE 9 rfl .nil))))))) (rT (lM (k:=?_)))
  refine lP (P_bit (op := .and) rfl rfl rfl rfl) (k:=?_)
  refine E_as (t := 43) (v' := .int .u64 0) rfl (by rw [and_mask (by decide) (by decide)]; rfl) (lA (k:=?_))
  refine lQ (cE 0 rfl (cE 1 rfl (cE 2 rfl (cE 6 rfl (cE 7 rfl (cE 8 rfl (cE 9 rfl (cE 10 rfl .nil)))))))) (rT (lM (k:=lM (k:=?_))))
  refine lP (P_shl rfl rfl rfl (by omega)) (k:=?_)
  refine E_as (t := 46) (v' := .int .u64 (hi * (4194304 * 4294967296))) rfl (by rw [show (54 : Int) = ((54 : Nat) : Int) from rfl, shl_s (s := 54) (p := 4194304) (by decide) (by decide), u64_fit (by omega) (by omega)]) (lM (k:=lM (k:=?_)))
  refine lP (P_subN rfl rfl rfl (by simp only [fits]; omega)) (k:=?_)
  refine lP (P_shr rfl rfl rfl (by omega)) (k:=?_)
  refine E_as (t := 50) (v' := .int .u64 (lo / 1024)) rfl (by rw [shr_10]) ?_
  refine lP (P_bit (op := .or) rfl rfl rfl rfl) (k:=?_)
  refine E_as (t := 51) (v' := .int .u64 U) rfl (by rw [or_sum (s := 54) (p := 4194304) (by decide) (by decide) h0 (by omega) (by omega) (by omega) (by omega), ← hU]) (lA (k:=?_))
  refine lQ (cE 1 rfl (cE 2 rfl (cE 6 rfl (cE 7 rfl (cE 8 rfl (cE 9 rfl (cE 10 rfl (cE 11 rfl .nil)))))))) (rT (lM (k:=lM (k:=?_))))
  refine lP (P_shl rfl rfl rfl (by omega)) (k:=?_)
  refine E_as (t := 54) (v' := .int .u64 (u * 4294967296)) rfl (by rw [show (54 : Int) = ((54 : Nat) : Int) from rfl, shl_lo (s := 54) (p := 4194304) (q := 1024) (by decide) (by decide) (by decide) (by decide) (by decide), ← hu]) (lA (k:=?_))
  refine lQ (cE 2 rfl (cE 6 rfl (cE 7 rfl (cE 8 rfl (cE 9 rfl (cE 10 rfl (cE 11 rfl (cE 12 rfl .nil)))))))) (rT (lM (k:=?_)))
  refine lP (P_shr rfl rfl rfl (by omega)) (k:=?_)
  refine E_as (t := 56) (v' := .int .u64 u) rfl (by rw [shr_32, Int.mul_ediv_cancel _ (by decide)]) (lA (k:=?_))
  refine lQ (cE 2 rfl (cE 6 rfl (cE 7 rfl (cE 8 rfl (cE 9 rfl (cE 10 rfl (cE 11 rfl (cE 12 rfl (cE 13 rfl .nil))))))))) (rT (lM (k:=?_)))
  refine lP (P_bit (op := .and) rfl rfl rfl rfl) (k:=?_)
  refine E_as (t := 58) (v' := .int .u64 0) rfl (by rw [and_mask (by omega) (by omega), Int.mul_emod_left]) (lA (k:=?_))
  refine lQ (cE 2 rfl (cE 6 rfl (cE 7 rfl (cE 8 rfl (cE 9 rfl (cE 10 rfl (cE 11 rfl (cE 13 rfl (cE 14 rfl .nil))))))))) (rT (lM (k:=lM (k:=?_))))
  refine lP (P_quo rfl rfl rfl (by decide)) (k:=?_)
  refine E_as (t := 61) (v' := .int .u64 (U / 4194304000)) rfl (by rw [Int.tdiv_eq_ediv_of_nonneg (by omega), wrap_fits (by simp only [fits]; omega)]) (lA (k:=?_))
  refine lQ (cE 2 rfl (cE 6 rfl (cE 7 rfl (cE 8 rfl (cE 9 rfl (cE 10 rfl (cE 11 rfl (cE 13 rfl (cE 14 rfl (cE 15 rfl .nil)))))))))) (rT (lM (k:=lM (k:=lM (k:=?_)))))
  refine lP (P_mulN rfl rfl rfl (by simp only [fits]; omega)) (k:=?_)
  refine lP (P_subN rfl rfl rfl (by simp only [fits]; omega)) (k:=?_)
  refine E_as (t := 66) (v' := .int .u64 (U % 4194304000)) rfl (by congr 1; omega) (lA (k:=?_))
  refine lQ (cE 2 rfl (cE 6 rfl (cE 7 rfl (cE 8 rfl (cE 9 rfl (cE 10 rfl (cE 11 rfl (cE 13 rfl (cE 14 rfl (cE 15 rfl (cE 16 rfl .nil))))))))))) (rS (R_block ?_))
  refine R_loopE (G := Unit) (cE 2 rfl (cE 6 rfl (cE 7 rfl (cE 8 rfl (cE 9 rfl (cE 10 rfl (cE 11 rfl (cE 13 rfl (cE 14 rfl (cE 15 rfl (cE 16 rfl .nil))))))))))) (fun g => []) (fun _ => _) (fun g => True) (fun g => 0) (()) (trivial) (by repeat (first | exact .nil | refine .cons rfl ?_ | refine .consE rfl (by first | rfl | (congr 1; omega) | (congr 1; push_cast; omega)) ?_)) (Weak.refl _) ?_
  intro z hinv
  replace hinv : True := hinv
  show St (cx gl) _ _ _ _
  refine rS (rT (lM (k:=lP pGe (k:=?_))))
  refine E_false (t := 68) rfl (decide_eq_false (by omega)) (lM (k:=lM (k:=lM (k:=?_))))
  refine lP (P_mulN rfl rfl rfl (by rw [Int.mul_zero]; simp only [fits]; omega)) (k:=lM (k:=?_))
  refine lP (P_mulN rfl rfl rfl (by simp only [fits]; omega)) (k:=lM (k:=?_))
  refine lP (P_addN rfl rfl rfl (by simp only [fits]; omega)) (k:=lP pGt (k:=?_))
  refine E_false (t := 77) rfl (decide_eq_false (by rw [Int.mul_zero]; omega)) (lP pK (k:=?_))
  refine L_nil (qT (kF (k:=R_exit (Q_then_exit (Q_then_exit (Q_block_eq ?_))))))
  refine St.env (cE 2 rfl (cE 6 rfl (cE 7 rfl (cE 8 rfl (cE 9 rfl (cE 10 rfl (cE 11 rfl (cE 13 rfl (cE 14 rfl (cE 15 rfl (cE 16 rfl .nil))))))))))) (qT (rT (lM (k:=?_))))
  refine lP (P_mul rfl rfl rfl) (k:=lM (k:=?_))
  refine lP (P_add rfl rfl rfl) (k:=lM (k:=lM (k:=?_)))
  refine lP (P_mul rfl rfl rfl) (k:=?_)
  refine lP (P_sub rfl rfl rfl) (k:=?_)
  refine E_as (t := 93) (v' := .int .u64 D) rfl (by rw [sub_w (x := D) (by omega) (by omega) (by omega)]) (lA (k:=?_))
  refine lQ (cE 2 rfl (cE 6 rfl (cE 7 rfl (cE 8 rfl (cE 9 rfl (cE 10 rfl (cE 14 rfl (cE 15 rfl (cE 16 rfl (cE 17 rfl .nil)))))))))) (rT (lM (k:=lM (k:=?_))))
  refine lP (P_quo rfl rfl rfl (by decide)) (k:=?_)
  refine E_as (t := 96) (v' := .int .u64 (D / 4194304000)) rfl (by rw [Int.tdiv_eq_ediv_of_nonneg (by omega), wrap_fits (by simp only [fits]; omega)]) (lA (k:=?_))
  refine lQ (cE 2 rfl (cE 6 rfl (cE 7 rfl (cE 8 rfl (cE 9 rfl (cE 10 rfl (cE 14 rfl (cE 15 rfl (cE 16 rfl (cE 17 rfl (cE 18 rfl .nil))))))))))) (rT (lM (k:=lM (k:=lM (k:=?_)))))
  refine lP (P_mulN rfl rfl rfl (by simp only [fits]; omega)) (k:=?_)
  refine lP (P_subN rfl rfl rfl (by simp only [fits]; omega)) (k:=?_)
  refine E_as (t := 101) (v' := .int .u64 (D % 4194304000)) rfl (by congr 1; omega) (lA (k:=?_))
  refine lQ (cE 2 rfl (cE 6 rfl (cE 7 rfl (cE 8 rfl (cE 9 rfl (cE 10 rfl (cE 14 rfl (cE 15 rfl (cE 16 rfl (cE 17 rfl (cE 18 rfl .nil))))))))))) (rS (R_block ?_))
  refine R_loopE (G := Unit) (cE 2 rfl (cE 6 rfl (cE 7 rfl (cE 8 rfl (cE 9 rfl (cE 10 rfl (cE 14 rfl (cE 15 rfl (cE 16 rfl (cE 17 rfl (cE 18 rfl .nil))))))))))) (fun g => []) (fun _ => _) (fun g => True) (fun g => 0) (()) (trivial) (by repeat (first | exact .nil | refine .cons rfl ?_ | refine .consE rfl (by first | rfl | (congr 1; omega) | (congr 1; push_cast; omega)) ?_)) (Weak.refl _) ?_
  intro z hinv
  replace hinv : True := hinv
  show St (cx gl) _ _ _ _
  refine rS (rT (lM (k:=lP pGe (k:=?_))))
  refine E_false (t := 103) rfl (decide_eq_false (by omega)) (lM (k:=lM (k:=lM (k:=?_))))
  refine lP (P_mulN rfl rfl rfl (by rw [Int.mul_zero]; simp only [fits]; omega)) (k:=lM (k:=?_))
  refine lP (P_mulN rfl rfl rfl (by simp only [fits]; omega)) (k:=lM (k:=?_))
  refine lP (P_addN rfl rfl rfl (by simp only [fits]; omega)) (k:=lP pGt (k:=?_))
  refine E_false (t := 112) rfl (decide_eq_false (by rw [Int.mul_zero]; omega)) (lP pK (k:=?_))
  refine L_nil (qT (kF (k:=R_exit (Q_then_exit (Q_then_exit (Q_block_eq ?_))))))
  refine St.env (cE 2 rfl (cE 6 rfl (cE 7 rfl (cE 8 rfl (cE 14 rfl (cE 15 rfl (cE 17 rfl (cE 18 rfl .nil)))))))) (qT (rT (lM (k:=?_))))
  refine lP (P_mulN rfl rfl rfl (by simp only [fits]; omega)) (k:=lM (k:=?_))
  refine lP (P_addN rfl rfl rfl (by simp only [fits]; omega)) (k:=lM (k:=?_))
  refine lP (P_mul rfl rfl rfl) (k:=lM (k:=?_))
  refine lP (P_add rfl rfl rfl) (k:=lM (k:=lM (k:=?_)))
  refine lP (P_mul rfl rfl rfl) (k:=?_)
  refine lP (P_sub rfl rfl rfl) (k:=?_)
  refine E_as (t := 132) (v' := .int .u64 (D % 4194304000 * 4294967296)) rfl (by rw [sub_w (x := D % 4194304000 * 4294967296) (by omega) (by omega) (by omega)]) (lM (k:=?_))
  refine lP (P_shr rfl rfl rfl (by omega)) (k:=?_)
  refine E_as (t := 134) (v' := .int .u64 (D % 4194304000 / 4194304)) rfl (by rw [show (54 : Int) = ((54 : Nat) : Int) from rfl, shr_s (s := 54) (p := 4194304) (by decide) (by decide) (by omega), Int.mul_ediv_mul_of_pos_left _ _ (by decide)]) (lA (k:=lA (k:=?_)))
  refine lQ (cE 6 rfl (cE 7 rfl .nil)) (R_ret ?_)
  exact R_endV rfl rfl (.tmp rfl (.tmp rfl .nil)) (by rw [he1, he2]; rfl)
theorem mul64_ok {gl : Nat → Obj} (x y z : Int) (hx : u64 x) (hy0 : 0 ≤ y) (hy1 : y ≤ 1000) (hz : z = x * y) : SpecV (cx gl) 165 [.int .u64 x, .int .u64 y] noPre (.tuple #[.int .u64 (z / 18446744073709551616), .int .u64 (z % 18446744073709551616)]) := by
 refine Spec.enter (C := cx gl) Tryz.func165 rfl 51 rfl rfl fun w0 h0 hsep hsub hpre => ?_
 obtain rfl : h0 = Heap.none := hsep
 show St (cx gl) _ [(0, .int .u64 x), (1, .int .u64 y)] _ _
 refine rT (lA (k:=lA (k:=?_)))
 refine L_nil (qT (rS ?_))
 obtain ⟨hx0, hx1⟩ := hx
 obtain ⟨a, ha⟩ : ∃ a, a = x % 4294967296 * y := ⟨_, rfl⟩
 obtain ⟨b, hb⟩ : ∃ b, b = x / 4294967296 * y := ⟨_, rfl⟩
 have a0 : 0 ≤ a := by rw [ha]; exact Int.mul_nonneg (by omega) hy0
 have a1 : a ≤ 4294967295 * 1000 := by rw [ha]; exact Int.mul_le_mul (by omega) hy1 hy0 (by decide)
 have b0 : 0 ≤ b := by rw [hb]; exact Int.mul_nonneg (by omega) hy0
 have b1 : b ≤ 4294967295 * 1000 := by rw [hb]; exact Int.mul_le_mul (by omega) hy1 hy0 (by decide)
 have hz2 : z = b * 4294967296 + a := by rw [hz, ha, hb, Int.mul_right_comm, ← Int.add_mul, Int.mul_comm (x / 4294967296), Int.mul_ediv_add_emod]
 refine rR (lM (k:=?_))
 refine lP (P_bit (op := .and) rfl rfl rfl rfl) (k:=?_)
 refine E_as (t := 15) (v' := .int .u64 (x % 4294967296)) rfl (by rw [and_mask (by omega) (by omega)]) (lA (k:=?_))
 refine lQ (cE 0 rfl (cE 1 rfl (cE 4 rfl (cE 5 rfl (cE 6 rfl .nil))))) (rT (lM (k:=?_)))
 refine lP (P_shr rfl rfl rfl (by omega)) (k:=?_)
 refine E_as (t := 17) (v' := .int .u64 (x / 4294967296)) rfl (by rw [shr_32]) (lA (k:=?_))
 refine lQ (cE 0 rfl (cE 1 rfl (cE 4 rfl (cE 5 rfl (cE 6 rfl (cE 7 rfl .nil)))))) (rT (lM (k:=?_)))
 refine lP (P_bit (op := .and) rfl rfl rfl rfl) (k:=?_)
 refine E_as (t := 19) (v' := .int .u64 (y)) rfl (by rw [and_mask (by omega) (by omega), Int.emod_eq_of_lt (by omega) (by omega)]) (lA (k:=?_))
 refine lQ (cE 0 rfl (cE 1 rfl (cE 4 rfl (cE 5 rfl (cE 6 rfl (cE 7 rfl (cE 8 rfl .nil))))))) (rT (lM (k:=?_)))
 refine lP (P_shr rfl rfl rfl (by omega)) (k:=?_)
 refine E_as (t := 21) (v' := .int .u64 0) rfl (by rw [shr_32, Int.ediv_eq_zero_of_lt (by omega) (by omega)]) (lA (k:=?_))
 refine lQ (cE 0 rfl (cE 1 rfl (cE 4 rfl (cE 5 rfl (cE 6 rfl (cE 7 rfl (cE 8 rfl (cE 9 rfl .nil)))))))) (rT (lM (k:=lM (k:=?_))))
 refine lP (P_mulN rfl rfl rfl (by rw [← ha]; simp only [fits]; omega)) (k:=?_)
 refine E_as (t := 24) (v' := .int .u64 (a)) rfl (by rw [ha]) (lA (k:=?_))
 refine lQ (cE 0 rfl (cE 1 rfl (cE 4 rfl (cE 5 rfl (cE 6 rfl (cE 7 rfl (cE 8 rfl (cE 9 rfl (cE 10 rfl .nil))))))))) (rT (lM (k:=lM (k:=?_))))
 refine lP (P_mulN rfl rfl rfl (by rw [← hb]; simp only [fits]; omega)) (k:=?_)
 refine E_as (t := 27) (v' := .int .u64 (b)) rfl (by rw [hb]) (lM (k:=?_))
 refine lP (P_shr rfl rfl rfl (by omega)) (k:=?_)
 refine E_as (t := 29) (v' := .int .u64 (a / 4294967296)) rfl (by rw [shr_32]) ?_
 refine lP (P_addN rfl rfl rfl (by simp only [fits]; omega)) (k:=lA (k:=?_))
 refine lQ (cE 0 rfl (cE 1 rfl (cE 4 rfl (cE 5 rfl (cE 6 rfl (cE 7 rfl (cE 9 rfl (cE 11 rfl .nil)))))))) (rT (lM (k:=?_)))
 refine lP (P_bit (op := .and) rfl rfl rfl rfl) (k:=?_)
 refine E_as (t := 32) (v' := .int .u64 ((b + a / 4294967296) % 4294967296)) rfl (by rw [and_mask (by omega) (by omega)]) (lA (k:=?_))
 refine lQ (cE 0 rfl (cE 1 rfl (cE 4 rfl (cE 5 rfl (cE 6 rfl (cE 7 rfl (cE 9 rfl (cE 11 rfl (cE 12 rfl .nil))))))))) (rT (lM (k:=?_)))
 refine lP (P_shr rfl rfl rfl (by omega)) (k:=?_)
 refine E_as (t := 34) (v' := .int .u64 ((b + a / 4294967296) / 4294967296)) rfl (by rw [shr_32]) (lA (k:=?_))
 refine lQ (cE 0 rfl (cE 1 rfl (cE 4 rfl (cE 5 rfl (cE 6 rfl (cE 7 rfl (cE 9 rfl (cE 12 rfl (cE 13 rfl .nil))))))))) (rT (lM (k:=lM (k:=lM (k:=?_)))))
 refine lP (P_mulN rfl rfl rfl (by rw [Int.mul_zero]; simp only [fits]; omega)) (k:=?_)
 refine lP (P_addN rfl rfl rfl (by rw [Int.mul_zero]; simp only [fits]; omega)) (k:=lA (k:=?_))
 refine lQ (cE 0 rfl (cE 1 rfl (cE 4 rfl (cE 5 rfl (cE 7 rfl (cE 9 rfl (cE 12 rfl (cE 13 rfl .nil)))))))) (rT (lM (k:=lM (k:=?_))))
 refine lP (P_mulN rfl rfl rfl (by rw [Int.mul_zero]; simp only [fits]; omega)) (k:=lM (k:=?_))
 refine lP (P_addN rfl rfl rfl (by rw [Int.mul_zero]; simp only [fits]; omega)) (k:=lM (k:=?_))
 refine lP (P_shr rfl rfl rfl (by omega)) (k:=?_)
 refine E_as (t := 46) (v' := .int .u64 0) rfl (by rw [shr_32, Int.mul_zero, Int.ediv_eq_zero_of_lt (by omega) (by omega)]) ?_
 refine lP (P_addN rfl rfl rfl (by rw [Int.mul_zero]; simp only [fits]; omega)) (k:=lA (k:=?_))
 refine lQ (cE 0 rfl (cE 1 rfl (cE 4 rfl (cE 5 rfl .nil)))) (rT (lM (k:=lM (k:=?_))))
 refine lP (P_mul rfl rfl rfl) (k:=lA (k:=?_))
 refine lQ (cE 4 rfl (cE 5 rfl .nil)) (R_ret ?_)
 exact R_endV rfl rfl (.tmp rfl (.tmp rfl .nil)) (by rw [show x / 4294967296 * 0 + (b + a / 4294967296) / 4294967296 + 0 = z / 18446744073709551616 by rw [Int.mul_zero]; omega, wrap_e, ← hz]; rfl)
def partI (x y : Int) : Int := x * y / 1000
theorem part_ok {gl : Nat → Obj} (x y : Int) (hx : u64 x) (hy0 : 0 ≤ y) (hy1 : y ≤ 1000) : SpecV (cx gl) 85 [.int .u64 x, .int .u64 y] noPre (.int .u64 (partI x y)) := by
 refine Spec.enter (C := cx gl) Tryz.func85 rfl 22 rfl rfl fun w0 h0 hsep hsub hpre => ?_
 obtain rfl : h0 = Heap.none := hsep
 show St (cx gl) _ [(0, .int .u64 x), (1, .int .u64 y)] _ _
 refine rT (lA (k:=?_))
 refine L_nil (qT (rS ?_))
 obtain ⟨z, hz⟩ : ∃ z, z = x * y := ⟨_, rfl⟩
 have z0 : 0 ≤ z := by rw [hz]; exact Int.mul_nonneg hx.1 hy0
 have z1 : z ≤ 18446744073709551615 * 1000 := by rw [hz]; exact Int.mul_le_mul hx.2 hy1 hy0 (by decide)
 refine rR (lM (k:=lM (k:=?_)))
 refine lO (W_callV rfl rfl rfl rfl fn_ca_165 (mul64_ok x y z hx hy0 hy1 hz) (fun _ _ => trivial) (lM (k:=lP pX (k:=lP pX (k:=lA (k:=lA (k:=?_)))))))
 refine lQ (cE 4 rfl (cE 5 rfl (cE 6 rfl .nil))) (rT (lM (k:=lM (k:=?_))))
 refine lO (W_callV rfl rfl rfl rfl fn_ca_166 (div1000_ok (z / 18446744073709551616) (z % 18446744073709551616) (by omega) (by omega) (by omega) (by omega)) (fun _ _ => trivial) (lM (k:=lP pX (k:=lP pX (k:=lA (k:=lA (k:=?_)))))))
 refine lQ (cE 4 rfl (cE 7 rfl .nil)) (rT (lM (k:=lA (k:=?_))))
 refine lQ (cE 4 rfl .nil) (R_ret ?_)
 exact R_endV rfl rfl (.tmp rfl .nil) (by rw [show (z / 18446744073709551616 * 18446744073709551616 + z % 18446744073709551616) = z by omega, hz]; rfl)
end Go.Proofs.YtcngmkjdpoiiaaaGreatDoor

/- The twenty-third part of the program logic: what is cleared behind an owned slice is no more its own. -/
namespace Go.Proofs.YtcngmkjdpoiiaaaGreatDoor
open Go Go.RowKit
/-- The cells of a type's zero are single. -/
def zoneB (P : Program) (e : Nat) : Bool := match (P.info? e).bind (·.zero) with
 | some z => z.cells.all (·.oneCell')
 | none => false
theorem mem_zeroCells {z : Array Value} {n : Nat} {v : Value} (h : v ∈ (Builtin.zeroCells z n).toList) : v ∈ z := by
 unfold Builtin.zeroCells at h
 rw [Array.toList_map, List.mem_map] at h
 obtain ⟨i, hi, rfl⟩ := h
 have hlt : i < n * z.size := by simpa using hi
 have hz : 0 < z.size := by
  rcases Nat.eq_zero_or_pos z.size with h0 | h0
  ·rw [h0, Nat.mul_zero] at hlt; omega
  ·exact h0
 have hm : i % z.size < z.size := Nat.mod_lt _ hz
 rw [getElem!_pos z (i % z.size) hm]
 exact Array.getElem_mem hm
section
variable {C : Cx} {F : Fx} {l : Env} {rs rs' : List HP} {K : Act → World → Prop} {o : Oper} {Q : Exit → Act → World → Prop}
theorem splice_tail {cs junk zs : List Value} {i : Nat} (h : i + zs.length = cs.length) : splice (cs ++ junk) i zs = cs.take i ++ (zs ++ junk) := by
 unfold splice
 rw [List.take_append_of_le_length (by omega), List.drop_append, List.drop_of_length_le (by omega), List.nil_append, show i + zs.length - cs.length = 0 by omega, List.drop_zero, List.append_assoc]
theorem W_clearCut {t e sz bytes b i n c c2 T : Nat} {x : Operand} {cs : List Value} (ho : o.op = .call { callee := .builtin .clear, args := #[x], argTypes := #[t] }) (hd : o.dst = none) (ht : slB C.P t e sz bytes = true) (hap : apB C.P e sz = true) (hzo : zoneB C.P e = true)
  (hx : ev l x = some (.slice (some ⟨b, i * sz, none⟩) (n - i) c2)) (hin : i ≤ n) (m : Has rs (ownS T sz (.slice (some ⟨b, 0, none⟩) n c) n cs) (ownS T sz (.slice (some ⟨b, 0, none⟩) i c) i (cs.take (i * sz))) rs') (k : St C F l rs' K) : OpW C F l rs o K Q := fun a w r nw => by
 obtain ⟨h, s, mv⟩ := nw
 obtain ⟨xx, c', own, dj, rfl, back⟩ := Sep.take m s
 have hl := own.1
 rcases own.2 with ⟨⟨b0, e0⟩, hn0, rfl⟩ | ⟨b', cap, junk, e0, hc, hm, hl2, fr, hf, rfl⟩
 ·subst hn0
  obtain rfl : i = 0 := by omega
  obtain ⟨h1, ti, h2, h3, h3b⟩ := slB_spec ht
  unfold Oper.wp
  have : (execOp a.eval o).run C.P w = .ok (.value (.tuple #[])) w := by
   simp [execOp, ho, resolve, invoke, builtin, r.ev hx, Builtin.clear_, run_underlying h1]
  rw [this]
  show K (a.put o.dst _) w
  rw [hd]
  exact k a w r ⟨_, back _ ⟨by simp, .inl ⟨⟨b0, e0⟩, rfl, rfl⟩⟩ dj, mv⟩
 ·simp only [Value.slice.injEq, Option.some.injEq, Addr.mk.injEq] at e0
  obtain ⟨⟨rfl, _⟩, _, rfl⟩ := e0
  obtain ⟨h1, ti, h2, h3, h3b⟩ := slB_spec ht
  unfold apB at hap
  obtain ⟨z, hz0, hzs⟩ : ∃ z, ((C.P.info? e).bind (·.zero)) = some z ∧ z.cells.size = sz := by
   cases hh : (C.P.info? e).bind (·.zero) with
   | none => rw [hh] at hap; cases hap
   | some z => rw [hh] at hap; exact ⟨z, rfl, by simpa using hap⟩
  have hone : ∀ v ∈ z.cells, v.oneCell' = true := fun v hv => by
   unfold zoneB at hzo; rw [hz0] at hzo
   obtain ⟨j, hj, rfl⟩ := Array.mem_iff_getElem.1 hv
   exact Array.all_eq_true.1 hzo j hj
  have hits : i * sz ≤ cs.length := by rw [hl]; exact Nat.mul_le_mul_right sz hin
  have htl : (cs.take (i * sz)).length = i * sz := by rw [List.length_take]; omega
  rcases Nat.eq_zero_or_pos (n - i) with h0 | h0
  ·have hni : i = n := by omega
   subst hni
   have hcs : cs.take (i * sz) = cs := List.take_of_length_le (by omega)
   unfold Oper.wp
   have : (execOp a.eval o).run C.P w = .ok (.value (.tuple #[])) w := by
    simp [execOp, ho, resolve, invoke, builtin, r.ev hx, Builtin.clear_, run_underlying h1, h0]
   rw [this]
   show K (a.put o.dst _) w
   rw [hd]
   exact k a w r ⟨_, back _ ⟨by rw [hcs]; exact hl, .inr ⟨b, c, junk, rfl, hc, hm, by rw [hcs]; exact hl2, ⟨fr, by rw [hcs]; exact hf, by rw [hcs]⟩⟩⟩ dj, mv⟩
  ·have hzl : (Builtin.zeroCells z.cells (n - i)).toList.length = (n - i) * sz := by rw [length_zeroCells, hzs]
   have hmul : i * sz + (n - i) * sz = n * sz := by rw [← Nat.add_mul]; congr 1; omega
   have hblk := mv.sub b _ (Heap.le_join_left _ _ b _ (Heap.one_same _ _))
   obtain ⟨w', hr, p⟩ := run_storeCells_blk (P := C.P) (o := i * sz) (Builtin.zeroCells z.cells (n - i)).toList 0 (cs ++ junk) w hblk hf (by rw [List.length_append, hzl]; omega) (fun v hv => hone v (mem_zeroCells hv))
   unfold Oper.wp
   have : (execOp a.eval o).run C.P w = .ok (.value (.tuple #[])) w' := by
    obtain ⟨q, hq⟩ : ∃ q, n - i = q + 1 := ⟨n - i - 1, by omega⟩
    rw [hq] at hr hx
    simp [execOp, ho, resolve, invoke, builtin, r.ev hx, Builtin.clear_, run_underlying h1, run_zeroValue_of hz0, hr]
   rw [this]
   show K (a.put o.dst _) w'
   rw [hd]
   obtain ⟨djn, m3⟩ := mv.put dj p.os p.tape p.output p.drawn p.size p.at_ p.other
   have hsp : splice (cs ++ junk) (i * sz + 0) (Builtin.zeroCells z.cells (n - i)).toList = cs.take (i * sz) ++ ((Builtin.zeroCells z.cells (n - i)).toList ++ junk) := splice_tail (by rw [hzl]; omega)
   rw [hsp] at m3 djn
   have hlen : (cs.take (i * sz) ++ ((Builtin.zeroCells z.cells (n - i)).toList ++ junk)).length = (cs ++ junk).length := by
    rw [List.length_append, List.length_append, List.length_append, htl, hzl]; omega
   exact k a w' r ⟨_, back _ ⟨htl, .inr ⟨b, c, _, rfl, by omega, hm, by rw [hlen]; exact hl2, ⟨fr, by rw [hlen]; exact hf, rfl⟩⟩⟩ djn, m3⟩
/-- A whole record of a row of the call's own is written. -/
theorem W_setWhole {α : Type} [Rec α] {t b c i T sz n : Nat} {u y : Operand} {xs : List α} (ho : o.op = .store t u y) (hd : o.dst = none) (hu : ev l u = some (.pointer (some ⟨b, 0 + i * sz, none⟩))) (x : α) (hy : ev l y = some (.agg (Rec.cells x).toArray)) (ht : agB C.P t sz = true)
  (hi : i < xs.length) (hs : Rec.n α = sz) (m : Has rs (ownS T sz (.slice (some ⟨b, 0, none⟩) n c) n (rc xs)) (ownS T sz (.slice (some ⟨b, 0, none⟩) n c) n (rc (xs.set i x))) rs') (k : St C F l rs' K) : OpW C F l rs o K Q := by
 subst hs
 rw [Nat.zero_add] at hu
 rw [← rc_splice x hi] at m
 exact W_storeOwn ho hd hu hy ht (Rec.len x) (Rec.one x) m (by rw [rc_length, Rec.len]; have := Nat.mul_le_mul_right (Rec.n α) (Nat.succ_le_of_lt hi); rw [Nat.succ_mul] at this; exact this) k
end
end Go.Proofs.YtcngmkjdpoiiaaaGreatDoor

/- Walks: slices.IndexFunc, slices.DeleteFunc (releases). Printed by gen.py. -/
set_option maxRecDepth 100000
namespace Go.Proofs.YtcngmkjdpoiiaaaGreatDoor
open Go Go.RowKit Go.Proofs
/-- What stays where some are struck by a function with a state of its own. -/
def keptS {σ : Type} (dl : σ → Rel → Bool) (stp : σ → Rel → σ) : σ → List Rel → List Rel
 | _, [] => []
 | s, x :: l => if dl s x = true then keptS dl stp (stp s x) l else x :: keptS dl stp (stp s x) l
def stS {σ : Type} (stp : σ → Rel → σ) (s : σ) (l : List Rel) : σ := l.foldl stp s
section
variable {σ : Type} {dl : σ → Rel → Bool} {stp : σ → Rel → σ}
theorem keptS_app (s : σ) (l k : List Rel) : keptS dl stp s (l ++ k) = keptS dl stp s l ++ keptS dl stp (stS stp s l) k := by
 induction l generalizing s with
 | nil => rfl
 | cons x l ih =>
  show keptS dl stp s (x :: (l ++ k)) = _
  rw [keptS, keptS]
  split
  ·exact ih _
  ·exact congrArg (x :: ·) (ih _)
theorem stS_next {s : σ} {l : List Rel} {i : Nat} {x : Rel} (h : l[i]? = some x) : stS stp s (l.take (i + 1)) = stp (stS stp s (l.take i)) x := by
 unfold stS; rw [List.take_add_one, h, List.foldl_append]; rfl
theorem keptS_next {s : σ} {l : List Rel} {i : Nat} {x : Rel} (h : l[i]? = some x) : keptS dl stp s (l.take (i + 1)) = keptS dl stp s (l.take i) ++ (if dl (stS stp s (l.take i)) x = true then [] else [x]) := by
 rw [List.take_add_one, h, keptS_app]
 congr 1
theorem keptS_yes {s : σ} {l : List Rel} {i : Nat} {x : Rel} (h : l[i]? = some x) (hd : dl (stS stp s (l.take i)) x = true) : keptS dl stp s (l.take (i + 1)) = keptS dl stp s (l.take i) := by rw [keptS_next h, if_pos hd, List.append_nil]
theorem keptS_no {s : σ} {l : List Rel} {i : Nat} {x : Rel} (h : l[i]? = some x) (hd : dl (stS stp s (l.take i)) x = false) : keptS dl stp s (l.take (i + 1)) = keptS dl stp s (l.take i) ++ [x] := by rw [keptS_next h, if_neg (by rw [hd]; decide)]
/-- How the row looks while some are struck. -/
structure DelAt (dl : σ → Rel → Bool) (stp : σ → Rel → σ) (s : σ) (r M : List Rel) (i j : Nat) : Prop where
 len : M.length = r.length
 hij : i < j
 hj : j ≤ r.length
 head : M.take i = keptS dl stp s (r.take j)
 tail : M.drop j = r.drop j
theorem DelAt.start {s : σ} {r : List Rel} {j : Nat} {x : Rel} (hk : keptS dl stp s (r.take j) = r.take j) (hx : r[j]? = some x) (hd : dl (stS stp s (r.take j)) x = true) : DelAt dl stp s r r j (j + 1) :=
 ⟨rfl, Nat.lt_succ_self _, (List.getElem?_eq_some_iff.1 hx).1, by rw [keptS_yes hx hd, hk], rfl⟩
theorem DelAt.get {s : σ} {r M : List Rel} {i j : Nat} (h : DelAt dl stp s r M i j) {x : Rel} (hx : r[j]? = some x) : M[j]? = some x := by
 have := congrArg (·[0]?) h.tail
 simpa [List.getElem?_drop, hx] using this
theorem DelAt.skip {s : σ} {r M : List Rel} {i j : Nat} (h : DelAt dl stp s r M i j) {x : Rel} (hx : r[j]? = some x) (hd : dl (stS stp s (r.take j)) x = true) : DelAt dl stp s r M i (j + 1) :=
 ⟨h.len, Nat.lt_succ_of_lt h.hij, (List.getElem?_eq_some_iff.1 hx).1, by rw [keptS_yes hx hd]; exact h.head, by rw [← List.drop_drop, h.tail, List.drop_drop]⟩
theorem DelAt.keep {s : σ} {r M : List Rel} {i j : Nat} (h : DelAt dl stp s r M i j) {x : Rel} (hx : r[j]? = some x) (hd : dl (stS stp s (r.take j)) x = false) : DelAt dl stp s r (M.set i x) (i + 1) (j + 1) := by
 have hi := h.hij; have hj := h.hj; have hl := h.len
 refine ⟨by rw [List.length_set]; exact hl, Nat.succ_lt_succ hi, (List.getElem?_eq_some_iff.1 hx).1, ?_, ?_⟩
 ·rw [keptS_no hx hd, ← h.head, List.take_add_one, List.getElem?_set_self (by omega), List.take_set_of_le (Nat.le_refl _)]; rfl
 ·rw [List.drop_set_of_lt (by omega), ← List.drop_drop, h.tail, List.drop_drop]
end

theorem idxF_ok {gl : Nat → Obj} {σ : Type} (RS : σ → HP) (I : σ → Prop) (dl : σ → Rel → Bool) (stp : σ → Rel → σ) (fd : Nat) (cp : List Value) (r : List Rel) (hcal : callable Tryz.prog fd = true) (hI : ∀ s x, I s → x ∈ r → I (stp s x)) (hcl : ∀ s x, I s → x ∈ r → SpecR (cx gl) fd (.agg x.cells.toArray :: cp) (fun _ _ => True) [RS s] (.bool (dl s x)) [RS (stp s x)]) (base : Option Addr) (c : Nat) (hc : r.length ≤ c) (hm : r.length ≤ 4398046511104) (s : σ) (hs : I s) : Spec (cx gl) 164 [.slice base r.length c, .func (.func fd) #[] cp.toArray] (fun _ _ => True) [ownS 175 4 (.slice base r.length c) (r.length) (rc (r)), RS s] (fun v rs => ∃ j, j ≤ r.length ∧ keptS dl stp s (r.take j) = r.take j ∧ I (stS stp s (r.take (j + 1))) ∧ (∀ x, r[j]? = some x → dl (stS stp s (r.take (j))) x = true) ∧ v = .int .i64 (if j = r.length then -1 else (j : Int)) ∧ rs = [ownS 175 4 (.slice base r.length c) (r.length) (rc (r)), RS (stS stp s (r.take (j + 1)))]) := by
 refine Spec.enter (C := cx gl) Tryz.func164 rfl 19 rfl rfl fun w0 h0 hsep hsub hpre => ?_
 show St (cx gl) _ [(0, .slice base r.length c), (1, .func (.func fd) #[] cp.toArray)] _ _
 refine rT (lA (k:=?_))
 refine L_nil (qT (rS (rT (lM (k:=lP (pL ty_sl_28) (k:=lM (k:=?_)))))))
 refine lQ (cE 0 rfl (cE 1 rfl (cE 4 rfl (cE 7 rfl (cE 8 rfl .nil))))) (R_block ?_)
 refine R_loopE (G := Nat) (cE 0 rfl (cE 1 rfl (cE 4 rfl (cE 7 rfl .nil)))) (fun g => [(8, .int .i64 ((g : Nat) : Int))]) (fun g => [ownS 175 4 (.slice base r.length c) (r.length) (rc (r)), RS (stS stp s (r.take (g)))]) (fun g => g ≤ r.length ∧ keptS dl stp s (r.take g) = r.take g ∧ I (stS stp s (r.take (g)))) (fun g => r.length - g) (0) (by show (0) ≤ r.length ∧ keptS dl stp s (r.take (0)) = r.take (0) ∧ I (stS stp s (r.take ((0)))); exact ⟨Nat.zero_le _, rfl, hs⟩) (by repeat (first | exact .nil | refine .cons rfl ?_ | refine .consE rfl (by first | rfl | (congr 1; omega) | (congr 1; push_cast; omega)) ?_)) (Weak.refl _) ?_
 intro i hinv
 replace hinv : i ≤ r.length ∧ keptS dl stp s (r.take i) = r.take i ∧ I (stS stp s (r.take (i))) := hinv
 show St (cx gl) _ ((8, .int .i64 ((i : Nat) : Int)) :: _) [ownS 175 4 (.slice base r.length c) (r.length) (rc (r)), RS (stS stp s (r.take (i)))] _
 obtain ⟨hi, hk, hIs⟩ := hinv
 refine rT (lP pLt (k:=?_))
 refine L_nil (qT (rS ?_))
 refine R_condP rfl (fun hlt => ?_) (fun hlt => ?_)
 ·skip
  have hil : i < r.length := by omega
  obtain ⟨x, hx⟩ : ∃ x, r[i]? = some x := ⟨_, List.getElem?_eq_getElem hil⟩
  have hxm := List.mem_of_getElem? hx
  refine St.ownSome (p := []) (by omega) fun bb bc hq _ => ?_
  simp only [Value.slice.injEq] at hq
  obtain ⟨rfl, _, rfl⟩ := hq
  refine R_skip (qT (rS (R_block (rT (lM (k:=lA (k:=?_)))))))
  refine L_nil (qT (rT (lM (k:=lM (k:=lM (k:=?_))))))
  refine lP (P_ixs (i) rfl ty_sl_28 rfl rfl (by first | rfl | omega) (by omega)) (k:=?_)
  refine lV (V_loadAgg rfl rfl ty_ag_175 (rds_rc (rds_own .h0) hx) (rfl)) (k:=?_)
  refine lO (W_callF (fi := []) (ca := cp) rfl rfl rfl rfl rfl rfl hcal (hcl (stS stp s (r.take (i))) x hIs hxm) (Split.one (p := [_])) (fun _ _ _ _ _ _ _ => trivial) fun v1 rs1 ⟨e1, e2⟩ => ?_)
  subst e1; subst e2
  refine St.res (rs' := [ownS 175 4 (.slice (some ⟨bb, 0, none⟩) r.length c) (r.length) (rc (r)), RS (stp (stS stp s (r.take (i))) x)]) (Weak.swap) ?_
  refine L_nil (qT ?_)
  refine R_cond rfl (fun hdl => ?_) (fun hdl => ?_)
  ·skip
   refine rT (lM (k:=lA (k:=?_)))
   refine L_nil (qT (R_ret (Q_block_ret (Q_then_ret (Q_then_ret (Q_block_ret (Q_then_ret ?_)))))))
   exact R_end (rs2 := _) rfl rfl (.tmp rfl .nil) (⟨i, hi, hk, by rw [stS_next hx]; exact hI _ _ hIs hxm, fun y hy => by rw [hx] at hy; cases hy; exact hdl, by rw [if_neg (by omega)]; rfl, rfl⟩) (by rw [stS_next hx]; exact Weak.refl _)
  ·skip
   have hdl : dl (stS stp s (r.take (i))) x = false := by simpa using hdl
   refine R_skip (Q_block (qT (rR ?_)))
   first | (refine L_val rfl rfl rfl (OpP.v (P_addN rfl rfl rfl (by simp only [fits]; omega))) ?_) | (refine L_val rfl rfl rfl (OpP.v (P_add rfl rfl rfl)) ?_)
   refine lM (k:=?_)
   refine L_nil ?_
   exact Q_round (i + 1) (by show (i + 1) ≤ r.length ∧ keptS dl stp s (r.take (i + 1)) = r.take (i + 1) ∧ I (stS stp s (r.take ((i + 1)))); exact ⟨by omega, by rw [keptS_no hx hdl, hk, List.take_add_one, hx]; rfl, by rw [stS_next hx]; exact hI _ _ hIs hxm⟩) (by show r.length - (i + 1) < r.length - i; omega) (by repeat (first | exact .nil | refine .cons rfl ?_ | refine .consE rfl (by first | rfl | (congr 1; omega) | (congr 1; push_cast; omega)) ?_)) (by rw [stS_next hx]; exact Weak.refl _)
 ·skip
  have hin : i = r.length := by omega
  refine R_exit (Q_then_exit (Q_then_exit (Q_block_eq ?_)))
  refine St.env (cE 4 rfl .nil) (qT (rT (lA (k:=?_))))
  refine L_nil (qT (R_ret ?_))
  exact R_end (rs2 := _) rfl rfl (.tmp rfl .nil) (⟨r.length, Nat.le_refl _, by rw [hin] at hk; exact hk, by rw [hin, List.take_length] at hIs; rw [List.take_of_length_le (Nat.le_succ _)]; exact hIs, fun y hy => by simp at hy, by rw [if_pos rfl]; rfl, rfl⟩) (by rw [hin, List.take_length, List.take_of_length_le (Nat.le_succ _)]; exact Weak.refl _)
theorem delF_ok {gl : Nat → Obj} {σ : Type} (RS : σ → HP) (I : σ → Prop) (dl : σ → Rel → Bool) (stp : σ → Rel → σ) (fd : Nat) (cp : List Value) (r : List Rel) (hcal : callable Tryz.prog fd = true) (hI : ∀ s x, I s → x ∈ r → I (stp s x)) (hcl : ∀ s x, I s → x ∈ r → SpecR (cx gl) fd (.agg x.cells.toArray :: cp) (fun _ _ => True) [RS s] (.bool (dl s x)) [RS (stp s x)]) (base : Option Addr) (c : Nat) (hc : r.length ≤ c) (hm : r.length ≤ 4398046511104) (s : σ) (hs : I s) : Spec (cx gl) 81 [.slice base r.length c, .func (.func fd) #[] cp.toArray] (fun _ _ => True) [ownS 175 4 (.slice base r.length c) (r.length) (rc (r)), RS s] (fun v rs => v = .slice base (keptS dl stp s r).length c ∧ rs = [ownS 175 4 (.slice base (keptS dl stp s r).length c) ((keptS dl stp s r).length) (rc ((keptS dl stp s r))), RS (stS stp s r)]) := by
 refine Spec.enter (C := cx gl) Tryz.func81 rfl 42 rfl rfl fun w0 h0 hsep hsub hpre => ?_
 show St (cx gl) _ [(0, .slice base r.length c), (1, .func (.func fd) #[] cp.toArray)] _ _
 refine rT (lA (k:=?_))
 refine L_nil (qT (rT (lM (k:=lM (k:=?_)))))
 refine lO (W_call rfl rfl rfl rfl fn_ca_164 (idxF_ok RS I dl stp fd cp r hcal hI hcl base c hc hm s hs) (Weak.refl _) (fun _ _ _ _ _ _ _ => trivial) fun v1 rs1 ⟨j0, hj0, hk0, hI0, hd0, e1, e2⟩ => ?_)
 subst e1; subst e2
 refine lA (k:=?_)
 refine lQ (cE 0 rfl (cE 1 rfl (cE 4 rfl (cE 5 rfl .nil)))) (rS (rT (lM (k:=lP pEq (k:=?_)))))
 refine lQ (cE 0 rfl (cE 1 rfl (cE 4 rfl (cE 5 rfl (cE 12 rfl .nil))))) ?_
 refine R_condP rfl (fun h0 => ?_) (fun h0 => ?_)
 ·skip
  have hj : j0 = r.length := by by_cases h9 : j0 = r.length; exact h9; rw [if_neg h9] at h0; omega
  have hkr : keptS dl stp s r = r := by rw [hj, List.take_length] at hk0; exact hk0
  refine rT (lM (k:=lA (k:=?_)))
  refine lQ (cE 0 rfl (cE 1 rfl (cE 4 rfl (cE 5 rfl .nil)))) (R_ret (Q_then_ret ?_))
  exact R_end (rs2 := _) rfl rfl (.tmp rfl .nil) (⟨by rw [hkr]; rfl, rfl⟩) (by rw [hkr, hj, List.take_of_length_le (Nat.le_succ _)]; exact Weak.refl _)
 ·skip
  have hj : j0 < r.length := by rcases Nat.lt_or_ge j0 r.length with h9 | h9; exact h9; exact absurd (if_pos (by omega)) h0
  refine E_as (t := 5) (v' := .int .i64 ((j0 : Nat) : Int)) rfl (by rw [if_neg (by omega)]) ?_
  obtain ⟨x0, hx0⟩ : ∃ x, r[j0]? = some x := ⟨_, List.getElem?_eq_getElem hj⟩
  have hst := DelAt.start hk0 hx0 (hd0 x0 hx0)
  refine St.ownSome (p := []) (by omega) fun bb bc hq _ => ?_
  simp only [Value.slice.injEq] at hq
  obtain ⟨rfl, _, rfl⟩ := hq
  refine R_skip (qT (rS (rT (lM (k:=?_)))))
  first | (refine L_val rfl rfl rfl (OpP.v (P_addN rfl rfl rfl (by simp only [fits]; omega))) ?_) | (refine L_val rfl rfl rfl (OpP.v (P_add rfl rfl rfl)) ?_)
  refine lA (k:=?_)
  refine lQ (cE 0 rfl (cE 1 rfl (cE 4 rfl (cE 5 rfl (cE 6 rfl .nil))))) (R_block ?_)
  refine R_loopE (G := Nat × Nat × List Rel) (cE 0 rfl (cE 1 rfl (cE 4 rfl .nil))) (fun g => [(5, .int .i64 ((g.1 : Nat) : Int)), (6, .int .i64 ((g.2.1 : Nat) : Int))]) (fun g => [ownS 175 4 (.slice (some ⟨bb, 0, none⟩) r.length c) (r.length) (rc (g.2.2)), RS (stS stp s (r.take (g.2.1)))]) (fun g => DelAt dl stp s r g.2.2 g.1 g.2.1 ∧ I (stS stp s (r.take (g.2.1)))) (fun g => r.length - g.2.1) (j0, j0 + 1, r) (by show DelAt dl stp s r (r) (j0) (j0 + 1) ∧ I (stS stp s (r.take ((j0 + 1)))); exact ⟨hst, hI0⟩) (by repeat (first | exact .nil | refine .cons rfl ?_ | refine .consE rfl (by first | rfl | (congr 1; omega) | (congr 1; push_cast; omega)) ?_)) (Weak.refl _) ?_
  rintro ⟨i, j, M⟩ hinv
  replace hinv : DelAt dl stp s r M i j ∧ I (stS stp s (r.take (j))) := hinv
  show St (cx gl) _ ((5, .int .i64 ((i : Nat) : Int)) :: (6, .int .i64 ((j : Nat) : Int)) :: _) [ownS 175 4 (.slice (some ⟨bb, 0, none⟩) r.length c) (r.length) (rc (M)), RS (stS stp s (r.take (j)))] _
  obtain ⟨hD, hIs⟩ := hinv
  refine rS (rT (lM (k:=lM (k:=lP (pL ty_sl_28) (k:=lP pLt (k:=?_))))))
  refine L_nil (qT ?_)
  refine R_condP rfl (fun hlt => ?_) (fun hlt => ?_)
  ·skip
   have hjl : j < r.length := by omega
   obtain ⟨x, hx⟩ : ∃ x, r[j]? = some x := ⟨_, List.getElem?_eq_getElem hjl⟩
   have hxm := List.mem_of_getElem? hx
   have hM := hD.get hx
   have hij := hD.hij
   have hMl := hD.len
   refine R_skip (qT (rS (R_block (rT (lM (k:=lM (k:=?_)))))))
   refine lP (P_ixs (j) rfl ty_sl_28 rfl rfl (by first | rfl | omega) (by omega)) (k:=?_)
   refine lV (V_loadAgg rfl rfl ty_ag_175 (rds_rc (rds_own .h0) hM) (rfl)) (k:=?_)
   refine lO (W_alloc rfl rfl rfl ty_ze_175 fun b7 => ?_)
   refine lO (W_storeAll rfl rfl rfl rfl ty_ag_175 (rfl) (Rec.one x) .h0 (rfl) ?_)
   refine L_nil (qT (rT (lM (k:=lV (vG ty_ag_175 .h0) (k:=?_)))))
   refine lO (W_callF (fi := []) (ca := cp) rfl rfl rfl rfl rfl rfl hcal (hcl (stS stp s (r.take (j))) x hIs hxm) (Split.one (p := [_, _])) (fun _ _ _ _ _ _ _ => trivial) fun v1 rs1 ⟨e1, e2⟩ => ?_)
   subst e1; subst e2
   refine St.res (rs' := [blk b7 x.cells 175, ownS 175 4 (.slice (some ⟨bb, 0, none⟩) r.length c) (r.length) (rc (M)), RS (stp (stS stp s (r.take (j))) x)]) (Weak.pick (p := [_]) (Weak.pick (p := [_]) (Weak.keep (Weak.nil _)))) (lP pO (k:=?_))
   refine L_nil (qT ?_)
   refine R_cond rfl (fun hdl => ?_) (fun hdl => ?_)
   ·skip
    have hdl : dl (stS stp s (r.take (j))) x = false := by simpa using hdl
    refine rT (lM (k:=lM (k:=lV (vG ty_ag_175 .h0) (k:=?_))))
    refine lP (P_ixs (i) rfl ty_sl_28 rfl rfl (by first | rfl | omega) (by omega)) (k:=?_)
    refine lO (W_setWhole rfl rfl rfl x rfl ty_ag_175 (by omega) rfl .h1 ?_)
    refine L_nil (qT (rR (lM (k:=?_))))
    first | (refine L_val rfl rfl rfl (OpP.v (P_addN rfl rfl rfl (by simp only [fits]; omega))) ?_) | (refine L_val rfl rfl rfl (OpP.v (P_add rfl rfl rfl)) ?_)
    refine lA (k:=?_)
    refine L_nil (Q_block (qT (rR (lM (k:=?_)))))
    first | (refine L_val rfl rfl rfl (OpP.v (P_addN rfl rfl rfl (by simp only [fits]; omega))) ?_) | (refine L_val rfl rfl rfl (OpP.v (P_add rfl rfl rfl)) ?_)
    refine lA (k:=?_)
    refine L_nil ?_
    exact Q_round (i + 1, j + 1, M.set i x) (by show DelAt dl stp s r (M.set i x) (i + 1) (j + 1) ∧ I (stS stp s (r.take ((j + 1)))); exact ⟨hD.keep hx hdl, by rw [stS_next hx]; exact hI _ _ hIs hxm⟩) (by show r.length - (j + 1) < r.length - j; omega) (by repeat (first | exact .nil | refine .cons rfl ?_ | refine .consE rfl (by first | rfl | (congr 1; omega) | (congr 1; push_cast; omega)) ?_)) (by rw [stS_next hx]; exact Weak.drop (Weak.refl _))
   ·skip
    have hdl : dl (stS stp s (r.take (j))) x = true := by simpa using hdl
    refine R_skip (Q_block (qT (rR (lM (k:=?_)))))
    first | (refine L_val rfl rfl rfl (OpP.v (P_addN rfl rfl rfl (by simp only [fits]; omega))) ?_) | (refine L_val rfl rfl rfl (OpP.v (P_add rfl rfl rfl)) ?_)
    refine lA (k:=?_)
    refine L_nil ?_
    exact Q_round (i, j + 1, M) (by show DelAt dl stp s r (M) (i) (j + 1) ∧ I (stS stp s (r.take ((j + 1)))); exact ⟨hD.skip hx hdl, by rw [stS_next hx]; exact hI _ _ hIs hxm⟩) (by show r.length - (j + 1) < r.length - j; omega) (by repeat (first | exact .nil | refine .cons rfl ?_ | refine .consE rfl (by first | rfl | (congr 1; omega) | (congr 1; push_cast; omega)) ?_)) (by rw [stS_next hx]; exact Weak.drop (Weak.refl _))
  ·skip
   have hjn : j = r.length := by have := hD.hj; omega
   have hij := hD.hij
   have hMl := hD.len
   subst hjn
   have hhd := hD.head
   rw [List.take_length] at hhd
   have hil : i = (keptS dl stp s r).length := by rw [← hhd, List.length_take]; omega
   refine St.res (rs' := [ownS 175 4 (.slice (some ⟨bb, 0, none⟩) r.length c) (r.length) (rc (M)), RS (stS stp s r)]) (by rw [List.take_length]; exact Weak.refl _) (R_exit (Q_then_exit (Q_then_exit (Q_block_eq ?_))))
   refine St.env (cE 0 rfl (cE 4 rfl (cE 5 rfl .nil))) (qT (rT (lM (k:=lM (k:=?_)))))
   refine lP (P_slice i r.length rfl ty_sl_28 rfl ⟨_, rfl⟩ rfl (by omega) (by omega)) (k:=?_)
   refine E_as (t := 38) (v' := .slice (some ⟨bb, i * 4, none⟩) (r.length - i) (c - i)) rfl (by unfold sliced; rw [if_neg (by omega)]; simp only [Option.map_some, add_zero_off, Nat.zero_add, Value.slice.injEq, true_and, and_true, Nat.sub_zero, Nat.add_sub_add_right]; try omega) ?_
   refine lO (W_clearCut (i := i) (n := r.length) rfl rfl ty_sl_28 ty_ap_28 (by kernel_rfl) rfl (by omega) .h0 ?_)
   refine lQ (cE 0 rfl (cE 4 rfl (cE 5 rfl .nil))) (rT (lM (k:=lM (k:=?_))))
   refine lP (P_slice 0 i rfl ty_sl_28 rfl rfl ⟨_, rfl⟩ (by omega) (by omega)) (k:=?_)
   refine E_as (t := 41) (v' := .slice (some ⟨bb, 0, none⟩) (i) (c)) rfl (by unfold sliced; rw [if_neg (by omega)]; simp only [Option.map_some, add_zero_off, Nat.zero_add, Value.slice.injEq, true_and, and_true, Nat.sub_zero, Nat.add_sub_add_right]; try omega) (lA (k:=?_))
   refine lQ (cE 4 rfl .nil) (R_ret ?_)
   exact R_end (rs2 := _) rfl rfl (.tmp rfl .nil) (⟨by rw [hil]; rfl, rfl⟩) (by have h9 : List.take (i * 4) (rc M) = rc (M.take i) := rc_take M i; rw [h9, hhd, hil]; exact Weak.refl _)
end Go.Proofs.YtcngmkjdpoiiaaaGreatDoor

/- Walks: Punish's closures. Printed by gen.py. -/
set_option maxRecDepth 100000
namespace Go.Proofs.YtcngmkjdpoiiaaaGreatDoor
open Go Go.RowKit Go.Proofs
def cutA (n : Int) (A : Acc) : Acc := ⟨A.a, A.bal, A.bond - n, A.non, A.jail⟩
def cutR (n : Int) (y : Rel) : Rel := ⟨y.h, y.a, y.born, y.amt - n⟩
theorem partI_bound {x y : Int} (hx : 0 ≤ x) (hy0 : 0 ≤ y) (hy1 : y ≤ 1000) : 0 ≤ partI x y ∧ partI x y ≤ x := by
 have h1 : 0 ≤ x * y := Int.mul_nonneg hx hy0
 have h2 : x * y ≤ x * 1000 := Int.mul_le_mul_of_nonneg_left hy1 hx
 unfold partI
 omega
/-- No memory. -/
def noHP : HP := fun h => h = Heap.none
theorem burnA_ok {gl : Nat → Obj} (fb n c i : Nat) (l : List Acc) (x : Acc) (hx : l[i]? = some x) (hxu : u64 x.bond) (lb pb : Nat) (u v : Value) (bu su : Int) (p : Par) (hp0 : 0 ≤ p.p2) (hp1 : p.p2 ≤ 1000) : SpecR (cx gl) 84 [.pointer (some ⟨fb, 0 + i * 5 + 2, none⟩), .pointer (some ⟨pb, 0, none⟩), .pointer (some ⟨lb, 0, none⟩)] (fun _ _ => True) [ownS 50 5 (.slice (some ⟨fb, 0, none⟩) n c) n (rc (l)), blk lb (ledV u v (bu) su) 30, blk pb p.cells 25] (.tuple #[]) [ownS 50 5 (.slice (some ⟨fb, 0, none⟩) n c) n (rc (l.set i (cutA (partI x.bond p.p2) x))), blk lb (ledV u v (IntKind.u64.wrap (bu + (partI x.bond p.p2))) su) 30, blk pb p.cells 25] := by
 refine Spec.enter (C := cx gl) Tryz.func84 rfl 22 rfl rfl fun w0 h0 hsep hsub hpre => ?_
 show St (cx gl) _ [(0, .pointer (some ⟨fb, 0 + i * 5 + 2, none⟩)), (1, .pointer (some ⟨pb, 0, none⟩)), (2, .pointer (some ⟨lb, 0, none⟩))] _ _
 refine rS ?_
 refine R_open [(0, 0), (1, 0), (2, 1), (3, 0), (4, 1), (5, 2), (6, 0)] mixed (by kernel_rfl) (QOk.then QOk.body) (oP rfl pM (k:=oP rfl pN (k:=?_)))
 refine oV rfl (V_load rfl rfl ty_sc_23 (rd_rc (rds_own .h0) hx rfl)) (k:=oP rfl (pF ty_fl_25_2) (k:=oV rfl (vB ty_sc_23 .h2) (k:=?_)))
 refine O_keep rfl rfl (W_callV rfl rfl rfl rfl fn_ca_85 (part_ok x.bond p.p2 hxu hp0 hp1) (fun _ _ => trivial) (K_keep (Weak.refl _) (oP rfl pA (k:=O_nil ?_))))
 refine St.env (cE 0 rfl (cE 2 rfl (cE 4 rfl .nil))) (qT (rT (lM (k:=lP pN (k:=?_)))))
 refine lV (V_load rfl rfl ty_sc_23 (rd_rc (rds_own .h0) hx rfl)) (k:=lM (k:=?_))
 refine lP (P_subN rfl rfl rfl (by have := partI_bound hxu.1 hp0 hp1; have := hxu.2; simp only [fits]; omega)) (k:=lP pN (k:=?_))
 refine lO (W_setRec (sz := 5) (j := 2) (z := cutA (partI x.bond p.p2) x) rfl rfl rfl rfl ty_sc_23 rfl hx rfl (by decide) rfl .h0 ?_)
 refine lQ (cE 2 rfl (cE 4 rfl .nil)) (rR (lP (pF ty_fl_30_2) (k:=lV (vB ty_sc_23 .h1) (k:=lM (k:=?_)))))
 refine lP (P_add rfl rfl rfl) (k:=lP (pF ty_fl_30_2) (k:=?_))
 refine lO (W_store rfl rfl rfl rfl ty_sc_23 rfl .h1 (by simp [ledV]) ?_)
 refine lE (.nil) ?_
 exact R_end0 (rs2 := _) rfl rfl (.nil) (⟨rfl, rfl⟩) (Weak.refl _)
theorem burnR_ok {gl : Nat → Obj} (fb n c i : Nat) (l : List Rel) (x : Rel) (hx : l[i]? = some x) (hxu : u64 x.amt) (lb pb : Nat) (u v : Value) (bu su : Int) (p : Par) (hp0 : 0 ≤ p.p2) (hp1 : p.p2 ≤ 1000) : SpecR (cx gl) 84 [.pointer (some ⟨fb, 0 + i * 4 + 3, none⟩), .pointer (some ⟨pb, 0, none⟩), .pointer (some ⟨lb, 0, none⟩)] (fun _ _ => True) [ownS 175 4 (.slice (some ⟨fb, 0, none⟩) n c) n (rc (l)), blk lb (ledV u v (bu) su) 30, blk pb p.cells 25] (.tuple #[]) [ownS 175 4 (.slice (some ⟨fb, 0, none⟩) n c) n (rc (l.set i (cutR (partI x.amt p.p2) x))), blk lb (ledV u v (IntKind.u64.wrap (bu + (partI x.amt p.p2))) su) 30, blk pb p.cells 25] := by
 refine Spec.enter (C := cx gl) Tryz.func84 rfl 22 rfl rfl fun w0 h0 hsep hsub hpre => ?_
 show St (cx gl) _ [(0, .pointer (some ⟨fb, 0 + i * 4 + 3, none⟩)), (1, .pointer (some ⟨pb, 0, none⟩)), (2, .pointer (some ⟨lb, 0, none⟩))] _ _
 refine rS ?_
 refine R_open [(0, 0), (1, 0), (2, 1), (3, 0), (4, 1), (5, 2), (6, 0)] mixed (by kernel_rfl) (QOk.then QOk.body) (oP rfl pM (k:=oP rfl pN (k:=?_)))
 refine oV rfl (V_load rfl rfl ty_sc_23 (rd_rc (rds_own .h0) hx rfl)) (k:=oP rfl (pF ty_fl_25_2) (k:=oV rfl (vB ty_sc_23 .h2) (k:=?_)))
 refine O_keep rfl rfl (W_callV rfl rfl rfl rfl fn_ca_85 (part_ok x.amt p.p2 hxu hp0 hp1) (fun _ _ => trivial) (K_keep (Weak.refl _) (oP rfl pA (k:=O_nil ?_))))
 refine St.env (cE 0 rfl (cE 2 rfl (cE 4 rfl .nil))) (qT (rT (lM (k:=lP pN (k:=?_)))))
 refine lV (V_load rfl rfl ty_sc_23 (rd_rc (rds_own .h0) hx rfl)) (k:=lM (k:=?_))
 refine lP (P_subN rfl rfl rfl (by have := partI_bound hxu.1 hp0 hp1; have := hxu.2; simp only [fits]; omega)) (k:=lP pN (k:=?_))
 refine lO (W_setRec (sz := 4) (j := 3) (z := cutR (partI x.amt p.p2) x) rfl rfl rfl rfl ty_sc_23 rfl hx rfl (by decide) rfl .h0 ?_)
 refine lQ (cE 2 rfl (cE 4 rfl .nil)) (rR (lP (pF ty_fl_30_2) (k:=lV (vB ty_sc_23 .h1) (k:=lM (k:=?_)))))
 refine lP (P_add rfl rfl rfl) (k:=lP (pF ty_fl_30_2) (k:=?_))
 refine lO (W_store rfl rfl rfl rfl ty_sc_23 rfl .h1 (by simp [ledV]) ?_)
 refine lE (.nil) ?_
 exact R_end0 (rs2 := _) rfl rfl (.nil) (⟨rfl, rfl⟩) (Weak.refl _)
theorem gone_ok {gl : Nat → Obj} (x : Rel) : SpecR (cx gl) 86 [.agg x.cells.toArray] (fun _ _ => True) [noHP] (.bool (decide (x.amt = 0))) [noHP] := by
 refine Spec.enter (C := cx gl) Tryz.func86 rfl 6 rfl rfl fun w0 h0 hsep hsub hpre => ?_
 show St (cx gl) _ [(0, .agg x.cells.toArray)] _ _
 refine rT ?_
 refine lO (W_box (x.cells) rfl rfl rfl rfl rfl fun b1 => lA (k:=?_))
 refine lQ (cE 1 rfl (cE 2 rfl .nil)) (rT (lP (pF ty_fl_175_3) (k:=lV (vB ty_sc_23 .h0) (k:=lP pEq (k:=lA (k:=?_))))))
 refine lQ (cE 2 rfl .nil) (R_ret ?_)
 exact R_end (rs2 := _) rfl rfl (.tmp rfl .nil) (⟨rfl, rfl⟩) (Weak.drop (Weak.refl _))
end Go.Proofs.YtcngmkjdpoiiaaaGreatDoor

/- Walks: Punish. Printed by gen.py. -/
set_option maxRecDepth 100000
namespace Go.Proofs.YtcngmkjdpoiiaaaGreatDoor
open Go Go.RowKit Go.Proofs
/-- Is a row cut where an address is punished? -/
def cutB (a h : Int) (y : Rel) : Bool := decide (y.a = a) && decide (h ≤ IntKind.u64.wrap (y.born + 1))
def cutY (a h s : Int) (y : Rel) : Rel := if cutB a h y = true then cutR (partI y.amt s) y else y
def burnY (a h s : Int) (b : Int) (y : Rel) : Int := if cutB a h y = true then IntKind.u64.wrap (b + partI y.amt s) else b
def mixY (a h s : Int) (r : List Rel) (j : Nat) : List Rel := (r.take j).map (cutY a h s) ++ r.drop j
def burnS (a h s : Int) (b : Int) (r : List Rel) : Int := r.foldl (burnY a h s) b
theorem mixY_len (a h s : Int) (r : List Rel) (j : Nat) : (mixY a h s r j).length = r.length := by
 unfold mixY; rw [List.length_append, List.length_map, List.length_take, List.length_drop]; omega
theorem mixY_at {a h s : Int} {r : List Rel} {j : Nat} {y : Rel} (hy : r[j]? = some y) : (mixY a h s r j)[j]? = some y := by
 have hj := (List.getElem?_eq_some_iff.1 hy).1
 unfold mixY
 rw [List.getElem?_append_right (by rw [List.length_map, List.length_take]; omega), List.length_map, List.length_take, Nat.min_eq_left (by omega), Nat.sub_self, List.getElem?_drop]
 exact hy
theorem mixY_next {a h s : Int} {r : List Rel} {j : Nat} {y : Rel} (hy : r[j]? = some y) : mixY a h s r (j + 1) = (mixY a h s r j).set j (cutY a h s y) := by
 have hj := (List.getElem?_eq_some_iff.1 hy).1
 have hl : ((r.take j).map (cutY a h s)).length = j := by rw [List.length_map, List.length_take]; omega
 unfold mixY
 rw [List.set_append_right _ _ (by omega), hl, Nat.sub_self, List.take_add_one, hy, List.drop_eq_getElem_cons hj, List.map_append, List.append_assoc]
 rfl
theorem mixY_keep {a h s : Int} {r : List Rel} {j : Nat} {y : Rel} (hy : r[j]? = some y) (hc : cutB a h y = false) : mixY a h s r (j + 1) = mixY a h s r j := by
 rw [mixY_next hy, show cutY a h s y = y from if_neg (by rw [hc]; decide)]
 apply List.ext_getElem?
 intro i
 rw [List.getElem?_set]
 split
 ·rename_i h1; subst h1; rw [mixY_at hy]; split <;> first | rfl | (rw [mixY_len] at *; have := (List.getElem?_eq_some_iff.1 hy).1; omega)
 ·rfl
theorem burnS_next {a h s b : Int} {r : List Rel} {j : Nat} {y : Rel} (hy : r[j]? = some y) : burnS a h s b (r.take (j + 1)) = burnY a h s (burnS a h s b (r.take j)) y := by
 unfold burnS; rw [List.take_add_one, hy, List.foldl_append]; rfl
theorem mixY_all (a h s : Int) (r : List Rel) : mixY a h s r r.length = r.map (cutY a h s) := by unfold mixY; rw [List.take_length, List.drop_length, List.append_nil]
/-- The account that is punished. -/
def punA (s : Int) (A : Acc) : Acc := ⟨A.a, A.bal, A.bond - partI A.bond s, A.non, true⟩
def punE (L : Led) (s a h : Int) : Int := if (h = 0 ∨ 1099511627776 < h) ∨ 1000 < s then 2 else if spotB L.acc a = false then 85 else 0
def goneK (r : List Rel) : List Rel := keptS (fun (_ : Unit) y => decide (y.amt = 0)) (fun s _ => s) () r
/-- What Punish answers. -/
def punP (L : Led) (s a h : Int) : Led := ⟨L.acc.set (spotI L.acc a) (punA s (accAt L.acc (spotI L.acc a))), goneK (L.rel.map (cutY a h s)), burnS a h s (IntKind.u64.wrap (L.burnt + partI (accAt L.acc (spotI L.acc a)).bond s)) L.rel, L.sup⟩
def punL (L : Led) (s a h : Int) : Led := if punE L s a h = 0 then punP L s a h else led0
theorem Weak.newNo {rs : List HP} : Weak rs (noHP :: rs) := fun h s =>
 ⟨Heap.none.join h, ⟨Heap.none, h, rfl, s, Heap.disj_none h, rfl⟩, by rw [Heap.none_join]; exact Heap.Le.refl h⟩
set_option maxHeartbeats 1000000 in
theorem punish_ok {gl : Nat → Obj} (base : Option Addr) (c : Nat) (l : List Acc) (hc : l.length ≤ c) (hm : l.length ≤ 1759218604000)(hok : ∀ x ∈ l, x.ok) (base' : Option Addr) (c' : Nat) (r : List Rel) (hc' : r.length ≤ c') (hm' : r.length ≤ 2199023255000) (hok' : ∀ y ∈ r, y.ok) (bu su : Int) (p : Par) (hp0 : 0 ≤ p.p2) (a h : Int) (hh : u64 h) : Spec (cx gl) 20 [.agg (ledV (.slice base l.length c) (.slice base' r.length c') bu su).toArray, .agg p.cells.toArray, .int .u64 a, .int .u64 h] (fun w hp => Seen w hp base (rc l) ∧ Seen w hp base' (rc r)) [] (fun v rs => ∃ u u', v = .tuple #[.agg (ledV u u' (punL (⟨l, r, bu, su⟩ : Led) p.p2 a h).burnt (punL (⟨l, r, bu, su⟩ : Led) p.p2 a h).sup).toArray, .int .i64 (punE (⟨l, r, bu, su⟩ : Led) p.p2 a h)] ∧ rs = [ownS 50 5 (u) ((punL (⟨l, r, bu, su⟩ : Led) p.p2 a h).acc.length) (rc ((punL (⟨l, r, bu, su⟩ : Led) p.p2 a h).acc)), ownS 175 4 (u') ((punL (⟨l, r, bu, su⟩ : Led) p.p2 a h).rel.length) (rc ((punL (⟨l, r, bu, su⟩ : Led) p.p2 a h).rel))]) := by
 refine Spec.enter (C := cx gl) Tryz.func20 rfl 89 rfl rfl fun w0 h0 hsep hsub hpre => ?_
 obtain rfl : h0 = Heap.none := hsep
 show St (cx gl) _ [(0, .agg (ledV (.slice base l.length c) (.slice base' r.length c') bu su).toArray), (1, .agg p.cells.toArray), (2, .int .u64 a), (3, .int .u64 h)] _ _
 obtain ⟨hh0, hh1⟩ := hh
 refine rT ?_
 refine lO (W_box (ledV (.slice base l.length c) (.slice base' r.length c') bu su) rfl rfl rfl rfl rfl fun b4 => ?_)
 refine lO (W_box (p.cells) rfl rfl rfl rfl rfl fun b5 => ?_)
 refine lO (W_alloc rfl rfl rfl ty_ze_30 fun b8 => lA (k:=?_))
 refine lQ (cE 2 rfl (cE 3 rfl (cE 4 rfl (cE 5 rfl (cE 8 rfl (cE 9 rfl .nil)))))) (rS (rT (lM (k:=lP pEq (k:=?_)))))
 refine E_bool (t := 15) rfl (fun q1 => ?_) (fun q1 => ?_)
 ·skip
  have q1 := of_decide_eq_true q1
  refine lM (k:=lN (k:=lN (k:=lP pK (k:=lM (k:=lN (k:=lN (k:=lN (k:=lP pK (k:=?_)))))))))
  refine lQ (cE 2 rfl (cE 3 rfl (cE 4 rfl (cE 5 rfl (cE 8 rfl (cE 9 rfl (cE 24 rfl .nil))))))) (kT (k:=rT ?_))
  refine lP (P_buildStruct rfl ty_pl_30 ty_ze_30 rfl rfl (rfl)) (k:=?_)
  refine lO (W_storeAll rfl rfl rfl rfl ty_ag_30 (rfl) (ledV_one _ _ _ _ rfl rfl) .h0 (rfl) (lA (k:=?_)))
  refine lQ (cE 2 rfl (cE 3 rfl (cE 4 rfl (cE 5 rfl (cE 8 rfl (cE 9 rfl .nil)))))) (R_ret (Q_then_ret ?_))
  exact R_end (rs2 := _) rfl rfl (.cell rfl (Rds.loadVar ty_ag_30 (Rds.blk .h0) rfl) (.tmp rfl .nil)) (⟨.slice none 0 0, .slice none 0 0, by rw [show (punL (⟨l, r, bu, su⟩ : Led) p.p2 a h) = led0 from if_neg (by rw [show punE (⟨l, r, bu, su⟩ : Led) p.p2 a h = 2 by unfold punE; rw [if_pos (by omega)]]; decide), show punE (⟨l, r, bu, su⟩ : Led) p.p2 a h = 2 by unfold punE; rw [if_pos (by omega)]]; rfl, rfl⟩) (by rw [show (punL (⟨l, r, bu, su⟩ : Led) p.p2 a h) = led0 from if_neg (by rw [show punE (⟨l, r, bu, su⟩ : Led) p.p2 a h = 2 by unfold punE; rw [if_pos (by omega)]]; decide)]; exact Weak.trans (Weak.newNil (T := 175) (sz := 4)) (Weak.trans (Weak.newNil (T := 50) (sz := 5)) (Weak.keep (Weak.keep (Weak.nil _)))))
 ·skip
  have q1 := of_decide_eq_false q1
  refine lM (k:=lM (k:=lP pGt (k:=?_)))
  refine E_bool (t := 18) rfl (fun q2 => ?_) (fun q2 => ?_)
  ·skip
   have q2 := of_decide_eq_true q2
   refine lP pK (k:=lM (k:=lN (k:=lN (k:=lN (k:=lP pK (k:=?_))))))
   refine lQ (cE 2 rfl (cE 3 rfl (cE 4 rfl (cE 5 rfl (cE 8 rfl (cE 9 rfl (cE 24 rfl .nil))))))) (kT (k:=rT ?_))
   refine lP (P_buildStruct rfl ty_pl_30 ty_ze_30 rfl rfl (rfl)) (k:=?_)
   refine lO (W_storeAll rfl rfl rfl rfl ty_ag_30 (rfl) (ledV_one _ _ _ _ rfl rfl) .h0 (rfl) (lA (k:=?_)))
   refine lQ (cE 2 rfl (cE 3 rfl (cE 4 rfl (cE 5 rfl (cE 8 rfl (cE 9 rfl .nil)))))) (R_ret (Q_then_ret ?_))
   exact R_end (rs2 := _) rfl rfl (.cell rfl (Rds.loadVar ty_ag_30 (Rds.blk .h0) rfl) (.tmp rfl .nil)) (⟨.slice none 0 0, .slice none 0 0, by rw [show (punL (⟨l, r, bu, su⟩ : Led) p.p2 a h) = led0 from if_neg (by rw [show punE (⟨l, r, bu, su⟩ : Led) p.p2 a h = 2 by unfold punE; rw [if_pos (by omega)]]; decide), show punE (⟨l, r, bu, su⟩ : Led) p.p2 a h = 2 by unfold punE; rw [if_pos (by omega)]]; rfl, rfl⟩) (by rw [show (punL (⟨l, r, bu, su⟩ : Led) p.p2 a h) = led0 from if_neg (by rw [show punE (⟨l, r, bu, su⟩ : Led) p.p2 a h = 2 by unfold punE; rw [if_pos (by omega)]]; decide)]; exact Weak.trans (Weak.newNil (T := 175) (sz := 4)) (Weak.trans (Weak.newNil (T := 50) (sz := 5)) (Weak.keep (Weak.keep (Weak.nil _)))))
  ·skip
   have q2 := of_decide_eq_false q2
   refine lP pK (k:=lM (k:=lP (pF ty_fl_25_2) (k:=lV (vB ty_sc_23 .h1) (k:=lP pGt (k:=?_)))))
   refine E_bool (t := 23) rfl (fun q3 => ?_) (fun q3 => ?_)
   ·skip
    have q3 := of_decide_eq_true q3
    refine lP pK (k:=?_)
    refine lQ (cE 2 rfl (cE 3 rfl (cE 4 rfl (cE 5 rfl (cE 8 rfl (cE 9 rfl (cE 24 rfl .nil))))))) (kT (k:=rT ?_))
    refine lP (P_buildStruct rfl ty_pl_30 ty_ze_30 rfl rfl (rfl)) (k:=?_)
    refine lO (W_storeAll rfl rfl rfl rfl ty_ag_30 (rfl) (ledV_one _ _ _ _ rfl rfl) .h0 (rfl) (lA (k:=?_)))
    refine lQ (cE 2 rfl (cE 3 rfl (cE 4 rfl (cE 5 rfl (cE 8 rfl (cE 9 rfl .nil)))))) (R_ret (Q_then_ret ?_))
    exact R_end (rs2 := _) rfl rfl (.cell rfl (Rds.loadVar ty_ag_30 (Rds.blk .h0) rfl) (.tmp rfl .nil)) (⟨.slice none 0 0, .slice none 0 0, by rw [show (punL (⟨l, r, bu, su⟩ : Led) p.p2 a h) = led0 from if_neg (by rw [show punE (⟨l, r, bu, su⟩ : Led) p.p2 a h = 2 by unfold punE; rw [if_pos (by omega)]]; decide), show punE (⟨l, r, bu, su⟩ : Led) p.p2 a h = 2 by unfold punE; rw [if_pos (by omega)]]; rfl, rfl⟩) (by rw [show (punL (⟨l, r, bu, su⟩ : Led) p.p2 a h) = led0 from if_neg (by rw [show punE (⟨l, r, bu, su⟩ : Led) p.p2 a h = 2 by unfold punE; rw [if_pos (by omega)]]; decide)]; exact Weak.trans (Weak.newNil (T := 175) (sz := 4)) (Weak.trans (Weak.newNil (T := 50) (sz := 5)) (Weak.keep (Weak.keep (Weak.nil _)))))
   ·skip
    have q3 := of_decide_eq_false q3
    refine lP pK (k:=?_)
    refine lQ (cE 2 rfl (cE 3 rfl (cE 4 rfl (cE 5 rfl (cE 8 rfl (cE 9 rfl (cE 24 rfl .nil))))))) (kF (k:=R_skip (qT (rT (lV (vG ty_ag_30 .h2) (k:=lM (k:=?_)))))))
    refine lO (W_callV rfl rfl rfl rfl fn_ca_83 (place_ok base c l hc (by omega) (.slice base' r.length c') rfl bu su a) (fun w nw => (Sn.old hpre.1).rw_ w nw) (lA (k:=?_)))
    refine lQ (cE 2 rfl (cE 3 rfl (cE 4 rfl (cE 5 rfl (cE 8 rfl (cE 9 rfl (cE 10 rfl .nil))))))) (rS (rT (lM (k:=lP pLt (k:=?_)))))
    refine lQ (cE 2 rfl (cE 3 rfl (cE 4 rfl (cE 5 rfl (cE 8 rfl (cE 9 rfl (cE 10 rfl (cE 30 rfl .nil)))))))) ?_
    refine R_condP rfl (fun hp => ?_) (fun hp => ?_)
    ·skip
     have hp := (place_neg _ _).1 hp
     refine rT ?_
     refine lP (P_buildStruct rfl ty_pl_30 ty_ze_30 rfl rfl (rfl)) (k:=?_)
     refine lO (W_storeAll rfl rfl rfl rfl ty_ag_30 (rfl) (ledV_one _ _ _ _ rfl rfl) .h0 (rfl) (lA (k:=?_)))
     refine lQ (cE 2 rfl (cE 3 rfl (cE 4 rfl (cE 5 rfl (cE 8 rfl (cE 9 rfl (cE 10 rfl .nil))))))) (R_ret (Q_then_ret ?_))
     exact R_end (rs2 := _) rfl rfl (.cell rfl (Rds.loadVar ty_ag_30 (Rds.blk .h0) rfl) (.tmp rfl .nil)) (⟨.slice none 0 0, .slice none 0 0, by rw [show (punL (⟨l, r, bu, su⟩ : Led) p.p2 a h) = led0 from if_neg (by rw [show punE (⟨l, r, bu, su⟩ : Led) p.p2 a h = 85 by unfold punE; rw [if_neg (by omega), if_pos hp]]; decide), show punE (⟨l, r, bu, su⟩ : Led) p.p2 a h = 85 by unfold punE; rw [if_neg (by omega), if_pos hp]]; rfl, rfl⟩) (by rw [show (punL (⟨l, r, bu, su⟩ : Led) p.p2 a h) = led0 from if_neg (by rw [show punE (⟨l, r, bu, su⟩ : Led) p.p2 a h = 85 by unfold punE; rw [if_neg (by omega), if_pos hp]]; decide)]; exact Weak.trans (Weak.newNil (T := 175) (sz := 4)) (Weak.trans (Weak.newNil (T := 50) (sz := 5)) (Weak.keep (Weak.keep (Weak.nil _)))))
    ·skip
     have hb : spotB l a = true := by cases h9 : spotB l a with | true => rfl | false => exact absurd ((place_neg _ _).2 h9) hp
     have hp2 : placeI l a = (spotI l a : Int) := by unfold placeI; rw [if_pos hb]
     have hlt : spotI l a < l.length := by unfold spotB at hb; rw [Bool.and_eq_true, decide_eq_true_eq] at hb; exact hb.1
     have hA := accAt_get hlt
     obtain ⟨_, _, hbd, _⟩ := hok _ (List.mem_of_getElem? hA)
     have hpe : punE (⟨l, r, bu, su⟩ : Led) p.p2 a h = 0 := by unfold punE; rw [if_neg (by omega), if_neg (by show ¬ spotB l a = false; rw [hb]; decide)]
     refine E_as (t := 10) (v' := .int .i64 (((spotI l a) : Nat) : Int)) rfl (by rw [hp2]) (R_skip (qT (rS ?_)))
     refine R_open [(0, 0), (1, 1), (3, 0), (4, 1), (2, 2), (6, 0), (5, 2), (7, 3), (8, 0), (9, 3)] mixed (by kernel_rfl) (QOk.then QOk.body) (oP rfl (pF ty_fl_30_0) (k:=oV rfl (vB ty_sc_22 .h2) (k:=oP rfl (pF ty_fl_30_1) (k:=oV rfl (vB ty_sc_28 .h2) (k:=?_)))))
     refine O_keep rfl rfl (W_call rfl rfl rfl rfl fn_ca_79 (freshA_ok base c l hc (by omega)) (Split.nil _) (Sn.pre (Sn.old hpre.1)) fun v1 rs1 (e1 : rs1 = _) => ?_)
     subst e1
     refine St.ownSome (p := []) (by omega) fun fb fc huv hfc => ?_
     subst huv
     refine K_keep (Weak.drop (Weak.refl _)) (oP rfl (pF ty_fl_30_0) (k:=?_))
     refine O_keep rfl rfl (W_call rfl rfl rfl rfl fn_ca_80 (freshR_ok base' c' r hc' (by omega)) (Split.nil _) (Sn.pre (Sn.old hpre.2)) fun v2 rs2 (e2 : rs2 = _) => ?_)
     subst e2
     refine St.ownForm (p := []) fun vb vc hvv hvc => ?_
     subst hvv
     refine K_keep (Weak.drop (Weak.refl _)) ?_
     refine O_new rfl rfl (W_store rfl rfl rfl rfl ty_sc_22 rfl .h4 (by simp [ledV]) (K_new (oP rfl (pF ty_fl_30_1) (k:=?_))))
     refine O_new rfl rfl (W_store rfl rfl rfl rfl ty_sc_28 rfl .h4 (by simp [ledV]) (K_new (O_nil ?_)))
     refine St.env (cE 2 rfl (cE 3 rfl (cE 4 rfl (cE 5 rfl (cE 8 rfl (cE 9 rfl (cE 10 rfl .nil))))))) (qT (rS ?_))
     refine St.res (rs' := [ownS 50 5 (.slice (some ⟨fb, 0, none⟩) l.length fc) (l.length) (rc (l)), ownS 175 4 (.slice vb r.length vc) (r.length) (rc (r)), blk b8 (ledV (.slice none 0 0) (.slice none 0 0) 0 0) 30, blk b5 p.cells 25, blk b4 (ledV (.slice (some ⟨fb, 0, none⟩) l.length fc) (.slice vb r.length vc) (bu) su) 30]) (Weak.pick (p := [_]) (Weak.keep (Weak.keep (Weak.keep (Weak.keep (Weak.nil _)))))) (rR ?_)
     refine lP (P_func rfl rfl rfl) (k:=lA (k:=?_))
     refine lQ (cE 2 rfl (cE 3 rfl (cE 4 rfl (cE 8 rfl (cE 9 rfl (cE 10 rfl (cE 11 rfl .nil))))))) (rT (lM (k:=lP (pF ty_fl_30_0) (k:=lV (vB ty_sc_22 .h4) (k:=lM (k:=?_))))))
     refine lP (P_ixs ((spotI l a)) rfl ty_sl_22 rfl rfl (by first | rfl | omega) (by omega)) (k:=lP (pG ty_fl_50_2) (k:=?_))
     refine lO (W_callF (fi := []) (ca := [.pointer (some ⟨b5, 0, none⟩), .pointer (some ⟨b4, 0, none⟩)]) rfl rfl rfl rfl rfl rfl fn_ca_84 (burnA_ok fb l.length fc (spotI l a) l (accAt l (spotI l a)) hA hbd b4 b5 (.slice (some ⟨fb, 0, none⟩) l.length fc) (.slice vb r.length vc) bu su p hp0 (by omega)) (Weak.keep (Weak.pick (p := [_, _, _]) (Weak.pick (p := [_, _]) (Weak.keep (Weak.keep (Weak.nil _)))))) (fun _ _ _ _ _ _ _ => trivial) fun v1 rs1 ⟨e1, e2⟩ => ?_)
     subst e1; subst e2
     refine St.res (rs' := [ownS 50 5 (.slice (some ⟨fb, 0, none⟩) l.length fc) (l.length) (rc (l.set (spotI l a) (cutA (partI (accAt l (spotI l a)).bond p.p2) (accAt l (spotI l a))))), ownS 175 4 (.slice vb r.length vc) (r.length) (rc (r)), blk b8 (ledV (.slice none 0 0) (.slice none 0 0) 0 0) 30, blk b5 p.cells 25, blk b4 (ledV (.slice (some ⟨fb, 0, none⟩) l.length fc) (.slice vb r.length vc) ((IntKind.u64.wrap (bu + (partI (accAt l (spotI l a)).bond p.p2)))) su) 30]) (Weak.keep (Weak.pick (p := [_, _]) (Weak.pick (p := [_, _]) (Weak.pick (p := [_]) (Weak.keep (Weak.nil _)))))) ?_
     have hA1 : (l.set (spotI l a) (cutA (partI (accAt l (spotI l a)).bond p.p2) (accAt l (spotI l a))))[(spotI l a)]? = some (cutA (partI (accAt l (spotI l a)).bond p.p2) (accAt l (spotI l a))) := List.getElem?_set_self hlt
     refine lQ (cE 2 rfl (cE 3 rfl (cE 4 rfl (cE 8 rfl (cE 9 rfl (cE 10 rfl (cE 11 rfl .nil))))))) (rT (lP (pF ty_fl_30_0) (k:=lV (vB ty_sc_22 .h4) (k:=lM (k:=?_)))))
     refine lP (P_ixs ((spotI l a)) rfl ty_sl_22 rfl rfl (by first | rfl | omega) (by omega)) (k:=lP (pG ty_fl_50_4) (k:=?_))
     refine lO (W_setRec (sz := 5) (j := 4) (z := punA p.p2 (accAt l (spotI l a))) rfl rfl rfl rfl ty_sc_4 rfl hA1 rfl (by decide) rfl .h0 ?_)
     refine lQ (cE 2 rfl (cE 3 rfl (cE 4 rfl (cE 8 rfl (cE 9 rfl (cE 11 rfl .nil)))))) (rS (rS ?_))
     refine St.res (rs' := [ownS 50 5 (.slice (some ⟨fb, 0, none⟩) l.length fc) (l.length) (rc (l.set (spotI l a) (punA p.p2 (accAt l (spotI l a))))), ownS 175 4 (.slice vb r.length vc) (r.length) (rc (r)), blk b8 (ledV (.slice none 0 0) (.slice none 0 0) 0 0) 30, blk b5 p.cells 25, blk b4 (ledV (.slice (some ⟨fb, 0, none⟩) l.length fc) (.slice vb r.length vc) ((IntKind.u64.wrap (bu + (partI (accAt l (spotI l a)).bond p.p2)))) su) 30]) (ownS.to1 rfl (by rw [List.set_set])) (rR (lP (pF ty_fl_30_1) (k:=lV (vB ty_sc_28 .h4) (k:=lP (pL ty_sl_28) (k:=lM (k:=?_))))))
     refine lQ (cE 2 rfl (cE 3 rfl (cE 4 rfl (cE 8 rfl (cE 9 rfl (cE 11 rfl (cE 55 rfl (cE 56 rfl .nil)))))))) (R_block ?_)
     refine R_loopE (G := Nat) (cE 2 rfl (cE 3 rfl (cE 4 rfl (cE 8 rfl (cE 9 rfl (cE 11 rfl (cE 55 rfl .nil))))))) (fun g => [(56, .int .i64 ((g : Nat) : Int))]) (fun g => [ownS 50 5 (.slice (some ⟨fb, 0, none⟩) l.length fc) (l.length) (rc (l.set (spotI l a) (punA p.p2 (accAt l (spotI l a))))), ownS 175 4 (.slice vb r.length vc) (r.length) (rc (mixY a h p.p2 r g)), blk b8 (ledV (.slice none 0 0) (.slice none 0 0) 0 0) 30, blk b5 p.cells 25, blk b4 (ledV (.slice (some ⟨fb, 0, none⟩) l.length fc) (.slice vb r.length vc) (burnS a h p.p2 (IntKind.u64.wrap (bu + (partI (accAt l (spotI l a)).bond p.p2))) (r.take g)) su) 30]) (fun g => g ≤ r.length) (fun g => r.length - g) (0) (Nat.zero_le _) (by repeat (first | exact .nil | refine .cons rfl ?_ | refine .consE rfl (by first | rfl | (congr 1; omega) | (congr 1; push_cast; omega)) ?_)) (Weak.refl _) ?_
     intro j hinv
     replace hinv : j ≤ r.length := hinv
     show St (cx gl) _ ((56, .int .i64 ((j : Nat) : Int)) :: _) [ownS 50 5 (.slice (some ⟨fb, 0, none⟩) l.length fc) (l.length) (rc (l.set (spotI l a) (punA p.p2 (accAt l (spotI l a))))), ownS 175 4 (.slice vb r.length vc) (r.length) (rc (mixY a h p.p2 r j)), blk b8 (ledV (.slice none 0 0) (.slice none 0 0) 0 0) 30, blk b5 p.cells 25, blk b4 (ledV (.slice (some ⟨fb, 0, none⟩) l.length fc) (.slice vb r.length vc) (burnS a h p.p2 (IntKind.u64.wrap (bu + (partI (accAt l (spotI l a)).bond p.p2))) (r.take j)) su) 30] _
     have hj := hinv
     refine rT (lP pLt (k:=?_))
     refine L_nil (qT (rS ?_))
     refine R_condP rfl (fun hlt => ?_) (fun hlt => ?_)
     ·skip
      have hjl : j < r.length := by omega
      obtain ⟨y, hy⟩ : ∃ y, r[j]? = some y := ⟨_, List.getElem?_eq_getElem hjl⟩
      obtain ⟨_, _, _, hyu⟩ := hok' _ (List.mem_of_getElem? hy)
      refine St.ownSome (p := [_]) (by omega) fun vbb vbc hq _ => ?_
      simp only [Value.slice.injEq] at hq
      obtain ⟨rfl, _, rfl⟩ := hq
      refine R_skip (qT (rS (R_block (rT (lM (k:=lA (k:=?_)))))))
      refine L_nil (qT (rT (lP (pF ty_fl_30_1) (k:=lV (vB ty_sc_28 .h4) (k:=lM (k:=?_))))))
      refine lP (P_ixs (j) rfl ty_sl_28 rfl rfl (by first | rfl | omega) (by omega)) (k:=lA (k:=?_))
      refine L_nil (qT (rT (lM (k:=lP pN (k:=lP (pG ty_fl_175_1) (k:=?_))))))
      refine lV (V_load rfl rfl ty_sc_26 (rd_rc (rds_own .h1) (mixY_at hy) rfl)) (k:=lM (k:=lP pEq (k:=?_)))
      refine E_bool (t := 68) rfl (fun qa => ?_) (fun qa => ?_)
      ·skip
       refine lM (k:=lM (k:=lP pN (k:=lP (pG ty_fl_175_2) (k:=?_))))
       refine lV (V_load rfl rfl ty_sc_23 (rd_rc (rds_own .h1) (mixY_at hy) rfl)) (k:=?_)
       refine lP (P_add rfl rfl rfl) (k:=lM (k:=lP pGe (k:=?_)))
       refine E_bool (t := 76) rfl (fun qb => ?_) (fun qb => ?_)
       ·skip
        have hcb : cutB a h y = true := by unfold cutB; rw [qa]; exact qb
        refine lP pK (k:=?_)
        refine L_nil (qT (kT (k:=rR (lM (k:=lM (k:=lP pN (k:=lP (pG ty_fl_175_3) (k:=?_))))))))
        refine lO (W_callF (fi := []) (ca := [.pointer (some ⟨b5, 0, none⟩), .pointer (some ⟨b4, 0, none⟩)]) rfl rfl rfl rfl rfl rfl fn_ca_84 (burnR_ok vbb r.length vc j (mixY a h p.p2 r j) y (mixY_at hy) hyu b4 b5 (.slice (some ⟨fb, 0, none⟩) l.length fc) (.slice (some ⟨vbb, 0, none⟩) r.length vc) (burnS a h p.p2 (IntKind.u64.wrap (bu + (partI (accAt l (spotI l a)).bond p.p2))) (r.take j)) su p hp0 (by omega)) (Weak.pick (p := [_]) (Weak.pick (p := [_, _, _]) (Weak.pick (p := [_, _]) (Weak.keep (Weak.keep (Weak.nil _)))))) (fun _ _ _ _ _ _ _ => trivial) fun v1 rs1 ⟨e1, e2⟩ => ?_)
        subst e1; subst e2
        refine St.res (rs' := [ownS 50 5 (.slice (some ⟨fb, 0, none⟩) l.length fc) (l.length) (rc (l.set (spotI l a) (punA p.p2 (accAt l (spotI l a))))), ownS 175 4 (.slice (some ⟨vbb, 0, none⟩) r.length vc) (r.length) (rc ((mixY a h p.p2 r j).set j (cutR (partI y.amt p.p2) y))), blk b8 (ledV (.slice none 0 0) (.slice none 0 0) 0 0) 30, blk b5 p.cells 25, blk b4 (ledV (.slice (some ⟨fb, 0, none⟩) l.length fc) (.slice (some ⟨vbb, 0, none⟩) r.length vc) (IntKind.u64.wrap (burnS a h p.p2 (IntKind.u64.wrap (bu + (partI (accAt l (spotI l a)).bond p.p2))) (r.take j) + partI y.amt p.p2)) su) 30]) (Weak.pick (p := [_, _, _]) (Weak.keep (Weak.pick (p := [_, _]) (Weak.pick (p := [_]) (Weak.keep (Weak.nil _)))))) ?_
        refine lE (cE 2 rfl (cE 3 rfl (cE 4 rfl (cE 8 rfl (cE 9 rfl (cE 11 rfl (cE 12 rfl (cE 13 rfl (cE 55 rfl (cE 56 rfl (cE 57 rfl (cE 58 rfl (cE 59 rfl (cE 60 rfl (cE 61 rfl (cE 62 rfl (cE 63 rfl (cE 64 rfl (cE 65 rfl (cE 66 rfl (cE 67 rfl (cE 68 rfl (cE 69 rfl (cE 70 rfl (cE 71 rfl (cE 72 rfl (cE 73 rfl (cE 74 rfl (cE 75 rfl (cE 76 rfl (cE 77 rfl (cE 78 rfl (cE 79 rfl (cE 80 rfl (cE 81 rfl .nil))))))))))))))))))))))))))))))))))) (Q_block (qT (rR ?_)))
        first | (refine L_val rfl rfl rfl (OpP.v (P_addN rfl rfl rfl (by simp only [fits]; omega))) ?_) | (refine L_val rfl rfl rfl (OpP.v (P_add rfl rfl rfl)) ?_)
        refine lM (k:=?_)
        refine L_nil ?_
        exact Q_round (j + 1) (by show j + 1 ≤ r.length; omega) (by show r.length - (j + 1) < r.length - j; omega) (by repeat (first | exact .nil | refine .cons rfl ?_ | refine .consE rfl (by first | rfl | (congr 1; omega) | (congr 1; push_cast; omega)) ?_)) (by rw [mixY_next hy, burnS_next hy, show cutY a h p.p2 y = cutR (partI y.amt p.p2) y from if_pos hcb, show ∀ b, burnY a h p.p2 b y = IntKind.u64.wrap (b + partI y.amt p.p2) from fun b => if_pos hcb]; exact Weak.refl _)
       ·skip
        have hcb : cutB a h y = false := by unfold cutB; rw [qa]; exact qb
        refine lP pK (k:=?_)
        refine L_nil (qT (kF (k:=R_skip (Q_block (qT (rR ?_))))))
        first | (refine L_val rfl rfl rfl (OpP.v (P_addN rfl rfl rfl (by simp only [fits]; omega))) ?_) | (refine L_val rfl rfl rfl (OpP.v (P_add rfl rfl rfl)) ?_)
        refine lM (k:=?_)
        refine L_nil ?_
        exact Q_round (j + 1) (by show j + 1 ≤ r.length; omega) (by show r.length - (j + 1) < r.length - j; omega) (by repeat (first | exact .nil | refine .cons rfl ?_ | refine .consE rfl (by first | rfl | (congr 1; omega) | (congr 1; push_cast; omega)) ?_)) (by rw [mixY_keep hy hcb, burnS_next hy, show ∀ b, burnY a h p.p2 b y = b from fun b => if_neg (by rw [hcb]; decide)]; exact Weak.refl _)
      ·skip
       have hcb : cutB a h y = false := by unfold cutB; rw [qa]; rfl
       refine lM (k:=lN (k:=lN (k:=lN (k:=lN (k:=lN (k:=lN (k:=lN (k:=lP pK (k:=?_)))))))))
       refine L_nil (qT (kF (k:=R_skip (Q_block (qT (rR ?_))))))
       first | (refine L_val rfl rfl rfl (OpP.v (P_addN rfl rfl rfl (by simp only [fits]; omega))) ?_) | (refine L_val rfl rfl rfl (OpP.v (P_add rfl rfl rfl)) ?_)
       refine lM (k:=?_)
       refine L_nil ?_
       exact Q_round (j + 1) (by show j + 1 ≤ r.length; omega) (by show r.length - (j + 1) < r.length - j; omega) (by repeat (first | exact .nil | refine .cons rfl ?_ | refine .consE rfl (by first | rfl | (congr 1; omega) | (congr 1; push_cast; omega)) ?_)) (by rw [mixY_keep hy hcb, burnS_next hy, show ∀ b, burnY a h p.p2 b y = b from fun b => if_neg (by rw [hcb]; decide)]; exact Weak.refl _)
     ·skip
      obtain rfl : j = r.length := by omega
      refine St.res (rs' := [ownS 50 5 (.slice (some ⟨fb, 0, none⟩) l.length fc) (l.length) (rc (l.set (spotI l a) (punA p.p2 (accAt l (spotI l a))))), ownS 175 4 (.slice vb r.length vc) (r.length) (rc ((r.map (cutY a h p.p2)))), blk b8 (ledV (.slice none 0 0) (.slice none 0 0) 0 0) 30, blk b5 p.cells 25, blk b4 (ledV (.slice (some ⟨fb, 0, none⟩) l.length fc) (.slice vb r.length vc) ((burnS a h p.p2 (IntKind.u64.wrap (bu + (partI (accAt l (spotI l a)).bond p.p2))) r)) su) 30]) (by rw [mixY_all, List.take_length]; exact Weak.refl _) ?_
      have hPL : (punL (⟨l, r, bu, su⟩ : Led) p.p2 a h) = ⟨l.set (spotI l a) (punA p.p2 (accAt l (spotI l a))), (goneK (r.map (cutY a h p.p2))), (burnS a h p.p2 (IntKind.u64.wrap (bu + (partI (accAt l (spotI l a)).bond p.p2))) r), su⟩ := if_pos hpe
      have h9 := delF_ok (gl := gl) (σ := Unit) (fun _ => noHP) (fun _ => True) (fun _ y => decide (y.amt = 0)) (fun s _ => s) 86 [] (r.map (cutY a h p.p2)) fn_ca_86 (fun _ _ _ _ => trivial) (fun _ y _ _ => gone_ok y) vb vc (by rw [List.length_map]; exact hvc) (by rw [List.length_map]; omega) () trivial
      rw [List.length_map] at h9
      refine R_exit (Q_then_exit (Q_then_exit (Q_block_eq ?_)))
      refine St.env (cE 4 rfl (cE 8 rfl (cE 9 rfl .nil))) (qT (rT (lP (pF ty_fl_30_1) (k:=lV (vB ty_sc_28 .h4) (k:=?_)))))
      refine lO (W_call rfl rfl rfl rfl fn_ca_81 (h9) (Weak.trans Weak.newNo (Weak.pick (p := [_, _]) (Weak.keep (Weak.keep (Weak.keep (Weak.keep (Weak.keep (Weak.nil _)))))))) (fun _ _ _ _ _ _ _ => trivial) fun v2 rs2 ⟨e3, e4⟩ => ?_)
      subst e3; subst e4
      refine St.res (rs' := [ownS 175 4 (.slice vb (goneK (r.map (cutY a h p.p2))).length vc) ((goneK (r.map (cutY a h p.p2))).length) (rc ((goneK (r.map (cutY a h p.p2))))), ownS 50 5 (.slice (some ⟨fb, 0, none⟩) l.length fc) (l.length) (rc (l.set (spotI l a) (punA p.p2 (accAt l (spotI l a))))), blk b8 (ledV (.slice none 0 0) (.slice none 0 0) 0 0) 30, blk b5 p.cells 25, blk b4 (ledV (.slice (some ⟨fb, 0, none⟩) l.length fc) (.slice vb r.length vc) ((burnS a h p.p2 (IntKind.u64.wrap (bu + (partI (accAt l (spotI l a)).bond p.p2))) r)) su) 30]) (Weak.keep (Weak.drop (Weak.refl _))) (lP (pF ty_fl_30_1) (k:=?_))
      refine lO (W_store rfl rfl rfl rfl ty_sc_28 rfl .h4 (by simp [ledV]) ?_)
      refine lQ (cE 4 rfl (cE 8 rfl (cE 9 rfl .nil))) (rT (lV (vG ty_ag_30 .h4) (k:=?_)))
      refine lO (W_storeAll rfl rfl rfl rfl ty_ag_30 (rfl) (ledV_one _ _ _ _ rfl rfl) .h2 (rfl) (lA (k:=?_)))
      refine lQ (cE 8 rfl (cE 9 rfl .nil)) (R_ret ?_)
      exact R_end (rs2 := _) rfl rfl (.cell rfl (Rds.loadVar ty_ag_30 (Rds.blk .h2) rfl) (.tmp rfl .nil)) (⟨.slice (some ⟨fb, 0, none⟩) l.length fc, .slice vb (goneK (r.map (cutY a h p.p2))).length vc, by rw [hPL, hpe]; rfl, rfl⟩) (by rw [hPL]; exact Weak.trans (Weak.pick (p := [_]) (Weak.keep (Weak.nil _))) (ownS.to1 (by show l.length = (List.set _ _ _).length; rw [List.length_set]) rfl))
end Go.Proofs.YtcngmkjdpoiiaaaGreatDoor

/- Walks: Pay. Printed by gen.py. -/
set_option maxRecDepth 100000
namespace Go.Proofs.YtcngmkjdpoiiaaaGreatDoor
open Go Go.RowKit Go.Proofs
/-- Is a row due? -/
def dueB (h : Int) (l : List Acc) (y : Rel) : Bool := !(decide (h < y.h)) && spotB l y.a
def addB' (n : Int) (A : Acc) : Acc := ⟨A.a, IntKind.u64.wrap (A.bal + n), A.bond, A.non, A.jail⟩
/-- What a row does to the accounts. -/
def payY (h : Int) (l : List Acc) (y : Rel) : List Acc := if dueB h l y = true then l.set (spotI l y.a) (addB' y.amt (accAt l (spotI l y.a))) else l
theorem payY_len (h : Int) (l : List Acc) (y : Rel) : (payY h l y).length = l.length := by unfold payY; split <;> simp
def payRS (lb hb : Nat) (sb : Option Addr) (n c : Nat) (rv : Value) (bu su h : Int) (tl tu : Nat) (l : List Acc) : HP := bundle [blk lb (ledV (.slice sb n c) rv bu su) tl, ownS 50 5 (.slice sb n c) n (rc l), blk hb [.int .u64 h] tu]
def paidK (h : Int) (l : List Acc) (r : List Rel) : List Rel := keptS (fun s y => dueB h s y) (payY h) l r
def paidA (h : Int) (l : List Acc) (r : List Rel) : List Acc := stS (payY h) l r
def payE (h : Int) : Int := if h = 0 ∨ 1099511627776 < h then 2 else 0
/-- What Pay answers. -/
def payL (L : Led) (h : Int) : Led := if payE h = 0 then ⟨paidA h L.acc L.rel, paidK h L.acc L.rel, L.burnt, L.sup⟩ else led0
theorem paidA_len (h : Int) (l : List Acc) (r : List Rel) : (paidA h l r).length = l.length := by
 unfold paidA stS
 induction r generalizing l with
 | nil => rfl
 | cons y r ih => exact (ih _).trans (payY_len h l y)
theorem pay1_ok {gl : Nat → Obj} (lb hb : Nat) (sb : Option Addr) (n c : Nat) (rv : Value) (hrv : rv.oneCell' = true) (bu su h : Int) (l : List Acc) (hn : n = l.length) (hc : l.length ≤ c) (hm : l.length ≤ 3518437208883) (x : Rel) : SpecR (cx gl) 82 [.agg x.cells.toArray, .pointer (some ⟨lb, 0, none⟩), .pointer (some ⟨hb, 0, none⟩)] (fun _ _ => True) [payRS lb hb sb n c rv bu su h 30 23 (l)] (.bool (dueB h l x)) [payRS lb hb sb n c rv bu su h 30 23 (payY h l x)] := by
 refine Spec.enter (C := cx gl) Tryz.func82 rfl 29 rfl rfl fun w0 h0 hsep hsub hpre => ?_
 show St (cx gl) _ [(0, .agg x.cells.toArray), (1, .pointer (some ⟨lb, 0, none⟩)), (2, .pointer (some ⟨hb, 0, none⟩))] _ _
 refine rT ?_
 refine lO (W_box (x.cells) rfl rfl rfl rfl rfl fun b3 => lA (k:=?_))
 refine lQ (cE 1 rfl (cE 2 rfl (cE 3 rfl (cE 4 rfl .nil)))) (rS ?_)
 unfold payRS
 refine St.unbundle [_] ?_
 subst hn
 refine rR (lV (vG ty_ag_30 .h1) (k:=lP (pF ty_fl_175_1) (k:=lV (vB ty_sc_26 .h0) (k:=?_))))
 refine lO (W_callV rfl rfl rfl rfl fn_ca_83 (place_ok sb c l hc (by omega) rv hrv bu su x.a) ((Sn.own .h2 rfl).rw_) (lA (k:=?_)))
 refine lQ (cE 1 rfl (cE 2 rfl (cE 3 rfl (cE 4 rfl (cE 5 rfl .nil))))) (rS (rT (lP (pF ty_fl_175_0) (k:=lV (vB ty_sc_23 .h0) (k:=lV (vB ty_sc_23 .h3) (k:=lP pGt (k:=?_)))))))
 refine E_bool (t := 13) rfl (fun q1 => ?_) (fun q1 => ?_)
 ·skip
  have hd : dueB h l x = false := by unfold dueB; rw [q1]; rfl
  refine lM (k:=lN (k:=lN (k:=lP pK (k:=?_))))
  refine lQ (cE 1 rfl (cE 3 rfl (cE 4 rfl (cE 5 rfl (cE 17 rfl .nil))))) (kT (k:=rT (lA (k:=?_))))
  refine lQ (cE 1 rfl (cE 3 rfl (cE 4 rfl (cE 5 rfl .nil)))) (R_ret (Q_then_ret ?_))
  exact R_end (rs2 := _) rfl rfl (.tmp rfl .nil) (⟨by rw [hd]; rfl, rfl⟩) (Weak.drop (by rw [show payY h l x = l from if_neg (by rw [hd]; decide)]; exact Weak.bundle (L := [_, _, _]) (rs := [])))
 ·skip
  refine lM (k:=lM (k:=lP pLt (k:=?_)))
  refine E_bool (t := 16) rfl (fun q2 => ?_) (fun q2 => ?_)
  ·skip
   have q2 := of_decide_eq_true q2
   have hd : dueB h l x = false := by unfold dueB; rw [(place_neg _ _).1 q2, Bool.and_false]
   refine lP pK (k:=?_)
   refine lQ (cE 1 rfl (cE 3 rfl (cE 4 rfl (cE 5 rfl (cE 17 rfl .nil))))) (kT (k:=rT (lA (k:=?_))))
   refine lQ (cE 1 rfl (cE 3 rfl (cE 4 rfl (cE 5 rfl .nil)))) (R_ret (Q_then_ret ?_))
   exact R_end (rs2 := _) rfl rfl (.tmp rfl .nil) (⟨by rw [hd]; rfl, rfl⟩) (Weak.drop (by rw [show payY h l x = l from if_neg (by rw [hd]; decide)]; exact Weak.bundle (L := [_, _, _]) (rs := [])))
  ·skip
   have q2 := of_decide_eq_false q2
   have hb : spotB l x.a = true := by cases h9 : spotB l x.a with | true => rfl | false => exact absurd ((place_neg _ _).2 h9) q2
   have hd : dueB h l x = true := by unfold dueB; rw [q1, hb]; rfl
   have hp2 : placeI l x.a = (spotI l x.a : Int) := by unfold placeI; rw [if_pos hb]
   have hlt : spotI l x.a < l.length := by unfold spotB at hb; rw [Bool.and_eq_true, decide_eq_true_eq] at hb; exact hb.1
   have hA := accAt_get hlt
   refine St.ownSome (p := [_, _]) (by omega) fun fb fc hq _ => ?_
   simp only [Value.slice.injEq] at hq
   obtain ⟨rfl, _, rfl⟩ := hq
   refine E_as (t := 5) (v' := .int .i64 (((spotI l x.a) : Nat) : Int)) rfl (by rw [hp2]) (lP pK (k:=?_))
   refine lQ (cE 1 rfl (cE 3 rfl (cE 4 rfl (cE 5 rfl (cE 17 rfl .nil))))) (kF (k:=R_skip (qT (rS ?_))))
   refine R_open [(0, 0), (1, 1), (2, 0), (3, 0), (4, 0), (5, 1), (6, 0), (7, 1), (8, 0), (9, 0), (10, 0), (11, 3)] mixed (by kernel_rfl) (QOk.then QOk.body) (oP rfl (pF ty_fl_30_0) (k:=oV rfl (vB ty_sc_22 .h1) (k:=oP rfl pM (k:=?_))))
   refine oP rfl (P_ixs ((spotI l x.a)) rfl ty_sl_22 rfl rfl (by first | rfl | omega) (by omega)) (k:=oP rfl (pG ty_fl_50_1) (k:=?_))
   refine oV rfl (V_load rfl rfl ty_sc_23 (rd_rc (rds_own .h2) hA rfl)) (k:=oP rfl (pF ty_fl_175_3) (k:=oV rfl (vB ty_sc_23 .h0) (k:=?_)))
   refine oP rfl (P_add rfl rfl rfl) (k:=?_)
   refine oP rfl (P_ixs ((spotI l x.a)) rfl ty_sl_22 rfl rfl (by first | rfl | omega) (by omega)) (k:=oP rfl (pG ty_fl_50_1) (k:=?_))
   refine O_new rfl rfl (W_setRec (sz := 5) (j := 1) (z := addB' x.amt (accAt l (spotI l x.a))) rfl rfl rfl rfl ty_sc_23 rfl hA rfl (by decide) rfl .h2 (K_new (O_nil ?_)))
   refine St.env (cE 4 rfl .nil) (qT (rT (lA (k:=?_))))
   refine L_nil (qT (R_ret ?_))
   exact R_end (rs2 := _) rfl rfl (.tmp rfl .nil) (⟨by rw [hd]; rfl, rfl⟩) (Weak.drop (by rw [show payY h l x = _ from if_pos hd]; exact Weak.bundle (L := [_, _, _]) (rs := [])))
set_option maxHeartbeats 1000000 in
theorem pay_ok {gl : Nat → Obj} (base : Option Addr) (c : Nat) (l : List Acc) (hc : l.length ≤ c) (hm : l.length ≤ 1759218604000)(hok : ∀ x ∈ l, x.ok) (base' : Option Addr) (c' : Nat) (r : List Rel) (hc' : r.length ≤ c') (hm' : r.length ≤ 2199023255000) (bu su h : Int) (hh : u64 h) : Spec (cx gl) 19 [.agg (ledV (.slice base l.length c) (.slice base' r.length c') bu su).toArray, .int .u64 h] (fun w hp => Seen w hp base (rc l) ∧ Seen w hp base' (rc r)) [] (fun v rs => ∃ u u', v = .tuple #[.agg (ledV u u' (payL (⟨l, r, bu, su⟩ : Led) h).burnt (payL (⟨l, r, bu, su⟩ : Led) h).sup).toArray, .int .i64 (payE h)] ∧ rs = [ownS 50 5 (u) ((payL (⟨l, r, bu, su⟩ : Led) h).acc.length) (rc ((payL (⟨l, r, bu, su⟩ : Led) h).acc)), ownS 175 4 (u') ((payL (⟨l, r, bu, su⟩ : Led) h).rel.length) (rc ((payL (⟨l, r, bu, su⟩ : Led) h).rel))]) := by
 refine Spec.enter (C := cx gl) Tryz.func19 rfl 27 rfl rfl fun w0 h0 hsep hsub hpre => ?_
 obtain rfl : h0 = Heap.none := hsep
 show St (cx gl) _ [(0, .agg (ledV (.slice base l.length c) (.slice base' r.length c') bu su).toArray), (1, .int .u64 h)] _ _
 obtain ⟨hh0, hh1⟩ := hh
 refine rT ?_
 refine lO (W_box (ledV (.slice base l.length c) (.slice base' r.length c') bu su) rfl rfl rfl rfl rfl fun b2 => ?_)
 refine lO (W_box ([.int .u64 h]) rfl rfl rfl rfl rfl fun b3 => ?_)
 refine lO (W_alloc rfl rfl rfl ty_ze_30 fun b4 => lA (k:=?_))
 refine lQ (cE 2 rfl (cE 3 rfl (cE 4 rfl (cE 5 rfl .nil)))) (rS (rT (lV (vB ty_sc_23 .h1) (k:=lP pEq (k:=?_)))))
 refine E_bool (t := 7) rfl (fun q1 => ?_) (fun q1 => ?_)
 ·skip
  have q1 := of_decide_eq_true q1
  refine lM (k:=lN (k:=lN (k:=lP pK (k:=?_))))
  refine lQ (cE 2 rfl (cE 3 rfl (cE 4 rfl (cE 5 rfl (cE 11 rfl .nil))))) (kT (k:=rT ?_))
  refine lP (P_buildStruct rfl ty_pl_30 ty_ze_30 rfl rfl (rfl)) (k:=?_)
  refine lO (W_storeAll rfl rfl rfl rfl ty_ag_30 (rfl) (ledV_one _ _ _ _ rfl rfl) .h0 (rfl) (lA (k:=?_)))
  refine lQ (cE 2 rfl (cE 3 rfl (cE 4 rfl (cE 5 rfl .nil)))) (R_ret (Q_then_ret ?_))
  exact R_end (rs2 := _) rfl rfl (.cell rfl (Rds.loadVar ty_ag_30 (Rds.blk .h0) rfl) (.tmp rfl .nil)) (⟨.slice none 0 0, .slice none 0 0, by rw [show (payL (⟨l, r, bu, su⟩ : Led) h) = led0 from if_neg (by rw [show payE h = 2 by unfold payE; rw [if_pos (by omega)]]; decide), show payE h = 2 by unfold payE; rw [if_pos (by omega)]]; rfl, rfl⟩) (by rw [show (payL (⟨l, r, bu, su⟩ : Led) h) = led0 from if_neg (by rw [show payE h = 2 by unfold payE; rw [if_pos (by omega)]]; decide)]; exact Weak.trans (Weak.newNil (T := 175) (sz := 4)) (Weak.trans (Weak.newNil (T := 50) (sz := 5)) (Weak.keep (Weak.keep (Weak.nil _)))))
 ·skip
  have q1 := of_decide_eq_false q1
  refine lM (k:=lV (vB ty_sc_23 .h1) (k:=lP pGt (k:=?_)))
  refine E_bool (t := 10) rfl (fun q2 => ?_) (fun q2 => ?_)
  ·skip
   have q2 := of_decide_eq_true q2
   refine lP pK (k:=?_)
   refine lQ (cE 2 rfl (cE 3 rfl (cE 4 rfl (cE 5 rfl (cE 11 rfl .nil))))) (kT (k:=rT ?_))
   refine lP (P_buildStruct rfl ty_pl_30 ty_ze_30 rfl rfl (rfl)) (k:=?_)
   refine lO (W_storeAll rfl rfl rfl rfl ty_ag_30 (rfl) (ledV_one _ _ _ _ rfl rfl) .h0 (rfl) (lA (k:=?_)))
   refine lQ (cE 2 rfl (cE 3 rfl (cE 4 rfl (cE 5 rfl .nil)))) (R_ret (Q_then_ret ?_))
   exact R_end (rs2 := _) rfl rfl (.cell rfl (Rds.loadVar ty_ag_30 (Rds.blk .h0) rfl) (.tmp rfl .nil)) (⟨.slice none 0 0, .slice none 0 0, by rw [show (payL (⟨l, r, bu, su⟩ : Led) h) = led0 from if_neg (by rw [show payE h = 2 by unfold payE; rw [if_pos (by omega)]]; decide), show payE h = 2 by unfold payE; rw [if_pos (by omega)]]; rfl, rfl⟩) (by rw [show (payL (⟨l, r, bu, su⟩ : Led) h) = led0 from if_neg (by rw [show payE h = 2 by unfold payE; rw [if_pos (by omega)]]; decide)]; exact Weak.trans (Weak.newNil (T := 175) (sz := 4)) (Weak.trans (Weak.newNil (T := 50) (sz := 5)) (Weak.keep (Weak.keep (Weak.nil _)))))
  ·skip
   have q2 := of_decide_eq_false q2
   refine lP pK (k:=?_)
   refine lQ (cE 2 rfl (cE 3 rfl (cE 4 rfl (cE 5 rfl (cE 11 rfl .nil))))) (kF (k:=R_skip (qT (rS ?_))))
   refine R_open [(0, 0), (1, 1), (3, 0), (4, 1), (2, 2), (6, 0), (5, 2), (7, 3), (8, 0), (9, 3)] mixed (by kernel_rfl) (QOk.then QOk.body) (oP rfl (pF ty_fl_30_0) (k:=oV rfl (vB ty_sc_22 .h2) (k:=oP rfl (pF ty_fl_30_1) (k:=oV rfl (vB ty_sc_28 .h2) (k:=?_)))))
   refine O_keep rfl rfl (W_call rfl rfl rfl rfl fn_ca_79 (freshA_ok base c l hc (by omega)) (Split.nil _) (Sn.pre (Sn.old hpre.1)) fun v1 rs1 (e1 : rs1 = _) => ?_)
   subst e1
   refine St.ownForm (p := []) fun fb fc huv hfc => ?_
   subst huv
   refine K_keep (Weak.drop (Weak.refl _)) (oP rfl (pF ty_fl_30_0) (k:=?_))
   refine O_keep rfl rfl (W_call rfl rfl rfl rfl fn_ca_80 (freshR_ok base' c' r hc' (by omega)) (Split.nil _) (Sn.pre (Sn.old hpre.2)) fun v2 rs2 (e2 : rs2 = _) => ?_)
   subst e2
   refine St.ownForm (p := []) fun vb vc hvv hvc => ?_
   subst hvv
   refine K_keep (Weak.drop (Weak.refl _)) ?_
   refine O_new rfl rfl (W_store rfl rfl rfl rfl ty_sc_22 rfl .h4 (by simp [ledV]) (K_new (oP rfl (pF ty_fl_30_1) (k:=?_))))
   refine O_new rfl rfl (W_store rfl rfl rfl rfl ty_sc_28 rfl .h4 (by simp [ledV]) (K_new (O_nil ?_)))
   refine St.env (cE 2 rfl (cE 3 rfl (cE 4 rfl (cE 5 rfl .nil)))) (qT (rS ?_))
   refine St.res (rs' := [ownS 50 5 (.slice fb l.length fc) (l.length) (rc (l)), ownS 175 4 (.slice vb r.length vc) (r.length) (rc (r)), blk b4 (ledV (.slice none 0 0) (.slice none 0 0) 0 0) 30, blk b3 [.int .u64 h] 23, blk b2 (ledV (.slice fb l.length fc) (.slice vb r.length vc) bu su) 30]) (Weak.pick (p := [_]) (Weak.keep (Weak.keep (Weak.keep (Weak.keep (Weak.nil _)))))) ?_
   have hpe : payE h = 0 := by unfold payE; rw [if_neg (by omega)]
   have hPL : (payL (⟨l, r, bu, su⟩ : Led) h) = ⟨(paidA h l r), (paidK h l r), bu, su⟩ := if_pos hpe
   have hal := paidA_len h l r
   have h9 := delF_ok (gl := gl) (fun s => payRS b2 b3 fb l.length fc (.slice vb r.length vc) bu su h 30 23 (s)) (fun s => l.length = s.length) (fun s y => dueB h s y) (payY h) 82 [.pointer (some ⟨b2, 0, none⟩), .pointer (some ⟨b3, 0, none⟩)] r fn_ca_82 (fun s y hs _ => by rw [payY_len]; exact hs) (fun s y hs _ => pay1_ok b2 b3 fb l.length fc (.slice vb r.length vc) rfl bu su h s hs (by omega) (by omega) y) vb vc hvc (by omega) l rfl
   refine rR (lP (pF ty_fl_30_1) (k:=lV (vB ty_sc_28 .h4) (k:=?_)))
   refine lP (P_func rfl rfl rfl) (k:=?_)
   refine lO (W_call rfl rfl rfl rfl fn_ca_81 (h9) (Weak.trans (Weak.pick (p := [_, _, _, _]) (Weak.keep (Weak.pick (p := [_, _]) (Weak.keep (Weak.keep (Weak.nil _)))))) (Weak.trans (Weak.bundle (L := [_, _, _]) (rs := [_, _])) (Weak.swap))) (fun _ _ _ _ _ _ _ => trivial) fun v3 rs3 ⟨e3, e4⟩ => ?_)
   subst e3; subst e4
   refine St.unbundle [_] ?_
   refine St.res (rs' := [ownS 175 4 (.slice vb (paidK h l r).length vc) ((paidK h l r).length) (rc ((paidK h l r))), ownS 50 5 (.slice fb l.length fc) (l.length) (rc ((paidA h l r))), blk b4 (ledV (.slice none 0 0) (.slice none 0 0) 0 0) 30, blk b3 [.int .u64 h] 23, blk b2 (ledV (.slice fb l.length fc) (.slice vb r.length vc) bu su) 30]) (Weak.keep (Weak.pick (p := [_]) (Weak.pick (p := [_, _]) (Weak.pick (p := [_]) (Weak.keep (Weak.nil _)))))) (lP (pF ty_fl_30_1) (k:=?_))
   refine lO (W_store rfl rfl rfl rfl ty_sc_28 rfl .h4 (by simp [ledV]) ?_)
   refine lQ (cE 2 rfl (cE 4 rfl (cE 5 rfl .nil))) (rT (lV (vG ty_ag_30 .h4) (k:=?_)))
   refine lO (W_storeAll rfl rfl rfl rfl ty_ag_30 (rfl) (ledV_one _ _ _ _ rfl rfl) .h2 (rfl) (lA (k:=?_)))
   refine lQ (cE 4 rfl (cE 5 rfl .nil)) (R_ret ?_)
   exact R_end (rs2 := _) rfl rfl (.cell rfl (Rds.loadVar ty_ag_30 (Rds.blk .h2) rfl) (.tmp rfl .nil)) (⟨.slice fb l.length fc, .slice vb (paidK h l r).length vc, by rw [hPL, hpe]; rfl, rfl⟩) (by rw [hPL]; exact Weak.trans (Weak.pick (p := [_]) (Weak.keep (Weak.nil _))) (ownS.to1 hal.symm rfl))
end Go.Proofs.YtcngmkjdpoiiaaaGreatDoor

/- Plain: what Punish and Pay keep; what was taken. Printed by gen.py. -/
set_option maxRecDepth 100000
namespace Go.Proofs.YtcngmkjdpoiiaaaGreatDoor
open Go Go.RowKit Go.Proofs
set_option maxHeartbeats 2000000
/-! ### Punish -/
theorem ks_filter (r : List Rel) : goneK r = r.filter fun y => decide (y.amt ≠ 0) := by
 unfold goneK
 induction r with
 | nil => rfl
 | cons y r ih =>
  rw [keptS, List.filter_cons, ih]
  by_cases h : y.amt = 0
  ·rw [if_pos (decide_eq_true h), if_neg (by simp [h])]
  ·rw [if_neg (by simp [h]), if_pos (by simp [h])]
theorem sumR_filter (r : List Rel) : sumR (goneK r) = sumR r := by
 rw [ks_filter]
 induction r with
 | nil => rfl
 | cons y r ih =>
  rw [List.filter_cons, sumR_cons]
  by_cases h : y.amt = 0
  ·rw [if_neg (by simp [h]), ih, h]; omega
  ·rw [if_pos (by simp [h]), sumR_cons, ih]
theorem cut_key (a h s : Int) (y : Rel) : (cutY a h s y).h = y.h ∧ (cutY a h s y).a = y.a ∧ (cutY a h s y).born = y.born := by
 unfold cutY; split <;> exact ⟨rfl, rfl, rfl⟩
theorem cut_amt {a h s : Int} (h0 : 0 ≤ s) (h1 : s ≤ 1000) {y : Rel} (hy : y.ok) : 0 ≤ (cutY a h s y).amt ∧ (cutY a h s y).amt ≤ y.amt := by
 have h2 := hy.2.2.2.1
 obtain ⟨b1, b2⟩ := partI_bound h2 h0 h1
 unfold cutY; split
 ·show 0 ≤ y.amt - _ ∧ y.amt - _ ≤ _; omega
 ·exact ⟨h2, Int.le_refl _⟩
theorem cut_ok {a h s : Int} (h0 : 0 ≤ s) (h1 : s ≤ 1000) {y : Rel} (hy : y.ok) : (cutY a h s y).ok := by
 obtain ⟨e1, e2, e3⟩ := cut_key a h s y
 obtain ⟨b1, b2⟩ := cut_amt (a := a) (h := h) h0 h1 hy
 exact ⟨by rw [e1]; exact hy.1, by rw [e2]; exact hy.2.1, by rw [e3]; exact hy.2.2.1, ⟨b1, Int.le_trans b2 hy.2.2.2.2⟩⟩
theorem burn_sum {a h s : Int} (h0 : 0 ≤ s) (h1 : s ≤ 1000) : ∀ {r : List Rel}, (∀ y ∈ r, y.ok) → ∀ b, 0 ≤ b → b + sumR r ≤ MS → burnS a h s b r + sumR (r.map (cutY a h s)) = b + sumR r ∧ b ≤ burnS a h s b r
 | [], _, b, _, _ => ⟨rfl, Int.le_refl _⟩
 | y :: r, hok, b, hb, hs => by
  have hms : MS = 1152921504606846975 := rfl
  have hy := hok y (List.mem_cons_self ..)
  have hok2 : ∀ z ∈ r, z.ok := fun z hz => hok z (List.mem_cons_of_mem _ hz)
  have hn := sumR_nn hok2
  rw [sumR_cons] at hs
  obtain ⟨b1, b2⟩ := partI_bound hy.2.2.2.1 h0 h1
  have e : burnS a h s b (y :: r) = burnS a h s (burnY a h s b y) r := rfl
  have e2 : burnY a h s b y + (cutY a h s y).amt = b + y.amt ∧ b ≤ burnY a h s b y := by
   unfold burnY cutY
   split
   ·rw [wrap_fits (k := .u64) (x := b + partI y.amt s) (by simp only [fits]; omega)]
    show _ + (y.amt - _) = _ ∧ _
    omega
   ·exact ⟨rfl, Int.le_refl _⟩
  obtain ⟨c1, c2⟩ := cut_amt (a := a) (h := h) h0 h1 hy
  obtain ⟨i1, i2⟩ := burn_sum (a := a) (h := h) h0 h1 hok2 (burnY a h s b y) (by omega) (by omega)
  rw [e, List.map_cons, sumR_cons, sumR_cons]
  omega
theorem keeps_pun (s : Int) : Keeps (punA s) := fun _ => rfl
structure PunKept (L M : Led) (a : Int) : Prop where
 kept : Kept L M
 oth : ∀ z ∈ M.acc, z.a ≠ a → z = findA L.acc z.a
 jail : (findA M.acc a).jail = true
 burnt : L.burnt ≤ M.burnt
theorem keep_pun {L : Led} {s a h : Int} (hL : LF L) (hs0 : 0 ≤ s) (he : punE L s a h = 0) : PunKept L (punP L s a h) a := by
 have hms : MS = 1152921504606846975 := rfl
 have hsp : spotB L.acc a = true := by
  unfold punE at he
  split at he
  ·omega
  ·split at he
   ·omega
   ·rename_i h9; simpa using h9
 have hs1 : s ≤ 1000 := by
  unfold punE at he
  split at he
  ·omega
  ·omega
 have hs := hL.sum; have hsu := hL.sup; have hb0 := hL.b0; have hR := sumR_nn hL.ok'; have hS := sumA_nn hL.ok
 have hh : hasA L.acc a := (spotB_has hL.up).1 hsp
 obtain ⟨a0, a1, a2⟩ := getA_le hL.up hL.ok a
 obtain ⟨b1, b2⟩ := partI_bound a1 hs0 hs1
 have hm := getA_mem hL.up hh
 have hAok := hL.ok _ hm
 have e1 : L.acc.set (spotI L.acc a) (punA s (accAt L.acc (spotI L.acc a))) = updR L.acc a (punA s) := upd_yes hL.up hsp _
 have n1 : Nice (updR L.acc a (punA s)) := by
  refine ⟨updR_up (keeps_pun s) hL.up, fun z hz => ?_, fun z hz => ?_⟩
  ·rcases (mem_updR (keeps_pun s) hL.up).1 hz with ⟨h1, _⟩ | rfl
   ·exact hL.ok z h1
   ·exact ⟨hAok.1, hAok.2.1, ⟨by show 0 ≤ (getA L.acc a).bond - _; omega, by show (getA L.acc a).bond - _ ≤ _; omega⟩, hAok.2.2.2⟩
  ·rcases (mem_updR (keeps_pun s) hL.up).1 hz with ⟨h1, _⟩ | rfl
   ·exact hL.no0 z h1
   ·exact hL.no0 (getA L.acc a) hm
 have s1 := sumA_updR (punA s) a L.acc
 have s1 : sumA (updR L.acc a (punA s)) = sumA L.acc - partI (getA L.acc a).bond s := by
  rw [s1]; show _ + ((getA L.acc a).bal + ((getA L.acc a).bond - _)) - _ = _; omega
 have ew : IntKind.u64.wrap (L.burnt + partI (accAt L.acc (spotI L.acc a)).bond s) = L.burnt + partI (getA L.acc a).bond s := by
  rw [accAt_getA hL.up hsp]
  exact wrap_fits (k := .u64) (by simp only [fits]; omega)
 obtain ⟨s2, s3⟩ := burn_sum (a := a) (h := h) hs0 hs1 hL.ok' (L.burnt + partI (getA L.acc a).bond s) (by omega) (by omega)
 have hP : punP L s a h = ⟨updR L.acc a (punA s), goneK (L.rel.map (cutY a h s)), burnS a h s (L.burnt + partI (getA L.acc a).bond s) L.rel, L.sup⟩ := by
  unfold punP; rw [e1, ew]
 rw [hP]
 have hasM : ∀ b, hasA L.acc b → hasA (updR L.acc a (punA s)) b := fun b hb => updR_has (keeps_pun s) hb
 have hrow : ∀ y ∈ goneK (L.rel.map (cutY a h s)), ∃ z ∈ L.rel, y = cutY a h s z ∧ y.amt ≠ 0 := fun y hy => by
  rw [ks_filter, List.mem_filter] at hy
  obtain ⟨z, hz, e⟩ := List.mem_map.1 hy.1
  exact ⟨z, hz, e.symm, by simpa using hy.2⟩
 have hup : RUp (L.rel.map (cutY a h s)) := by
  refine List.pairwise_map.2 (hL.rup.imp fun {y z} hyz => ?_)
  obtain ⟨c1, c2, _⟩ := cut_key a h s y
  obtain ⟨d1, d2, _⟩ := cut_key a h s z
  rw [c1, c2, d1, d2]; exact hyz
 have hLF : LF ⟨updR L.acc a (punA s), goneK (L.rel.map (cutY a h s)), burnS a h s (L.burnt + partI (getA L.acc a).bond s) L.rel, L.sup⟩ := by
  refine ⟨n1.ok, fun y hy => ?_, by rw [updR_len_has hL.up hh]; exact hL.few, ?_, n1.up, n1.no0, ?_, fun y hy => ?_, by show 0 ≤ burnS a h s _ _; omega, hsu, ?_⟩
  ·obtain ⟨z, hz, rfl, _⟩ := hrow y hy
   exact cut_ok hs0 hs1 (hL.ok' z hz)
  ·show (goneK _).length ≤ _
   rw [ks_filter]
   exact Nat.le_trans (List.length_filter_le ..) (by rw [List.length_map]; exact hL.few')
  ·show RUp (goneK _)
   rw [ks_filter]; exact List.Pairwise.filter _ hup
  ·obtain ⟨z, hz, rfl, h9⟩ := hrow y hy
   obtain ⟨q1, q2, q3, q4, q5⟩ := hL.rows z hz
   obtain ⟨c1, c2, c3⟩ := cut_key a h s z
   exact ⟨by rw [c2]; exact hasM _ q1, by rw [c3]; exact q2, by rw [c3, c1]; exact q3, by rw [c1]; exact q4, h9⟩
  ·show burnS a h s _ _ + sumA (updR L.acc a (punA s)) + sumR (goneK _) = L.sup
   rw [sumR_filter, s1]; omega
 refine ⟨⟨hLF, rfl, hasM, fun b hb => ?_⟩, fun z hz hn => ?_, ?_, by show L.burnt ≤ burnS a h s _ _; omega⟩
 ·show _ ≤ (getA (updR L.acc a (punA s)) b).non
  rw [getA_updR (keeps_pun s) hL.up]; split
  ·rename_i e; rw [e]; exact Int.le_refl _
  ·exact Int.le_refl _
 ·rcases (mem_updR (keeps_pun s) hL.up).1 hz with ⟨h1, _⟩ | rfl
  ·exact find_self hL h1
  ·exact absurd (show (punA s (getA L.acc a)).a = a from getA_a _ _) hn
 ·show (findA (updR L.acc a (punA s)) a).jail = true
  rw [findA_getA n1.up (hasM a hh), getA_updR (keeps_pun s) hL.up, if_pos rfl]; rfl
/-! ### Pay -/
theorem paidK_sub (h : Int) : ∀ (r : List Rel) (l : List Acc), (paidK h l r).Sublist r
 | [], _ => List.Sublist.slnil
 | y :: r, l => by
  unfold paidK
  rw [keptS]
  split
  ·exact (paidK_sub h r _).cons _
  ·exact (paidK_sub h r _).cons_cons _
structure PaidOk (l l' : List Acc) (t : Int) : Prop where
 nice : Nice l'
 has : ∀ a, hasA l' a ↔ hasA l a
 non : ∀ a, (getA l' a).non = (getA l a).non
 sum : sumA l' = t
theorem paid_ok (h : Int) : ∀ {r : List Rel} {l : List Acc}, Nice l → (∀ y ∈ r, hasA l y.a) → (∀ y ∈ r, y.ok) → sumA l + sumR r ≤ MS → PaidOk l (paidA h l r) (sumA l + sumR r - sumR (paidK h l r))
 | [], l, hn, _, _, _ => ⟨hn, fun _ => Iff.rfl, fun _ => rfl, by show sumA l = _; unfold paidK keptS; omega⟩
 | y :: r, l, hn, hh, hok, hs => by
  have hms : MS = 1152921504606846975 := rfl
  have hy := hh y (List.mem_cons_self ..)
  have hyo := hok y (List.mem_cons_self ..)
  have hok2 : ∀ z ∈ r, z.ok := fun z hz => hok z (List.mem_cons_of_mem _ hz)
  have hR := sumR_nn hok2
  have hA := sumA_nn hn.ok
  have hb : spotB l y.a = true := (spotB_has hn.up).2 hy
  rw [sumR_cons] at hs
  have eA : paidA h l (y :: r) = paidA h (payY h l y) r := rfl
  rw [eA, sumR_cons]
  by_cases hd : h < y.h
  ·have hdue : dueB h l y = false := by unfold dueB; rw [decide_eq_true hd]; rfl
   have e1 : payY h l y = l := if_neg (by rw [hdue]; decide)
   have e2 : paidK h l (y :: r) = y :: paidK h l r := by
    show (if dueB h l y = true then _ else _) = _
    rw [if_neg (by rw [hdue]; decide)]
    show y :: paidK h (payY h l y) r = _
    rw [e1]
   rw [e1, e2, sumR_cons]
   have h0 := hyo.2.2.2.1
   obtain ⟨i1, i2, i3, i4⟩ := paid_ok h hn (fun z hz => hh z (List.mem_cons_of_mem _ hz)) hok2 (by omega)
   exact ⟨i1, i2, i3, by rw [i4]; omega⟩
  ·have hdue : dueB h l y = true := by unfold dueB; rw [decide_eq_false hd, hb]; rfl
   have e1 : payY h l y = updR l y.a (addBal y.amt) := by
    unfold payY; rw [if_pos hdue]; exact upd_yes hn.up hb (addBal y.amt)
   have e2 : paidK h l (y :: r) = paidK h (payY h l y) r := by
    show (if dueB h l y = true then _ else _) = _
    rw [if_pos hdue]; rfl
   have hy0 : y.a ≠ 0 := by obtain ⟨z, hz, e⟩ := hy; rw [← e]; exact hn.no0 z hz
   have hn2 := hn.upd (keeps_add y.amt) (ok_add y.amt) hyo.2.1 hy0
   have h0 := hyo.2.2.2.1
   have hsum := sum_addBal hn (by omega) h0 (by omega) y.a
   have hhas : ∀ a, hasA (updR l y.a (addBal y.amt)) a ↔ hasA l a := fun a => by
    rw [hasA_updR (keeps_add y.amt) hn.up]
    exact ⟨fun h9 => h9.elim id fun e => by rw [e]; exact hy, .inl⟩
   rw [e2, e1]
   obtain ⟨i1, i2, i3, i4⟩ := paid_ok h hn2 (fun z hz => (hhas _).2 (hh z (List.mem_cons_of_mem _ hz))) hok2 (by rw [hsum]; omega)
   exact ⟨i1, fun a => (i2 a).trans (hhas a), fun a => (i3 a).trans (non_addBal hn.up _ _ _), by rw [i4, hsum]; omega⟩
theorem keep_pay {L : Led} (hL : LF L) (h : Int) : Kept L ⟨paidA h L.acc L.rel, paidK h L.acc L.rel, L.burnt, L.sup⟩ := by
 have hs := hL.sum; have hsu := hL.sup; have hb0 := hL.b0
 obtain ⟨i1, i2, i3, i4⟩ := paid_ok h (r := L.rel) ⟨hL.up, hL.ok, hL.no0⟩ (fun y hy => (hL.rows y hy).has) hL.ok' (by omega)
 have hsub := paidK_sub h L.rel L.acc
 refine ⟨⟨i1.ok, fun y hy => hL.ok' y (hsub.subset hy), by show (paidA _ _ _).length ≤ _; rw [paidA_len]; exact hL.few, Nat.le_trans hsub.length_le hL.few', i1.up, i1.no0, hL.rup.sublist hsub, fun y hy => ?_, hb0, hsu, by show L.burnt + sumA (paidA _ _ _) + sumR (paidK _ _ _) = L.sup; rw [i4]; omega⟩, rfl, fun a ha => (i2 a).2 ha, fun a _ => by show _ ≤ (getA (paidA _ _ _) a).non; rw [i3]; exact Int.le_refl _⟩
 obtain ⟨q1, q2, q3, q4, q5⟩ := hL.rows y (hsub.subset hy)
 exact ⟨(i2 _).2 q1, q2, q3, q4, q5⟩
/-! ### What was taken -/
structure DoneOk (rc : List Rcd) (ch : List Int) (p : Par) (l : List Acc) (x : Tx) (h : Int) : Prop where
 time : ¬ timeB p h
 tx : txbE ch x = 0
 sealed : seald rc ch x = true
 has : hasA l x.frm
 non : x.non < (getA l x.frm).non
theorem seald_more {rc rc' : List Rcd} (hs : ∀ r ∈ rc, r ∈ rc') {ch : List Int} {x : Tx} (h : seald rc ch x = true) : seald rc' ch x = true := by
 unfold seald at h ⊢
 rw [Bool.and_eq_true, decide_eq_true_eq, decide_eq_true_eq] at h ⊢
 exact ⟨hs _ h.1, h.2⟩
theorem DoneOk.sign {rc rc' : List Rcd} {ch : List Int} {p : Par} {l : List Acc} {x : Tx} {h : Int} (d : DoneOk rc ch p l x h) (hs : ∀ r ∈ rc, r ∈ rc') : DoneOk rc' ch p l x h := ⟨d.time, d.tx, seald_more hs d.sealed, d.has, d.non⟩
theorem DoneOk.keep {rc : List Rcd} {ch : List Int} {p : Par} {L M : Led} {x : Tx} {h : Int} (d : DoneOk rc ch p L.acc x h) (hk : Kept L M) : DoneOk rc ch p M.acc x h := ⟨d.time, d.tx, d.sealed, hk.has _ d.has, Int.lt_of_lt_of_le d.non (hk.non _ d.has)⟩
theorem DoneOk.chk {rc : List Rcd} {ch : List Int} {p : Par} {L : Led} {x : Tx} {h : Int} (d : DoneOk rc ch p L.acc x h) (hu : Up L.acc) : chkE rc ch L p h x = 80 := by
 have hb := (spotB_has hu).2 d.has
 have hn := d.non
 have hs : senderA L x = getA L.acc x.frm := accAt_getA hu hb
 unfold chkE
 rw [if_neg d.time, if_neg (by rw [d.tx]; simp), if_neg (by rw [d.sealed]; decide), if_neg (by rw [hb]; decide), if_pos (.inl (by rw [hs]; omega))]
theorem DoneOk.new {rc : List Rcd} {ch : List Int} {p : Par} {L M : Led} {x : Tx} {h b : Int} (hL : LF L) (hc : ChkFine rc ch L p h x) (hk : AppKept L M x b) : DoneOk rc ch p M.acc x h := by
 refine ⟨hc.time, hc.tx, hc.sealed, hk.kept.has _ hk.frm, ?_⟩
 have h1 := hk.nonc
 have h2 := hk.one
 rw [findA_getA hk.kept.lf.up (hk.kept.has _ hk.frm)] at h1
 omega
theorem addR_mem {rc : List Rcd} {x r : Rcd} (h : r ∈ rc) : r ∈ addR rc x := by
 unfold addR; split
 ·exact h
 ·exact List.mem_append_left _ h
theorem sgnR_mem {es ch : List Int} {x : Tx} {wr : Bool} {rc : List Rcd} : ∀ r ∈ rc, r ∈ sgnR es ch x wr rc := fun r hr => by
 unfold sgnR; split
 ·exact addR_mem hr
 ·exact hr
theorem sgnR_le {es ch : List Int} {x : Tx} {wr : Bool} {rc : List Rcd} : (sgnR es ch x wr rc).length ≤ rc.length + 1 := by
 unfold sgnR; split
 ·exact addR_length _ _
 ·omega
end Go.Proofs.YtcngmkjdpoiiaaaGreatDoor

/- Walks: others. Printed by gen.py. -/
set_option maxRecDepth 100000
namespace Go.Proofs.YtcngmkjdpoiiaaaGreatDoor
open Go Go.RowKit Go.Proofs
set_option maxHeartbeats 1000000 in
theorem others_ok {gl : Nat → Obj} (base : Option Addr) (c : Nat) (l : List Acc) (hc : l.length ≤ c) (hm : l.length ≤ 1099511627776) (rv : Value) (hrv : rv.oneCell' = true) (bu su : Int) (mb : Option Addr) (mc : Nat) (m : List Acc) (hmc : m.length ≤ mc) (hmm : m.length ≤ 1099511627776) (rv2 : Value) (hrv2 : rv2.oneCell' = true) (bu2 su2 a b d : Int) (h1 : ∀ z ∈ m, z.a ≠ a → z.a ≠ b → z.a ≠ d → z = findA l z.a) (h2 : ∀ z ∈ l, (findA m z.a).a = z.a) : SpecV (cx gl) 65 [.agg (ledV (.slice base l.length c) rv bu su).toArray, .agg (ledV (.slice mb m.length mc) rv2 bu2 su2).toArray, .int .u64 a, .int .u64 b, .int .u64 d] (fun w => Row w base (rc l) ∧ Row w mb (rc m)) (.bool true) := by
 refine Spec.enter (C := cx gl) Tryz.func65 rfl 71 rfl rfl fun w0 h0 hsep hsub hpre => ?_
 obtain rfl : h0 = Heap.none := hsep
 show St (cx gl) _ [(0, .agg (ledV (.slice base l.length c) rv bu su).toArray), (1, .agg (ledV (.slice mb m.length mc) rv2 bu2 su2).toArray), (2, .int .u64 a), (3, .int .u64 b), (4, .int .u64 d)] _ _
 refine rT ?_
 refine lO (W_box (ledV (.slice base l.length c) rv bu su) rfl rfl rfl rfl rfl fun b5 => ?_)
 refine lO (W_box (ledV (.slice mb m.length mc) rv2 bu2 su2) rfl rfl rfl rfl rfl fun b6 => lA (k:=?_))
 refine lQ (cE 2 rfl (cE 3 rfl (cE 4 rfl (cE 5 rfl (cE 6 rfl (cE 10 rfl .nil)))))) (rS (rT (lA (k:=?_))))
 refine L_nil (qT (R_block ?_))
 refine R_loopE (G := Nat) (cE 2 rfl (cE 3 rfl (cE 4 rfl (cE 5 rfl (cE 6 rfl (cE 10 rfl .nil)))))) (fun g => [(11, .int .i64 ((g : Nat) : Int))]) (fun _ => _) (fun g => g ≤ m.length) (fun g => m.length - g) (0) (Nat.zero_le _) (by repeat (first | exact .nil | refine .cons rfl ?_ | refine .consE rfl (by first | rfl | (congr 1; omega) | (congr 1; push_cast; omega)) ?_)) (Weak.refl _) ?_
 intro i hinv
 replace hinv : i ≤ m.length := hinv
 show St (cx gl) _ ((11, .int .i64 ((i : Nat) : Int)) :: _) _ _
 have hi := hinv
 refine rS (rT (lM (k:=lP (pF ty_fl_30_0) (k:=lV (vB ty_sc_22 .h0) (k:=lP (pL ty_sl_22) (k:=lP pLt (k:=?_)))))))
 refine L_nil (qT ?_)
 refine R_condP rfl (fun hlt => ?_) (fun hlt => ?_)
 ·skip
  have him : i < m.length := by omega
  obtain ⟨z, hz⟩ : ∃ z, m[i]? = some z := ⟨_, List.getElem?_eq_getElem him⟩
  have hzm := List.mem_of_getElem? hz
  obtain ⟨pb, pj, rfl, hrow⟩ := hpre.2.some_ (by rw [rc_length]; show 0 < _ * 5; omega)
  refine R_skip (qT (rS (R_block (rT (lP (pF ty_fl_30_0) (k:=lV (vB ty_sc_22 .h0) (k:=lM (k:=?_))))))))
  refine lP (P_ixs (i) rfl ty_sl_22 rfl rfl (by first | rfl | omega) (by omega)) (k:=?_)
  refine lV (V_loadAgg rfl rfl ty_ag_50 (rds_rc (Rds.row hrow rfl) hz) (rfl)) (k:=?_)
  refine lO (W_alloc rfl rfl rfl ty_ze_50 fun b12 => ?_)
  refine lO (W_storeAll rfl rfl rfl rfl ty_ag_50 (rfl) (Rec.one z) .h0 (rfl) ?_)
  refine L_nil (qT (rS ?_))
  refine R_open [(0, 0), (1, 1), (2, 0), (3, 0), (4, 0), (5, 0), (6, 1), (7, 0), (8, 0), (9, 0), (10, 0), (11, 0), (12, 1), (13, 0), (14, 0), (15, 0), (16, 0), (17, 1), (18, 1), (19, 0), (20, 1), (21, 2), (22, 0), (23, 0)] mixed (by kernel_rfl) (QOk.then (QOk.block (QOk.then (QOk.then (QOk.block (QOk.then QOk.body)))))) (oP rfl (pF ty_fl_50_0) (k:=oV rfl (vB ty_sc_26 .h0) (k:=oP rfl pM (k:=oP rfl pNe (k:=?_)))))
  refine E_bool (t := 30) rfl (fun qa => ?_) (fun qa => ?_)
  ·skip
   have qa := of_decide_eq_true qa
   refine oP rfl pM (k:=oP rfl (pF ty_fl_50_0) (k:=oV rfl (vB ty_sc_26 .h0) (k:=oP rfl pM (k:=oP rfl pNe (k:=?_)))))
   refine E_bool (t := 35) rfl (fun qb => ?_) (fun qb => ?_)
   ·skip
    have qb := of_decide_eq_true qb
    refine oP rfl pK (k:=oP rfl pM (k:=oP rfl (pF ty_fl_50_0) (k:=oV rfl (vB ty_sc_26 .h0) (k:=oP rfl pM (k:=oP rfl pNe (k:=?_))))))
    refine E_bool (t := 41) rfl (fun qc => ?_) (fun qc => ?_)
    ·skip
     have qc := of_decide_eq_true qc
     refine oP rfl pK (k:=oP rfl pM (k:=oV rfl (vG ty_ag_50 .h0) (k:=oV rfl (vG ty_ag_30 .h2) (k:=oP rfl (pF ty_fl_50_0) (k:=oV rfl (vB ty_sc_26 .h0) (k:=?_))))))
     refine O_keep rfl rfl (W_callV rfl rfl rfl rfl fn_ca_66 (lfind_ok base c l hc (by omega) rv hrv bu su z.a) (fun w nw => (Sn.row hpre.1 rfl).rw_ w nw) (K_keep (Weak.refl _) ?_))
     refine oP rfl (P_neq_structK (b := false) [false, false, false, false, true] rfl se_acc rfl rfl rfl rfl (acc_kind z (findA l z.a)) ⟨fun _ => congrArg Acc.cells (h1 z hzm qa qb qc), fun _ => rfl⟩) (k:=oP rfl pK (k:=O_nil (qT (kF (k:=R_skip (Q_block (qT (rR (lM (k:=?_))))))))))
     first | (refine L_val rfl rfl rfl (OpP.v (P_addN rfl rfl rfl (by simp only [fits]; omega))) ?_) | (refine L_val rfl rfl rfl (OpP.v (P_add rfl rfl rfl)) ?_)
     refine lA (k:=?_)
     refine L_nil ?_
     exact Q_round (i + 1) (by show i + 1 ≤ m.length; omega) (by show m.length - (i + 1) < m.length - i; omega) (by repeat (first | exact .nil | refine .cons rfl ?_ | refine .consE rfl (by first | rfl | (congr 1; omega) | (congr 1; push_cast; omega)) ?_)) (Weak.drop (Weak.refl _))
    ·skip
     refine oP rfl pK (k:=oP rfl pM (k:=?_))
     refine O_noX rfl rfl rfl rfl ?_
     refine O_noX rfl rfl rfl rfl ?_
     refine O_no rfl rfl rfl rfl ?_
     refine O_noX rfl rfl rfl rfl ?_
     refine O_no2 rfl rfl rfl rfl ?_
     refine O_no rfl rfl rfl rfl (oP rfl pK (k:=O_nil (qT (kF (k:=R_skip (Q_block (qT (rR (lM (k:=?_))))))))))
     first | (refine L_val rfl rfl rfl (OpP.v (P_addN rfl rfl rfl (by simp only [fits]; omega))) ?_) | (refine L_val rfl rfl rfl (OpP.v (P_add rfl rfl rfl)) ?_)
     refine lA (k:=?_)
     refine L_nil ?_
     exact Q_round (i + 1) (by show i + 1 ≤ m.length; omega) (by show m.length - (i + 1) < m.length - i; omega) (by repeat (first | exact .nil | refine .cons rfl ?_ | refine .consE rfl (by first | rfl | (congr 1; omega) | (congr 1; push_cast; omega)) ?_)) (Weak.drop (Weak.refl _))
   ·skip
    refine oP rfl pK (k:=oP rfl pM (k:=?_))
    refine O_no rfl rfl rfl rfl ?_
    refine O_noX rfl rfl rfl rfl ?_
    refine O_no rfl rfl rfl rfl ?_
    refine O_no rfl rfl rfl rfl (oP rfl pK (k:=oP rfl pM (k:=?_)))
    refine O_noX rfl rfl rfl rfl ?_
    refine O_noX rfl rfl rfl rfl ?_
    refine O_no rfl rfl rfl rfl ?_
    refine O_noX rfl rfl rfl rfl ?_
    refine O_no2 rfl rfl rfl rfl ?_
    refine O_no rfl rfl rfl rfl (oP rfl pK (k:=O_nil (qT (kF (k:=R_skip (Q_block (qT (rR (lM (k:=?_))))))))))
    first | (refine L_val rfl rfl rfl (OpP.v (P_addN rfl rfl rfl (by simp only [fits]; omega))) ?_) | (refine L_val rfl rfl rfl (OpP.v (P_add rfl rfl rfl)) ?_)
    refine lA (k:=?_)
    refine L_nil ?_
    exact Q_round (i + 1) (by show i + 1 ≤ m.length; omega) (by show m.length - (i + 1) < m.length - i; omega) (by repeat (first | exact .nil | refine .cons rfl ?_ | refine .consE rfl (by first | rfl | (congr 1; omega) | (congr 1; push_cast; omega)) ?_)) (Weak.drop (Weak.refl _))
  ·skip
   refine oP rfl pM (k:=?_)
   refine O_no rfl rfl rfl rfl ?_
   refine O_noX rfl rfl rfl rfl ?_
   refine O_no rfl rfl rfl rfl ?_
   refine O_no rfl rfl rfl rfl (oP rfl pK (k:=oP rfl pM (k:=?_)))
   refine O_no rfl rfl rfl rfl ?_
   refine O_noX rfl rfl rfl rfl ?_
   refine O_no rfl rfl rfl rfl ?_
   refine O_no rfl rfl rfl rfl (oP rfl pK (k:=oP rfl pM (k:=?_)))
   refine O_noX rfl rfl rfl rfl ?_
   refine O_noX rfl rfl rfl rfl ?_
   refine O_no rfl rfl rfl rfl ?_
   refine O_noX rfl rfl rfl rfl ?_
   refine O_no2 rfl rfl rfl rfl ?_
   refine O_no rfl rfl rfl rfl (oP rfl pK (k:=O_nil (qT (kF (k:=R_skip (Q_block (qT (rR (lM (k:=?_))))))))))
   first | (refine L_val rfl rfl rfl (OpP.v (P_addN rfl rfl rfl (by simp only [fits]; omega))) ?_) | (refine L_val rfl rfl rfl (OpP.v (P_add rfl rfl rfl)) ?_)
   refine lA (k:=?_)
   refine L_nil ?_
   exact Q_round (i + 1) (by show i + 1 ≤ m.length; omega) (by show m.length - (i + 1) < m.length - i; omega) (by repeat (first | exact .nil | refine .cons rfl ?_ | refine .consE rfl (by first | rfl | (congr 1; omega) | (congr 1; push_cast; omega)) ?_)) (Weak.drop (Weak.refl _))
 ·skip
  refine R_exit (Q_then_exit (Q_then_exit (Q_block_eq ?_)))
  refine St.env (cE 5 rfl (cE 6 rfl (cE 10 rfl .nil))) (qT (rS (rT (lA (k:=?_)))))
  refine L_nil (qT (R_block ?_))
  refine R_loopE (G := Nat) (cE 5 rfl (cE 6 rfl (cE 10 rfl .nil))) (fun g => [(13, .int .i64 ((g : Nat) : Int))]) (fun _ => _) (fun g => g ≤ l.length) (fun g => l.length - g) (0) (Nat.zero_le _) (by repeat (first | exact .nil | refine .cons rfl ?_ | refine .consE rfl (by first | rfl | (congr 1; omega) | (congr 1; push_cast; omega)) ?_)) (Weak.refl _) ?_
  intro j hinv
  replace hinv : j ≤ l.length := hinv
  show St (cx gl) _ ((13, .int .i64 ((j : Nat) : Int)) :: _) _ _
  have hj := hinv
  refine rS (rT (lM (k:=lP (pF ty_fl_30_0) (k:=lV (vB ty_sc_22 .h1) (k:=lP (pL ty_sl_22) (k:=lP pLt (k:=?_)))))))
  refine L_nil (qT ?_)
  refine R_condP rfl (fun hlt => ?_) (fun hlt => ?_)
  ·skip
   have hjl : j < l.length := by omega
   obtain ⟨z, hz⟩ : ∃ z, l[j]? = some z := ⟨_, List.getElem?_eq_getElem hjl⟩
   have hzl := List.mem_of_getElem? hz
   have hfz := h2 z hzl
   obtain ⟨pb, pj, rfl, hrow⟩ := hpre.1.some_ (by rw [rc_length]; show 0 < _ * 5; omega)
   refine R_skip (qT (rS (R_block (rT (lP (pF ty_fl_30_0) (k:=lV (vB ty_sc_22 .h1) (k:=lM (k:=?_))))))))
   refine lP (P_ixs (j) rfl ty_sl_22 rfl rfl (by first | rfl | omega) (by omega)) (k:=?_)
   refine lV (V_loadAgg rfl rfl ty_ag_50 (rds_rc (Rds.row hrow rfl) hz) (rfl)) (k:=?_)
   refine lO (W_alloc rfl rfl rfl ty_ze_50 fun b14 => ?_)
   refine lO (W_storeAll rfl rfl rfl rfl ty_ag_50 (rfl) (Rec.one z) .h0 (rfl) ?_)
   refine L_nil (qT (rS ?_))
   refine R_open [(0, 1), (1, 0), (2, 1), (5, 0), (6, 1), (3, 2), (4, 0), (7, 0)] mixed (by kernel_rfl) (QOk.then (QOk.block (QOk.then (QOk.then (QOk.block (QOk.then QOk.body)))))) (oV rfl (vG ty_ag_30 .h1) (k:=oP rfl (pF ty_fl_50_0) (k:=oV rfl (vB ty_sc_26 .h0) (k:=oP rfl (pF ty_fl_50_0) (k:=oV rfl (vB ty_sc_26 .h0) (k:=?_))))))
   refine O_keep rfl rfl (W_callV rfl rfl rfl rfl fn_ca_66 (lfind_ok mb mc m hmc (by omega) rv2 hrv2 bu2 su2 z.a) (fun w nw => (Sn.row hpre.2 rfl).rw_ w nw) (K_keep (Weak.refl _) ?_))
   refine oP rfl (P_field rfl ty_fld_50_0 ty_sc_26 rfl (rfl)) (k:=oP rfl pNe (k:=?_))
   refine E_false (t := 70) rfl (decide_eq_false (fun h => h hfz)) (O_nil (qT (kF (k:=R_skip (Q_block (qT (rR (lM (k:=?_)))))))))
   first | (refine L_val rfl rfl rfl (OpP.v (P_addN rfl rfl rfl (by simp only [fits]; omega))) ?_) | (refine L_val rfl rfl rfl (OpP.v (P_add rfl rfl rfl)) ?_)
   refine lA (k:=?_)
   refine L_nil ?_
   exact Q_round (j + 1) (by show j + 1 ≤ l.length; omega) (by show l.length - (j + 1) < l.length - j; omega) (by repeat (first | exact .nil | refine .cons rfl ?_ | refine .consE rfl (by first | rfl | (congr 1; omega) | (congr 1; push_cast; omega)) ?_)) (Weak.drop (Weak.refl _))
  ·skip
   refine R_exit (Q_then_exit (Q_then_exit (Q_block_eq ?_)))
   refine St.env (cE 10 rfl .nil) (qT (rT (lA (k:=?_))))
   refine L_nil (qT (R_ret ?_))
   exact R_endV rfl rfl (.tmp rfl .nil) (rfl)
end Go.Proofs.YtcngmkjdpoiiaaaGreatDoor

/- Walks: supply. Printed by gen.py. -/
set_option maxRecDepth 100000
namespace Go.Proofs.YtcngmkjdpoiiaaaGreatDoor
open Go Go.RowKit Go.Proofs
def supA (t : Int) (l : List Acc) : Int := l.foldl (fun t x => IntKind.u64.wrap (IntKind.u64.wrap (t + x.bal) + x.bond)) t
def supR (t : Int) (r : List Rel) : Int := r.foldl (fun t y => IntKind.u64.wrap (t + y.amt)) t
theorem supA_next {t : Int} {l : List Acc} {i : Nat} {x : Acc} (h : l[i]? = some x) : supA t (l.take (i + 1)) = IntKind.u64.wrap (IntKind.u64.wrap (supA t (l.take i) + x.bal) + x.bond) := by unfold supA; rw [List.take_add_one, h, List.foldl_append]; rfl
theorem supR_next {t : Int} {r : List Rel} {i : Nat} {y : Rel} (h : r[i]? = some y) : supR t (r.take (i + 1)) = IntKind.u64.wrap (supR t (r.take i) + y.amt) := by unfold supR; rw [List.take_add_one, h, List.foldl_append]; rfl
theorem supA_sum {l : List Acc} (hok : ∀ x ∈ l, x.ok) : ∀ t : Int, 0 ≤ t → t + sumA l ≤ MS → supA t l = t + sumA l := by
 have hms : MS = 1152921504606846975 := rfl
 induction l with
 | nil => intro t _ _; simp [supA, sumA]
 | cons x l ih =>
  intro t h0 h1
  obtain ⟨_, ⟨a0, _⟩, ⟨b0, _⟩, _⟩ := hok x (List.mem_cons_self ..)
  have hl := sumA_nn fun y hy => hok y (List.mem_cons_of_mem _ hy)
  rw [sumA_cons] at h1 ⊢
  have e : supA t (x :: l) = supA (IntKind.u64.wrap (IntKind.u64.wrap (t + x.bal) + x.bond)) l := rfl
  rw [e, wrap_fits (k := .u64) (x := t + x.bal) (by simp only [fits]; omega), wrap_fits (k := .u64) (x := t + x.bal + x.bond) (by simp only [fits]; omega), ih (fun y hy => hok y (List.mem_cons_of_mem _ hy)) _ (by omega) (by omega)]
  omega
theorem supR_sum {l : List Rel} (hok : ∀ x ∈ l, x.ok) : ∀ t : Int, 0 ≤ t → t + sumR l ≤ MS → supR t l = t + sumR l := by
 have hms : MS = 1152921504606846975 := rfl
 induction l with
 | nil => intro t _ _; simp [supR, sumR]
 | cons x l ih =>
  intro t h0 h1
  obtain ⟨_, _, _, ⟨a0, _⟩⟩ := hok x (List.mem_cons_self ..)
  have hl := sumR_nn fun y hy => hok y (List.mem_cons_of_mem _ hy)
  rw [sumR_cons] at h1 ⊢
  have e : supR t (x :: l) = supR (IntKind.u64.wrap (t + x.amt)) l := rfl
  rw [e, wrap_fits (k := .u64) (x := t + x.amt) (by simp only [fits]; omega), ih (fun y hy => hok y (List.mem_cons_of_mem _ hy)) _ (by omega) (by omega)]
  omega
theorem supply_ok {gl : Nat → Obj} (base : Option Addr) (c : Nat) (l : List Acc) (hc : l.length ≤ c) (hm : l.length ≤ 3518437208883) (base' : Option Addr) (c' : Nat) (r : List Rel) (hc' : r.length ≤ c') (hm' : r.length ≤ 4398046511104) (bu su : Int) : SpecV (cx gl) 68 [.agg (ledV (.slice base l.length c) (.slice base' r.length c') bu su).toArray] (fun w => Row w base (rc l) ∧ Row w base' (rc r)) (.int .u64 (supR (supA bu l) r)) := by
 refine Spec.enter (C := cx gl) Tryz.func68 rfl 46 rfl rfl fun w0 h0 hsep hsub hpre => ?_
 obtain rfl : h0 = Heap.none := hsep
 show St (cx gl) _ [(0, .agg (ledV (.slice base l.length c) (.slice base' r.length c') bu su).toArray)] _ _
 refine rT ?_
 refine lO (W_box (ledV (.slice base l.length c) (.slice base' r.length c') bu su) rfl rfl rfl rfl rfl fun b1 => lA (k:=?_))
 refine lQ (cE 1 rfl (cE 2 rfl .nil)) (rT (lP (pF ty_fl_30_2) (k:=lV (vB ty_sc_23 .h0) (k:=lA (k:=?_)))))
 refine lQ (cE 1 rfl (cE 2 rfl (cE 3 rfl .nil))) (rS (rT (lA (k:=?_))))
 refine L_nil (qT (R_block ?_))
 refine R_loopE (G := Nat) (cE 1 rfl (cE 2 rfl .nil)) (fun g => [(3, .int .u64 (supA bu (l.take g))), (4, .int .i64 ((g : Nat) : Int))]) (fun _ => _) (fun g => g ≤ l.length) (fun g => l.length - g) (0) (Nat.zero_le _) (by repeat (first | exact .nil | refine .cons rfl ?_ | refine .consE rfl (by first | rfl | (congr 1; omega) | (congr 1; push_cast; omega)) ?_)) (Weak.refl _) ?_
 intro i hinv
 replace hinv : i ≤ l.length := hinv
 show St (cx gl) _ ((3, .int .u64 (supA bu (l.take i))) :: (4, .int .i64 ((i : Nat) : Int)) :: _) _ _
 have hi := hinv
 refine rS (rT (lM (k:=lP (pF ty_fl_30_0) (k:=lV (vB ty_sc_22 .h0) (k:=lP (pL ty_sl_22) (k:=lP pLt (k:=?_)))))))
 refine L_nil (qT ?_)
 refine R_condP rfl (fun hlt => ?_) (fun hlt => ?_)
 ·skip
  have hil : i < l.length := by omega
  obtain ⟨x, hx⟩ : ∃ x, l[i]? = some x := ⟨_, List.getElem?_eq_getElem hil⟩
  obtain ⟨pb, pj, rfl, hrow⟩ := hpre.1.some_ (by rw [rc_length]; show 0 < _ * 5; omega)
  refine R_skip (qT (rS (R_block ?_)))
  refine R_open [(0, 0), (1, 0), (2, 1), (3, 0), (4, 0), (5, 0), (6, 1), (7, 0), (8, 0), (9, 1), (10, 0), (11, 0), (12, 0), (13, 1), (14, 0), (15, 0)] mixed (by kernel_rfl) (QOk.block (QOk.then (QOk.then (QOk.block (QOk.then QOk.body))))) (oP rfl pM (k:=oP rfl (pF ty_fl_30_0) (k:=oV rfl (vB ty_sc_22 .h0) (k:=oP rfl pM (k:=?_)))))
  refine oP rfl (P_ixs (i) rfl ty_sl_22 rfl rfl (by first | rfl | omega) (by omega)) (k:=oP rfl (pG ty_fl_50_1) (k:=?_))
  refine oV rfl (V_load rfl rfl ty_sc_23 (rd_rc (Rds.row hrow rfl) hx rfl)) (k:=?_)
  refine oP rfl (P_add rfl rfl rfl) (k:=oP rfl (pF ty_fl_30_0) (k:=oV rfl (vB ty_sc_22 .h0) (k:=oP rfl pM (k:=?_))))
  refine oP rfl (P_ixs (i) rfl ty_sl_22 rfl rfl (by first | rfl | omega) (by omega)) (k:=oP rfl (pG ty_fl_50_2) (k:=?_))
  refine oV rfl (V_load rfl rfl ty_sc_23 (rd_rc (Rds.row hrow rfl) hx rfl)) (k:=?_)
  refine oP rfl (P_add rfl rfl rfl) (k:=oP rfl pA (k:=O_nil (Q_block (qT ?_))))
  refine E_as (t := 3) (v' := .int .u64 (supA bu (l.take (i + 1)))) rfl (by rw [supA_next hx]) (rR (lM (k:=?_)))
  first | (refine L_val rfl rfl rfl (OpP.v (P_addN rfl rfl rfl (by simp only [fits]; omega))) ?_) | (refine L_val rfl rfl rfl (OpP.v (P_add rfl rfl rfl)) ?_)
  refine lA (k:=?_)
  refine L_nil ?_
  exact Q_round (i + 1) (by show i + 1 ≤ l.length; omega) (by show l.length - (i + 1) < l.length - i; omega) (by repeat (first | exact .nil | refine .cons rfl ?_ | refine .consE rfl (by first | rfl | (congr 1; omega) | (congr 1; push_cast; omega)) ?_)) (Weak.refl _)
 ·skip
  obtain rfl : i = l.length := by omega
  refine E_as (t := 3) (v' := .int .u64 (supA bu l)) rfl (by rw [List.take_length]) (R_exit (Q_then_exit (Q_then_exit (Q_block_eq ?_))))
  refine St.env (cE 1 rfl (cE 2 rfl (cE 3 rfl .nil))) (qT (rS (rT (lA (k:=?_)))))
  refine L_nil (qT (R_block ?_))
  refine R_loopE (G := Nat) (cE 1 rfl (cE 2 rfl .nil)) (fun g => [(3, .int .u64 (supR (supA bu l) (r.take g))), (5, .int .i64 ((g : Nat) : Int))]) (fun _ => _) (fun g => g ≤ r.length) (fun g => r.length - g) (0) (Nat.zero_le _) (by repeat (first | exact .nil | refine .cons rfl ?_ | refine .consE rfl (by first | rfl | (congr 1; omega) | (congr 1; push_cast; omega)) ?_)) (Weak.refl _) ?_
  intro j hinv
  replace hinv : j ≤ r.length := hinv
  show St (cx gl) _ ((3, .int .u64 (supR (supA bu l) (r.take j))) :: (5, .int .i64 ((j : Nat) : Int)) :: _) _ _
  have hj := hinv
  refine rS (rT (lM (k:=lP (pF ty_fl_30_1) (k:=lV (vB ty_sc_28 .h0) (k:=lP (pL ty_sl_28) (k:=lP pLt (k:=?_)))))))
  refine L_nil (qT ?_)
  refine R_condP rfl (fun hlt => ?_) (fun hlt => ?_)
  ·skip
   have hjl : j < r.length := by omega
   obtain ⟨x, hx⟩ : ∃ x, r[j]? = some x := ⟨_, List.getElem?_eq_getElem hjl⟩
   obtain ⟨pb, pj, rfl, hrow⟩ := hpre.2.some_ (by rw [rc_length]; show 0 < _ * 4; omega)
   refine R_skip (qT (rS (R_block (rR (lM (k:=lP (pF ty_fl_30_1) (k:=lV (vB ty_sc_28 .h0) (k:=lM (k:=?_)))))))))
   refine lP (P_ixs (j) rfl ty_sl_28 rfl rfl (by first | rfl | omega) (by omega)) (k:=lP (pG ty_fl_175_3) (k:=?_))
   refine lV (V_load rfl rfl ty_sc_23 (rd_rc (Rds.row hrow rfl) hx rfl)) (k:=?_)
   refine lP (P_add rfl rfl rfl) (k:=lA (k:=?_))
   refine L_nil (Q_block (qT ?_))
   refine E_as (t := 3) (v' := .int .u64 (supR (supA bu l) (r.take (j + 1)))) rfl (by rw [supR_next hx]) (rR (lM (k:=?_)))
   first | (refine L_val rfl rfl rfl (OpP.v (P_addN rfl rfl rfl (by simp only [fits]; omega))) ?_) | (refine L_val rfl rfl rfl (OpP.v (P_add rfl rfl rfl)) ?_)
   refine lA (k:=?_)
   refine L_nil ?_
   exact Q_round (j + 1) (by show j + 1 ≤ r.length; omega) (by show r.length - (j + 1) < r.length - j; omega) (by repeat (first | exact .nil | refine .cons rfl ?_ | refine .consE rfl (by first | rfl | (congr 1; omega) | (congr 1; push_cast; omega)) ?_)) (Weak.refl _)
  ·skip
   obtain rfl : j = r.length := by omega
   refine R_exit (Q_then_exit (Q_then_exit (Q_block_eq ?_)))
   refine St.env (cE 2 rfl (cE 3 rfl .nil)) (qT (rT (lM (k:=lA (k:=?_)))))
   refine lQ (cE 2 rfl .nil) (R_ret ?_)
   exact R_endV rfl rfl (.tmp rfl .nil) (by rw [List.take_length]; rfl)
end Go.Proofs.YtcngmkjdpoiiaaaGreatDoor

/- alive. Printed by gen.py. -/
set_option maxRecDepth 100000
namespace Go.Proofs.YtcngmkjdpoiiaaaGreatDoor
open Go Go.RowKit Go.Proofs
def al8 : List Acc := [⟨1, 100, 0, 0, false⟩, ⟨2, 0, 50, 7, false⟩]
def par8 : Par := ⟨10, 2, 0, 0, 0, 0, 0, 0, 0, 0, 0, 0⟩
theorem al8_e : newE al8 = 0 := by decide
theorem al8_new : newL8 al8 = ⟨al8, [], 0, 150⟩ := newL8_fine al8_e
theorem al8_fine : AccFine al8 := accFine_of (by decide)
theorem al8_ok : ∀ x ∈ al8, x.ok := by
 intro x hx
 simp only [al8, List.mem_cons, List.not_mem_nil, or_false] at hx
 rcases hx with rfl | rfl <;> exact ⟨⟨by decide, by decide⟩, ⟨by decide, by decide⟩, ⟨by decide, by decide⟩, ⟨by decide, by decide⟩⟩
theorem al8_cand : candM 10 al8 = [⟨2, 50, 0⟩] := by rfl
theorem al8_seats : SeatsOf 10 2 al8 [⟨2, 50, 0⟩] := by
 refine ⟨List.pairwise_singleton _ _, fun x hx => by rw [al8_cand]; exact hx, by rw [al8_cand]; rfl, fun x _ y hy hn => ?_⟩
 rw [al8_cand] at hy; exact absurd hy hn
theorem al8_find : findV al8 2 = .tuple #[.agg (⟨2, 0, 50, 7, false⟩ : Acc).cells.toArray, .int .i64 0] := by
 have h : idxG (isAc 2) al8 = 1 := by decide
 have h2 : ¬ (idxG (isAc 2) al8 < 0 ∨ (2 : Int) = 0) := by rw [h]; decide
 unfold findV findX findE
 rw [if_neg h2, if_neg h2, h]; rfl
theorem alive8 {gl : Nat → Obj} : SpecV (cx gl) 16 [] noPre (.bool true) := by
 refine Spec.enter (C := cx gl) Tryz.func16 rfl 62 rfl rfl fun w0 h0 hsep hsub hpre => ?_
 obtain rfl : h0 = Heap.none := hsep
 show St (cx gl) _ [] _ _
 refine rT (lA (k:=?_))
 refine L_nil (qT (rT ?_))
 refine lP (P_buildStruct rfl ty_pl_50 ty_ze_50 rfl rfl (rfl)) (k:=?_)
 refine lP (P_buildStruct rfl ty_pl_50 ty_ze_50 rfl rfl (rfl)) (k:=?_)
 refine lO (W_lit (z := .nilIface) (rc al8) rfl rfl rfl ty_sl_22 ty_lz_22 rfl rfl rfl (by decide) (by decide) (by intro v hv; simp only [List.mem_cons, List.not_mem_nil, or_false] at hv; rcases hv with rfl | rfl <;> rfl) (rfl) fun b9 => ?_)
 refine lO (W_call rfl rfl rfl rfl fn_ca_18 (lnew_ok (some ⟨b9, 0, none⟩) 2 al8 (Nat.le_refl 2) (by decide) al8_ok) (Split.nil _) (fun w a b _ hb dj m => (Sn.ofBlk .h0).rw_ w ⟨_, hb, m.le (Heap.le_join_right dj)⟩) fun v10 rs1 ⟨u, z1, z2⟩ => ?_)
 rw [al8_new] at z1 z2
 subst z1; subst z2
 refine St.ownForm (p := []) fun ub uc huv huc => ?_
 subst huv
 refine St.res (rs' := [ownS 50 5 (.slice ub 2 uc) (2) (rc al8), blk b9 (rc al8) 50]) (Weak.refl _) ?_
 refine E_as (t := 10) (v' := .tuple #[.agg (ledV (.slice ub 2 uc) (.slice none 0 0) 0 150).toArray, .int .i64 0]) rfl (by rw [al8_e]; rfl) (lM (k:=lP pX (k:=lP pX (k:=?_))))
 refine lO (W_alloc rfl rfl rfl ty_ze_30 fun b1 => ?_)
 refine lO (W_storeAll rfl rfl rfl rfl ty_ag_30 (rfl) (ledV_one _ _ _ _ rfl rfl) .h0 (rfl) (lA (k:=?_)))
 refine lQ (cE 0 rfl (cE 1 rfl (cE 2 rfl .nil))) (rT (lV (vG ty_ag_30 .h0) (k:=?_)))
 refine lP (P_buildStruct rfl ty_pl_25 ty_ze_25 rfl rfl (rfl)) (k:=?_)
 refine lO (W_call rfl rfl rfl rfl fn_ca_23 (seats_ok ub uc al8 huc (by decide) al8_fine (.slice none 0 0) rfl 0 150 par8) (Split.nil _) (fun w a b _ hb dj m => (Sn.own .h1 rfl).rw_ w ⟨_, hb, m.le (Heap.le_join_right dj)⟩) fun v15 rs1 ⟨R, sb0, sc, z1, hR, z2⟩ => ?_)
 obtain rfl := hR.uniq al8_seats
 subst z1; subst z2
 refine St.ownSome (p := []) (by decide) fun sb sc' hsv hsc => ?_
 obtain rfl : sb0 = some ⟨sb, 0, none⟩ := by simp only [Value.slice.injEq] at hsv; exact hsv.1
 refine St.res (rs' := [ownS 55 3 (.slice (some ⟨sb, 0, none⟩) 1 sc) (1) (rc [(⟨2, 50, 0⟩ : Mem)]), blk b1 (ledV (.slice ub 2 uc) (.slice none 0 0) 0 150) 30, ownS 50 5 (.slice ub 2 uc) (2) (rc al8), blk b9 (rc al8) 50]) (Weak.refl _) ?_
 refine E_as (t := 15) (v' := .slice (some ⟨sb, 0, none⟩) 1 sc) rfl (rfl) (lA (k:=?_))
 refine lQ (cE 0 rfl (cE 1 rfl (cE 2 rfl (cE 3 rfl .nil)))) (rT (lV (vG ty_ag_30 .h1) (k:=?_)))
 refine lO (W_callV rfl rfl rfl rfl fn_ca_75 (find_ok ub uc al8 huc (by decide) (.slice none 0 0) rfl 0 150 2) (fun w nw => (Sn.own .h2 rfl).rw_ w nw) ?_)
 rw [al8_find]
 refine lM (k:=lP pX (k:=lP pX (k:=?_)))
 refine lO (W_alloc rfl rfl rfl ty_ze_50 fun b4 => ?_)
 refine lO (W_storeAll rfl rfl rfl rfl ty_ag_50 (rfl) (Rec.one (⟨2, 0, 50, 7, false⟩ : Acc)) .h0 (rfl) (lA (k:=?_)))
 refine lQ (cE 0 rfl (cE 1 rfl (cE 2 rfl (cE 3 rfl (cE 4 rfl (cE 5 rfl .nil)))))) (rT (lM (k:=lP pEq (k:=?_))))
 refine E_true (t := 22) rfl (rfl) (lM (k:=lM (k:=lP pEq (k:=?_))))
 refine E_true (t := 25) rfl (rfl) (lP pK (k:=lM (k:=lP (pF ty_fl_30_3) (k:=lV (vB ty_sc_23 .h2) (k:=lP pEq (k:=?_))))))
 refine E_true (t := 30) rfl (rfl) (lP pK (k:=lM (k:=lP (pF ty_fl_30_0) (k:=lV (vB ty_sc_22 .h2) (k:=lP (pL ty_sl_22) (k:=lP pEq (k:=?_)))))))
 refine E_true (t := 36) rfl (rfl) (lP pK (k:=lM (k:=lP (pF ty_fl_50_2) (k:=lV (vB ty_sc_23 .h0) (k:=lP pEq (k:=?_))))))
 refine E_true (t := 41) rfl (rfl) (lP pK (k:=lM (k:=lM (k:=lP (pL ty_sl_37) (k:=lP pEq (k:=?_))))))
 refine E_true (t := 46) rfl (rfl) (lP pK (k:=lM (k:=lM (k:=?_))))
 refine lP (P_ixs (0) rfl ty_sl_37 rfl rfl (by first | rfl | omega) (by omega)) (k:=lP (pG ty_fl_55_0) (k:=?_))
 refine lV (V_load rfl rfl ty_sc_26 (Rd.own .h1 rfl)) (k:=lP pEq (k:=?_))
 refine E_true (t := 53) rfl (rfl) (lP pK (k:=lM (k:=lM (k:=?_))))
 refine lP (P_ixs (0) rfl ty_sl_37 rfl rfl (by first | rfl | omega) (by omega)) (k:=lP (pG ty_fl_55_1) (k:=?_))
 refine lV (V_load rfl rfl ty_sc_23 (Rd.own .h1 rfl)) (k:=lP pEq (k:=?_))
 refine E_true (t := 60) rfl (rfl) (lP pK (k:=lA (k:=?_)))
 refine lQ (cE 0 rfl .nil) (R_ret ?_)
 exact R_endV rfl rfl (.tmp rfl .nil) (rfl)
end Go.Proofs.YtcngmkjdpoiiaaaGreatDoor

/- The reference: New, Sound, Seats. Printed by gen.py. -/
set_option maxRecDepth 100000
namespace Go.Proofs.YtcngmkjdpoiiaaaGreatDoor
open Go Go.RowKit Go.Proofs
theorem rlnew_ok {gl : Nat → Obj} (base : Option Addr) (c : Nat) (l : List Acc) (hc : l.length ≤ c)(hm : l.length ≤ 3518437208883)(hok : ∀ x ∈ l, x.ok) : Spec (cx gl) 17 [.slice base l.length c] (fun w _ => Row w base (rc l)) [] (fun v rs => ∃ u, v = .tuple #[.agg (ledV u (.slice none 0 0) 0 (newL8 l).sup).toArray, .int .i64 (newE l)] ∧ rs = [ownS 50 5 (u) ((newL8 l).acc.length) (rc ((newL8 l).acc))]) := by
 refine Spec.enter (C := cx gl) Tryz.func17 rfl 25 rfl rfl fun w0 h0 hsep hsub hpre => ?_
 obtain rfl : h0 = Heap.none := hsep
 show St (cx gl) _ [(0, .slice base l.length c)] _ _
 have hms : MS = 1152921504606846975 := rfl
 refine rT ?_
 refine lO (W_alloc rfl rfl rfl ty_ze_30 fun b2 => lA (k:=?_))
 refine L_nil (qT (rT (lM (k:=?_))))
 refine lO (W_callV rfl rfl rfl rfl fn_ca_76 (racc_ok base c l hc hm) (fun w nw => (Sn.row hpre rfl).rw_ w nw) (lA (k:=?_)))
 refine lQ (cE 0 rfl (cE 2 rfl (cE 3 rfl (cE 4 rfl .nil)))) (rS (rT (lM (k:=lP pNe (k:=?_)))))
 refine lQ (cE 0 rfl (cE 2 rfl (cE 3 rfl (cE 4 rfl (cE 9 rfl .nil))))) ?_
 refine R_condP rfl (fun he => ?_) (fun he => ?_)
 ·skip
  have h9e : newE l = raccE l := by unfold newE raccE; unfold raccE at he; split; rfl; rename_i hb; rw [if_neg hb] at he; rw [if_pos he]
  have h9 : newE l ≠ 0 := by rw [h9e]; exact he
  refine rT ?_
  refine lP (P_buildStruct rfl ty_pl_30 ty_ze_30 rfl rfl (rfl)) (k:=lM (k:=?_))
  refine lO (W_storeAll rfl rfl rfl rfl ty_ag_30 (rfl) (ledV_one _ _ _ _ rfl rfl) .h0 (rfl) (lA (k:=?_)))
  refine lQ (cE 0 rfl (cE 2 rfl (cE 3 rfl .nil))) (R_ret (Q_then_ret ?_))
  exact R_end (rs2 := [ownS 50 5 (.slice none 0 0) ((newL8 l).acc.length) (rc ((newL8 l).acc))]) rfl rfl (.cell rfl (Rds.loadVar ty_ag_30 (Rds.blk .h0) rfl) (.tmp rfl .nil)) (⟨.slice none 0 0, by rw [(newL8_bad' h9).2]; rw [h9e]; rfl, rfl⟩) (Weak.trans (Weak.newNil (T := 50) (sz := 5)) (Weak.keep_to (fun h hh => by rw [(newL8_bad' h9).1]; exact hh)))
 ·skip
  have he : raccE l = 0 := Classical.not_not.1 he
  have hbig : ¬ 65536 < l.length := fun hb => by unfold raccE at he; rw [if_pos hb] at he; cases he
  unfold raccE at he
  rw [if_neg hbig] at he
  have hts := totC_spec (r := []) (bu := 0) hok (fun x hx => absurd hx (by simp)) (Int.le_refl 0)
  rw [show sumR [] = 0 from rfl, Int.zero_add, Int.add_zero] at hts
  refine R_skip (qT (rT ?_))
  refine lO (W_alloc rfl rfl rfl ty_ze_30 fun b5 => ?_)
  refine lQ (cE 0 rfl (cE 2 rfl (cE 3 rfl (cE 5 rfl .nil)))) (rS ?_)
  refine St.res (Weak.newNil (T := 50) (sz := 5)) (rR (lP (pF ty_fl_30_0) (k:=lV (vB ty_sc_22 .h1) (k:=lM (k:=?_)))))
  refine lO (W_append (p := []) rfl rfl rfl ty_sl_22 ty_ap_22 ty_src_22 rfl rfl rfl (Src.row (sz := 5) (Sn.row hpre rfl).rw_ (rc_length l) (rc_one l)) (by omega) (by simp only [maxLen]; omega) fun v15 => ?_)
  refine St.res (rs' := [ownS 50 5 (v15) (l.length) (rc (l)), blk b5 (ledV (.slice none 0 0) (.slice none 0 0) 0 0) 30, blk b2 (ledV (.slice none 0 0) (.slice none 0 0) 0 0) 30]) (ownS.to1 (by omega) rfl) ?_
  refine St.ownForm (p := []) fun ub uc huv huc => ?_
  subst huv
  refine lP (pF ty_fl_30_0) (k:=?_)
  refine lO (W_store rfl rfl rfl rfl ty_sc_22 rfl .h1 (by first | decide | (simp [ints]; done) | (simp [ints]; omega)) ?_)
  refine St.res (rs' := [ownS 50 5 (.slice ub l.length uc) (l.length) (rc (l)), blk b5 (ledV (.slice ub l.length uc) (.slice none 0 0) 0 0) 30, blk b2 (ledV (.slice none 0 0) (.slice none 0 0) 0 0) 30]) (Weak.refl _) ?_
  refine lQ (cE 2 rfl (cE 3 rfl (cE 5 rfl .nil))) (rT (lV (vG ty_ag_30 .h1) (k:=?_)))
  refine lO (W_callV rfl rfl rfl rfl fn_ca_77 (rtot_ok ub uc l huc hm hok none 0 [] (Nat.le_refl _) (by decide) (fun x hx => absurd hx (by simp)) 0 0 ⟨by decide, by decide⟩) (fun w nw => ⟨(Sn.own .h0 rfl).rw_ w nw, Row.nil⟩) (lP (pF ty_fl_30_3) (k:=?_)))
  refine lO (W_store rfl rfl rfl rfl ty_sc_23 rfl .h1 (by simp [ledV]) ?_)
  refine St.res (rs' := [ownS 50 5 (.slice ub l.length uc) (l.length) (rc (l)), blk b5 (ledV (.slice ub l.length uc) (.slice none 0 0) 0 (totC l [] 0)) 30, blk b2 (ledV (.slice none 0 0) (.slice none 0 0) 0 0) 30]) (Weak.refl _) ?_
  refine lQ (cE 2 rfl (cE 3 rfl (cE 5 rfl .nil))) (rS (rT (lP (pF ty_fl_30_3) (k:=lV (vB ty_sc_23 .h1) (k:=lP pGt (k:=?_))))))
  refine lQ (cE 2 rfl (cE 3 rfl (cE 5 rfl (cE 22 rfl .nil)))) ?_
  refine R_condP rfl (fun hs => ?_) (fun hs => ?_)
  ·skip
   have hs2 : MS < sumA l := by rw [hms] at hts ⊢; omega
   have h9 : newE l ≠ 0 := by rw [newE_sum hbig he hs2]; decide
   refine rT ?_
   refine lP (P_buildStruct rfl ty_pl_30 ty_ze_30 rfl rfl (rfl)) (k:=?_)
   refine lO (W_storeAll rfl rfl rfl rfl ty_ag_30 (rfl) (ledV_one _ _ _ _ rfl rfl) .h2 (rfl) (lA (k:=?_)))
   refine lQ (cE 2 rfl (cE 3 rfl (cE 5 rfl .nil))) (R_ret (Q_then_ret ?_))
   exact R_end (rs2 := [ownS 50 5 (.slice none 0 0) ((newL8 l).acc.length) (rc ((newL8 l).acc))]) rfl rfl (.cell rfl (Rds.loadVar ty_ag_30 (Rds.blk .h2) rfl) (.tmp rfl .nil)) (⟨.slice none 0 0, by rw [(newL8_bad' h9).2]; rw [newE_sum hbig he hs2]; rfl, rfl⟩) (Weak.trans (Weak.newNil (T := 50) (sz := 5)) (Weak.keep_to (fun h hh => by rw [(newL8_bad' h9).1]; exact hh)))
  ·skip
   have hs2 : ¬ MS < sumA l := by rw [hms] at hts ⊢; omega
   have h9 : newE l = 0 := newE_fine hbig he hs2
   have htt : totC l [] 0 = sumA l := hts.2 (by rw [hms]; omega)
   refine R_skip (qT (rT (lV (vG ty_ag_30 .h1) (k:=?_))))
   refine lO (W_storeAll rfl rfl rfl rfl ty_ag_30 (rfl) (ledV_one _ _ _ _ rfl rfl) .h2 (rfl) (lA (k:=?_)))
   refine lQ (cE 2 rfl (cE 3 rfl .nil)) (R_ret ?_)
   exact R_end (rs2 := [ownS 50 5 (.slice ub l.length uc) ((newL8 l).acc.length) (rc ((newL8 l).acc))]) rfl rfl (.cell rfl (Rds.loadVar ty_ag_30 (Rds.blk .h2) rfl) (.tmp rfl .nil)) (⟨_, by rw [newL8_fine h9, h9, htt]; rfl, rfl⟩) (by rw [newL8_fine h9]; exact Weak.keep (Weak.nil _))
end Go.Proofs.YtcngmkjdpoiiaaaGreatDoor
