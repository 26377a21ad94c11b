/- The walk of DigestPaths. Printed by gen.py. -/
import Derived.Test.YtldndhekjhlbmaaDoorD17
import Derived.Test.YtldndhekjhlbmaaDoorAlive
import Derived.Test.YtldndhekjhlbmaaDoorEngJ
set_option linter.unusedVariables false
set_option linter.unusedSimpArgs false
set_option maxRecDepth 100000
namespace Go.Proofs.YtldndhekjhlbmaaDoor
open Go Go.RowKit Go.Proofs
theorem digestPaths_walk {gl : Nat → Obj} (hG : GlobsR gl) (root : List Int) (hroot : root.length = 32) (total index : Int) (base : Option Addr) (c : Nat) (hs : List (List Int)) (ib : Option Addr) (ic : Nat) (item : List Int) (hh : ∀ h ∈ hs, h.length = 32) (hc : hs.length ≤ c) (hlen : 32 * hs.length ≤ 140737488351232) (hic : item.length ≤ ic) (him : item.length ≤ 140737488351232) (hb : IsB item) : SpecV (cx gl) 8 [.agg (ints .u8 (root)).toArray, .agg [.int .i64 total, .int .i64 index, .slice (base) hs.length c].toArray, .slice ib item.length ic] (fun w => Row w base (flat .u8 hs) ∧ Row w ib (ints .u8 item)) (.bool true) := by
  refine Spec.enter (C := cx gl) Tryd.func8 rfl 112 rfl rfl fun w0 h0 hsep hsub hpre => ?_
  obtain rfl : h0 = Heap.none := hsep
  show St (cx gl) _ [(0, .agg (ints .u8 (root)).toArray), (1, .agg [.int .i64 total, .int .i64 index, .slice (base) hs.length c].toArray), (2, .slice ib item.length ic)] _ _
  have hm : hs.length ≤ 70368744177664 := by omega
  refine R_seq ?_
  refine R_region ?_
  refine L_op rfl (W_box (ints .u8 root) rfl rfl rfl rfl rfl fun b3 => ?_)
  refine L_op rfl (W_box ([.int .i64 total, .int .i64 index, .slice (base) hs.length c]) rfl rfl rfl rfl rfl fun b4 => ?_)
  refine L_val rfl rfl rfl (OpP.v (P_assign rfl rfl)) ?_
  refine L_nil ?_
  refine St.env (.cons (t := 2) rfl (.cons (t := 3) rfl (.cons (t := 4) rfl (.cons (t := 6) rfl .nil)))) ?_
  refine Q_then ?_
  refine R_seq ?_
  refine R_region ?_
  refine L_op rfl (W_callV rfl rfl rfl rfl fn_ca_20 (alive_ok hG.toGlobs) (fun _ _ => trivial) ?_)
  refine E_true (t := 16) rfl (rfl) ?_
  refine L_val rfl rfl rfl (OpP.v (P_assign rfl rfl)) ?_
  refine L_nil ?_
  refine St.env (.cons (t := 2) rfl (.cons (t := 3) rfl (.cons (t := 4) rfl (.cons (t := 6) rfl (.cons (t := 7) rfl .nil))))) ?_
  refine Q_then ?_
  refine R_seq ?_
  refine R_seq ?_
  refine R_region ?_
  refine L_val rfl rfl rfl (OpP.v (P_move rfl rfl)) ?_
  refine L_val rfl rfl rfl (OpP.v (P_not rfl rfl)) ?_
  refine L_nil ?_
  refine St.env (.cons (t := 2) rfl (.cons (t := 3) rfl (.cons (t := 4) rfl (.cons (t := 6) rfl (.cons (t := 18) rfl .nil))))) ?_
  refine Q_then ?_
  refine R_condF rfl ?_
  refine R_skip ?_
  refine Q_then ?_
  refine R_seq ?_
  refine R_region ?_
  refine L_val rfl rfl rfl (V_loadAgg rfl rfl ty_ag_57 (Rds.blk .h0) (rfl)) ?_
  refine L_op rfl (W_alloc rfl rfl rfl ty_ze_57 fun b8 => ?_)
  refine L_op rfl (W_storeAll rfl rfl rfl rfl ty_ag_57 (rfl) (by intro v hv; simp at hv; rcases hv with rfl | rfl | rfl <;> rfl) .h0 (rfl) ?_)
  refine L_nil ?_
  refine St.env (.cons (t := 2) rfl (.cons (t := 3) rfl (.cons (t := 4) rfl (.cons (t := 6) rfl (.cons (t := 8) rfl .nil))))) ?_
  refine Q_then ?_
  refine R_seq ?_
  refine R_region ?_
  refine St.res (rs' := [ownS 23 32 (.slice none 0 0) 0 [], blk b8 [.int .i64 total, .int .i64 index, .slice (base) hs.length c] 57, blk b4 [.int .i64 total, .int .i64 index, .slice (base) hs.length c] 57, blk b3 (ints .u8 root) 23]) (Weak.newNil) ?_
  refine L_val rfl rfl rfl (OpP.v (P_fld0 rfl ty_fl_57_2 rfl)) ?_
  refine L_val rfl rfl rfl (V_load rfl rfl ty_sc_55 (Rd.blk .h2 rfl)) ?_
  refine L_op rfl (W_append (p := []) rfl rfl rfl ty_sl_55 ty_ap_55 ty_src_55 rfl rfl rfl (Src.row (Sn.row hpre.1 rfl).rw_ (flat_length hh) flat_one) (by omega) (by simp only [maxLen]; omega) fun v22 => ?_)
  refine St.res (rs' := [ownS 23 32 v22 hs.length (flat .u8 hs), blk b8 [.int .i64 total, .int .i64 index, .slice (base) hs.length c] 57, blk b4 [.int .i64 total, .int .i64 index, .slice (base) hs.length c] 57, blk b3 (ints .u8 root) 23]) (ownS.to (by omega) (by simp)) ?_
  refine St.ownForm (p := []) fun qb qc hqv hqc => ?_
  subst hqv
  refine L_val rfl rfl rfl (OpP.v (P_fld0 rfl ty_fl_57_2 rfl)) ?_
  refine L_op rfl (W_store rfl rfl rfl rfl ty_sc_55 rfl .h1 (by simp) ?_)
  refine St.res (rs' := [ownS 23 32 (.slice qb hs.length qc) hs.length (flat .u8 hs), blk b8 [.int .i64 total, .int .i64 index, .slice (qb) hs.length qc] 57, blk b4 [.int .i64 total, .int .i64 index, .slice (base) hs.length c] 57, blk b3 (ints .u8 root) 23]) (Weak.refl _) ?_
  refine L_nil ?_
  refine St.env (.cons (t := 2) rfl (.cons (t := 3) rfl (.cons (t := 4) rfl (.cons (t := 6) rfl (.cons (t := 8) rfl .nil))))) ?_
  refine Q_then ?_
  refine R_seq ?_
  refine R_openQ [(0, 0), (1, 1), (2, 0), (5, 0), (6, 1), (7, 0), (3, 2), (4, 2), (8, 0), (9, 0), (10, 3)] [blk b8 [.int .i64 total, .int .i64 index, .slice (qb) hs.length qc] 57, blk b4 [.int .i64 total, .int .i64 index, .slice (base) hs.length c] 57, blk b3 (ints .u8 root) 23] (Weak.drop (Weak.refl _)) mixed (by kernel_rfl) (QOk.then QOk.body) ?_
  refine O_pureQ rfl rfl rfl rfl (P_fld0 rfl ty_fl_57_2 rfl) ?_
  refine O_valQ rfl rfl rfl rfl (V_load rfl rfl ty_sc_55 (Rd.blk .h0 rfl)) ?_
  refine O_pureQ rfl rfl rfl rfl (P_buildArrR rfl ty_ar_23 ty_ze_23 rfl rfl rfl (by decide) (by simp [Value.oneCell'])) ?_
  refine E_as (t := 26) (v' := .agg (ints .u8 ((7 :: List.replicate 31 0))).toArray) rfl rfl ?_
  refine O_pureQ rfl rfl rfl rfl (P_fld0 rfl ty_fl_57_2 rfl) ?_
  refine O_valQ rfl rfl rfl rfl (V_load rfl rfl ty_sc_55 (Rd.blk .h1 rfl)) ?_
  refine O_pureQ rfl rfl rfl rfl (P_len rfl ty_sl_55 rfl) ?_
  refine O_keepQ rfl rfl (W_lit (z := .nilIface) (ints .u8 (7 :: List.replicate 31 0)) rfl rfl rfl ty_sl_55 ty_lz_55 rfl rfl rfl (by decide) (by decide) (by intro v hv; simp only [List.mem_singleton] at hv; subst hv; rfl) (rfl) fun b27 => (K_keepQ (Weak.drop (Weak.drop (Weak.refl _))) ?_))
  refine O_keepQ rfl rfl (W_append (p := [_]) rfl rfl rfl ty_sl_55 ty_ap_55 ty_src_55 rfl rfl rfl (Src.slice (sz := 32) (m := 1) (news := ints .u8 (7 :: List.replicate 31 0)) (Rds.blk .h0) rfl ints_one) (by omega) (by simp only [maxLen]; omega) fun v28 => ?_)
  refine St.ownSome (p := [_]) (by omega) fun qb2 qc2 hq2 hqc2 => ?_
  subst hq2
  refine K_keepQ (Weak.drop (Weak.drop (Weak.refl _))) ?_
  refine O_pureQ rfl rfl rfl rfl (P_slice 0 hs.length rfl ty_sl_55 rfl rfl ⟨_, rfl⟩ (by omega) (by omega)) ?_
  refine E_as (t := 32) (v' := .slice (some ⟨qb2, 0, none⟩) hs.length qc2) rfl (by unfold sliced; rw [if_neg (by omega)]; simp [add_zero_off]) ?_
  refine O_pureQ rfl rfl rfl rfl (P_fld0 rfl ty_fl_57_2 rfl) ?_
  refine O_newQ rfl rfl (W_store rfl rfl rfl rfl ty_sc_55 rfl .h2 (by simp) (K_newQ _ (Weak.refl _) ?_))
  refine O_nilQ ?_
  refine St.env (.cons (t := 2) rfl (.cons (t := 3) rfl (.cons (t := 4) rfl (.cons (t := 6) rfl (.cons (t := 8) rfl .nil))))) ?_
  refine Q_then ?_
  refine R_seq ?_
  refine R_region ?_
  refine St.res (rs' := [ownS 23 32 (.slice (some ⟨qb2, 0, none⟩) (hs.length + 1) qc2) (hs.length + 1) (flat .u8 hs ++ ints .u8 (7 :: List.replicate 31 0)), blk b8 [.int .i64 total, .int .i64 index, .slice (some ⟨qb2, 0, none⟩) hs.length qc2] 57, blk b4 [.int .i64 total, .int .i64 index, .slice (base) hs.length c] 57, blk b3 (ints .u8 root) 23]) (Weak.drop (Weak.refl _)) ?_
  refine L_val rfl rfl rfl (OpP.v (P_move rfl rfl)) ?_
  refine L_op rfl (W_call rfl rfl rfl rfl fn_ca_14 (roomy_ok ib ic item (by omega)) (Split.nil _) (fun w a b _ hb dj m => (Sn.row hpre.2 rfl).rw_ w ⟨_, hb, m.le (Heap.le_join_right dj)⟩) fun v35 rs1 (e1 : rs1 = _) => ?_)
  subst e1
  refine St.openOwn (p := []) (by omega) fun tb tcap junk htc htl htv => ?_
  subst htv
  refine St.res (rs' := [blk tb (ints .u8 (item ++ [201, 202]) ++ junk) 5, ownS 23 32 (.slice (some ⟨qb2, 0, none⟩) (hs.length + 1) qc2) (hs.length + 1) (flat .u8 hs ++ ints .u8 (7 :: List.replicate 31 0)), blk b8 [.int .i64 total, .int .i64 index, .slice (some ⟨qb2, 0, none⟩) hs.length qc2] 57, blk b4 [.int .i64 total, .int .i64 index, .slice (base) hs.length c] 57, blk b3 (ints .u8 root) 23]) (Weak.refl _) ?_
  refine L_val rfl rfl rfl (OpP.v (P_assign rfl rfl)) ?_
  refine L_nil ?_
  refine St.env (.cons (t := 2) rfl (.cons (t := 3) rfl (.cons (t := 4) rfl (.cons (t := 6) rfl (.cons (t := 8) rfl (.cons (t := 9) rfl .nil)))))) ?_
  refine Q_then ?_
  refine R_join (G := Nat) (fun b10 => [(2, .slice ib item.length ic), (3, .pointer (some ⟨b3, 0, none⟩)), (4, .pointer (some ⟨b4, 0, none⟩)), (6, .bool false), (8, .pointer (some ⟨b8, 0, none⟩)), (9, .slice (some ⟨tb, 0, none⟩) (item.length + 2) tcap), (10, .pointer (some ⟨b10, 0, none⟩)), (11, .int .i64 (pathE total index hs item))]) (fun b10 => [blk b10 (ints .u8 (pathD total index hs item)) 23, blk tb (ints .u8 (item ++ [201, 202]) ++ junk) 5, ownS 23 32 (.slice (some ⟨qb2, 0, none⟩) (hs.length + 1) qc2) (hs.length + 1) (flat .u8 hs ++ ints .u8 (7 :: List.replicate 31 0)), blk b8 [.int .i64 total, .int .i64 index, .slice (some ⟨qb2, 0, none⟩) hs.length qc2] 57, blk b4 [.int .i64 total, .int .i64 index, .slice (base) hs.length c] 57, blk b3 (ints .u8 root) 23]) (fun b10 => True) ?_ ?_
  · skip
    refine T_open (.op 0 1 (.op 1 0 (.op 2 0 (.op 3 0 (.op 4 0 (.two 5 9 (.op 6 0 (.op 7 0 (.op 8 0 (.op 9 2 (.op 10 3 (.op 11 0 .nil)))))) (.op 5 2 (.op 6 0 (.op 7 0 (.op 8 0 (.op 10 3 (.op 11 0 .nil)))))))))))) mixed (by kernel_rfl) (QOk.then QOk.body) ?_
    refine T_val rfl rfl rfl rfl (V_loadAgg rfl rfl ty_ag_57 (Rds.blk .h2) (rfl)) ?_
    refine T_pure rfl rfl rfl rfl (P_move rfl rfl) ?_
    refine T_pure rfl rfl rfl rfl (P_move rfl rfl) ?_
    refine T_pure rfl rfl rfl rfl (P_len rfl ty_sl_26 rfl) ?_
    refine T_pure rfl rfl rfl rfl (P_slice 0 item.length rfl ty_sl_26 rfl rfl ⟨_, rfl⟩ (by omega) (by omega)) ?_
    refine E_as (t := 41) (v' := .slice (some ⟨tb, 0, none⟩) item.length tcap) rfl (by unfold sliced; rw [if_neg (by omega)]; simp [add_zero_off]) ?_
    refine T_two ?_ ?_
    · skip
      refine T_keep rfl rfl (W_callV rfl rfl rfl rfl fn_ca_28 (path_ok hG.toGlobs total index (some ⟨qb2, 0, none⟩) qc2 hs (some ⟨tb, 0, none⟩) tcap item hh (by omega) hm (by omega)) (fun w nw => ⟨by first | exact (Sn.own .h1 rfl).left.rw_ w nw | exact (Sn.own .h2 rfl).left.rw_ w nw, by first | exact (Sn.ofBlkAt .h0 fun i v h => ints_pre _ _ _ _ i v h).rw_ w nw | exact (Sn.ofBlkAt .h1 fun i v h => ints_pre _ _ _ _ i v h).rw_ w nw⟩) (K_keepT (Weak.refl _) ?_))
      refine T_pure rfl rfl rfl rfl (P_move rfl rfl) ?_
      refine T_pure rfl rfl rfl rfl (P_extract rfl rfl rfl) ?_
      refine T_pure rfl rfl rfl rfl (P_extract rfl rfl rfl) ?_
      refine T_keep rfl rfl (W_alloc rfl rfl rfl ty_ze_23 fun b10 => (K_keepT (Weak.drop (Weak.refl _)) ?_))
      refine T_new rfl rfl (W_storeAll rfl rfl rfl rfl ty_ag_23 (by rw [ints_length, pathD_length]) (ints_one) .h0 (by rw [ints_length, pathD_length]; rfl) (K_newT ?_))
      refine T_pure rfl rfl rfl rfl (P_assign rfl rfl) ?_
      refine T_nil ?_
      refine St.env (.cons (t := 2) rfl (.cons (t := 3) rfl (.cons (t := 4) rfl (.cons (t := 6) rfl (.cons (t := 8) rfl (.cons (t := 9) rfl (.cons (t := 10) rfl (.cons (t := 11) rfl .nil)))))))) ?_
      exact Q_meet (b10) (trivial) (by repeat (first | exact .nil | refine .cons rfl ?_)) (Weak.refl _)
    · skip
      refine T_keep rfl rfl (W_alloc rfl rfl rfl ty_ze_23 fun b10 => (K_keepT (Weak.drop (Weak.refl _)) ?_))
      refine T_keep rfl rfl (W_callV rfl rfl rfl rfl fn_ca_28 (path_ok hG.toGlobs total index (some ⟨qb2, 0, none⟩) qc2 hs (some ⟨tb, 0, none⟩) tcap item hh (by omega) hm (by omega)) (fun w nw => ⟨by first | exact (Sn.own .h1 rfl).left.rw_ w nw | exact (Sn.own .h2 rfl).left.rw_ w nw, by first | exact (Sn.ofBlkAt .h0 fun i v h => ints_pre _ _ _ _ i v h).rw_ w nw | exact (Sn.ofBlkAt .h1 fun i v h => ints_pre _ _ _ _ i v h).rw_ w nw⟩) (K_keepT (Weak.refl _) ?_))
      refine T_pure rfl rfl rfl rfl (P_move rfl rfl) ?_
      refine T_pure rfl rfl rfl rfl (P_extract rfl rfl rfl) ?_
      refine T_pure rfl rfl rfl rfl (P_extract rfl rfl rfl) ?_
      refine T_new rfl rfl (W_storeAll rfl rfl rfl rfl ty_ag_23 (by rw [ints_length, pathD_length]) (ints_one) .h0 (by rw [ints_length, pathD_length]; rfl) (K_newT ?_))
      refine T_pure rfl rfl rfl rfl (P_assign rfl rfl) ?_
      refine T_nil ?_
      refine St.env (.cons (t := 2) rfl (.cons (t := 3) rfl (.cons (t := 4) rfl (.cons (t := 6) rfl (.cons (t := 8) rfl (.cons (t := 9) rfl (.cons (t := 10) rfl (.cons (t := 11) rfl .nil)))))))) ?_
      exact Q_meet (b10) (trivial) (by repeat (first | exact .nil | refine .cons rfl ?_)) (Weak.refl _)
  · intro b10 hinv
    refine R_seq ?_
    refine R_open [(0, 1), (1, 1), (2, 0), (3, 0), (4, 0), (5, 0), (6, 2), (7, 0)] mixed (by kernel_rfl) (QOk.then QOk.body) ?_
    refine O_val rfl rfl rfl rfl (V_loadAgg rfl rfl ty_ag_23 (Rds.blk .h5) (by rw [ints_length, hroot])) ?_
    refine O_val rfl rfl rfl rfl (V_loadAgg rfl rfl ty_ag_57 (Rds.blk .h3) (rfl)) ?_
    refine O_pure rfl rfl rfl rfl (P_move rfl rfl) ?_
    refine O_pure rfl rfl rfl rfl (P_move rfl rfl) ?_
    refine O_pure rfl rfl rfl rfl (P_len rfl ty_sl_26 rfl) ?_
    refine O_pure rfl rfl rfl rfl (P_slice 0 item.length rfl ty_sl_26 rfl rfl ⟨_, rfl⟩ (by omega) (by omega)) ?_
    refine E_as (t := 50) (v' := .slice (some ⟨tb, 0, none⟩) item.length tcap) rfl (by unfold sliced; rw [if_neg (by omega)]; simp [add_zero_off]) ?_
    refine O_keep rfl rfl (W_callV rfl rfl rfl rfl fn_ca_29 (verify_ok hG.toGlobs root hroot total index (some ⟨qb2, 0, none⟩) qc2 hs (some ⟨tb, 0, none⟩) tcap item hh (by omega) hm (by omega)) (fun w nw => ⟨(Sn.own .h2 rfl).left.rw_ w nw, (Sn.ofBlkAt .h1 fun i v h => ints_pre _ _ _ _ i v h).rw_ w nw⟩) (K_keep (Weak.refl _) ?_))
    refine O_pure rfl rfl rfl rfl (P_assign rfl rfl) ?_
    refine O_nil ?_
    refine St.env (.cons (t := 2) rfl (.cons (t := 3) rfl (.cons (t := 4) rfl (.cons (t := 6) rfl (.cons (t := 8) rfl (.cons (t := 9) rfl (.cons (t := 10) rfl (.cons (t := 11) rfl (.cons (t := 12) rfl .nil))))))))) ?_
    refine Q_then ?_
    refine R_seq ?_
    refine R_open [(0, 1), (1, 1), (2, 0), (3, 0), (4, 0), (5, 0), (6, 2), (7, 0)] mixed (by kernel_rfl) (QOk.then QOk.body) ?_
    refine O_val rfl rfl rfl rfl (V_loadAgg rfl rfl ty_ag_23 (Rds.blk .h0) (by rw [ints_length, pathD_length])) ?_
    refine O_val rfl rfl rfl rfl (V_loadAgg rfl rfl ty_ag_57 (Rds.blk .h3) (rfl)) ?_
    refine O_pure rfl rfl rfl rfl (P_move rfl rfl) ?_
    refine O_pure rfl rfl rfl rfl (P_move rfl rfl) ?_
    refine O_pure rfl rfl rfl rfl (P_len rfl ty_sl_26 rfl) ?_
    refine O_pure rfl rfl rfl rfl (P_slice 0 item.length rfl ty_sl_26 rfl rfl ⟨_, rfl⟩ (by omega) (by omega)) ?_
    refine E_as (t := 57) (v' := .slice (some ⟨tb, 0, none⟩) item.length tcap) rfl (by unfold sliced; rw [if_neg (by omega)]; simp [add_zero_off]) ?_
    refine O_keep rfl rfl (W_callV rfl rfl rfl rfl fn_ca_29 (verify_ok hG.toGlobs (pathD total index hs item) (pathD_length _ _ _ _) total index (some ⟨qb2, 0, none⟩) qc2 hs (some ⟨tb, 0, none⟩) tcap item hh (by omega) hm (by omega)) (fun w nw => ⟨(Sn.own .h2 rfl).left.rw_ w nw, (Sn.ofBlkAt .h1 fun i v h => ints_pre _ _ _ _ i v h).rw_ w nw⟩) (K_keep (Weak.refl _) ?_))
    refine O_pure rfl rfl rfl rfl (P_assign rfl rfl) ?_
    refine O_nil ?_
    refine St.env (.cons (t := 2) rfl (.cons (t := 3) rfl (.cons (t := 4) rfl (.cons (t := 6) rfl (.cons (t := 8) rfl (.cons (t := 9) rfl (.cons (t := 10) rfl (.cons (t := 11) rfl (.cons (t := 12) rfl (.cons (t := 13) rfl .nil)))))))))) ?_
    refine Q_then ?_
    refine R_seq ?_
    refine R_region ?_
    refine L_val rfl rfl rfl (V_loadAgg rfl rfl ty_ag_57 (Rds.blk .h4) (rfl)) ?_
    refine L_val rfl rfl rfl (OpP.v (P_move rfl rfl)) ?_
    refine L_op rfl (W_callV rfl rfl rfl rfl fn_ca_30 (rpath_ok hG total index base c hs ib ic item hh hc hm hic) (fun w nw => ⟨(Sn.row hpre.1 rfl).rw_ w nw, (Sn.row hpre.2 rfl).rw_ w nw⟩) ?_)
    refine L_val rfl rfl rfl (OpP.v (P_move rfl rfl)) ?_
    refine L_val rfl rfl rfl (OpP.v (P_extract rfl rfl rfl)) ?_
    refine L_val rfl rfl rfl (OpP.v (P_extract rfl rfl rfl)) ?_
    refine L_op rfl (W_alloc rfl rfl rfl ty_ze_23 fun b14 => ?_)
    refine L_op rfl (W_storeAll rfl rfl rfl rfl ty_ag_23 (by rw [ints_length, pathD_length]) (ints_one) .h0 (by rw [ints_length, pathD_length]; rfl) ?_)
    refine L_val rfl rfl rfl (OpP.v (P_assign rfl rfl)) ?_
    refine L_nil ?_
    refine St.env (.cons (t := 2) rfl (.cons (t := 3) rfl (.cons (t := 4) rfl (.cons (t := 6) rfl (.cons (t := 8) rfl (.cons (t := 9) rfl (.cons (t := 10) rfl (.cons (t := 11) rfl (.cons (t := 12) rfl (.cons (t := 13) rfl (.cons (t := 14) rfl (.cons (t := 15) rfl .nil)))))))))))) ?_
    refine Q_then ?_
    refine R_seq ?_
    refine R_seq ?_
    refine R_open [(0, 1), (1, 1), (2, 0), (3, 0), (4, 0), (5, 0), (6, 0), (7, 0), (8, 0), (9, 0), (10, 1), (11, 1), (12, 0), (13, 2), (14, 0), (15, 0), (16, 0), (17, 1), (18, 1), (19, 2), (20, 0), (21, 0), (22, 0), (23, 0), (24, 0), (25, 2), (26, 0), (27, 0), (28, 0), (29, 0), (30, 1), (31, 0), (32, 1), (33, 0), (34, 0), (35, 0), (36, 0), (37, 1), (38, 0), (39, 0), (40, 1), (41, 0), (42, 0), (43, 0)] mixed (by kernel_rfl) (QOk.then (QOk.then QOk.body)) ?_
    refine O_val rfl rfl rfl rfl (V_loadAgg rfl rfl ty_ag_23 (Rds.blk .h1) (by rw [ints_length, pathD_length])) ?_
    refine O_val rfl rfl rfl rfl (V_loadAgg rfl rfl ty_ag_23 (Rds.blk .h0) (by rw [ints_length, pathD_length])) ?_
    refine O_pure rfl rfl rfl rfl (P_neArr rfl rfl rfl ty_un_23 ty_int_5 ty_sc_5 ty_eg_23 (pathD_length _ _ _ _) (pathD_length _ _ _ _)) ?_
    refine E_false (t := 67) rfl (decide_eq_false (by simp)) ?_
    refine O_pure rfl rfl rfl rfl (P_move rfl rfl) ?_
    refine O_pure rfl rfl rfl rfl (P_move rfl rfl) ?_
    refine O_pure rfl rfl rfl rfl (P_move rfl rfl) ?_
    refine O_pure rfl rfl rfl rfl (P_neq rfl rfl rfl) ?_
    refine E_false (t := 71) rfl (decide_eq_false (by simp)) ?_
    refine O_pure rfl rfl rfl rfl (P_pick rfl rfl rfl) ?_
    refine O_pure rfl rfl rfl rfl (P_move rfl rfl) ?_
    refine O_pure rfl rfl rfl rfl (P_move rfl rfl) ?_
    refine O_val rfl rfl rfl rfl (V_loadAgg rfl rfl ty_ag_23 (Rds.blk .h6) (by rw [ints_length, hroot])) ?_
    refine O_val rfl rfl rfl rfl (V_loadAgg rfl rfl ty_ag_57 (Rds.blk .h5) (rfl)) ?_
    refine O_pure rfl rfl rfl rfl (P_move rfl rfl) ?_
    refine O_keep rfl rfl (W_callV rfl rfl rfl rfl fn_ca_31 (rverify_ok hG root hroot total index base c hs ib ic item hh hc hm hic) (fun w nw => ⟨(Sn.row hpre.1 rfl).rw_ w nw, (Sn.row hpre.2 rfl).rw_ w nw⟩) (K_keep (Weak.refl _) ?_))
    refine O_pure rfl rfl rfl rfl (P_neq rfl rfl rfl) ?_
    refine E_false (t := 79) rfl (decide_eq_false (by simp)) ?_
    refine O_pure rfl rfl rfl rfl (P_pick rfl rfl rfl) ?_
    refine O_pure rfl rfl rfl rfl (P_move rfl rfl) ?_
    refine O_val rfl rfl rfl rfl (V_loadAgg rfl rfl ty_ag_57 (Rds.blk .h5) (rfl)) ?_
    refine O_val rfl rfl rfl rfl (V_loadAgg rfl rfl ty_ag_57 (Rds.blk .h4) (rfl)) ?_
    refine O_keep rfl rfl (W_callV rfl rfl rfl rfl fn_ca_32 (same_ok total index base c (some ⟨qb2, 0, none⟩) qc2 hs hh hm) (fun w nw => ⟨(Sn.row hpre.1 rfl).rw_ w nw, (Sn.own .h3 rfl).left.rw_ w nw⟩) (K_keep (Weak.refl _) ?_))
    refine E_true (t := 84) rfl (rfl) ?_
    refine O_pure rfl rfl rfl rfl (P_not rfl rfl) ?_
    refine O_pure rfl rfl rfl rfl (P_pick rfl rfl rfl) ?_
    refine O_pure rfl rfl rfl rfl (P_move rfl rfl) ?_
    refine O_pure rfl rfl rfl rfl (P_move rfl rfl) ?_
    refine O_pure rfl rfl rfl rfl (P_move rfl rfl) ?_
    refine O_keep rfl rfl (W_callV rfl rfl rfl rfl fn_ca_19 (kept_ok tb 0 tcap ib ic item htc (by omega) hb) (fun w nw => ⟨(Sn.ofBlk .h2).rowAt 0 (fun i v h => app_at i v h) w nw, (Sn.row hpre.2 rfl).rw_ w nw⟩) (K_keep (Weak.refl _) ?_))
    refine E_true (t := 90) rfl (rfl) ?_
    refine O_pure rfl rfl rfl rfl (P_not rfl rfl) ?_
    refine O_pure rfl rfl rfl rfl (P_pick rfl rfl rfl) ?_
    refine O_pure rfl rfl rfl rfl (P_move rfl rfl) ?_
    refine O_pure rfl rfl rfl rfl (P_fld0 rfl ty_fl_57_2 rfl) ?_
    refine O_val rfl rfl rfl rfl (V_load rfl rfl ty_sc_55 (Rd.blk .h4 rfl)) ?_
    refine O_pure rfl rfl rfl rfl (P_fld0 rfl ty_fl_57_2 rfl) ?_
    refine O_val rfl rfl rfl rfl (V_load rfl rfl ty_sc_55 (Rd.blk .h5 rfl)) ?_
    refine O_pure rfl rfl rfl rfl (P_len rfl ty_sl_55 rfl) ?_
    first | (refine O_pure rfl rfl rfl rfl (P_addN rfl rfl rfl (by simp only [fits]; omega)) ?_) | (refine O_pure rfl rfl rfl rfl (P_add rfl rfl rfl) ?_)
    refine E_as (t := 99) (v' := .int .i64 ((hs.length + 1 : Nat) : Int)) rfl (by congr 1) ?_
    refine O_pure rfl rfl rfl rfl (P_slice 0 (hs.length + 1) rfl ty_sl_55 rfl rfl ⟨_, rfl⟩ (by omega) (by omega)) ?_
    refine E_as (t := 100) (v' := .slice (some ⟨qb2, 0, none⟩) (hs.length + 1) qc2) rfl (by unfold sliced; rw [if_neg (by omega)]; simp [add_zero_off]) ?_
    refine O_pure rfl rfl rfl rfl (P_fld0 rfl ty_fl_57_2 rfl) ?_
    refine O_val rfl rfl rfl rfl (V_load rfl rfl ty_sc_55 (Rd.blk .h5 rfl)) ?_
    refine O_pure rfl rfl rfl rfl (P_len rfl ty_sl_55 rfl) ?_
    refine O_pure rfl rfl rfl rfl (P_ixs (hs.length) rfl ty_sl_55 rfl rfl (by first | rfl | omega) (by omega)) ?_
    refine O_val rfl rfl rfl rfl (V_loadAgg rfl rfl ty_ag_23 (Rds.sn (Sn.own .h3 rfl) (flat_right hh (ints .u8 (7 :: List.replicate 31 0)))) (rfl)) ?_
    refine O_pure rfl rfl rfl rfl (P_buildArrR rfl ty_ar_23 ty_ze_23 rfl rfl rfl (by decide) (by simp [Value.oneCell'])) ?_
    refine E_as (t := 106) (v' := .agg (ints .u8 ((7 :: List.replicate 31 0))).toArray) rfl rfl ?_
    refine O_pure rfl rfl rfl rfl (P_neArr rfl rfl rfl ty_un_23 ty_int_5 ty_sc_5 ty_eg_23 (rfl) (rfl)) ?_
    refine E_false (t := 107) rfl (decide_eq_false (by simp)) ?_
    refine O_pure rfl rfl rfl rfl (P_pick rfl rfl rfl) ?_
    refine O_nil ?_
    refine St.env (.cons (t := 6) rfl (.cons (t := 13) rfl (.cons (t := 15) rfl (.cons (t := 108) rfl .nil)))) ?_
    refine Q_then ?_
    refine R_condF rfl ?_
    refine R_skip ?_
    refine Q_then ?_
    refine R_seq ?_
    refine R_region ?_
    refine L_val rfl rfl rfl (OpP.v (P_move rfl rfl)) ?_
    refine L_val rfl rfl rfl (OpP.v (P_move rfl rfl)) ?_
    refine L_val rfl rfl rfl (OpP.v (P_eql rfl rfl rfl)) ?_
    refine L_val rfl rfl rfl (OpP.v (P_assign rfl rfl)) ?_
    refine L_nil ?_
    refine St.env (.cons (t := 6) rfl .nil) ?_
    refine Q_then ?_
    refine R_ret ?_
    exact R_endV rfl rfl (.tmp rfl .nil) (congrArg Value.bool (decide_eq_true (by unfold verE; split <;> simp_all)))
end Go.Proofs.YtldndhekjhlbmaaDoor
