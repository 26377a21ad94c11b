/- LedgerSounds: the walk. Printed by gen.py. -/
import Derived.Test.YtfhjhaogmdaepaaL8E
import Derived.Test.YtfhjhaogmdaepaaL9B
import Derived.Test.YtfhjhaogmdaepaaL9C
set_option linter.unusedVariables false
set_option linter.unusedSimpArgs false
set_option maxRecDepth 100000
namespace Go.Proofs.Ytfhjhaogmdaepaa
open Go Go.RowKit Go.Proofs
theorem newL8_len (l : List Acc) : (newL8 l).acc.length ≤ l.length := by
  unfold newL8; split
  · exact Nat.le_refl _
  · exact Nat.zero_le _
theorem refSeats_len (mb s : Int) (l : List Acc) : (refSeats mb s l).length ≤ l.length := soF_len l (takeT mb l (min s.toNat 64)) l.length
theorem ledgerSounds_walk {gl : Nat → Obj} (base : Option Addr) (c : Nat) (l : List Acc) (hc : l.length ≤ c)(hok : ∀ x ∈ l, x.ok)(base' : Option Addr) (c' : Nat) (r : List Rel) (hc' : r.length ≤ c') (hok' : ∀ x ∈ r, x.ok) (bu su : Int) (hbu : u64 bu) (hsu : u64 su) (hm : l.length ≤ 3518437208800) (hm' : r.length ≤ 4398046511000) (a : Int) (p : Par) : SpecV (cx gl) 4 [.agg (ledV (.slice base l.length c) (.slice base' r.length c') bu su).toArray, .int .u64 a, .agg p.cells.toArray] (fun w => Row w base (rc l) ∧ Row w base' (rc r)) (.bool true) := by
  refine Spec.enter (C := cx gl) Try.func4 rfl 102 rfl rfl fun w0 h0 hsep hsub hpre => ?_
  obtain rfl : h0 = Heap.none := hsep
  show St (cx gl) _ [(0, .agg (ledV (.slice base l.length c) (.slice base' r.length c') bu su).toArray), (1, .int .u64 a), (2, .agg p.cells.toArray)] _ _
  refine R_seq ?_
  refine R_region ?_
  refine L_op rfl (W_box (ledV (.slice base l.length c) (.slice base' r.length c') bu su) rfl rfl rfl rfl rfl fun b3 => ?_)
  refine L_op rfl (W_box (p.cells) rfl rfl rfl rfl rfl fun b5 => ?_)
  refine L_val rfl rfl rfl (OpP.v (P_assign rfl rfl)) ?_
  refine L_nil ?_
  refine St.env (.cons (t := 1) rfl (.cons (t := 3) rfl (.cons (t := 5) rfl (.cons (t := 6) rfl .nil)))) ?_
  refine Q_then ?_
  refine R_seq ?_
  refine R_region ?_
  refine L_op rfl (W_callV rfl rfl rfl rfl fn_ca_5 (alive8) (fun _ _ => trivial) ?_)
  refine L_val rfl rfl rfl (OpP.v (P_assign rfl rfl)) ?_
  refine L_nil ?_
  refine St.env (.cons (t := 1) rfl (.cons (t := 3) rfl (.cons (t := 5) rfl (.cons (t := 6) rfl (.cons (t := 7) rfl .nil))))) ?_
  refine Q_then ?_
  refine R_seq ?_
  refine R_seq ?_
  refine R_region ?_
  refine L_val rfl rfl rfl (OpP.v (P_move rfl rfl)) ?_
  refine L_val rfl rfl rfl (OpP.v (P_not rfl rfl)) ?_
  refine E_false (t := 22) rfl (rfl) ?_
  refine L_nil ?_
  refine St.env (.cons (t := 1) rfl (.cons (t := 3) rfl (.cons (t := 5) rfl (.cons (t := 6) rfl (.cons (t := 22) rfl .nil))))) ?_
  refine Q_then ?_
  refine R_condF rfl ?_
  refine R_skip ?_
  refine Q_then ?_
  refine R_seq ?_
  refine R_region ?_
  refine L_val rfl rfl rfl (V_loadAgg rfl rfl ty_ag_29 (Rds.blk .h1) (rfl)) ?_
  refine L_op rfl (W_call rfl rfl rfl rfl fn_ca_10 (roomy_ok base c l hc base' c' r hc' bu su hm hm') (Split.nil _) (fun w a b _ hb dj m => ⟨(Sn.row hpre.1 rfl).rw_ w ⟨_, hb, m.le (Heap.le_join_right dj)⟩, (Sn.row hpre.2 rfl).rw_ w ⟨_, hb, m.le (Heap.le_join_right dj)⟩⟩) fun vr rs0 ⟨fb, fc, gb, gc, z1, hfc, hgc, z2⟩ => ?_)
  subst z1; subst z2
  refine L_op rfl (W_alloc rfl rfl rfl ty_ze_29 fun b8 => ?_)
  refine L_op rfl (W_storeAll rfl rfl rfl rfl ty_ag_29 (rfl) (ledV_one _ _ _ _ rfl rfl) .h0 (rfl) ?_)
  refine L_nil ?_
  refine St.env (.cons (t := 1) rfl (.cons (t := 3) rfl (.cons (t := 5) rfl (.cons (t := 6) rfl (.cons (t := 8) rfl .nil))))) ?_
  refine Q_then ?_
  refine R_seq ?_
  refine R_region ?_
  refine L_val rfl rfl rfl (V_loadAgg rfl rfl ty_ag_29 (Rds.blk .h0) (rfl)) ?_
  refine L_op rfl (W_callV rfl rfl rfl rfl fn_ca_12 (cut_ok fb fc gb gc l r bu su hfc hgc hm hm') (fun _ _ => trivial) ?_)
  refine L_op rfl (W_callV rfl rfl rfl rfl fn_ca_11 (lsound_ok (some ⟨fb, 0, none⟩) fc l (by omega) hok (some ⟨gb, 0, none⟩) gc r (by omega) hok' bu su hbu hsu) (fun w nw => ⟨(sn_lft .h1).rw_ w nw, (sn_lft .h2).rw_ w nw⟩) ?_)
  refine L_val rfl rfl rfl (OpP.v (P_assign rfl rfl)) ?_
  refine L_nil ?_
  refine St.env (.cons (t := 1) rfl (.cons (t := 3) rfl (.cons (t := 5) rfl (.cons (t := 6) rfl (.cons (t := 8) rfl (.cons (t := 9) rfl .nil)))))) ?_
  refine Q_then ?_
  refine R_seq ?_
  refine R_region ?_
  refine L_val rfl rfl rfl (V_loadAgg rfl rfl ty_ag_29 (Rds.blk .h0) (rfl)) ?_
  refine L_op rfl (W_callV rfl rfl rfl rfl fn_ca_12 (cut_ok fb fc gb gc l r bu su hfc hgc hm hm') (fun _ _ => trivial) ?_)
  refine L_val rfl rfl rfl (OpP.v (P_field rfl ty_fld_29_0 ty_sc_22 rfl (rfl))) ?_
  refine L_op rfl (W_call rfl rfl rfl rfl fn_ca_6 (lnew_ok (some ⟨fb, 0, none⟩) fc l (by omega) (by omega) hok) (Split.nil _) (fun w a b _ hb dj m => (sn_lft .h1).rw_ w ⟨_, hb, m.le (Heap.le_join_right dj)⟩) fun v1 rs1 ⟨u, z1, z2⟩ => ?_)
  subst z1; subst z2
  refine St.ownForm (p := []) fun ub uc huv huc => ?_
  subst huv
  refine L_val rfl rfl rfl (OpP.v (P_move rfl rfl)) ?_
  refine L_val rfl rfl rfl (OpP.v (P_extract rfl rfl rfl)) ?_
  refine L_val rfl rfl rfl (OpP.v (P_extract rfl rfl rfl)) ?_
  refine L_op rfl (W_alloc rfl rfl rfl ty_ze_29 fun b10 => ?_)
  refine L_op rfl (W_storeAll rfl rfl rfl rfl ty_ag_29 (rfl) (ledV_one _ _ _ _ rfl rfl) .h0 (rfl) ?_)
  refine L_val rfl rfl rfl (OpP.v (P_assign rfl rfl)) ?_
  refine L_nil ?_
  refine St.env (.cons (t := 1) rfl (.cons (t := 3) rfl (.cons (t := 5) rfl (.cons (t := 6) rfl (.cons (t := 8) rfl (.cons (t := 9) rfl (.cons (t := 10) rfl (.cons (t := 11) rfl .nil)))))))) ?_
  refine Q_then ?_
  refine R_seq ?_
  refine R_region ?_
  refine L_val rfl rfl rfl (V_loadAgg rfl rfl ty_ag_29 (Rds.blk .h2) (rfl)) ?_
  refine L_op rfl (W_callV rfl rfl rfl rfl fn_ca_12 (cut_ok fb fc gb gc l r bu su hfc hgc hm hm') (fun _ _ => trivial) ?_)
  refine L_val rfl rfl rfl (OpP.v (P_move rfl rfl)) ?_
  refine L_op rfl (W_callV rfl rfl rfl rfl fn_ca_13 (find_ok (some ⟨fb, 0, none⟩) fc l (by omega) (by omega) (.slice (some ⟨gb, 0, none⟩) r.length gc) rfl bu su a) ((sn_lft .h3).rw_) ?_)
  refine L_val rfl rfl rfl (OpP.v (P_move rfl rfl)) ?_
  refine L_val rfl rfl rfl (OpP.v (P_extract rfl rfl rfl)) ?_
  refine L_val rfl rfl rfl (OpP.v (P_extract rfl rfl rfl)) ?_
  refine L_op rfl (W_alloc rfl rfl rfl ty_ze_39 fun b12 => ?_)
  refine L_op rfl (W_storeAll rfl rfl rfl rfl ty_ag_39 (rfl) (Rec.one (findX l a)) .h0 (rfl) ?_)
  refine L_val rfl rfl rfl (OpP.v (P_assign rfl rfl)) ?_
  refine L_nil ?_
  refine St.env (.cons (t := 1) rfl (.cons (t := 3) rfl (.cons (t := 5) rfl (.cons (t := 6) rfl (.cons (t := 8) rfl (.cons (t := 9) rfl (.cons (t := 10) rfl (.cons (t := 11) rfl (.cons (t := 12) rfl (.cons (t := 13) rfl .nil)))))))))) ?_
  refine Q_then ?_
  refine R_seq ?_
  refine R_region ?_
  refine L_val rfl rfl rfl (V_loadAgg rfl rfl ty_ag_29 (Rds.blk .h7) (rfl)) ?_
  refine L_op rfl (W_callV rfl rfl rfl rfl fn_ca_14 (rsound_ok base c l hc (by omega) hok base' c' r hc' hok' bu su hbu) (fun w nw => ⟨(Sn.row hpre.1 rfl).rw_ w nw, (Sn.row hpre.2 rfl).rw_ w nw⟩) ?_)
  refine L_val rfl rfl rfl (OpP.v (P_assign rfl rfl)) ?_
  refine L_nil ?_
  refine St.env (.cons (t := 1) rfl (.cons (t := 3) rfl (.cons (t := 5) rfl (.cons (t := 6) rfl (.cons (t := 8) rfl (.cons (t := 9) rfl (.cons (t := 10) rfl (.cons (t := 11) rfl (.cons (t := 12) rfl (.cons (t := 13) rfl (.cons (t := 14) rfl .nil))))))))))) ?_
  refine Q_then ?_
  refine R_seq ?_
  refine R_region ?_
  refine L_val rfl rfl rfl (OpP.v (P_fld0 rfl ty_fl_29_0 rfl)) ?_
  refine L_val rfl rfl rfl (V_load rfl rfl ty_sc_22 (Rd.blk .h7 rfl)) ?_
  refine L_op rfl (W_call rfl rfl rfl rfl fn_ca_7 (rnew_ok base c l hc (by omega) hok) (Split.nil _) (fun w a b _ hb dj m => (Sn.row hpre.1 rfl).rw_ w ⟨_, hb, m.le (Heap.le_join_right dj)⟩) fun v2 rs2 ⟨u2, z1, z2⟩ => ?_)
  subst z1; subst z2
  refine St.ownForm (p := []) fun ub2 uc2 huv huc2 => ?_
  subst huv
  refine L_val rfl rfl rfl (OpP.v (P_move rfl rfl)) ?_
  refine L_val rfl rfl rfl (OpP.v (P_extract rfl rfl rfl)) ?_
  refine L_val rfl rfl rfl (OpP.v (P_extract rfl rfl rfl)) ?_
  refine L_op rfl (W_alloc rfl rfl rfl ty_ze_29 fun b15 => ?_)
  refine L_op rfl (W_storeAll rfl rfl rfl rfl ty_ag_29 (rfl) (ledV_one _ _ _ _ rfl rfl) .h0 (rfl) ?_)
  refine L_val rfl rfl rfl (OpP.v (P_assign rfl rfl)) ?_
  refine L_nil ?_
  refine St.env (.cons (t := 1) rfl (.cons (t := 3) rfl (.cons (t := 5) rfl (.cons (t := 6) rfl (.cons (t := 8) rfl (.cons (t := 9) rfl (.cons (t := 10) rfl (.cons (t := 11) rfl (.cons (t := 12) rfl (.cons (t := 13) rfl (.cons (t := 14) rfl (.cons (t := 15) rfl (.cons (t := 16) rfl .nil))))))))))))) ?_
  refine Q_then ?_
  refine R_seq ?_
  refine R_region ?_
  refine L_val rfl rfl rfl (V_loadAgg rfl rfl ty_ag_29 (Rds.blk .h9) (rfl)) ?_
  refine L_val rfl rfl rfl (OpP.v (P_move rfl rfl)) ?_
  refine L_op rfl (W_callV rfl rfl rfl rfl fn_ca_15 (rfind_ok base c l hc (by omega) (.slice base' r.length c') rfl bu su a) ((Sn.row hpre.1 rfl).rw_) ?_)
  refine L_val rfl rfl rfl (OpP.v (P_move rfl rfl)) ?_
  refine L_val rfl rfl rfl (OpP.v (P_extract rfl rfl rfl)) ?_
  refine L_val rfl rfl rfl (OpP.v (P_extract rfl rfl rfl)) ?_
  refine L_op rfl (W_alloc rfl rfl rfl ty_ze_39 fun b17 => ?_)
  refine L_op rfl (W_storeAll rfl rfl rfl rfl ty_ag_39 (rfl) (Rec.one (findX l a)) .h0 (rfl) ?_)
  refine L_val rfl rfl rfl (OpP.v (P_assign rfl rfl)) ?_
  refine L_nil ?_
  refine St.env (.cons (t := 3) rfl (.cons (t := 5) rfl (.cons (t := 6) rfl (.cons (t := 8) rfl (.cons (t := 9) rfl (.cons (t := 10) rfl (.cons (t := 11) rfl (.cons (t := 12) rfl (.cons (t := 13) rfl (.cons (t := 14) rfl (.cons (t := 15) rfl (.cons (t := 16) rfl (.cons (t := 17) rfl (.cons (t := 18) rfl .nil)))))))))))))) ?_
  refine Q_then ?_
  refine R_seq ?_
  refine R_seq ?_
  refine R_region ?_
  refine L_val rfl rfl rfl (OpP.v (P_move rfl rfl)) ?_
  refine L_val rfl rfl rfl (OpP.v (P_move rfl rfl)) ?_
  refine L_val rfl rfl rfl (OpP.v (P_neq rfl rfl rfl)) ?_
  refine E_false (t := 58) rfl (by simp) ?_
  refine L_val rfl rfl rfl (OpP.v (P_move rfl rfl)) ?_
  refine L_val rfl rfl rfl (OpP.v (P_move rfl rfl)) ?_
  refine L_val rfl rfl rfl (OpP.v (P_move rfl rfl)) ?_
  refine L_val rfl rfl rfl (OpP.v (P_neq rfl rfl rfl)) ?_
  refine E_false (t := 62) rfl (by simp) ?_
  refine L_val rfl rfl rfl (OpP.v (P_pick rfl rfl rfl)) ?_
  refine L_val rfl rfl rfl (OpP.v (P_move rfl rfl)) ?_
  refine L_val rfl rfl rfl (OpP.v (P_move rfl rfl)) ?_
  refine L_val rfl rfl rfl (OpP.v (P_move rfl rfl)) ?_
  refine L_val rfl rfl rfl (OpP.v (P_neq rfl rfl rfl)) ?_
  refine E_false (t := 67) rfl (by simp) ?_
  refine L_val rfl rfl rfl (OpP.v (P_pick rfl rfl rfl)) ?_
  refine L_val rfl rfl rfl (OpP.v (P_move rfl rfl)) ?_
  refine L_val rfl rfl rfl (V_loadAgg rfl rfl ty_ag_29 (Rds.blk .h4) (rfl)) ?_
  refine L_val rfl rfl rfl (V_loadAgg rfl rfl ty_ag_29 (Rds.blk .h1) (rfl)) ?_
  refine L_op rfl (W_callV rfl rfl rfl rfl fn_ca_16 (sameL_ok ub none ub2 none uc 0 uc2 0 (newL8 l).acc [] 0 (newL8 l).sup huc (Nat.le_refl _) huc2 (Nat.le_refl _) (by have := newL8_len l; omega) (by decide)) (fun w nw => ⟨(Sn.own .h5 rfl).rw_ w nw, Row.nil, (Sn.own .h2 rfl).rw_ w nw, Row.nil⟩) ?_)
  refine L_val rfl rfl rfl (OpP.v (P_not rfl rfl)) ?_
  refine E_false (t := 73) rfl (rfl) ?_
  refine L_val rfl rfl rfl (OpP.v (P_pick rfl rfl rfl)) ?_
  refine L_val rfl rfl rfl (OpP.v (P_move rfl rfl)) ?_
  refine L_val rfl rfl rfl (V_loadAgg rfl rfl ty_ag_39 (Rds.blk .h3) (rfl)) ?_
  refine L_val rfl rfl rfl (V_loadAgg rfl rfl ty_ag_39 (Rds.blk .h0) (rfl)) ?_
  refine L_val rfl rfl rfl (OpP.v (P_neq_structK (b := false) [false, false, false, false, true] rfl se_acc rfl rfl rfl rfl (acc_kind (findX l a) (findX l a)) ⟨fun _ => rfl, fun _ => rfl⟩)) ?_
  refine E_false (t := 78) rfl (rfl) ?_
  refine L_val rfl rfl rfl (OpP.v (P_pick rfl rfl rfl)) ?_
  refine L_val rfl rfl rfl (OpP.v (P_move rfl rfl)) ?_
  refine L_val rfl rfl rfl (V_loadAgg rfl rfl ty_ag_29 (Rds.blk .h6) (rfl)) ?_
  refine L_val rfl rfl rfl (V_loadAgg rfl rfl ty_ag_29 (Rds.blk .h10) (rfl)) ?_
  refine L_op rfl (W_callV rfl rfl rfl rfl fn_ca_17 (kept_ok fb fc gb gc l r bu su hfc hgc hm hm' base c base' c' hc hc') (fun w nw => ⟨(Sn.own .h7 rfl).rw_ w nw, (Sn.own .h8 rfl).rw_ w nw, (Sn.row hpre.1 rfl).rw_ w nw, (Sn.row hpre.2 rfl).rw_ w nw⟩) ?_)
  refine L_val rfl rfl rfl (OpP.v (P_not rfl rfl)) ?_
  refine E_false (t := 84) rfl (rfl) ?_
  refine L_val rfl rfl rfl (OpP.v (P_pick rfl rfl rfl)) ?_
  refine L_nil ?_
  refine St.env (.cons (t := 3) rfl (.cons (t := 5) rfl (.cons (t := 6) rfl (.cons (t := 8) rfl (.cons (t := 14) rfl (.cons (t := 85) rfl .nil)))))) ?_
  refine Q_then ?_
  refine R_condF rfl ?_
  refine R_skip ?_
  refine Q_then ?_
  refine R_seq ?_
  refine R_seq ?_
  refine St.res (rs' := [blk b8 (ledV (.slice (some ⟨fb, 0, none⟩) (l.length + 2) fc) (.slice (some ⟨gb, 0, none⟩) (r.length + 2) gc) bu su) 29, ownS 39 5 (.slice (some ⟨fb, 0, none⟩) (l.length + 2) fc) (l.length + 2) (rc (l ++ amk)), ownS 62 4 (.slice (some ⟨gb, 0, none⟩) (r.length + 2) gc) (r.length + 2) (rc (r ++ rmk)), blk b5 p.cells 25, blk b3 (ledV (.slice base l.length c) (.slice base' r.length c') bu su) 29]) (Weak.pick (p := [_, _, _, _, _, _]) (Weak.pick (p := [_, _, _, _, _, _]) (Weak.pick (p := [_, _, _, _, _, _]) (Weak.pick (p := [_, _, _, _, _, _]) (Weak.pick (p := [_, _, _, _, _, _]) (Weak.nil _)))))) ?_
  refine R_region ?_
  refine L_val rfl rfl rfl (OpP.v (P_move rfl rfl)) ?_
  refine L_val rfl rfl rfl (OpP.v (P_neq rfl rfl rfl)) ?_
  refine L_nil ?_
  refine St.env (.cons (t := 3) rfl (.cons (t := 5) rfl (.cons (t := 6) rfl (.cons (t := 8) rfl (.cons (t := 87) rfl .nil))))) ?_
  refine Q_then ?_
  refine R_condP rfl (fun hk => ?_) (fun hk => ?_)
  · skip
    refine R_seq ?_
    refine R_region ?_
    refine L_val rfl rfl rfl (OpP.v (P_assign rfl rfl)) ?_
    refine L_nil ?_
    refine St.env (.cons (t := 3) rfl (.cons (t := 5) rfl (.cons (t := 6) rfl (.cons (t := 8) rfl .nil)))) ?_
    refine Q_then ?_
    refine R_ret ?_
    refine Q_then_ret ?_
    exact R_endV rfl rfl (.tmp rfl .nil) (rfl)
  · skip
    have hk : lsoundE ⟨l, r, bu, su⟩ = 0 := Classical.not_not.1 hk
    have hF := ledFine_of hk
    have hfew : l.length ≤ 65536 := hF.few
    have hf : AccFine l := accFine_of hF.acc
    refine R_skip ?_
    refine Q_then ?_
    refine R_seq ?_
    refine R_open [(0, 1), (2, 1), (1, 2), (3, 2), (4, 0)] mixed (by kernel_rfl) (QOk.then QOk.body) ?_
    refine O_val rfl rfl rfl rfl (V_loadAgg rfl rfl ty_ag_29 (Rds.blk .h0) (rfl)) ?_
    refine O_val rfl rfl rfl rfl (V_loadAgg rfl rfl ty_ag_25 (Rds.blk .h3) (rfl)) ?_
    refine O_keep rfl rfl (W_callV rfl rfl rfl rfl fn_ca_12 (cut_ok fb fc gb gc l r bu su hfc hgc hm hm') (fun _ _ => trivial) (K_keep (Weak.refl _) ?_))
    refine O_keep rfl rfl (W_call rfl rfl rfl rfl fn_ca_8 (seats_ok (some ⟨fb, 0, none⟩) fc l (by omega) hfew hf (.slice (some ⟨gb, 0, none⟩) r.length gc) rfl bu su p) (Split.nil _) (fun w a b _ hb dj m => (sn_lft .h1).rw_ w ⟨_, hb, m.le (Heap.le_join_right dj)⟩) fun v3 rs3 ⟨R, sb, sc, z1, hR, z2⟩ => ?_)
    subst z1; subst z2
    obtain rfl := hR.uniq (refSeats_ok hf)
    refine St.hasFact .h0 (p := (refSeats p.mb p.seats l).length ≤ sc) (fun h hh => by obtain ⟨_, _, e, hle⟩ := hh.form; simp only [Value.slice.injEq] at e; omega) ?_
    intro hsc
    refine K_keep (Weak.drop (Weak.refl _)) ?_
    refine O_pure rfl rfl rfl rfl (P_assign rfl rfl) ?_
    refine O_nil ?_
    refine St.env (.cons (t := 3) rfl (.cons (t := 5) rfl (.cons (t := 6) rfl (.cons (t := 8) rfl (.cons (t := 19) rfl .nil))))) ?_
    refine Q_then ?_
    refine R_seq ?_
    refine R_region ?_
    refine L_val rfl rfl rfl (OpP.v (P_move rfl rfl)) ?_
    refine L_val rfl rfl rfl (V_loadAgg rfl rfl ty_ag_29 (Rds.blk .h5) (rfl)) ?_
    refine L_val rfl rfl rfl (V_loadAgg rfl rfl ty_ag_25 (Rds.blk .h4) (rfl)) ?_
    refine L_op rfl (W_call rfl rfl rfl rfl fn_ca_19 (rseats_ok base c l hc hfew (.slice base' r.length c') rfl bu su p) (Split.nil _) (fun w a b _ hb dj m => (Sn.row hpre.1 rfl).rw_ w ⟨_, hb, m.le (Heap.le_join_right dj)⟩) fun v4 rs4 ⟨tb, tc, z1, z2⟩ => ?_)
    subst z1; subst z2
    refine St.hasFact .h0 (p := (refSeats p.mb p.seats l).length ≤ tc) (fun h hh => by obtain ⟨_, _, e, hle⟩ := hh.form; simp only [Value.slice.injEq] at e; omega) ?_
    intro htc
    refine L_op rfl (W_callV rfl rfl rfl rfl fn_ca_18 (sameM_ok sb tb sc tc (refSeats p.mb p.seats l) hsc htc (by have := refSeats_len p.mb p.seats l; omega)) (fun w nw => ⟨(Sn.own .h1 rfl).rw_ w nw, (Sn.own .h0 rfl).rw_ w nw⟩) ?_)
    refine E_true (t := 96) rfl (rfl) ?_
    refine L_val rfl rfl rfl (OpP.v (P_move rfl rfl)) ?_
    refine L_val rfl rfl rfl (V_loadAgg rfl rfl ty_ag_29 (Rds.blk .h2) (rfl)) ?_
    refine L_val rfl rfl rfl (V_loadAgg rfl rfl ty_ag_29 (Rds.blk .h6) (rfl)) ?_
    refine L_op rfl (W_callV rfl rfl rfl rfl fn_ca_17 (kept_ok fb fc gb gc l r bu su hfc hgc hm hm' base c base' c' hc hc') (fun w nw => ⟨(Sn.own .h3 rfl).rw_ w nw, (Sn.own .h4 rfl).rw_ w nw, (Sn.row hpre.1 rfl).rw_ w nw, (Sn.row hpre.2 rfl).rw_ w nw⟩) ?_)
    refine E_true (t := 100) rfl (rfl) ?_
    refine L_val rfl rfl rfl (OpP.v (P_pick rfl rfl rfl)) ?_
    refine L_val rfl rfl rfl (OpP.v (P_assign rfl rfl)) ?_
    refine L_nil ?_
    refine St.env (.cons (t := 6) rfl .nil) ?_
    refine Q_then ?_
    refine R_ret ?_
    exact R_endV rfl rfl (.tmp rfl .nil) (rfl)
end Go.Proofs.Ytfhjhaogmdaepaa
