/- Walks: Beside, DigestBinds. Printed by gen.py. -/
import Derived.Test.YtldndhekjhlbmaaDoorD19
import Derived.Test.YtldndhekjhlbmaaDoorAlive
set_option linter.unusedVariables false
set_option linter.unusedSimpArgs false
set_option maxRecDepth 100000
namespace Go.Proofs.YtldndhekjhlbmaaDoor
open Go Go.RowKit Go.Proofs
theorem beside_ok {gl : Nat → Obj} (hG : GlobsR gl) (ba : Option Addr) (ca : Nat) (va : List Value) (xss : List (List Int)) (hvx : va.length = xss.length) (hca : va.length ≤ ca) (hbx : ∀ x ∈ xss, IsB x) (hB : bigL xss = false) (n i : Nat) (bh : Option Addr) (ch : Nat) (hs : List (List Int)) (ib : Option Addr) (ic : Nat) (item : List Int) (hh : ∀ h ∈ hs, h.length = 32) (hHB : ∀ h ∈ hs, IsB h) (hch : hs.length ≤ ch) (hic : item.length ≤ ic) (hib : IsB item) (hn1 : 1 ≤ n) (hn2 : n ≤ 65536) (hin : i < n) (hlen : hs.length = (turnsH n i).length) (him : item.length ≤ 1048576) (hroot : sha (2 :: (numB (n : Int) ++ leadH n i hs (leafH item))) = rootH xss.length (topH (leaves xss))) : Spec (cx gl) 36 [.slice ba va.length ca, .agg [.int .i64 (n : Int), .int .i64 (i : Int), .slice bh hs.length ch].toArray, .slice ib item.length ic] (fun w _ => Items w ba va xss ∧ Row w bh (flat .u8 hs) ∧ Row w ib (ints .u8 item)) [] (fun v rs => (∃ s c : Bool, v = .tuple #[.bool s, .bool c] ∧ (s || c) = true) ∧ rs = []) := by
  refine Spec.enter (C := cx gl) Tryd.func36 rfl 47 rfl rfl fun w0 h0 hsep hsub hpre => ?_
  obtain rfl : h0 = Heap.none := hsep
  show St (cx gl) _ [(0, .slice ba va.length ca), (1, .agg [.int .i64 (n : Int), .int .i64 (i : Int), .slice bh hs.length ch].toArray), (2, .slice ib item.length ic)] _ _
  obtain ⟨g1, _, g3⟩ := bigL_false hB
  rw [← hvx] at hroot
  refine R_seq ?_
  refine R_region ?_
  refine L_op rfl (W_box ([.int .i64 (n : Int), .int .i64 (i : Int), .slice bh hs.length ch]) rfl rfl rfl rfl rfl fun b4 => ?_)
  refine L_val rfl rfl rfl (OpP.v (P_assign rfl rfl)) ?_
  refine L_val rfl rfl rfl (OpP.v (P_assign rfl rfl)) ?_
  refine L_nil ?_
  refine St.env (.cons (t := 0) rfl (.cons (t := 2) rfl (.cons (t := 4) rfl (.cons (t := 6) rfl (.cons (t := 7) rfl .nil))))) ?_
  refine Q_then ?_
  refine R_seq ?_
  refine R_region ?_
  refine L_val rfl rfl rfl (OpP.v (P_fld0 rfl ty_fl_57_0 rfl)) ?_
  refine L_val rfl rfl rfl (V_load rfl rfl ty_sc_3 (Rd.blk .h0 rfl)) ?_
  refine L_val rfl rfl rfl (OpP.v (P_fld0 rfl ty_fl_57_1 rfl)) ?_
  refine L_val rfl rfl rfl (V_load rfl rfl ty_sc_3 (Rd.blk .h0 rfl)) ?_
  refine L_val rfl rfl rfl (OpP.v (P_fld0 rfl ty_fl_57_2 rfl)) ?_
  refine L_val rfl rfl rfl (V_load rfl rfl ty_sc_55 (Rd.blk .h0 rfl)) ?_
  refine L_val rfl rfl rfl (OpP.v (P_move rfl rfl)) ?_
  refine L_op rfl (W_callV rfl rfl rfl rfl fn_ca_59 (lead_ok hG n i bh ch hs ib ic item hn1 hn2 hin hlen hh hch (by omega)) (fun w nw => ⟨(Sn.row hpre.2.1 rfl).rw_ w nw, (Sn.row hpre.2.2 rfl).rw_ w nw⟩) ?_)
  refine L_op rfl (W_alloc rfl rfl rfl ty_ze_23 fun b8 => ?_)
  refine L_op rfl (W_storeAll rfl rfl rfl rfl ty_ag_23 (by rw [ints_length, leadH_length (leafH_length _)]) (ints_one) .h0 (by rw [ints_length, leadH_length (leafH_length _)]; rfl) ?_)
  refine L_nil ?_
  refine St.env (.cons (t := 0) rfl (.cons (t := 2) rfl (.cons (t := 4) rfl (.cons (t := 6) rfl (.cons (t := 7) rfl (.cons (t := 8) rfl .nil)))))) ?_
  refine Q_then ?_
  refine R_seq ?_
  refine R_region ?_
  refine L_val rfl rfl rfl (OpP.v (P_move rfl rfl)) ?_
  refine L_val rfl rfl rfl (OpP.v (P_len rfl ty_sl_36 rfl)) ?_
  refine L_val rfl rfl rfl (OpP.v (P_move rfl rfl)) ?_
  refine L_op rfl (W_callV rfl rfl rfl rfl fn_ca_49 (rtop_ok hG va.length _ _ va xss (Nat.le_refl _) (by omega) hvx (fun x hx => by have := g3 x hx; omega) hca) (Items.row hpre.1 rfl) ?_)
  refine L_op rfl (W_call rfl rfl rfl rfl fn_ca_50 (rootText_ok (va.length : Int) (topH (leaves xss)) (topH_length (leaves_len _))) (Split.nil _) (fun _ _ _ _ _ _ _ => trivial) fun v24 rs1 (e1 : rs1 = _) => ?_)
  subst e1
  refine St.openOwn (p := []) (by omega) fun tb1 tcap1 junk1 htc1 htl1 htv => ?_
  subst htv
  refine St.res (rs' := [blk tb1 (ints .u8 (2 :: (numB (va.length : Int) ++ topH (leaves xss))) ++ junk1) 5, blk b8 (ints .u8 (leadH n i hs (leafH item))) 23, blk b4 [.int .i64 (n : Int), .int .i64 (i : Int), .slice bh hs.length ch] 57]) (Weak.refl _) ?_
  refine L_val rfl rfl rfl (OpP.v (P_assign rfl rfl)) ?_
  refine L_nil ?_
  refine St.env (.cons (t := 0) rfl (.cons (t := 2) rfl (.cons (t := 4) rfl (.cons (t := 6) rfl (.cons (t := 7) rfl (.cons (t := 8) rfl (.cons (t := 9) rfl .nil))))))) ?_
  refine Q_then ?_
  refine R_seq ?_
  refine R_region ?_
  refine L_val rfl rfl rfl (OpP.v (P_fld0 rfl ty_fl_57_0 rfl)) ?_
  refine L_val rfl rfl rfl (V_load rfl rfl ty_sc_3 (Rd.blk .h2 rfl)) ?_
  refine L_val rfl rfl rfl (V_loadAgg rfl rfl ty_ag_23 (Rds.blk .h1) (by rw [ints_length, leadH_length (leafH_length _)])) ?_
  refine L_op rfl (W_call rfl rfl rfl rfl fn_ca_50 (rootText_ok (n : Int) (leadH n i hs (leafH item)) (leadH_length (leafH_length _))) (Split.nil _) (fun _ _ _ _ _ _ _ => trivial) fun v28 rs1 (e1 : rs1 = _) => ?_)
  subst e1
  refine St.openOwn (p := []) (by omega) fun tb2 tcap2 junk2 htc2 htl2 htv => ?_
  subst htv
  refine St.res (rs' := [blk tb2 (ints .u8 (2 :: (numB (n : Int) ++ leadH n i hs (leafH item))) ++ junk2) 5, blk tb1 (ints .u8 (2 :: (numB (va.length : Int) ++ topH (leaves xss))) ++ junk1) 5, blk b8 (ints .u8 (leadH n i hs (leafH item))) 23, blk b4 [.int .i64 (n : Int), .int .i64 (i : Int), .slice bh hs.length ch] 57]) (Weak.refl _) ?_
  refine L_val rfl rfl rfl (OpP.v (P_assign rfl rfl)) ?_
  refine L_nil ?_
  refine St.env (.cons (t := 0) rfl (.cons (t := 2) rfl (.cons (t := 4) rfl (.cons (t := 6) rfl (.cons (t := 7) rfl (.cons (t := 9) rfl (.cons (t := 10) rfl .nil))))))) ?_
  refine Q_then ?_
  refine R_seq ?_
  refine R_seq ?_
  refine R_region ?_
  refine L_val rfl rfl rfl (OpP.v (P_move rfl rfl)) ?_
  refine L_val rfl rfl rfl (V_strN (by rw [List.length_cons, List.length_append, numB_length, topH_length (leaves_len _)]) rfl (slB_spec ty_sl_26).1 ty_int_5 ty_str_9 rfl ((Sn.ofBlkAt .h1 fun i v h => app_at i v h).rw_)) ?_
  refine L_val rfl rfl rfl (OpP.v (P_move rfl rfl)) ?_
  refine L_val rfl rfl rfl (V_strN (by rw [List.length_cons, List.length_append, numB_length, leadH_length (leafH_length _)]) rfl (slB_spec ty_sl_26).1 ty_int_5 ty_str_9 rfl ((Sn.ofBlkAt .h0 fun i v h => app_at i v h).rw_)) ?_
  refine L_val rfl rfl rfl (OpP.v (P_neStr rfl rfl rfl (IsB.cons (by decide) (by decide) (IsB.append (isB_numB _) (isB_topH (isB_leaves _)))) (IsB.cons (by decide) (by decide) (IsB.append (isB_numB _) (isB_lead (isB_leaf _)))))) ?_
  refine L_nil ?_
  refine St.env (.cons (t := 0) rfl (.cons (t := 2) rfl (.cons (t := 4) rfl (.cons (t := 6) rfl (.cons (t := 7) rfl (.cons (t := 9) rfl (.cons (t := 10) rfl (.cons (t := 33) rfl .nil)))))))) ?_
  refine Q_then ?_
  refine R_condP rfl (fun hne => ?_) (fun hne => ?_)
  · skip
    refine R_seq ?_
    refine R_region ?_
    refine L_val rfl rfl rfl (OpP.v (P_move rfl rfl)) ?_
    refine L_val rfl rfl rfl (OpP.v (P_move rfl rfl)) ?_
    refine L_op rfl (W_callV rfl rfl rfl rfl fn_ca_51 (clash_okN hG (some ⟨tb1, 0, none⟩) tcap1 (2 :: (numB (va.length : Int) ++ topH (leaves xss))) (some ⟨tb2, 0, none⟩) tcap2 (2 :: (numB (n : Int) ++ leadH n i hs (leafH item))) (by rw [List.length_cons, List.length_append, numB_length, topH_length (leaves_len _)]) (by rw [List.length_cons, List.length_append, numB_length, leadH_length (leafH_length _)]) (by omega) (by omega) (by decide) (by decide) (IsB.cons (by decide) (by decide) (IsB.append (isB_numB _) (isB_topH (isB_leaves _)))) (IsB.cons (by decide) (by decide) (IsB.append (isB_numB _) (isB_lead (isB_leaf _))))) (fun w nw => ⟨(Sn.ofBlkAt .h1 fun i v h => app_at i v h).rw_ w nw, (Sn.ofBlkAt .h0 fun i v h => app_at i v h).rw_ w nw⟩) ?_)
    refine L_val rfl rfl rfl (OpP.v (P_assign rfl rfl)) ?_
    refine L_nil ?_
    refine St.env (.cons (t := 0) rfl (.cons (t := 2) rfl (.cons (t := 4) rfl (.cons (t := 6) rfl (.cons (t := 7) rfl (.cons (t := 11) rfl .nil)))))) ?_
    refine Q_then ?_
    refine R_seq ?_
    refine R_region ?_
    refine L_val rfl rfl rfl (OpP.v (P_move rfl rfl)) ?_
    refine L_val rfl rfl rfl (OpP.v (P_assign rfl rfl)) ?_
    refine L_val rfl rfl rfl (OpP.v (P_assign rfl rfl)) ?_
    refine L_nil ?_
    refine St.env (.cons (t := 0) rfl (.cons (t := 2) rfl (.cons (t := 4) rfl (.cons (t := 6) rfl (.cons (t := 7) rfl .nil))))) ?_
    refine Q_then ?_
    refine R_ret ?_
    refine Q_then_ret ?_
    exact R_end (rs2 := []) rfl rfl (.tmp rfl (.tmp rfl .nil)) (⟨⟨false, _, rfl, by rw [Bool.false_or]; exact clashB_of hne hroot.symm⟩, rfl⟩) (Weak.nil _)
  · skip
    have heq := Classical.not_not.1 hne
    obtain ⟨hnn, htop⟩ := rootText_inj (by omega) (by omega) heq
    subst hnn
    refine R_skip ?_
    refine Q_then ?_
    refine R_seq ?_
    refine R_region ?_
    refine L_val rfl rfl rfl (OpP.v (P_move rfl rfl)) ?_
    refine L_val rfl rfl rfl (OpP.v (P_fld0 rfl ty_fl_57_1 rfl)) ?_
    refine L_val rfl rfl rfl (V_load rfl rfl ty_sc_3 (Rd.blk .h3 rfl)) ?_
    refine L_val rfl rfl rfl (OpP.v (P_fld0 rfl ty_fl_57_2 rfl)) ?_
    refine L_val rfl rfl rfl (V_load rfl rfl ty_sc_55 (Rd.blk .h3 rfl)) ?_
    refine L_val rfl rfl rfl (OpP.v (P_move rfl rfl)) ?_
    refine L_op rfl (W_call rfl rfl rfl rfl fn_ca_60 (down_ok hG (va.length + 1) ba ca va xss i bh ch hs ib ic item (by omega) hn1 hn2 hin hvx hca (fun x hx => ⟨by have := g3 x hx; omega, hbx x hx⟩) hlen hh hHB hch hic ⟨by omega, hib⟩ htop) (Split.nil _) (fun w a b _ hb dj m => ⟨Items.row hpre.1 rfl w ⟨_, hb, m.le (Heap.le_join_right dj)⟩, (Sn.row hpre.2.1 rfl).rw_ w ⟨_, hb, m.le (Heap.le_join_right dj)⟩, (Sn.row hpre.2.2 rfl).rw_ w ⟨_, hb, m.le (Heap.le_join_right dj)⟩⟩) fun v44 rs1 ⟨⟨s1, c1, e1, hsc1⟩, e2⟩ => ?_)
    subst e1; subst e2
    refine L_val rfl rfl rfl (OpP.v (P_extract rfl rfl rfl)) ?_
    refine L_val rfl rfl rfl (OpP.v (P_extract rfl rfl rfl)) ?_
    refine L_val rfl rfl rfl (OpP.v (P_assign rfl rfl)) ?_
    refine L_val rfl rfl rfl (OpP.v (P_assign rfl rfl)) ?_
    refine L_nil ?_
    refine St.env (.cons (t := 6) rfl (.cons (t := 7) rfl .nil)) ?_
    refine Q_then ?_
    refine R_ret ?_
    exact R_end (rs2 := []) rfl rfl (.tmp rfl (.tmp rfl .nil)) (⟨⟨s1, c1, rfl, hsc1⟩, rfl⟩) (Weak.nil _)
theorem digestBinds_walk {gl : Nat → Obj} (hG : GlobsR gl) (ba : Option Addr) (ca : Nat) (va : List Value) (xss : List (List Int)) (hvx : va.length = xss.length) (hca : va.length ≤ ca) (hbx : ∀ x ∈ xss, IsB x) (hma : va.length ≤ 70368744177664) (total index : Int) (bh : Option Addr) (ch : Nat) (hs : List (List Int)) (ib : Option Addr) (ic : Nat) (item : List Int) (hh : ∀ h ∈ hs, h.length = 32) (hHB : ∀ h ∈ hs, IsB h) (hch : hs.length ≤ ch) (hic : item.length ≤ ic) (hib : IsB item) (hw : 32 * hs.length ≤ 140737488351232) : SpecV (cx gl) 10 [.slice ba va.length ca, .agg [.int .i64 total, .int .i64 index, .slice bh hs.length ch].toArray, .slice ib item.length ic] (fun w => Items w ba va xss ∧ Row w bh (flat .u8 hs) ∧ Row w ib (ints .u8 item)) (.bool true) := by
  refine Spec.enter (C := cx gl) Tryd.func10 rfl 74 rfl rfl fun w0 h0 hsep hsub hpre => ?_
  obtain rfl : h0 = Heap.none := hsep
  show St (cx gl) _ [(0, .slice ba va.length ca), (1, .agg [.int .i64 total, .int .i64 index, .slice bh hs.length ch].toArray), (2, .slice ib item.length ic)] _ _
  refine R_seq ?_
  refine R_region ?_
  refine L_op rfl (W_box ([.int .i64 total, .int .i64 index, .slice bh hs.length ch]) rfl rfl rfl rfl rfl fun b4 => ?_)
  refine L_val rfl rfl rfl (OpP.v (P_assign rfl rfl)) ?_
  refine L_nil ?_
  refine St.env (.cons (t := 0) rfl (.cons (t := 2) rfl (.cons (t := 4) rfl (.cons (t := 6) rfl .nil)))) ?_
  refine Q_then ?_
  refine R_seq ?_
  refine R_region ?_
  refine L_op rfl (W_callV rfl rfl rfl rfl fn_ca_20 (alive_ok hG.toGlobs) (fun _ _ => trivial) ?_)
  refine E_true (t := 15) rfl (rfl) ?_
  refine L_val rfl rfl rfl (OpP.v (P_assign rfl rfl)) ?_
  refine L_nil ?_
  refine St.env (.cons (t := 0) rfl (.cons (t := 2) rfl (.cons (t := 4) rfl (.cons (t := 6) rfl (.cons (t := 7) rfl .nil))))) ?_
  refine Q_then ?_
  refine R_seq ?_
  refine R_seq ?_
  refine R_region ?_
  refine L_val rfl rfl rfl (OpP.v (P_move rfl rfl)) ?_
  refine L_val rfl rfl rfl (OpP.v (P_not rfl rfl)) ?_
  refine L_nil ?_
  refine St.env (.cons (t := 0) rfl (.cons (t := 2) rfl (.cons (t := 4) rfl (.cons (t := 6) rfl (.cons (t := 7) rfl (.cons (t := 17) rfl .nil)))))) ?_
  refine Q_then ?_
  refine R_condF rfl ?_
  refine R_skip ?_
  refine Q_then ?_
  refine R_seq ?_
  refine R_region ?_
  refine L_val rfl rfl rfl (OpP.v (P_move rfl rfl)) ?_
  refine L_op rfl (W_callV rfl rfl rfl rfl fn_ca_25 (root_ok hG.toGlobs ba ca va xss hvx hca (by omega)) (Items.row hpre.1 rfl) ?_)
  refine L_val rfl rfl rfl (OpP.v (P_move rfl rfl)) ?_
  refine L_val rfl rfl rfl (OpP.v (P_extract rfl rfl rfl)) ?_
  refine L_val rfl rfl rfl (OpP.v (P_extract rfl rfl rfl)) ?_
  refine L_op rfl (W_alloc rfl rfl rfl ty_ze_23 fun b8 => ?_)
  refine L_op rfl (W_storeAll rfl rfl rfl rfl ty_ag_23 (by rw [ints_length, rootD_length]) (ints_one) .h0 (by rw [ints_length, rootD_length]; rfl) ?_)
  refine L_val rfl rfl rfl (OpP.v (P_assign rfl rfl)) ?_
  refine L_nil ?_
  refine St.env (.cons (t := 0) rfl (.cons (t := 2) rfl (.cons (t := 4) rfl (.cons (t := 6) rfl (.cons (t := 7) rfl (.cons (t := 8) rfl (.cons (t := 9) rfl .nil))))))) ?_
  refine Q_then ?_
  refine R_seq ?_
  refine R_region ?_
  refine L_val rfl rfl rfl (OpP.v (P_move rfl rfl)) ?_
  refine L_op rfl (W_callV rfl rfl rfl rfl fn_ca_26 (rroot_ok hG ba ca va xss hvx hca (by omega)) (Items.row hpre.1 rfl) ?_)
  refine L_val rfl rfl rfl (OpP.v (P_move rfl rfl)) ?_
  refine L_val rfl rfl rfl (OpP.v (P_extract rfl rfl rfl)) ?_
  refine L_val rfl rfl rfl (OpP.v (P_extract rfl rfl rfl)) ?_
  refine L_op rfl (W_alloc rfl rfl rfl ty_ze_23 fun b10 => ?_)
  refine L_op rfl (W_storeAll rfl rfl rfl rfl ty_ag_23 (by rw [ints_length, rootD_length]) (ints_one) .h0 (by rw [ints_length, rootD_length]; rfl) ?_)
  refine L_val rfl rfl rfl (OpP.v (P_assign rfl rfl)) ?_
  refine L_nil ?_
  refine St.env (.cons (t := 0) rfl (.cons (t := 2) rfl (.cons (t := 4) rfl (.cons (t := 6) rfl (.cons (t := 7) rfl (.cons (t := 8) rfl (.cons (t := 9) rfl (.cons (t := 10) rfl (.cons (t := 11) rfl .nil))))))))) ?_
  refine Q_then ?_
  refine R_seq ?_
  refine R_seq ?_
  refine R_region ?_
  refine L_val rfl rfl rfl (OpP.v (P_move rfl rfl)) ?_
  refine L_val rfl rfl rfl (OpP.v (P_move rfl rfl)) ?_
  refine L_val rfl rfl rfl (OpP.v (P_neq rfl rfl rfl)) ?_
  refine E_false (t := 30) rfl (decide_eq_false (by simp)) ?_
  refine L_val rfl rfl rfl (OpP.v (P_move rfl rfl)) ?_
  refine L_val rfl rfl rfl (V_loadAgg rfl rfl ty_ag_23 (Rds.blk .h1) (by rw [ints_length, rootD_length])) ?_
  refine L_val rfl rfl rfl (V_loadAgg rfl rfl ty_ag_23 (Rds.blk .h0) (by rw [ints_length, rootD_length])) ?_
  refine L_val rfl rfl rfl (OpP.v (P_neArr rfl rfl rfl ty_un_23 ty_int_5 ty_sc_5 ty_eg_23 (rootD_length _) (rootD_length _))) ?_
  refine E_false (t := 34) rfl (decide_eq_false (by simp)) ?_
  refine L_val rfl rfl rfl (OpP.v (P_pick rfl rfl rfl)) ?_
  refine L_nil ?_
  refine St.env (.cons (t := 0) rfl (.cons (t := 2) rfl (.cons (t := 4) rfl (.cons (t := 6) rfl (.cons (t := 7) rfl (.cons (t := 8) rfl (.cons (t := 9) rfl (.cons (t := 35) rfl .nil)))))))) ?_
  refine Q_then ?_
  refine R_condF rfl ?_
  refine R_skip ?_
  refine Q_then ?_
  refine R_seq ?_
  refine R_seq ?_
  refine R_region ?_
  refine L_val rfl rfl rfl (OpP.v (P_move rfl rfl)) ?_
  refine L_val rfl rfl rfl (OpP.v (P_neq rfl rfl rfl)) ?_
  refine L_nil ?_
  refine St.env (.cons (t := 0) rfl (.cons (t := 2) rfl (.cons (t := 4) rfl (.cons (t := 6) rfl (.cons (t := 7) rfl (.cons (t := 8) rfl (.cons (t := 37) rfl .nil))))))) ?_
  refine Q_then ?_
  refine R_condP rfl (fun he => ?_) (fun he => ?_)
  · skip
    refine R_seq ?_
    refine R_region ?_
    refine L_val rfl rfl rfl (OpP.v (P_assign rfl rfl)) ?_
    refine L_nil ?_
    refine St.env (.cons (t := 0) rfl (.cons (t := 2) rfl (.cons (t := 4) rfl (.cons (t := 6) rfl (.cons (t := 7) rfl (.cons (t := 8) rfl .nil)))))) ?_
    refine Q_then ?_
    refine R_ret ?_
    refine Q_then_ret ?_
    exact R_endV rfl rfl (.tmp rfl .nil) (rfl)
  · skip
    have hB : bigL xss = false := by cases hq : bigL xss with | false => rfl | true => simp [rootE, hq] at he
    refine R_skip ?_
    refine Q_then ?_
    refine R_seq ?_
    refine R_region ?_
    refine L_val rfl rfl rfl (V_loadAgg rfl rfl ty_ag_23 (Rds.blk .h1) (by rw [ints_length, rootD_length])) ?_
    refine L_val rfl rfl rfl (V_loadAgg rfl rfl ty_ag_57 (Rds.blk .h2) (rfl)) ?_
    refine L_val rfl rfl rfl (OpP.v (P_move rfl rfl)) ?_
    refine L_op rfl (W_callV rfl rfl rfl rfl fn_ca_29 (verify_ok hG.toGlobs (rootD xss) (rootD_length _) total index bh ch hs ib ic item hh hch (by omega) hic) (fun w nw => ⟨(Sn.row hpre.2.1 rfl).rw_ w nw, (Sn.row hpre.2.2 rfl).rw_ w nw⟩) ?_)
    refine L_val rfl rfl rfl (OpP.v (P_assign rfl rfl)) ?_
    refine L_nil ?_
    refine St.env (.cons (t := 0) rfl (.cons (t := 2) rfl (.cons (t := 4) rfl (.cons (t := 6) rfl (.cons (t := 7) rfl (.cons (t := 12) rfl .nil)))))) ?_
    refine Q_then ?_
    refine R_seq ?_
    refine R_seq ?_
    refine R_region ?_
    refine L_val rfl rfl rfl (OpP.v (P_move rfl rfl)) ?_
    refine L_val rfl rfl rfl (OpP.v (P_neq rfl rfl rfl)) ?_
    refine L_nil ?_
    refine St.env (.cons (t := 0) rfl (.cons (t := 2) rfl (.cons (t := 4) rfl (.cons (t := 6) rfl (.cons (t := 7) rfl (.cons (t := 12) rfl (.cons (t := 43) rfl .nil))))))) ?_
    refine Q_then ?_
    refine R_condP rfl (fun hv => ?_) (fun hv => ?_)
    · skip
      refine R_seq ?_
      refine R_region ?_
      refine L_val rfl rfl rfl (OpP.v (P_move rfl rfl)) ?_
      refine L_val rfl rfl rfl (OpP.v (P_eql rfl rfl rfl)) ?_
      refine E_bool (t := 45) rfl (fun a4 => ?_) (fun a4 => ?_)
      · skip
        refine L_val rfl rfl rfl (OpP.v (P_move rfl rfl)) ?_
        refine L_no rfl rfl rfl ?_
        refine L_no rfl rfl rfl ?_
        refine L_val rfl rfl rfl (OpP.v (P_pick rfl rfl rfl)) ?_
        refine L_val rfl rfl rfl (OpP.v (P_move rfl rfl)) ?_
        refine L_no rfl rfl rfl ?_
        refine L_no rfl rfl rfl ?_
        refine L_val rfl rfl rfl (OpP.v (P_pick rfl rfl rfl)) ?_
        refine L_val rfl rfl rfl (OpP.v (P_assign rfl rfl)) ?_
        refine L_nil ?_
        refine St.env (.cons (t := 0) rfl (.cons (t := 2) rfl (.cons (t := 4) rfl (.cons (t := 6) rfl (.cons (t := 7) rfl .nil))))) ?_
        refine Q_then ?_
        refine R_ret ?_
        refine Q_then_ret ?_
        exact R_endV rfl rfl (.tmp rfl .nil) (rfl)
      · skip
        refine L_val rfl rfl rfl (OpP.v (P_move rfl rfl)) ?_
        refine L_val rfl rfl rfl (OpP.v (P_move rfl rfl)) ?_
        refine L_val rfl rfl rfl (OpP.v (P_eql rfl rfl rfl)) ?_
        refine E_bool (t := 48) rfl (fun a20 => ?_) (fun a20 => ?_)
        · skip
          refine L_val rfl rfl rfl (OpP.v (P_pick rfl rfl rfl)) ?_
          refine L_val rfl rfl rfl (OpP.v (P_move rfl rfl)) ?_
          refine L_no rfl rfl rfl ?_
          refine L_no rfl rfl rfl ?_
          refine L_val rfl rfl rfl (OpP.v (P_pick rfl rfl rfl)) ?_
          refine L_val rfl rfl rfl (OpP.v (P_assign rfl rfl)) ?_
          refine L_nil ?_
          refine St.env (.cons (t := 0) rfl (.cons (t := 2) rfl (.cons (t := 4) rfl (.cons (t := 6) rfl (.cons (t := 7) rfl .nil))))) ?_
          refine Q_then ?_
          refine R_ret ?_
          refine Q_then_ret ?_
          exact R_endV rfl rfl (.tmp rfl .nil) (rfl)
        · skip
          refine L_val rfl rfl rfl (OpP.v (P_pick rfl rfl rfl)) ?_
          refine L_val rfl rfl rfl (OpP.v (P_move rfl rfl)) ?_
          refine L_val rfl rfl rfl (OpP.v (P_move rfl rfl)) ?_
          refine L_val rfl rfl rfl (OpP.v (P_eql rfl rfl rfl)) ?_
          refine L_val rfl rfl rfl (OpP.v (P_pick rfl rfl rfl)) ?_
          refine L_val rfl rfl rfl (OpP.v (P_assign rfl rfl)) ?_
          refine L_nil ?_
          refine St.env (.cons (t := 0) rfl (.cons (t := 2) rfl (.cons (t := 4) rfl (.cons (t := 6) rfl (.cons (t := 7) rfl .nil))))) ?_
          refine Q_then ?_
          refine R_ret ?_
          refine Q_then_ret ?_
          exact R_endV rfl rfl (.tmp rfl .nil) (congrArg Value.bool (decide_eq_true (by have h4 := of_decide_eq_false a4; have h20 := of_decide_eq_false a20; rcases verE_cases (rootD xss) total index hs item with h | h | h | h <;> first | exact h | exact absurd h hv | exact absurd h h4 | exact absurd h h20)))
    · skip
      obtain ⟨him, hf, hsr⟩ := verE_zero (Classical.not_not.1 hv)
      obtain ⟨n, i, rfl, rfl, hn1, hn2, hin, hlen⟩ := fitsB_true hf
      have hroot : sha (2 :: (numB (n : Int) ++ leadH n i hs (leafH item))) = rootH xss.length (topH (leaves xss)) := by have h := hsr; rw [rootD, hB] at h; simpa using h
      refine R_skip ?_
      refine Q_then ?_
      refine R_seq ?_
      refine R_region ?_
      refine L_val rfl rfl rfl (V_loadAgg rfl rfl ty_ag_57 (Rds.blk .h2) (rfl)) ?_
      refine L_op rfl (W_callV rfl rfl rfl rfl fn_ca_35 (fits_ok _ _ bh hs.length ch (by omega)) (fun _ _ => trivial) ?_)
      refine E_true (t := 55) rfl (hf) ?_
      refine L_val rfl rfl rfl (OpP.v (P_assign rfl rfl)) ?_
      refine L_nil ?_
      refine St.env (.cons (t := 0) rfl (.cons (t := 2) rfl (.cons (t := 4) rfl (.cons (t := 6) rfl (.cons (t := 7) rfl .nil))))) ?_
      refine Q_then ?_
      refine R_seq ?_
      refine R_seq ?_
      refine R_region ?_
      refine L_val rfl rfl rfl (OpP.v (P_move rfl rfl)) ?_
      refine L_val rfl rfl rfl (OpP.v (P_not rfl rfl)) ?_
      refine L_val rfl rfl rfl (OpP.v (P_move rfl rfl)) ?_
      refine L_val rfl rfl rfl (OpP.v (P_move rfl rfl)) ?_
      refine L_val rfl rfl rfl (OpP.v (P_len rfl ty_sl_26 rfl)) ?_
      refine L_val rfl rfl rfl (OpP.v (P_gtr rfl rfl rfl)) ?_
      refine E_false (t := 61) rfl (decide_eq_false (by omega)) ?_
      refine L_val rfl rfl rfl (OpP.v (P_pick rfl rfl rfl)) ?_
      refine L_nil ?_
      refine St.env (.cons (t := 0) rfl (.cons (t := 2) rfl (.cons (t := 4) rfl (.cons (t := 6) rfl (.cons (t := 62) rfl .nil))))) ?_
      refine Q_then ?_
      refine R_condF rfl ?_
      refine R_skip ?_
      refine Q_then ?_
      refine R_seq ?_
      refine R_region ?_
      refine L_val rfl rfl rfl (OpP.v (P_move rfl rfl)) ?_
      refine L_val rfl rfl rfl (V_loadAgg rfl rfl ty_ag_57 (Rds.blk .h2) (rfl)) ?_
      refine L_val rfl rfl rfl (OpP.v (P_move rfl rfl)) ?_
      refine L_op rfl (W_call rfl rfl rfl rfl fn_ca_36 (beside_ok hG ba ca va xss hvx hca hbx hB n i bh ch hs ib ic item hh hHB hch hic hib hn1 hn2 hin hlen him hroot) (Split.nil _) (fun w a b _ hb dj m => ⟨Items.row hpre.1 rfl w ⟨_, hb, m.le (Heap.le_join_right dj)⟩, (Sn.row hpre.2.1 rfl).rw_ w ⟨_, hb, m.le (Heap.le_join_right dj)⟩, (Sn.row hpre.2.2 rfl).rw_ w ⟨_, hb, m.le (Heap.le_join_right dj)⟩⟩) fun v67 rs1 ⟨⟨s1, c1, e1, hsc1⟩, e2⟩ => ?_)
      subst e1; subst e2
      refine L_val rfl rfl rfl (OpP.v (P_move rfl rfl)) ?_
      refine L_val rfl rfl rfl (OpP.v (P_extract rfl rfl rfl)) ?_
      refine L_val rfl rfl rfl (OpP.v (P_extract rfl rfl rfl)) ?_
      refine L_val rfl rfl rfl (OpP.v (P_assign rfl rfl)) ?_
      refine L_val rfl rfl rfl (OpP.v (P_assign rfl rfl)) ?_
      refine L_nil ?_
      refine St.env (.cons (t := 6) rfl (.cons (t := 13) rfl (.cons (t := 14) rfl .nil))) ?_
      refine Q_then ?_
      refine R_seq ?_
      refine R_region ?_
      refine L_val rfl rfl rfl (OpP.v (P_move rfl rfl)) ?_
      refine E_bool (t := 70) rfl (fun hs1 => ?_) (fun hs1 => ?_)
      · skip
        refine L_val rfl rfl rfl (OpP.v (P_move rfl rfl)) ?_
        refine L_no rfl rfl rfl ?_
        refine L_val rfl rfl rfl (OpP.v (P_pick rfl rfl rfl)) ?_
        refine L_val rfl rfl rfl (OpP.v (P_assign rfl rfl)) ?_
        refine L_nil ?_
        refine St.env (.cons (t := 6) rfl .nil) ?_
        refine Q_then ?_
        refine R_ret ?_
        exact R_endV rfl rfl (.tmp rfl .nil) (rfl)
      · skip
        refine L_val rfl rfl rfl (OpP.v (P_move rfl rfl)) ?_
        refine L_val rfl rfl rfl (OpP.v (P_move rfl rfl)) ?_
        refine L_val rfl rfl rfl (OpP.v (P_pick rfl rfl rfl)) ?_
        refine L_val rfl rfl rfl (OpP.v (P_assign rfl rfl)) ?_
        refine L_nil ?_
        refine St.env (.cons (t := 6) rfl .nil) ?_
        refine Q_then ?_
        refine R_ret ?_
        exact R_endV rfl rfl (.tmp rfl .nil) (congrArg Value.bool (by rw [hs1, Bool.false_or] at hsc1; exact hsc1))
end Go.Proofs.YtldndhekjhlbmaaDoor
