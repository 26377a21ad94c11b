/- The walk of DigestSums. Printed by gen.py. -/
import Derived.Test.YtldndhekjhlbmaaDoorD9
set_option linter.unusedVariables false
set_option linter.unusedSimpArgs false
set_option maxRecDepth 100000
namespace Go.Proofs.YtldndhekjhlbmaaDoor
open Go Go.RowKit Go.Proofs
theorem digestSums_walk {gl : Nat → Obj} (hG : GlobsR gl) (base : Option Addr) (c : Nat) (xs : List Int) (hc : xs.length ≤ c) (hmax : xs.length ≤ 140737488351232) (hb : IsB xs) : SpecV (cx gl) 4 [.slice base xs.length c] (fun w => Row w base (ints .u8 xs)) (.bool true) := by
  refine Spec.enter (C := cx gl) Tryd.func4 rfl 33 rfl rfl fun w0 h0 hsep hsub hpre => ?_
  obtain rfl : h0 = Heap.none := hsep
  show St (cx gl) _ [(0, .slice base xs.length c)] _ _
  refine R_seq ?_
  refine R_region ?_
  refine L_val rfl rfl rfl (OpP.v (P_assign rfl rfl)) ?_
  refine L_nil ?_
  refine Q_then ?_
  refine R_seq ?_
  refine R_region ?_
  refine L_val rfl rfl rfl (OpP.v (P_move rfl rfl)) ?_
  refine L_op rfl (W_call rfl rfl rfl rfl fn_ca_14 (roomy_ok base c xs (by omega)) (Split.nil _) (fun w a b _ _ _ m => (Sn.row hpre rfl).rw_ w ⟨_, ‹_›, m.le (Heap.le_join_right ‹_›)⟩) fun v7 rs1 (e1 : rs1 = _) => ?_)
  subst e1
  refine St.openOwn (p := []) (by omega) fun tb tcap junk htc htl htv => ?_
  subst htv
  refine St.res (rs' := [blk tb (ints .u8 (xs ++ [201, 202]) ++ junk) 5]) (Weak.refl _) ?_
  refine L_val rfl rfl rfl (OpP.v (P_assign rfl rfl)) ?_
  refine L_nil ?_
  refine St.env (.cons (t := 0) rfl (.cons (t := 2) rfl (.cons (t := 3) rfl .nil))) ?_
  refine Q_then ?_
  refine R_seq ?_
  refine R_region ?_
  refine L_val rfl rfl rfl (OpP.v (P_move rfl rfl)) ?_
  refine L_val rfl rfl rfl (OpP.v (P_move rfl rfl)) ?_
  refine L_val rfl rfl rfl (OpP.v (P_len rfl ty_sl_26 rfl)) ?_
  refine L_val rfl rfl rfl (OpP.v (P_slice 0 xs.length rfl ty_sl_26 rfl rfl ⟨_, rfl⟩ (by omega) (by omega))) ?_
  refine E_as (t := 11) (v' := .slice (some ⟨tb, 0, none⟩) xs.length tcap) rfl (by unfold sliced; rw [if_neg (by omega)]; simp [add_zero_off]) ?_
  refine L_op rfl (W_callV rfl rfl rfl rfl fn_ca_15 (sum_ok hG.toGlobs (some ⟨tb, 0, none⟩) tcap xs (by omega)) (fun w nw => (Sn.ofBlkAt .h0 fun i v h => ints_pre _ _ _ _ i v h).rw_ w nw) ?_)
  refine L_op rfl (W_alloc rfl rfl rfl ty_ze_23 fun b4 => ?_)
  refine L_op rfl (W_storeAll rfl rfl rfl rfl ty_ag_23 (by rw [ints_length, sha_length]) (ints_one) .h0 (by rw [ints_length, sha_length]; rfl) ?_)
  refine L_nil ?_
  refine St.env (.cons (t := 0) rfl (.cons (t := 2) rfl (.cons (t := 3) rfl (.cons (t := 4) rfl .nil)))) ?_
  refine Q_then ?_
  refine R_seq ?_
  refine R_region ?_
  refine L_val rfl rfl rfl (OpP.v (P_move rfl rfl)) ?_
  refine L_val rfl rfl rfl (OpP.v (P_move rfl rfl)) ?_
  refine L_val rfl rfl rfl (OpP.v (P_len rfl ty_sl_26 rfl)) ?_
  refine L_val rfl rfl rfl (OpP.v (P_slice 0 xs.length rfl ty_sl_26 rfl rfl ⟨_, rfl⟩ (by omega) (by omega))) ?_
  refine E_as (t := 16) (v' := .slice (some ⟨tb, 0, none⟩) xs.length tcap) rfl (by unfold sliced; rw [if_neg (by omega)]; simp [add_zero_off]) ?_
  refine L_op rfl (W_callV rfl rfl rfl rfl fn_ca_16 (leaf_ok hG.toGlobs (some ⟨tb, 0, none⟩) tcap xs (by omega)) (fun w nw => (Sn.ofBlkAt .h1 fun i v h => ints_pre _ _ _ _ i v h).rw_ w nw) ?_)
  refine L_op rfl (W_alloc rfl rfl rfl ty_ze_23 fun b5 => ?_)
  refine L_op rfl (W_storeAll rfl rfl rfl rfl ty_ag_23 (by rw [ints_length, sha_length]) (ints_one) .h0 (by rw [ints_length, sha_length]; rfl) ?_)
  refine L_nil ?_
  refine St.env (.cons (t := 0) rfl (.cons (t := 2) rfl (.cons (t := 3) rfl (.cons (t := 4) rfl (.cons (t := 5) rfl .nil))))) ?_
  refine Q_then ?_
  refine R_seq ?_
  refine R_open [(0, 1), (1, 0), (2, 2), (3, 0), (4, 0), (5, 1), (6, 0), (7, 2), (8, 0), (9, 0), (10, 0), (11, 0), (12, 0), (13, 2), (14, 0), (15, 0)] mixed (by kernel_rfl) (QOk.then QOk.body) ?_
  refine O_val rfl rfl rfl rfl (V_loadAgg rfl rfl ty_ag_23 (Rds.blk .h1) (by rw [ints_length, sha_length])) ?_
  refine O_pure rfl rfl rfl rfl (P_move rfl rfl) ?_
  refine O_keep rfl rfl (W_callV rfl rfl rfl rfl fn_ca_17 (rsum_ok hG base c xs hc (by omega)) (fun w nw => (Sn.row hpre rfl).rw_ w nw) (K_keep (Weak.refl _) ?_))
  refine O_pure rfl rfl rfl rfl (P_eqArr rfl rfl rfl ty_un_23 ty_int_5 ty_sc_5 ty_eg_23 (sha_length _) (sha_length _)) ?_
  refine E_true (t := 21) rfl (decide_eq_true rfl) ?_
  refine O_pure rfl rfl rfl rfl (P_move rfl rfl) ?_
  refine O_val rfl rfl rfl rfl (V_loadAgg rfl rfl ty_ag_23 (Rds.blk .h0) (by rw [ints_length, sha_length])) ?_
  refine O_pure rfl rfl rfl rfl (P_move rfl rfl) ?_
  refine O_keep rfl rfl (W_callV rfl rfl rfl rfl fn_ca_18 (rleaf_ok hG base c xs (by omega)) (fun w nw => (Sn.row hpre rfl).rw_ w nw) (K_keep (Weak.refl _) ?_))
  refine O_pure rfl rfl rfl rfl (P_eqArr rfl rfl rfl ty_un_23 ty_int_5 ty_sc_5 ty_eg_23 (sha_length _) (sha_length _)) ?_
  refine E_true (t := 26) rfl (decide_eq_true rfl) ?_
  refine O_pure rfl rfl rfl rfl (P_pick rfl rfl rfl) ?_
  refine O_pure rfl rfl rfl rfl (P_move rfl rfl) ?_
  refine O_pure rfl rfl rfl rfl (P_move rfl rfl) ?_
  refine O_pure rfl rfl rfl rfl (P_move rfl rfl) ?_
  refine O_keep rfl rfl (W_callV rfl rfl rfl rfl fn_ca_19 (kept_ok tb 0 tcap base c xs htc (by omega) hb) (fun w nw => ⟨(Sn.ofBlk .h2).rowAt 0 (fun i v h => app_at i v h) w nw, (Sn.row hpre rfl).rw_ w nw⟩) (K_keep (Weak.refl _) ?_))
  refine E_true (t := 31) rfl (rfl) ?_
  refine O_pure rfl rfl rfl rfl (P_pick rfl rfl rfl) ?_
  refine O_pure rfl rfl rfl rfl (P_assign rfl rfl) ?_
  refine O_nil ?_
  refine St.env (.cons (t := 2) rfl .nil) ?_
  refine Q_then ?_
  refine R_ret ?_
  exact R_endV rfl rfl (.tmp rfl .nil) (rfl)
end Go.Proofs.YtldndhekjhlbmaaDoor
