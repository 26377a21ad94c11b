/- The walk of alive. Printed by gen.py. -/
import Derived.Test.YtldndhekjhlbmaaDoorD9
set_option linter.unusedVariables false
set_option linter.unusedSimpArgs false
set_option maxRecDepth 100000
namespace Go.Proofs.YtldndhekjhlbmaaDoor
open Go Go.RowKit Go.Proofs
theorem sha_e0 : (sha []).getD 0 0 = 227 := by decide +kernel
theorem sha_e31 : (sha []).getD 31 0 = 85 := by decide +kernel
theorem sha_a0 : (sha [97, 98, 99]).getD 0 0 = 186 := by decide +kernel
theorem sha_a31 : (sha [97, 98, 99]).getD 31 0 = 173 := by decide +kernel
theorem sha_at {xs : List Int} {i : Nat} {n : Int} (h : i < 32) (e : (sha xs).getD i 0 = n) : (ints .u8 (sha xs))[i]? = some (.int .u8 n) := by rw [ints_at (by rw [sha_length]; exact h), e]
theorem alive_ok {gl : Nat → Obj} (hG : Globs gl) : SpecV (cx gl) 20 [] noPre (.bool true) := by
  refine Spec.enter (C := cx gl) Tryd.func20 rfl 25 rfl rfl fun w0 h0 hsep hsub hpre => ?_
  obtain rfl : h0 = Heap.none := hsep
  show St (cx gl) _ [] _ _
  refine R_seq ?_
  refine R_region ?_
  refine L_val rfl rfl rfl (OpP.v (P_assign rfl rfl)) ?_
  refine L_nil ?_
  refine Q_then ?_
  refine R_seq ?_
  refine R_region ?_
  refine L_op rfl (W_callV rfl rfl rfl rfl fn_ca_15 (sum_ok hG none 0 [] (Nat.le_refl _)) (fun _ _ => Row.nil) ?_)
  refine L_op rfl (W_alloc rfl rfl rfl ty_ze_23 fun b1 => ?_)
  refine L_op rfl (W_storeAll rfl rfl rfl rfl ty_ag_23 (by rw [ints_length, sha_length]) (ints_one) .h0 (by rw [ints_length, sha_length]; rfl) ?_)
  refine L_nil ?_
  refine St.env (.cons (t := 0) rfl (.cons (t := 1) rfl .nil)) ?_
  refine Q_then ?_
  refine R_seq ?_
  refine R_region ?_
  refine L_op rfl (W_lit (z := .nilIface) (ints .u8 [97, 98, 99]) rfl rfl rfl ty_sl_26 ty_lz_26 rfl rfl rfl (by decide) (by decide) (by simp [Value.cells]) (rfl) fun b4 => ?_)
  refine L_op rfl (W_mark rfl rfl rfl (slB_spec ty_sl_26).1 ty_int_5 rfl .h0 ?_)
  refine L_op rfl (W_callV rfl rfl rfl rfl fn_ca_15 (sum_ok hG (some ⟨b4, 0, none⟩) 3 [97, 98, 99] (by decide)) (fun w nw => (Sn.ofBlk .h0).rw_ w nw) ?_)
  refine L_op rfl (W_alloc rfl rfl rfl ty_ze_23 fun b2 => ?_)
  refine L_op rfl (W_storeAll rfl rfl rfl rfl ty_ag_23 (by rw [ints_length, sha_length]) (ints_one) .h0 (by rw [ints_length, sha_length]; rfl) ?_)
  refine L_nil ?_
  refine St.env (.cons (t := 0) rfl (.cons (t := 1) rfl (.cons (t := 2) rfl .nil))) ?_
  refine Q_then ?_
  refine R_seq ?_
  refine R_region ?_
  first | (refine L_val rfl rfl rfl (OpP.v (P_ixa0 (0) rfl ty_ar_23 rfl rfl (by first | rfl | omega) (by omega))) ?_) | (refine L_val rfl rfl rfl (OpP.v (P_ixa (0) rfl ty_ar_23 rfl rfl (by first | rfl | omega) (by omega))) ?_)
  refine L_val rfl rfl rfl (V_load rfl rfl ty_sc_5 (Rd.blk .h2 (sha_at (by decide) sha_e0))) ?_
  refine L_val rfl rfl rfl (OpP.v (P_eql rfl rfl rfl)) ?_
  refine E_true (t := 9) rfl (rfl) ?_
  refine L_val rfl rfl rfl (OpP.v (P_move rfl rfl)) ?_
  first | (refine L_val rfl rfl rfl (OpP.v (P_ixa0 (31) rfl ty_ar_23 rfl rfl (by first | rfl | omega) (by omega))) ?_) | (refine L_val rfl rfl rfl (OpP.v (P_ixa (31) rfl ty_ar_23 rfl rfl (by first | rfl | omega) (by omega))) ?_)
  refine L_val rfl rfl rfl (V_load rfl rfl ty_sc_5 (Rd.blk .h2 (sha_at (by decide) sha_e31))) ?_
  refine L_val rfl rfl rfl (OpP.v (P_eql rfl rfl rfl)) ?_
  refine E_true (t := 13) rfl (rfl) ?_
  refine L_val rfl rfl rfl (OpP.v (P_pick rfl rfl rfl)) ?_
  refine L_val rfl rfl rfl (OpP.v (P_move rfl rfl)) ?_
  first | (refine L_val rfl rfl rfl (OpP.v (P_ixa0 (0) rfl ty_ar_23 rfl rfl (by first | rfl | omega) (by omega))) ?_) | (refine L_val rfl rfl rfl (OpP.v (P_ixa (0) rfl ty_ar_23 rfl rfl (by first | rfl | omega) (by omega))) ?_)
  refine L_val rfl rfl rfl (V_load rfl rfl ty_sc_5 (Rd.blk .h0 (sha_at (by decide) sha_a0))) ?_
  refine L_val rfl rfl rfl (OpP.v (P_eql rfl rfl rfl)) ?_
  refine E_true (t := 18) rfl (rfl) ?_
  refine L_val rfl rfl rfl (OpP.v (P_pick rfl rfl rfl)) ?_
  refine L_val rfl rfl rfl (OpP.v (P_move rfl rfl)) ?_
  first | (refine L_val rfl rfl rfl (OpP.v (P_ixa0 (31) rfl ty_ar_23 rfl rfl (by first | rfl | omega) (by omega))) ?_) | (refine L_val rfl rfl rfl (OpP.v (P_ixa (31) rfl ty_ar_23 rfl rfl (by first | rfl | omega) (by omega))) ?_)
  refine L_val rfl rfl rfl (V_load rfl rfl ty_sc_5 (Rd.blk .h0 (sha_at (by decide) sha_a31))) ?_
  refine L_val rfl rfl rfl (OpP.v (P_eql rfl rfl rfl)) ?_
  refine E_true (t := 23) rfl (rfl) ?_
  refine L_val rfl rfl rfl (OpP.v (P_pick rfl rfl rfl)) ?_
  refine L_val rfl rfl rfl (OpP.v (P_assign rfl rfl)) ?_
  refine L_nil ?_
  refine St.env (.cons (t := 0) rfl .nil) ?_
  refine Q_then ?_
  refine R_ret ?_
  exact R_endV rfl rfl (.tmp rfl .nil) (rfl)
end Go.Proofs.YtldndhekjhlbmaaDoor
