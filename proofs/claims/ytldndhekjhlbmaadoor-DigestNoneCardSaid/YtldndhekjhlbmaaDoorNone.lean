/- The walk of DigestNone. Printed by gen.py. -/
import Derived.Test.YtldndhekjhlbmaaDoorAlive
set_option linter.unusedVariables false
set_option linter.unusedSimpArgs false
set_option maxRecDepth 100000
namespace Go.Proofs.YtldndhekjhlbmaaDoor
open Go Go.RowKit Go.Proofs
theorem digestNone_walk {gl : Nat → Obj} (hG : Globs gl) (v : Value) : SpecV (cx gl) 6 [v] noPre (.bool true) := by
  refine Spec.enter (C := cx gl) Tryd.func6 rfl 38 rfl rfl fun w0 h0 hsep hsub hpre => ?_
  obtain rfl : h0 = Heap.none := hsep
  show St (cx gl) _ [(0, v)] _ _
  refine R_seq ?_
  refine R_region ?_
  refine L_val rfl rfl rfl (OpP.v (P_assign rfl rfl)) ?_
  refine L_nil ?_
  refine Q_then ?_
  refine R_seq ?_
  refine R_region ?_
  refine L_val rfl rfl rfl (OpP.v (P_assign rfl rfl)) ?_
  refine L_nil ?_
  refine Q_then ?_
  refine R_seq ?_
  refine R_region ?_
  refine L_val rfl rfl rfl (OpP.v (P_buildStruct rfl ty_pl_48 ty_ze_48 rfl rfl (rfl))) ?_
  refine L_op rfl (W_box (_) rfl rfl rfl rfl rfl fun b7 => ?_)
  refine L_val rfl rfl rfl (OpP.v (P_assign rfl rfl)) ?_
  refine L_nil ?_
  refine St.env (.cons (t := 0) rfl (.cons (t := 2) rfl (.cons (t := 3) rfl (.cons (t := 4) rfl .nil)))) ?_
  refine Q_then ?_
  refine R_seq ?_
  refine R_region ?_
  refine L_val rfl rfl rfl (OpP.v (P_move rfl rfl)) ?_
  refine L_val rfl rfl rfl (OpP.v (P_move rfl rfl)) ?_
  refine L_op rfl (W_callV rfl rfl rfl rfl fn_ca_22 (write_nil gl v) (fun _ _ => trivial) ?_)
  refine L_nil ?_
  refine St.env (.cons (t := 0) rfl (.cons (t := 2) rfl (.cons (t := 3) rfl (.cons (t := 4) rfl .nil)))) ?_
  refine Q_then ?_
  refine R_seq ?_
  refine R_region ?_
  refine L_val rfl rfl rfl (OpP.v (P_move rfl rfl)) ?_
  refine L_val rfl rfl rfl (OpP.v (P_move rfl rfl)) ?_
  refine L_op rfl (W_callV rfl rfl rfl rfl fn_ca_22 (write_raw gl b7 v) (fun w nw => Rd.blk .h0 rfl w nw) ?_)
  refine L_nil ?_
  refine St.env (.cons (t := 2) rfl (.cons (t := 3) rfl (.cons (t := 4) rfl .nil))) ?_
  refine Q_then ?_
  refine R_seq ?_
  refine R_region ?_
  refine L_op rfl (W_callV rfl rfl rfl rfl fn_ca_20 (alive_ok hG) (fun _ _ => trivial) ?_)
  refine E_true (t := 14) rfl (rfl) ?_
  refine L_val rfl rfl rfl (OpP.v (P_assign rfl rfl)) ?_
  refine L_nil ?_
  refine St.env (.cons (t := 2) rfl (.cons (t := 3) rfl (.cons (t := 4) rfl (.cons (t := 5) rfl .nil)))) ?_
  refine Q_then ?_
  refine R_seq ?_
  refine R_region ?_
  refine L_val rfl rfl rfl (OpP.v (P_move rfl rfl)) ?_
  refine L_val rfl rfl rfl (OpP.v (P_move rfl rfl)) ?_
  refine L_val rfl rfl rfl (OpP.v (P_move rfl rfl)) ?_
  refine L_op rfl (W_callV rfl rfl rfl rfl fn_ca_24 (hsum_nil gl) (fun _ _ => trivial) ?_)
  refine E_as (t := 18) (v' := .agg (ints .u8 (List.replicate 32 0)).toArray) rfl rfl ?_
  refine L_val rfl rfl rfl (OpP.v (P_buildArrR rfl ty_ar_23 ty_ze_23 rfl rfl rfl (by decide) (by simp [Value.oneCell']))) ?_
  refine E_as (t := 19) (v' := .agg (ints .u8 (List.replicate 32 0)).toArray) rfl rfl ?_
  refine L_val rfl rfl rfl (OpP.v (P_eqArr rfl rfl rfl ty_un_23 ty_int_5 ty_sc_5 ty_eg_23 (rfl) (rfl))) ?_
  refine E_true (t := 20) rfl (decide_eq_true rfl) ?_
  refine L_val rfl rfl rfl (OpP.v (P_pick rfl rfl rfl)) ?_
  refine L_val rfl rfl rfl (OpP.v (P_move rfl rfl)) ?_
  refine L_val rfl rfl rfl (OpP.v (P_move rfl rfl)) ?_
  refine L_op rfl (W_callV rfl rfl rfl rfl fn_ca_24 (hsum_raw gl b7) (fun w nw => Rd.blk .h0 rfl w nw) ?_)
  refine E_as (t := 24) (v' := .agg (ints .u8 (List.replicate 32 0)).toArray) rfl rfl ?_
  refine L_val rfl rfl rfl (OpP.v (P_buildArrR rfl ty_ar_23 ty_ze_23 rfl rfl rfl (by decide) (by simp [Value.oneCell']))) ?_
  refine E_as (t := 25) (v' := .agg (ints .u8 (List.replicate 32 0)).toArray) rfl rfl ?_
  refine L_val rfl rfl rfl (OpP.v (P_eqArr rfl rfl rfl ty_un_23 ty_int_5 ty_sc_5 ty_eg_23 (rfl) (rfl))) ?_
  refine E_true (t := 26) rfl (decide_eq_true rfl) ?_
  refine L_val rfl rfl rfl (OpP.v (P_pick rfl rfl rfl)) ?_
  refine L_val rfl rfl rfl (OpP.v (P_move rfl rfl)) ?_
  refine L_val rfl rfl rfl (OpP.v (P_move rfl rfl)) ?_
  refine L_op rfl (W_callV rfl rfl rfl rfl fn_ca_23 (copy_nil gl) (fun _ _ => trivial) ?_)
  refine L_val rfl rfl rfl (OpP.v (P_eqNil0 rfl ty_ptr_33 rfl rfl)) ?_
  refine L_val rfl rfl rfl (OpP.v (P_pick rfl rfl rfl)) ?_
  refine L_val rfl rfl rfl (OpP.v (P_move rfl rfl)) ?_
  refine L_val rfl rfl rfl (OpP.v (P_move rfl rfl)) ?_
  refine L_op rfl (W_callV rfl rfl rfl rfl fn_ca_23 (copy_raw gl b7) (fun w nw => Rd.blk .h0 rfl w nw) ?_)
  refine L_val rfl rfl rfl (OpP.v (P_eqNil0 rfl ty_ptr_33 rfl rfl)) ?_
  refine L_val rfl rfl rfl (OpP.v (P_pick rfl rfl rfl)) ?_
  refine L_val rfl rfl rfl (OpP.v (P_assign rfl rfl)) ?_
  refine L_nil ?_
  refine St.env (.cons (t := 2) rfl .nil) ?_
  refine Q_then ?_
  refine R_ret ?_
  exact R_endV rfl rfl (.tmp rfl .nil) (rfl)
end Go.Proofs.YtldndhekjhlbmaaDoor
