/- The walk of DigestInners. Printed by gen.py. -/
import Derived.Test.YtldndhekjhlbmaaDoorD9
set_option linter.unusedVariables false
set_option linter.unusedSimpArgs false
set_option maxRecDepth 100000
namespace Go.Proofs.YtldndhekjhlbmaaDoor
open Go Go.RowKit Go.ChangeShapes Go.WideShapes Go.Proofs
theorem digestInners_walk {gl : Nat → Obj} (hG : GlobsR gl) (l r : List Int) (hl : l.length = 32) (hr : r.length = 32) : SpecV (cx gl) 3 [.agg (ints .u8 l).toArray, .agg (ints .u8 r).toArray] noPre (.bool true) := by
  refine Spec.enter (C := cx gl) Tryd.func3 rfl 12 rfl rfl fun w0 h0 hsep hsub hpre => ?_
  obtain rfl : h0 = Heap.none := hsep
  show St (cx gl) _ [(0, .agg (ints .u8 l).toArray), (1, .agg (ints .u8 r).toArray)] _ _
  refine R_seq ?_
  refine R_region ?_
  refine L_op rfl (W_box (ints .u8 l) rfl rfl rfl rfl rfl fun b2 => ?_)
  refine L_op rfl (W_box (ints .u8 r) rfl rfl rfl rfl rfl fun b3 => ?_)
  refine L_val rfl rfl rfl (OpP.v (P_assign rfl rfl)) ?_
  refine L_nil ?_
  refine St.env (.cons (t := 2) rfl (.cons (t := 3) rfl (.cons (t := 4) rfl .nil))) ?_
  refine Q_then ?_
  refine R_seq ?_
  refine R_open [(0, 1), (1, 1), (3, 1), (4, 1), (2, 2), (5, 2), (6, 0), (7, 0)] mixed (by kernel_rfl) (QOk.then QOk.body) ?_
  refine O_val rfl rfl rfl rfl (V_loadAgg rfl rfl ty_ag_23 (Rds.blk .h1) (by rw [ints_length, hl])) ?_
  refine O_val rfl rfl rfl rfl (V_loadAgg rfl rfl ty_ag_23 (Rds.blk .h0) (by rw [ints_length, hr])) ?_
  refine O_val rfl rfl rfl rfl (V_loadAgg rfl rfl ty_ag_23 (Rds.blk .h1) (by rw [ints_length, hl])) ?_
  refine O_val rfl rfl rfl rfl (V_loadAgg rfl rfl ty_ag_23 (Rds.blk .h0) (by rw [ints_length, hr])) ?_
  refine O_keep rfl rfl (W_callV rfl rfl rfl rfl fn_ca_12 (inner_ok hG.toGlobs l r hl hr) (fun _ _ => trivial) (K_keep (Weak.refl _) ?_))
  refine O_keep rfl rfl (W_callV rfl rfl rfl rfl fn_ca_13 (rinner_ok hG l r hl hr) (fun _ _ => trivial) (K_keep (Weak.refl _) ?_))
  refine O_pure rfl rfl rfl rfl (P_eqArr rfl rfl rfl ty_un_23 ty_int_5 ty_sc_5 ty_eg_23 (sha_length _) (sha_length _)) ?_
  refine E_true (t := 11) rfl (decide_eq_true rfl) ?_
  refine O_pure rfl rfl rfl rfl (P_assign rfl rfl) ?_
  refine O_nil ?_
  refine St.env (.cons (t := 4) rfl .nil) ?_
  refine Q_then ?_
  refine R_ret ?_
  exact R_endV rfl rfl (.tmp rfl .nil) (rfl)
end Go.Proofs.YtldndhekjhlbmaaDoor
