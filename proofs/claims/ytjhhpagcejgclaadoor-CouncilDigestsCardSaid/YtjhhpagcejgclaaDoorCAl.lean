/- The walk of alive. Printed by gen.py. -/
import Derived.Test.YtjhhpagcejgclaaDoorC5
set_option linter.unusedVariables false
set_option linter.unusedSimpArgs false
set_option maxRecDepth 100000
namespace Go.Proofs.YtjhhpagcejgclaaDoor
open Go Go.RowKit Go.Proofs
def al3 : List Mem := [Mem.mk 1 1 0, Mem.mk 2 2 0, Mem.mk 3 3 0]
theorem al3_ok : ∀ m ∈ al3, m.ok := by intro m hm; simp only [al3, List.mem_cons, List.not_mem_nil, or_false] at hm; rcases hm with rfl | rfl | rfl <;> exact ⟨by decide, by decide, by decide⟩
theorem al3_p : propE (newL al3) 0 = 0 ∧ propE (newL al3) 1 = 0 ∧ propE (newL al3) 2 = 0 ∧ propA (newL al3) 0 = 3 ∧ propA (newL al3) 1 = 2 ∧ propA (newL al3) 2 = 1 ∧ soundT (newL al3) = 6 ∧ memE al3 = 0 := by decide +kernel
theorem alive_ok {gl : Nat → Obj} : SpecV (cx gl) 4 [] noPre (.bool true) := by
  refine Spec.enter (C := cx gl) Tryd.func4 rfl 63 rfl rfl fun w0 h0 hsep hsub hpre => ?_
  obtain rfl : h0 = Heap.none := hsep
  show St (cx gl) _ [] _ _
  refine R_seq ?_
  refine R_region ?_
  refine L_val rfl rfl rfl (OpP.v (P_assign rfl rfl)) ?_
  refine L_nil ?_
  refine Q_then ?_
  refine R_seq ?_
  refine R_region ?_
  refine L_val rfl rfl rfl (OpP.v (P_buildStruct rfl ty_pl_37 ty_ze_37 rfl rfl (rfl))) ?_
  refine L_val rfl rfl rfl (OpP.v (P_buildStruct rfl ty_pl_37 ty_ze_37 rfl rfl (rfl))) ?_
  refine L_val rfl rfl rfl (OpP.v (P_buildStruct rfl ty_pl_37 ty_ze_37 rfl rfl (rfl))) ?_
  refine L_op rfl (W_lit (z := .nilIface) (memC al3) rfl rfl rfl ty_sl_22 ty_lz_22 rfl rfl rfl (by decide) (by decide) (by intro v hv; simp only [List.mem_cons, List.not_mem_nil, or_false] at hv; rcases hv with rfl | rfl | rfl <;> rfl) (rfl) fun b13 => ?_)
  refine L_op rfl (W_call rfl rfl rfl rfl fn_ca_7 (New_ok (some ⟨b13, 0, none⟩) 3 al3 (by decide) (by decide) al3_ok) (Split.nil _) (fun w a b _ hb dj m => (Sn.ofBlk .h0).rw_ w ⟨_, hb, m.le (Heap.le_join_right dj)⟩) fun v14 rs1 ⟨u, e1, e2⟩ => ?_)
  subst e1; subst e2
  rw [newM_fine al3_p.2.2.2.2.2.2.2]
  refine St.ownForm (p := []) fun ub uc huv huc => ?_
  subst huv
  refine L_val rfl rfl rfl (OpP.v (P_move rfl rfl)) ?_
  refine L_val rfl rfl rfl (OpP.v (P_extract rfl rfl rfl)) ?_
  refine L_val rfl rfl rfl (OpP.v (P_extract rfl rfl rfl)) ?_
  refine L_op rfl (W_alloc rfl rfl rfl ty_ze_24 fun b1 => ?_)
  refine L_op rfl (W_storeAll rfl rfl rfl rfl ty_ag_24 (rfl) (by intro v hv; simp only [List.mem_singleton] at hv; subst hv; rfl) .h0 (rfl) ?_)
  refine L_val rfl rfl rfl (OpP.v (P_assign rfl rfl)) ?_
  refine L_nil ?_
  refine St.env (.cons (t := 0) rfl (.cons (t := 1) rfl (.cons (t := 2) rfl .nil))) ?_
  refine Q_then ?_
  refine R_seq ?_
  refine R_region ?_
  refine L_val rfl rfl rfl (V_loadAgg rfl rfl ty_ag_24 (Rds.blk .h0) (rfl)) ?_
  refine L_op rfl (W_callV rfl rfl rfl rfl fn_ca_8 (Proposer_ok ub uc (newL al3) huc (by decide) (newL_ok al3_ok) 0) ((Sn.own .h1 rfl).rw_) ?_)
  refine L_val rfl rfl rfl (OpP.v (P_move rfl rfl)) ?_
  refine L_val rfl rfl rfl (OpP.v (P_extract rfl rfl rfl)) ?_
  refine L_val rfl rfl rfl (OpP.v (P_extract rfl rfl rfl)) ?_
  refine L_val rfl rfl rfl (OpP.v (P_assign rfl rfl)) ?_
  refine L_val rfl rfl rfl (OpP.v (P_assign rfl rfl)) ?_
  refine L_nil ?_
  refine St.env (.cons (t := 0) rfl (.cons (t := 1) rfl (.cons (t := 2) rfl (.cons (t := 3) rfl (.cons (t := 4) rfl .nil))))) ?_
  refine Q_then ?_
  refine R_seq ?_
  refine R_region ?_
  refine L_val rfl rfl rfl (V_loadAgg rfl rfl ty_ag_24 (Rds.blk .h0) (rfl)) ?_
  refine L_op rfl (W_callV rfl rfl rfl rfl fn_ca_8 (Proposer_ok ub uc (newL al3) huc (by decide) (newL_ok al3_ok) 1) ((Sn.own .h1 rfl).rw_) ?_)
  refine L_val rfl rfl rfl (OpP.v (P_move rfl rfl)) ?_
  refine L_val rfl rfl rfl (OpP.v (P_extract rfl rfl rfl)) ?_
  refine L_val rfl rfl rfl (OpP.v (P_extract rfl rfl rfl)) ?_
  refine L_val rfl rfl rfl (OpP.v (P_assign rfl rfl)) ?_
  refine L_val rfl rfl rfl (OpP.v (P_assign rfl rfl)) ?_
  refine L_nil ?_
  refine St.env (.cons (t := 0) rfl (.cons (t := 1) rfl (.cons (t := 2) rfl (.cons (t := 3) rfl (.cons (t := 4) rfl (.cons (t := 5) rfl (.cons (t := 6) rfl .nil))))))) ?_
  refine Q_then ?_
  refine R_seq ?_
  refine R_region ?_
  refine L_val rfl rfl rfl (V_loadAgg rfl rfl ty_ag_24 (Rds.blk .h0) (rfl)) ?_
  refine L_op rfl (W_callV rfl rfl rfl rfl fn_ca_8 (Proposer_ok ub uc (newL al3) huc (by decide) (newL_ok al3_ok) 2) ((Sn.own .h1 rfl).rw_) ?_)
  refine L_val rfl rfl rfl (OpP.v (P_move rfl rfl)) ?_
  refine L_val rfl rfl rfl (OpP.v (P_extract rfl rfl rfl)) ?_
  refine L_val rfl rfl rfl (OpP.v (P_extract rfl rfl rfl)) ?_
  refine L_val rfl rfl rfl (OpP.v (P_assign rfl rfl)) ?_
  refine L_val rfl rfl rfl (OpP.v (P_assign rfl rfl)) ?_
  refine L_nil ?_
  refine St.env (.cons (t := 0) rfl (.cons (t := 1) rfl (.cons (t := 2) rfl (.cons (t := 3) rfl (.cons (t := 4) rfl (.cons (t := 5) rfl (.cons (t := 6) rfl (.cons (t := 7) rfl (.cons (t := 8) rfl .nil))))))))) ?_
  refine Q_then ?_
  refine R_seq ?_
  refine R_region ?_
  refine L_val rfl rfl rfl (OpP.v (P_move rfl rfl)) ?_
  refine L_val rfl rfl rfl (OpP.v (P_eql rfl rfl rfl)) ?_
  refine E_true (t := 33) rfl (decide_eq_true al3_p.2.2.2.2.2.2.2) ?_
  refine L_val rfl rfl rfl (OpP.v (P_move rfl rfl)) ?_
  refine L_val rfl rfl rfl (OpP.v (P_move rfl rfl)) ?_
  refine L_val rfl rfl rfl (OpP.v (P_eql rfl rfl rfl)) ?_
  refine E_true (t := 36) rfl (decide_eq_true al3_p.1) ?_
  refine L_val rfl rfl rfl (OpP.v (P_pick rfl rfl rfl)) ?_
  refine L_val rfl rfl rfl (OpP.v (P_move rfl rfl)) ?_
  refine L_val rfl rfl rfl (OpP.v (P_move rfl rfl)) ?_
  refine L_val rfl rfl rfl (OpP.v (P_eql rfl rfl rfl)) ?_
  refine E_true (t := 40) rfl (decide_eq_true al3_p.2.1) ?_
  refine L_val rfl rfl rfl (OpP.v (P_pick rfl rfl rfl)) ?_
  refine L_val rfl rfl rfl (OpP.v (P_move rfl rfl)) ?_
  refine L_val rfl rfl rfl (OpP.v (P_move rfl rfl)) ?_
  refine L_val rfl rfl rfl (OpP.v (P_eql rfl rfl rfl)) ?_
  refine E_true (t := 44) rfl (decide_eq_true al3_p.2.2.1) ?_
  refine L_val rfl rfl rfl (OpP.v (P_pick rfl rfl rfl)) ?_
  refine L_val rfl rfl rfl (OpP.v (P_move rfl rfl)) ?_
  refine L_val rfl rfl rfl (OpP.v (P_move rfl rfl)) ?_
  refine L_val rfl rfl rfl (OpP.v (P_eql rfl rfl rfl)) ?_
  refine E_true (t := 48) rfl (decide_eq_true al3_p.2.2.2.1) ?_
  refine L_val rfl rfl rfl (OpP.v (P_pick rfl rfl rfl)) ?_
  refine L_val rfl rfl rfl (OpP.v (P_move rfl rfl)) ?_
  refine L_val rfl rfl rfl (OpP.v (P_move rfl rfl)) ?_
  refine L_val rfl rfl rfl (OpP.v (P_eql rfl rfl rfl)) ?_
  refine E_true (t := 52) rfl (decide_eq_true al3_p.2.2.2.2.1) ?_
  refine L_val rfl rfl rfl (OpP.v (P_pick rfl rfl rfl)) ?_
  refine L_val rfl rfl rfl (OpP.v (P_move rfl rfl)) ?_
  refine L_val rfl rfl rfl (OpP.v (P_move rfl rfl)) ?_
  refine L_val rfl rfl rfl (OpP.v (P_eql rfl rfl rfl)) ?_
  refine E_true (t := 56) rfl (decide_eq_true al3_p.2.2.2.2.2.1) ?_
  refine L_val rfl rfl rfl (OpP.v (P_pick rfl rfl rfl)) ?_
  refine L_val rfl rfl rfl (OpP.v (P_move rfl rfl)) ?_
  refine L_val rfl rfl rfl (V_loadAgg rfl rfl ty_ag_24 (Rds.blk .h0) (rfl)) ?_
  refine L_op rfl (W_callV rfl rfl rfl rfl fn_ca_9 (Total_ok ub uc (newL al3) huc (by decide) (newL_ok al3_ok)) ((Sn.own .h1 rfl).rw_) ?_)
  refine L_val rfl rfl rfl (OpP.v (P_eql rfl rfl rfl)) ?_
  refine E_true (t := 61) rfl (decide_eq_true al3_p.2.2.2.2.2.2.1) ?_
  refine L_val rfl rfl rfl (OpP.v (P_pick rfl rfl rfl)) ?_
  refine L_val rfl rfl rfl (OpP.v (P_assign rfl rfl)) ?_
  refine L_nil ?_
  refine St.env (.cons (t := 0) rfl .nil) ?_
  refine Q_then ?_
  refine R_ret ?_
  exact R_endV rfl rfl (.tmp rfl .nil) (rfl)
end Go.Proofs.YtjhhpagcejgclaaDoor
