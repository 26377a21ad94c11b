/- The walk of CouncilOverlaps. Printed by gen.py. -/
import Derived.Test.YtjhhpagcejgclaaCPw
set_option linter.unusedVariables false
set_option linter.unusedSimpArgs false
set_option maxRecDepth 100000
namespace Go.Proofs.Ytjhhpagcejgclaa
open Go Go.RowKit Go.Proofs
theorem share_bad {k : Int} {l : List Mem} (h : soundE l ≠ 0) : shareV k l = 0 := by unfold shareV; rw [if_neg h]
theorem councilOverlaps_walk {gl : Nat → Obj} (base : Option Addr) (c : Nat) (l : List Mem) (hc : l.length ≤ c) (hmax : l.length ≤ 5864062014700) (hok : ∀ m ∈ l, m.ok) (x y : BitVec 64) : SpecV (cx gl) 4 [.agg [.slice base l.length c].toArray, .int .u64 (x.toNat : Int), .int .u64 (y.toNat : Int)] (fun w => Row w base (memC l)) (.bool true) := by
  refine Spec.enter (C := cx gl) Try.func4 rfl 104 rfl rfl fun w0 h0 hsep hsub hpre => ?_
  obtain rfl : h0 = Heap.none := hsep
  show St (cx gl) _ [(0, .agg [.slice base l.length c].toArray), (1, .int .u64 (x.toNat : Int)), (2, .int .u64 (y.toNat : Int))] _ _
  refine R_seq ?_
  refine R_region ?_
  refine L_op rfl (W_box ([.slice base l.length c]) rfl rfl rfl rfl rfl fun b3 => ?_)
  refine L_val rfl rfl rfl (OpP.v (P_assign rfl rfl)) ?_
  refine L_nil ?_
  refine St.env (.cons (t := 1) rfl (.cons (t := 2) rfl (.cons (t := 3) rfl (.cons (t := 6) rfl .nil)))) ?_
  refine Q_then ?_
  refine R_seq ?_
  refine R_region ?_
  refine L_op rfl (W_callV rfl rfl rfl rfl fn_ca_17 (alive_ok) (fun _ _ => trivial) ?_)
  refine L_val rfl rfl rfl (OpP.v (P_assign rfl rfl)) ?_
  refine L_nil ?_
  refine St.env (.cons (t := 1) rfl (.cons (t := 2) rfl (.cons (t := 3) rfl (.cons (t := 6) rfl (.cons (t := 7) rfl .nil))))) ?_
  refine Q_then ?_
  refine R_seq ?_
  refine R_seq ?_
  refine R_region ?_
  refine L_val rfl rfl rfl (OpP.v (P_move rfl rfl)) ?_
  refine L_val rfl rfl rfl (OpP.v (P_not rfl rfl)) ?_
  refine E_false (t := 14) rfl (rfl) ?_
  refine L_nil ?_
  refine St.env (.cons (t := 1) rfl (.cons (t := 2) rfl (.cons (t := 3) rfl (.cons (t := 6) rfl (.cons (t := 14) rfl .nil))))) ?_
  refine Q_then ?_
  refine R_condF rfl ?_
  refine R_skip ?_
  refine Q_then ?_
  refine R_seq ?_
  refine R_region ?_
  refine L_val rfl rfl rfl (V_loadAgg rfl rfl ty_ag_25 (Rds.blk .h0) (rfl)) ?_
  refine L_op rfl (W_callV rfl rfl rfl rfl fn_ca_20 (rSound_ok base c l hc hmax hok) ((Sn.row hpre rfl).rw_) ?_)
  refine L_val rfl rfl rfl (OpP.v (P_assign rfl rfl)) ?_
  refine L_nil ?_
  refine St.env (.cons (t := 1) rfl (.cons (t := 2) rfl (.cons (t := 3) rfl (.cons (t := 6) rfl (.cons (t := 8) rfl .nil))))) ?_
  refine Q_then ?_
  refine R_seq ?_
  refine R_seq ?_
  refine R_region ?_
  refine L_val rfl rfl rfl (OpP.v (P_move rfl rfl)) ?_
  refine L_val rfl rfl rfl (OpP.v (P_neq rfl rfl rfl)) ?_
  refine L_nil ?_
  refine St.env (.cons (t := 1) rfl (.cons (t := 2) rfl (.cons (t := 3) rfl (.cons (t := 6) rfl (.cons (t := 18) rfl .nil))))) ?_
  refine Q_then ?_
  refine R_condP rfl (fun he => ?_) (fun he => ?_)
  · skip
    refine R_seq ?_
    refine R_region ?_
    refine L_val rfl rfl rfl (V_loadAgg rfl rfl ty_ag_25 (Rds.blk .h0) (rfl)) ?_
    refine L_op rfl (W_callV rfl rfl rfl rfl fn_ca_21 (Quorum_ok base c l hc hmax hok) ((Sn.row hpre rfl).rw_) ?_)
    refine L_val rfl rfl rfl (OpP.v (P_eql rfl rfl rfl)) ?_
    refine E_true (t := 21) rfl (decide_eq_true (share_bad he)) ?_
    refine L_val rfl rfl rfl (OpP.v (P_move rfl rfl)) ?_
    refine L_val rfl rfl rfl (V_loadAgg rfl rfl ty_ag_25 (Rds.blk .h0) (rfl)) ?_
    refine L_op rfl (W_callV rfl rfl rfl rfl fn_ca_22 (Third_ok base c l hc hmax hok) ((Sn.row hpre rfl).rw_) ?_)
    refine L_val rfl rfl rfl (OpP.v (P_eql rfl rfl rfl)) ?_
    refine E_true (t := 25) rfl (decide_eq_true (share_bad he)) ?_
    refine L_val rfl rfl rfl (OpP.v (P_pick rfl rfl rfl)) ?_
    refine L_val rfl rfl rfl (OpP.v (P_assign rfl rfl)) ?_
    refine L_nil ?_
    refine St.env (.cons (t := 1) rfl (.cons (t := 2) rfl (.cons (t := 3) rfl (.cons (t := 6) rfl .nil)))) ?_
    refine Q_then ?_
    refine R_ret ?_
    refine Q_then_ret ?_
    exact R_endV rfl rfl (.tmp rfl .nil) (rfl)
  · skip
    have he : soundE l = 0 := Classical.not_not.1 he
    have hf := (sound_fine he).1
    have hp0 : ∀ m ∈ l, 0 ≤ m.p := fun m hm => (hok m hm).2.1.1
    have hms : msK = 1152921504606846975 := rfl
    have hT : soundT l = sumP l := by unfold soundT; rw [if_pos he]
    have hT0 : soundT l ≠ 0 := fun h => (soundT_zero hok).1 h he
    have hq := share_of (k := 2) he
    have hh := share_of (k := 1) he
    have hS0 := sumP_nonneg hp0
    have hS1 := hf.tot
    refine R_skip ?_
    refine Q_then ?_
    refine R_seq ?_
    refine R_region ?_
    refine L_val rfl rfl rfl (V_loadAgg rfl rfl ty_ag_25 (Rds.blk .h0) (rfl)) ?_
    refine L_op rfl (W_callV rfl rfl rfl rfl fn_ca_23 (Total_ok base c l hc hmax hok) ((Sn.row hpre rfl).rw_) ?_)
    refine L_val rfl rfl rfl (OpP.v (P_assign rfl rfl)) ?_
    refine L_nil ?_
    refine St.env (.cons (t := 1) rfl (.cons (t := 2) rfl (.cons (t := 3) rfl (.cons (t := 6) rfl (.cons (t := 9) rfl .nil))))) ?_
    refine Q_then ?_
    refine R_seq ?_
    refine R_region ?_
    refine L_val rfl rfl rfl (V_loadAgg rfl rfl ty_ag_25 (Rds.blk .h0) (rfl)) ?_
    refine L_op rfl (W_callV rfl rfl rfl rfl fn_ca_21 (Quorum_ok base c l hc hmax hok) ((Sn.row hpre rfl).rw_) ?_)
    refine L_val rfl rfl rfl (OpP.v (P_assign rfl rfl)) ?_
    refine L_nil ?_
    refine St.env (.cons (t := 1) rfl (.cons (t := 2) rfl (.cons (t := 3) rfl (.cons (t := 6) rfl (.cons (t := 9) rfl (.cons (t := 10) rfl .nil)))))) ?_
    refine Q_then ?_
    refine R_seq ?_
    refine R_region ?_
    refine L_val rfl rfl rfl (V_loadAgg rfl rfl ty_ag_25 (Rds.blk .h0) (rfl)) ?_
    refine L_op rfl (W_callV rfl rfl rfl rfl fn_ca_22 (Third_ok base c l hc hmax hok) ((Sn.row hpre rfl).rw_) ?_)
    refine L_val rfl rfl rfl (OpP.v (P_assign rfl rfl)) ?_
    refine L_nil ?_
    refine St.env (.cons (t := 1) rfl (.cons (t := 2) rfl (.cons (t := 3) rfl (.cons (t := 6) rfl (.cons (t := 9) rfl (.cons (t := 10) rfl (.cons (t := 11) rfl .nil))))))) ?_
    refine Q_then ?_
    refine R_seq ?_
    refine R_seq ?_
    refine R_region ?_
    refine L_val rfl rfl rfl (OpP.v (P_move rfl rfl)) ?_
    refine L_val rfl rfl rfl (OpP.v (P_fld0 rfl ty_fl_25_0 rfl)) ?_
    refine L_val rfl rfl rfl (V_load rfl rfl ty_sc_22 (Rd.blk .h0 rfl)) ?_
    refine L_op rfl (W_callV rfl rfl rfl rfl fn_ca_24 (ltotal_ok base c l hc hmax hok hf.tot) ((Sn.row hpre rfl).rw_) ?_)
    refine L_val rfl rfl rfl (OpP.v (P_convN rfl ty_int_2 ty_int_32 rfl (by simp only [fits]; omega))) ?_
    refine L_val rfl rfl rfl (OpP.v (P_neq rfl rfl rfl)) ?_
    refine E_false (t := 38) rfl (decide_eq_false (fun h => h hT)) ?_
    refine L_val rfl rfl rfl (OpP.v (P_move rfl rfl)) ?_
    refine L_val rfl rfl rfl (OpP.v (P_move rfl rfl)) ?_
    refine L_val rfl rfl rfl (OpP.v (P_mulN rfl rfl rfl (by simp only [fits]; omega))) ?_
    refine L_val rfl rfl rfl (OpP.v (P_move rfl rfl)) ?_
    refine L_val rfl rfl rfl (OpP.v (P_mulN rfl rfl rfl (by simp only [fits]; omega))) ?_
    refine L_val rfl rfl rfl (OpP.v (P_leq rfl rfl rfl)) ?_
    refine E_false (t := 44) rfl (decide_eq_false (by omega)) ?_
    refine L_val rfl rfl rfl (OpP.v (P_pick rfl rfl rfl)) ?_
    refine L_val rfl rfl rfl (OpP.v (P_move rfl rfl)) ?_
    refine L_val rfl rfl rfl (OpP.v (P_move rfl rfl)) ?_
    refine L_val rfl rfl rfl (OpP.v (P_subN rfl rfl rfl (by simp only [fits]; omega))) ?_
    refine L_val rfl rfl rfl (OpP.v (P_mulN rfl rfl rfl (by simp only [fits]; omega))) ?_
    refine L_val rfl rfl rfl (OpP.v (P_move rfl rfl)) ?_
    refine L_val rfl rfl rfl (OpP.v (P_mulN rfl rfl rfl (by simp only [fits]; omega))) ?_
    refine L_val rfl rfl rfl (OpP.v (P_gtr rfl rfl rfl)) ?_
    refine E_false (t := 52) rfl (decide_eq_false (by omega)) ?_
    refine L_val rfl rfl rfl (OpP.v (P_pick rfl rfl rfl)) ?_
    refine L_val rfl rfl rfl (OpP.v (P_move rfl rfl)) ?_
    refine L_val rfl rfl rfl (OpP.v (P_move rfl rfl)) ?_
    refine L_val rfl rfl rfl (OpP.v (P_mulN rfl rfl rfl (by simp only [fits]; omega))) ?_
    refine L_val rfl rfl rfl (OpP.v (P_move rfl rfl)) ?_
    refine L_val rfl rfl rfl (OpP.v (P_leq rfl rfl rfl)) ?_
    refine E_false (t := 58) rfl (decide_eq_false (by omega)) ?_
    refine L_val rfl rfl rfl (OpP.v (P_pick rfl rfl rfl)) ?_
    refine L_val rfl rfl rfl (OpP.v (P_move rfl rfl)) ?_
    refine L_val rfl rfl rfl (OpP.v (P_move rfl rfl)) ?_
    refine L_val rfl rfl rfl (OpP.v (P_subN rfl rfl rfl (by simp only [fits]; omega))) ?_
    refine L_val rfl rfl rfl (OpP.v (P_mulN rfl rfl rfl (by simp only [fits]; omega))) ?_
    refine L_val rfl rfl rfl (OpP.v (P_move rfl rfl)) ?_
    refine L_val rfl rfl rfl (OpP.v (P_gtr rfl rfl rfl)) ?_
    refine E_false (t := 65) rfl (decide_eq_false (by omega)) ?_
    refine L_val rfl rfl rfl (OpP.v (P_pick rfl rfl rfl)) ?_
    refine L_nil ?_
    refine St.env (.cons (t := 1) rfl (.cons (t := 2) rfl (.cons (t := 3) rfl (.cons (t := 6) rfl (.cons (t := 9) rfl (.cons (t := 10) rfl (.cons (t := 11) rfl (.cons (t := 66) rfl .nil)))))))) ?_
    refine Q_then ?_
    refine R_condF rfl ?_
    refine R_skip ?_
    refine Q_then ?_
    refine R_seq ?_
    refine R_seq ?_
    refine R_region ?_
    refine L_val rfl rfl rfl (V_loadAgg rfl rfl ty_ag_25 (Rds.blk .h0) (rfl)) ?_
    refine L_val rfl rfl rfl (OpP.v (P_move rfl rfl)) ?_
    refine L_op rfl (W_callV rfl rfl rfl rfl fn_ca_25 (power_ok base c l hc hmax hok hf.tot (x)) ((Sn.row hpre rfl).rw_) ?_)
    refine L_val rfl rfl rfl (OpP.v (P_move rfl rfl)) ?_
    refine L_val rfl rfl rfl (OpP.v (P_geq rfl rfl rfl)) ?_
    refine E_bool (t := 71) rfl (fun ha => ?_) (fun ha => ?_)
    · skip
      have ha := of_decide_eq_true ha
      refine L_val rfl rfl rfl (OpP.v (P_move rfl rfl)) ?_
      refine L_val rfl rfl rfl (V_loadAgg rfl rfl ty_ag_25 (Rds.blk .h0) (rfl)) ?_
      refine L_val rfl rfl rfl (OpP.v (P_move rfl rfl)) ?_
      refine L_op rfl (W_callV rfl rfl rfl rfl fn_ca_25 (power_ok base c l hc hmax hok hf.tot (y)) ((Sn.row hpre rfl).rw_) ?_)
      refine L_val rfl rfl rfl (OpP.v (P_move rfl rfl)) ?_
      refine L_val rfl rfl rfl (OpP.v (P_geq rfl rfl rfl)) ?_
      refine E_bool (t := 77) rfl (fun hb => ?_) (fun hb => ?_)
      · skip
        have hb := of_decide_eq_true hb
        refine L_val rfl rfl rfl (OpP.v (P_pick rfl rfl rfl)) ?_
        refine L_val rfl rfl rfl (OpP.v (P_move rfl rfl)) ?_
        refine L_val rfl rfl rfl (V_loadAgg rfl rfl ty_ag_25 (Rds.blk .h0) (rfl)) ?_
        refine L_val rfl rfl rfl (OpP.v (P_move rfl rfl)) ?_
        refine L_val rfl rfl rfl (OpP.v (P_move rfl rfl)) ?_
        refine L_val rfl rfl rfl (OpP.v (P_bit (op := .and) rfl rfl rfl rfl)) ?_
        refine E_as (t := 83) (v' := .int .u64 ((x &&& y).toNat : Int)) rfl (by rw [and_bv]) ?_
        refine L_op rfl (W_callV rfl rfl rfl rfl fn_ca_25 (power_ok base c l hc hmax hok hf.tot (x &&& y)) ((Sn.row hpre rfl).rw_) ?_)
        refine L_val rfl rfl rfl (OpP.v (P_move rfl rfl)) ?_
        refine L_val rfl rfl rfl (OpP.v (P_lss rfl rfl rfl)) ?_
        refine E_false (t := 86) rfl (decide_eq_false (by have h9 := powG_share (x := x) (y := y) 0 hp0; unfold powV at ha hb ⊢; omega)) ?_
        refine L_val rfl rfl rfl (OpP.v (P_pick rfl rfl rfl)) ?_
        refine L_nil ?_
        refine St.env (.cons (t := 1) rfl (.cons (t := 3) rfl (.cons (t := 6) rfl (.cons (t := 9) rfl (.cons (t := 11) rfl (.cons (t := 87) rfl .nil)))))) ?_
        refine Q_then ?_
        refine R_condF rfl ?_
        refine R_skip ?_
        refine Q_then ?_
        refine R_seq ?_
        refine R_seq ?_
        refine R_region ?_
        refine L_val rfl rfl rfl (V_loadAgg rfl rfl ty_ag_25 (Rds.blk .h0) (rfl)) ?_
        refine L_val rfl rfl rfl (OpP.v (P_move rfl rfl)) ?_
        refine L_val rfl rfl rfl (OpP.v (P_compl rfl rfl)) ?_
        refine E_as (t := 90) (v' := .int .u64 ((~~~x).toNat : Int)) rfl (by rw [compl_bv]) ?_
        refine L_op rfl (W_callV rfl rfl rfl rfl fn_ca_25 (power_ok base c l hc hmax hok hf.tot (~~~x)) ((Sn.row hpre rfl).rw_) ?_)
        refine L_val rfl rfl rfl (OpP.v (P_move rfl rfl)) ?_
        refine L_val rfl rfl rfl (OpP.v (P_lss rfl rfl rfl)) ?_
        refine E_bool (t := 93) rfl (fun hd => ?_) (fun hd => ?_)
        · skip
          have hd := of_decide_eq_true hd
          refine L_val rfl rfl rfl (OpP.v (P_move rfl rfl)) ?_
          refine L_val rfl rfl rfl (V_loadAgg rfl rfl ty_ag_25 (Rds.blk .h0) (rfl)) ?_
          refine L_val rfl rfl rfl (OpP.v (P_move rfl rfl)) ?_
          refine L_op rfl (W_callV rfl rfl rfl rfl fn_ca_25 (power_ok base c l hc hmax hok hf.tot (x)) ((Sn.row hpre rfl).rw_) ?_)
          refine L_val rfl rfl rfl (OpP.v (P_move rfl rfl)) ?_
          refine L_val rfl rfl rfl (OpP.v (P_addN rfl rfl rfl (by simp only [fits]; omega))) ?_
          refine L_val rfl rfl rfl (OpP.v (P_move rfl rfl)) ?_
          refine L_val rfl rfl rfl (OpP.v (P_subN rfl rfl rfl (by simp only [fits]; omega))) ?_
          refine L_val rfl rfl rfl (OpP.v (P_lss rfl rfl rfl)) ?_
          refine E_false (t := 102) rfl (decide_eq_false (by have h9 := powG_compl (x := x) (l := l) 0 (by have := hf.few; omega); unfold powV at hd ⊢; omega)) ?_
          refine L_val rfl rfl rfl (OpP.v (P_pick rfl rfl rfl)) ?_
          refine L_nil ?_
          refine St.env (.cons (t := 6) rfl (.cons (t := 103) rfl .nil)) ?_
          refine Q_then ?_
          refine R_condF rfl ?_
          refine R_skip ?_
          refine Q_then ?_
          refine R_seq ?_
          refine R_region ?_
          refine L_val rfl rfl rfl (OpP.v (P_assign rfl rfl)) ?_
          refine L_nil ?_
          refine St.env (.cons (t := 6) rfl .nil) ?_
          refine Q_then ?_
          refine R_ret ?_
          exact R_endV rfl rfl (.tmp rfl .nil) (rfl)
        · skip
          refine L_val rfl rfl rfl (OpP.v (P_move rfl rfl)) ?_
          refine L_no rfl rfl rfl ?_
          refine L_no rfl rfl rfl ?_
          refine L_no rfl rfl rfl ?_
          refine L_no rfl rfl rfl ?_
          refine L_no rfl rfl rfl ?_
          refine L_no rfl rfl rfl ?_
          refine L_no rfl rfl rfl ?_
          refine L_no rfl rfl rfl ?_
          refine L_val rfl rfl rfl (OpP.v (P_pick rfl rfl rfl)) ?_
          refine L_nil ?_
          refine St.env (.cons (t := 6) rfl (.cons (t := 103) rfl .nil)) ?_
          refine Q_then ?_
          refine R_condF rfl ?_
          refine R_skip ?_
          refine Q_then ?_
          refine R_seq ?_
          refine R_region ?_
          refine L_val rfl rfl rfl (OpP.v (P_assign rfl rfl)) ?_
          refine L_nil ?_
          refine St.env (.cons (t := 6) rfl .nil) ?_
          refine Q_then ?_
          refine R_ret ?_
          exact R_endV rfl rfl (.tmp rfl .nil) (rfl)
      · skip
        refine L_val rfl rfl rfl (OpP.v (P_pick rfl rfl rfl)) ?_
        refine L_val rfl rfl rfl (OpP.v (P_move rfl rfl)) ?_
        refine L_no rfl rfl rfl ?_
        refine L_no rfl rfl rfl ?_
        refine L_no rfl rfl rfl ?_
        refine L_no rfl rfl rfl ?_
        refine L_no rfl rfl rfl ?_
        refine L_no rfl rfl rfl ?_
        refine L_no rfl rfl rfl ?_
        refine L_val rfl rfl rfl (OpP.v (P_pick rfl rfl rfl)) ?_
        refine L_nil ?_
        refine St.env (.cons (t := 1) rfl (.cons (t := 3) rfl (.cons (t := 6) rfl (.cons (t := 9) rfl (.cons (t := 11) rfl (.cons (t := 87) rfl .nil)))))) ?_
        refine Q_then ?_
        refine R_condF rfl ?_
        refine R_skip ?_
        refine Q_then ?_
        refine R_seq ?_
        refine R_seq ?_
        refine R_region ?_
        refine L_val rfl rfl rfl (V_loadAgg rfl rfl ty_ag_25 (Rds.blk .h0) (rfl)) ?_
        refine L_val rfl rfl rfl (OpP.v (P_move rfl rfl)) ?_
        refine L_val rfl rfl rfl (OpP.v (P_compl rfl rfl)) ?_
        refine E_as (t := 90) (v' := .int .u64 ((~~~x).toNat : Int)) rfl (by rw [compl_bv]) ?_
        refine L_op rfl (W_callV rfl rfl rfl rfl fn_ca_25 (power_ok base c l hc hmax hok hf.tot (~~~x)) ((Sn.row hpre rfl).rw_) ?_)
        refine L_val rfl rfl rfl (OpP.v (P_move rfl rfl)) ?_
        refine L_val rfl rfl rfl (OpP.v (P_lss rfl rfl rfl)) ?_
        refine E_bool (t := 93) rfl (fun hd => ?_) (fun hd => ?_)
        · skip
          have hd := of_decide_eq_true hd
          refine L_val rfl rfl rfl (OpP.v (P_move rfl rfl)) ?_
          refine L_val rfl rfl rfl (V_loadAgg rfl rfl ty_ag_25 (Rds.blk .h0) (rfl)) ?_
          refine L_val rfl rfl rfl (OpP.v (P_move rfl rfl)) ?_
          refine L_op rfl (W_callV rfl rfl rfl rfl fn_ca_25 (power_ok base c l hc hmax hok hf.tot (x)) ((Sn.row hpre rfl).rw_) ?_)
          refine L_val rfl rfl rfl (OpP.v (P_move rfl rfl)) ?_
          refine L_val rfl rfl rfl (OpP.v (P_addN rfl rfl rfl (by simp only [fits]; omega))) ?_
          refine L_val rfl rfl rfl (OpP.v (P_move rfl rfl)) ?_
          refine L_val rfl rfl rfl (OpP.v (P_subN rfl rfl rfl (by simp only [fits]; omega))) ?_
          refine L_val rfl rfl rfl (OpP.v (P_lss rfl rfl rfl)) ?_
          refine E_false (t := 102) rfl (decide_eq_false (by have h9 := powG_compl (x := x) (l := l) 0 (by have := hf.few; omega); unfold powV at hd ⊢; omega)) ?_
          refine L_val rfl rfl rfl (OpP.v (P_pick rfl rfl rfl)) ?_
          refine L_nil ?_
          refine St.env (.cons (t := 6) rfl (.cons (t := 103) rfl .nil)) ?_
          refine Q_then ?_
          refine R_condF rfl ?_
          refine R_skip ?_
          refine Q_then ?_
          refine R_seq ?_
          refine R_region ?_
          refine L_val rfl rfl rfl (OpP.v (P_assign rfl rfl)) ?_
          refine L_nil ?_
          refine St.env (.cons (t := 6) rfl .nil) ?_
          refine Q_then ?_
          refine R_ret ?_
          exact R_endV rfl rfl (.tmp rfl .nil) (rfl)
        · skip
          refine L_val rfl rfl rfl (OpP.v (P_move rfl rfl)) ?_
          refine L_no rfl rfl rfl ?_
          refine L_no rfl rfl rfl ?_
          refine L_no rfl rfl rfl ?_
          refine L_no rfl rfl rfl ?_
          refine L_no rfl rfl rfl ?_
          refine L_no rfl rfl rfl ?_
          refine L_no rfl rfl rfl ?_
          refine L_no rfl rfl rfl ?_
          refine L_val rfl rfl rfl (OpP.v (P_pick rfl rfl rfl)) ?_
          refine L_nil ?_
          refine St.env (.cons (t := 6) rfl (.cons (t := 103) rfl .nil)) ?_
          refine Q_then ?_
          refine R_condF rfl ?_
          refine R_skip ?_
          refine Q_then ?_
          refine R_seq ?_
          refine R_region ?_
          refine L_val rfl rfl rfl (OpP.v (P_assign rfl rfl)) ?_
          refine L_nil ?_
          refine St.env (.cons (t := 6) rfl .nil) ?_
          refine Q_then ?_
          refine R_ret ?_
          exact R_endV rfl rfl (.tmp rfl .nil) (rfl)
    · skip
      refine L_val rfl rfl rfl (OpP.v (P_move rfl rfl)) ?_
      refine L_no rfl rfl rfl ?_
      refine L_no rfl rfl rfl ?_
      refine L_no rfl rfl rfl ?_
      refine L_no rfl rfl rfl ?_
      refine L_no rfl rfl rfl ?_
      refine L_val rfl rfl rfl (OpP.v (P_pick rfl rfl rfl)) ?_
      refine L_val rfl rfl rfl (OpP.v (P_move rfl rfl)) ?_
      refine L_no rfl rfl rfl ?_
      refine L_no rfl rfl rfl ?_
      refine L_no rfl rfl rfl ?_
      refine L_no rfl rfl rfl ?_
      refine L_no rfl rfl rfl ?_
      refine L_no rfl rfl rfl ?_
      refine L_no rfl rfl rfl ?_
      refine L_val rfl rfl rfl (OpP.v (P_pick rfl rfl rfl)) ?_
      refine L_nil ?_
      refine St.env (.cons (t := 1) rfl (.cons (t := 3) rfl (.cons (t := 6) rfl (.cons (t := 9) rfl (.cons (t := 11) rfl (.cons (t := 87) rfl .nil)))))) ?_
      refine Q_then ?_
      refine R_condF rfl ?_
      refine R_skip ?_
      refine Q_then ?_
      refine R_seq ?_
      refine R_seq ?_
      refine R_region ?_
      refine L_val rfl rfl rfl (V_loadAgg rfl rfl ty_ag_25 (Rds.blk .h0) (rfl)) ?_
      refine L_val rfl rfl rfl (OpP.v (P_move rfl rfl)) ?_
      refine L_val rfl rfl rfl (OpP.v (P_compl rfl rfl)) ?_
      refine E_as (t := 90) (v' := .int .u64 ((~~~x).toNat : Int)) rfl (by rw [compl_bv]) ?_
      refine L_op rfl (W_callV rfl rfl rfl rfl fn_ca_25 (power_ok base c l hc hmax hok hf.tot (~~~x)) ((Sn.row hpre rfl).rw_) ?_)
      refine L_val rfl rfl rfl (OpP.v (P_move rfl rfl)) ?_
      refine L_val rfl rfl rfl (OpP.v (P_lss rfl rfl rfl)) ?_
      refine E_bool (t := 93) rfl (fun hd => ?_) (fun hd => ?_)
      · skip
        have hd := of_decide_eq_true hd
        refine L_val rfl rfl rfl (OpP.v (P_move rfl rfl)) ?_
        refine L_val rfl rfl rfl (V_loadAgg rfl rfl ty_ag_25 (Rds.blk .h0) (rfl)) ?_
        refine L_val rfl rfl rfl (OpP.v (P_move rfl rfl)) ?_
        refine L_op rfl (W_callV rfl rfl rfl rfl fn_ca_25 (power_ok base c l hc hmax hok hf.tot (x)) ((Sn.row hpre rfl).rw_) ?_)
        refine L_val rfl rfl rfl (OpP.v (P_move rfl rfl)) ?_
        refine L_val rfl rfl rfl (OpP.v (P_addN rfl rfl rfl (by simp only [fits]; omega))) ?_
        refine L_val rfl rfl rfl (OpP.v (P_move rfl rfl)) ?_
        refine L_val rfl rfl rfl (OpP.v (P_subN rfl rfl rfl (by simp only [fits]; omega))) ?_
        refine L_val rfl rfl rfl (OpP.v (P_lss rfl rfl rfl)) ?_
        refine E_false (t := 102) rfl (decide_eq_false (by have h9 := powG_compl (x := x) (l := l) 0 (by have := hf.few; omega); unfold powV at hd ⊢; omega)) ?_
        refine L_val rfl rfl rfl (OpP.v (P_pick rfl rfl rfl)) ?_
        refine L_nil ?_
        refine St.env (.cons (t := 6) rfl (.cons (t := 103) rfl .nil)) ?_
        refine Q_then ?_
        refine R_condF rfl ?_
        refine R_skip ?_
        refine Q_then ?_
        refine R_seq ?_
        refine R_region ?_
        refine L_val rfl rfl rfl (OpP.v (P_assign rfl rfl)) ?_
        refine L_nil ?_
        refine St.env (.cons (t := 6) rfl .nil) ?_
        refine Q_then ?_
        refine R_ret ?_
        exact R_endV rfl rfl (.tmp rfl .nil) (rfl)
      · skip
        refine L_val rfl rfl rfl (OpP.v (P_move rfl rfl)) ?_
        refine L_no rfl rfl rfl ?_
        refine L_no rfl rfl rfl ?_
        refine L_no rfl rfl rfl ?_
        refine L_no rfl rfl rfl ?_
        refine L_no rfl rfl rfl ?_
        refine L_no rfl rfl rfl ?_
        refine L_no rfl rfl rfl ?_
        refine L_no rfl rfl rfl ?_
        refine L_val rfl rfl rfl (OpP.v (P_pick rfl rfl rfl)) ?_
        refine L_nil ?_
        refine St.env (.cons (t := 6) rfl (.cons (t := 103) rfl .nil)) ?_
        refine Q_then ?_
        refine R_condF rfl ?_
        refine R_skip ?_
        refine Q_then ?_
        refine R_seq ?_
        refine R_region ?_
        refine L_val rfl rfl rfl (OpP.v (P_assign rfl rfl)) ?_
        refine L_nil ?_
        refine St.env (.cons (t := 6) rfl .nil) ?_
        refine Q_then ?_
        refine R_ret ?_
        exact R_endV rfl rfl (.tmp rfl .nil) (rfl)
theorem int_bv {a : Int} (h0 : 0 ≤ a) (h1 : a ≤ 18446744073709551615) : ∃ x : BitVec 64, a = (x.toNat : Int) := ⟨BitVec.ofNat 64 a.toNat, by rw [BitVec.toNat_ofNat]; omega⟩
end Go.Proofs.Ytjhhpagcejgclaa
