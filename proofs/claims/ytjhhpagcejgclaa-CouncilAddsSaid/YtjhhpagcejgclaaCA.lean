/- The walk of CouncilAdds. Printed by gen.py. -/
import Derived.Test.YtjhhpagcejgclaaCRd
import Derived.Test.YtjhhpagcejgclaaMade
set_option linter.unusedVariables false
set_option linter.unusedSimpArgs false
set_option maxRecDepth 100000
namespace Go.Proofs.Ytjhhpagcejgclaa
open Go Go.RowKit Go.Proofs
theorem councilAdds_walk {gl : Nat → Obj} (base : Option Addr) (c : Nat) (l : List Mem) (hc : l.length ≤ c) (hmax : l.length ≤ 5864062014700) (hok : ∀ m ∈ l, m.ok) (a b : Int) : SpecV (cx gl) 6 [.agg [.slice base l.length c].toArray, .int .i64 a, .int .i64 b] (fun w => Row w base (memC l)) (.bool true) := by
  refine Spec.enter (C := cx gl) Try.func6 rfl 113 rfl rfl fun w0 h0 hsep hsub hpre => ?_
  obtain rfl : h0 = Heap.none := hsep
  show St (cx gl) _ [(0, .agg [.slice base l.length c].toArray), (1, .int .i64 a), (2, .int .i64 b)] _ _
  refine R_seq ?_
  refine R_region ?_
  refine L_op rfl (W_box ([.slice base l.length c]) rfl rfl rfl rfl rfl fun b3 => ?_)
  refine L_val rfl rfl rfl (OpP.v (P_assign rfl rfl)) ?_
  refine L_nil ?_
  refine St.env (.cons (t := 1) rfl (.cons (t := 2) rfl (.cons (t := 3) rfl (.cons (t := 6) rfl .nil)))) ?_
  refine Q_then ?_
  refine R_seq ?_
  refine R_region ?_
  refine L_op rfl (W_callV rfl rfl rfl rfl fn_ca_17 (alive_ok) (fun _ _ => trivial) ?_)
  refine L_val rfl rfl rfl (OpP.v (P_assign rfl rfl)) ?_
  refine L_nil ?_
  refine St.env (.cons (t := 1) rfl (.cons (t := 2) rfl (.cons (t := 3) rfl (.cons (t := 6) rfl (.cons (t := 7) rfl .nil))))) ?_
  refine Q_then ?_
  refine R_seq ?_
  refine R_seq ?_
  refine R_region ?_
  refine L_val rfl rfl rfl (OpP.v (P_move rfl rfl)) ?_
  refine L_val rfl rfl rfl (OpP.v (P_not rfl rfl)) ?_
  refine E_false (t := 19) rfl (rfl) ?_
  refine L_nil ?_
  refine St.env (.cons (t := 1) rfl (.cons (t := 2) rfl (.cons (t := 3) rfl (.cons (t := 6) rfl (.cons (t := 19) rfl .nil))))) ?_
  refine Q_then ?_
  refine R_condF rfl ?_
  refine R_skip ?_
  refine Q_then ?_
  refine R_seq ?_
  refine R_region ?_
  refine L_val rfl rfl rfl (V_loadAgg rfl rfl ty_ag_25 (Rds.blk .h0) (rfl)) ?_
  refine L_val rfl rfl rfl (OpP.v (P_move rfl rfl)) ?_
  refine L_op rfl (W_call rfl rfl rfl rfl fn_ca_26 (Turn_ok base c l hc hmax hok a) (Split.nil _) (fun w a b _ hb dj m => (Sn.row hpre rfl).rw_ w ⟨_, hb, m.le (Heap.le_join_right dj)⟩) fun v1 rs1 ⟨u, e1, e2⟩ => ?_)
  subst e1; subst e2
  refine St.ownForm (p := []) fun ub uc huv huc => ?_
  subst huv
  refine L_val rfl rfl rfl (OpP.v (P_move rfl rfl)) ?_
  refine L_val rfl rfl rfl (OpP.v (P_extract rfl rfl rfl)) ?_
  refine L_val rfl rfl rfl (OpP.v (P_extract rfl rfl rfl)) ?_
  refine L_op rfl (W_alloc rfl rfl rfl ty_ze_25 fun b8 => ?_)
  refine L_op rfl (W_storeAll rfl rfl rfl rfl ty_ag_25 (rfl) (by intro v hv; simp only [List.mem_singleton] at hv; subst hv; rfl) .h0 (rfl) ?_)
  refine L_val rfl rfl rfl (OpP.v (P_assign rfl rfl)) ?_
  refine L_nil ?_
  refine St.env (.cons (t := 1) rfl (.cons (t := 2) rfl (.cons (t := 3) rfl (.cons (t := 6) rfl (.cons (t := 8) rfl (.cons (t := 9) rfl .nil)))))) ?_
  refine Q_then ?_
  refine R_seq ?_
  refine R_region ?_
  refine L_val rfl rfl rfl (V_loadAgg rfl rfl ty_ag_25 (Rds.blk .h2) (rfl)) ?_
  refine L_op rfl (W_callV rfl rfl rfl rfl fn_ca_20 (rSound_ok base c l hc hmax hok) ((Sn.row hpre rfl).rw_) ?_)
  refine L_val rfl rfl rfl (OpP.v (P_assign rfl rfl)) ?_
  refine L_nil ?_
  refine St.env (.cons (t := 1) rfl (.cons (t := 2) rfl (.cons (t := 3) rfl (.cons (t := 6) rfl (.cons (t := 8) rfl (.cons (t := 9) rfl (.cons (t := 10) rfl .nil))))))) ?_
  refine Q_then ?_
  refine R_seq ?_
  refine R_seq ?_
  refine R_region ?_
  refine L_val rfl rfl rfl (OpP.v (P_move rfl rfl)) ?_
  refine L_val rfl rfl rfl (OpP.v (P_neq rfl rfl rfl)) ?_
  refine E_bool (t := 29) rfl (fun h1 => ?_) (fun h1 => ?_)
  · skip
    have h1 : soundE l ≠ 0 := of_decide_eq_true h1
    have hret : turnE l a ≠ 0 := by rw [turnE_bad h1]; exact h1
    refine L_val rfl rfl rfl (OpP.v (P_move rfl rfl)) ?_
    refine L_no rfl rfl rfl ?_
    refine L_no rfl rfl rfl ?_
    refine L_val rfl rfl rfl (OpP.v (P_pick rfl rfl rfl)) ?_
    refine L_val rfl rfl rfl (OpP.v (P_move rfl rfl)) ?_
    refine L_no rfl rfl rfl ?_
    refine L_no rfl rfl rfl ?_
    refine L_val rfl rfl rfl (OpP.v (P_pick rfl rfl rfl)) ?_
    refine L_nil ?_
    refine St.env (.cons (t := 1) rfl (.cons (t := 2) rfl (.cons (t := 3) rfl (.cons (t := 6) rfl (.cons (t := 8) rfl (.cons (t := 9) rfl (.cons (t := 10) rfl (.cons (t := 37) rfl .nil)))))))) ?_
    refine Q_then ?_
    refine R_condT rfl ?_
    refine R_seq ?_
    refine R_region ?_
    refine L_val rfl rfl rfl (OpP.v (P_move rfl rfl)) ?_
    refine L_val rfl rfl rfl (OpP.v (P_neq rfl rfl rfl)) ?_
    refine L_val rfl rfl rfl (OpP.v (P_assign rfl rfl)) ?_
    refine L_nil ?_
    refine St.env (.cons (t := 1) rfl (.cons (t := 2) rfl (.cons (t := 3) rfl (.cons (t := 6) rfl (.cons (t := 8) rfl (.cons (t := 9) rfl (.cons (t := 10) rfl .nil))))))) ?_
    refine Q_then ?_
    refine R_ret ?_
    refine Q_then_ret ?_
    exact R_endV rfl rfl (.tmp rfl .nil) (by rw [decide_eq_true hret]; rfl)
  · skip
    have h1 : soundE l = 0 := Classical.not_not.1 (of_decide_eq_false h1)
    refine L_val rfl rfl rfl (OpP.v (P_move rfl rfl)) ?_
    refine L_val rfl rfl rfl (OpP.v (P_move rfl rfl)) ?_
    refine L_val rfl rfl rfl (OpP.v (P_lss rfl rfl rfl)) ?_
    refine E_bool (t := 32) rfl (fun h2 => ?_) (fun h2 => ?_)
    · skip
      have h2 : a < 0 := of_decide_eq_true h2
      have hret : turnE l a ≠ 0 := by rw [turnE_arg h1 (by omega)]; decide
      refine L_val rfl rfl rfl (OpP.v (P_pick rfl rfl rfl)) ?_
      refine L_val rfl rfl rfl (OpP.v (P_move rfl rfl)) ?_
      refine L_no rfl rfl rfl ?_
      refine L_no rfl rfl rfl ?_
      refine L_val rfl rfl rfl (OpP.v (P_pick rfl rfl rfl)) ?_
      refine L_nil ?_
      refine St.env (.cons (t := 1) rfl (.cons (t := 2) rfl (.cons (t := 3) rfl (.cons (t := 6) rfl (.cons (t := 8) rfl (.cons (t := 9) rfl (.cons (t := 10) rfl (.cons (t := 37) rfl .nil)))))))) ?_
      refine Q_then ?_
      refine R_condT rfl ?_
      refine R_seq ?_
      refine R_region ?_
      refine L_val rfl rfl rfl (OpP.v (P_move rfl rfl)) ?_
      refine L_val rfl rfl rfl (OpP.v (P_neq rfl rfl rfl)) ?_
      refine L_val rfl rfl rfl (OpP.v (P_assign rfl rfl)) ?_
      refine L_nil ?_
      refine St.env (.cons (t := 1) rfl (.cons (t := 2) rfl (.cons (t := 3) rfl (.cons (t := 6) rfl (.cons (t := 8) rfl (.cons (t := 9) rfl (.cons (t := 10) rfl .nil))))))) ?_
      refine Q_then ?_
      refine R_ret ?_
      refine Q_then_ret ?_
      exact R_endV rfl rfl (.tmp rfl .nil) (by rw [decide_eq_true hret]; rfl)
    · skip
      have h2 : ¬ a < 0 := of_decide_eq_false h2
      refine L_val rfl rfl rfl (OpP.v (P_pick rfl rfl rfl)) ?_
      refine L_val rfl rfl rfl (OpP.v (P_move rfl rfl)) ?_
      refine L_val rfl rfl rfl (OpP.v (P_move rfl rfl)) ?_
      refine L_val rfl rfl rfl (OpP.v (P_gtr rfl rfl rfl)) ?_
      refine L_val rfl rfl rfl (OpP.v (P_pick rfl rfl rfl)) ?_
      refine L_nil ?_
      refine St.env (.cons (t := 1) rfl (.cons (t := 2) rfl (.cons (t := 3) rfl (.cons (t := 6) rfl (.cons (t := 8) rfl (.cons (t := 9) rfl (.cons (t := 10) rfl (.cons (t := 37) rfl .nil)))))))) ?_
      refine Q_then ?_
      refine R_condP rfl (fun h3 => ?_) (fun h3 => ?_)
      · skip
        have h3 : 65536 < a := h3
        have hret : turnE l a ≠ 0 := by rw [turnE_arg h1 (by omega)]; decide
        refine R_seq ?_
        refine R_region ?_
        refine L_val rfl rfl rfl (OpP.v (P_move rfl rfl)) ?_
        refine L_val rfl rfl rfl (OpP.v (P_neq rfl rfl rfl)) ?_
        refine L_val rfl rfl rfl (OpP.v (P_assign rfl rfl)) ?_
        refine L_nil ?_
        refine St.env (.cons (t := 1) rfl (.cons (t := 2) rfl (.cons (t := 3) rfl (.cons (t := 6) rfl (.cons (t := 8) rfl (.cons (t := 9) rfl (.cons (t := 10) rfl .nil))))))) ?_
        refine Q_then ?_
        refine R_ret ?_
        refine Q_then_ret ?_
        exact R_endV rfl rfl (.tmp rfl .nil) (by rw [decide_eq_true hret]; rfl)
      · skip
        have h3 : ¬ 65536 < a := h3
        have hTE : turnE l a = 0 := turn_a h1 (by omega) (by omega)
        refine R_skip ?_
        refine Q_then ?_
        refine R_seq ?_
        refine R_seq ?_
        refine R_region ?_
        refine L_val rfl rfl rfl (OpP.v (P_move rfl rfl)) ?_
        refine L_val rfl rfl rfl (OpP.v (P_neq rfl rfl rfl)) ?_
        refine L_nil ?_
        refine St.env (.cons (t := 1) rfl (.cons (t := 2) rfl (.cons (t := 3) rfl (.cons (t := 6) rfl (.cons (t := 8) rfl (.cons (t := 9) rfl (.cons (t := 10) rfl (.cons (t := 41) rfl .nil)))))))) ?_
        refine Q_then ?_
        refine R_condP rfl (fun h4 => ?_) (fun h4 => ?_)
        · skip
          exact absurd hTE h4
        · skip
          refine R_skip ?_
          refine Q_then ?_
          refine R_seq ?_
          refine R_region ?_
          refine L_val rfl rfl rfl (V_loadAgg rfl rfl ty_ag_25 (Rds.blk .h0) (rfl)) ?_
          refine L_op rfl (W_callV rfl rfl rfl rfl fn_ca_27 (Proposer_ok ub uc (turnM l a) huc (turnM_len hmax) (turnM_ok hok) 0) ((Sn.own .h1 rfl).rw_) ?_)
          refine L_val rfl rfl rfl (OpP.v (P_move rfl rfl)) ?_
          refine L_val rfl rfl rfl (OpP.v (P_extract rfl rfl rfl)) ?_
          refine L_val rfl rfl rfl (OpP.v (P_extract rfl rfl rfl)) ?_
          refine L_val rfl rfl rfl (OpP.v (P_assign rfl rfl)) ?_
          refine L_val rfl rfl rfl (OpP.v (P_assign rfl rfl)) ?_
          refine L_nil ?_
          refine St.env (.cons (t := 1) rfl (.cons (t := 2) rfl (.cons (t := 3) rfl (.cons (t := 6) rfl (.cons (t := 8) rfl (.cons (t := 9) rfl (.cons (t := 10) rfl (.cons (t := 11) rfl (.cons (t := 12) rfl .nil))))))))) ?_
          refine Q_then ?_
          refine R_seq ?_
          refine R_seq ?_
          refine R_region ?_
          refine L_val rfl rfl rfl (OpP.v (P_move rfl rfl)) ?_
          refine L_val rfl rfl rfl (OpP.v (P_leq rfl rfl rfl)) ?_
          refine L_nil ?_
          refine St.env (.cons (t := 1) rfl (.cons (t := 2) rfl (.cons (t := 3) rfl (.cons (t := 6) rfl (.cons (t := 8) rfl (.cons (t := 9) rfl (.cons (t := 10) rfl (.cons (t := 11) rfl (.cons (t := 12) rfl (.cons (t := 48) rfl .nil)))))))))) ?_
          refine Q_then ?_
          refine R_condP rfl (fun h5 => ?_) (fun h5 => ?_)
          · skip
            have h5 : a ≤ 65535 := h5
            obtain ⟨hp1, hp2, hp3, hp4⟩ := adds_prop hok h1 (by omega) h5
            refine R_seq ?_
            refine R_region ?_
            refine L_val rfl rfl rfl (V_loadAgg rfl rfl ty_ag_25 (Rds.blk .h2) (rfl)) ?_
            refine L_val rfl rfl rfl (OpP.v (P_move rfl rfl)) ?_
            refine L_op rfl (W_callV rfl rfl rfl rfl fn_ca_27 (Proposer_ok base c l hc hmax hok a) ((Sn.row hpre rfl).rw_) ?_)
            refine L_val rfl rfl rfl (OpP.v (P_move rfl rfl)) ?_
            refine L_val rfl rfl rfl (OpP.v (P_extract rfl rfl rfl)) ?_
            refine L_val rfl rfl rfl (OpP.v (P_extract rfl rfl rfl)) ?_
            refine L_val rfl rfl rfl (OpP.v (P_assign rfl rfl)) ?_
            refine L_val rfl rfl rfl (OpP.v (P_assign rfl rfl)) ?_
            refine L_nil ?_
            refine St.env (.cons (t := 1) rfl (.cons (t := 2) rfl (.cons (t := 3) rfl (.cons (t := 6) rfl (.cons (t := 8) rfl (.cons (t := 9) rfl (.cons (t := 10) rfl (.cons (t := 11) rfl (.cons (t := 12) rfl (.cons (t := 13) rfl (.cons (t := 14) rfl .nil))))))))))) ?_
            refine Q_then ?_
            refine R_seq ?_
            refine R_region ?_
            refine L_val rfl rfl rfl (V_loadAgg rfl rfl ty_ag_25 (Rds.blk .h0) (rfl)) ?_
            refine L_op rfl (W_callV rfl rfl rfl rfl fn_ca_20 (rSound_ok ub uc (turnM l a) huc (turnM_len hmax) (turnM_ok hok)) ((Sn.own .h1 rfl).rw_) ?_)
            refine L_val rfl rfl rfl (OpP.v (P_assign rfl rfl)) ?_
            refine L_nil ?_
            refine St.env (.cons (t := 1) rfl (.cons (t := 2) rfl (.cons (t := 3) rfl (.cons (t := 6) rfl (.cons (t := 8) rfl (.cons (t := 9) rfl (.cons (t := 10) rfl (.cons (t := 11) rfl (.cons (t := 12) rfl (.cons (t := 13) rfl (.cons (t := 14) rfl .nil))))))))))) ?_
            refine Q_then ?_
            refine R_seq ?_
            refine R_region ?_
            refine L_val rfl rfl rfl (OpP.v (P_move rfl rfl)) ?_
            refine L_val rfl rfl rfl (OpP.v (P_neq rfl rfl rfl)) ?_
            refine E_false (t := 58) rfl (by simp [hp1]) ?_
            refine L_val rfl rfl rfl (OpP.v (P_move rfl rfl)) ?_
            refine L_val rfl rfl rfl (OpP.v (P_move rfl rfl)) ?_
            refine L_val rfl rfl rfl (OpP.v (P_eql rfl rfl rfl)) ?_
            refine E_true (t := 61) rfl (decide_eq_true hp4) ?_
            refine L_val rfl rfl rfl (OpP.v (P_move rfl rfl)) ?_
            refine L_val rfl rfl rfl (OpP.v (P_move rfl rfl)) ?_
            refine L_val rfl rfl rfl (OpP.v (P_neq rfl rfl rfl)) ?_
            refine E_false (t := 64) rfl (by simp [hp2]) ?_
            refine L_val rfl rfl rfl (OpP.v (P_move rfl rfl)) ?_
            refine L_val rfl rfl rfl (OpP.v (P_move rfl rfl)) ?_
            refine L_val rfl rfl rfl (OpP.v (P_move rfl rfl)) ?_
            refine L_val rfl rfl rfl (OpP.v (P_neq rfl rfl rfl)) ?_
            refine E_false (t := 68) rfl (by simp [hp3]) ?_
            refine L_val rfl rfl rfl (OpP.v (P_pick rfl rfl rfl)) ?_
            refine L_val rfl rfl rfl (OpP.v (P_pick rfl rfl rfl)) ?_
            refine L_val rfl rfl rfl (OpP.v (P_pick rfl rfl rfl)) ?_
            refine L_nil ?_
            refine St.env (.cons (t := 1) rfl (.cons (t := 2) rfl (.cons (t := 3) rfl (.cons (t := 6) rfl (.cons (t := 8) rfl (.cons (t := 9) rfl (.cons (t := 10) rfl (.cons (t := 12) rfl (.cons (t := 71) rfl .nil))))))))) ?_
            refine Q_then ?_
            refine R_condF rfl ?_
            refine R_skip ?_
            refine Q_then ?_
            refine R_seq ?_
            refine R_seq ?_
            refine R_region ?_
            refine L_val rfl rfl rfl (OpP.v (P_move rfl rfl)) ?_
            refine L_val rfl rfl rfl (OpP.v (P_lss rfl rfl rfl)) ?_
            refine E_bool (t := 73) rfl (fun h7 => ?_) (fun h7 => ?_)
            · skip
              refine L_val rfl rfl rfl (OpP.v (P_move rfl rfl)) ?_
              refine L_no rfl rfl rfl ?_
              refine L_no rfl rfl rfl ?_
              refine L_no rfl rfl rfl ?_
              refine L_no rfl rfl rfl ?_
              refine L_val rfl rfl rfl (OpP.v (P_pick rfl rfl rfl)) ?_
              refine L_nil ?_
              refine St.env (.cons (t := 1) rfl (.cons (t := 2) rfl (.cons (t := 3) rfl (.cons (t := 6) rfl (.cons (t := 8) rfl (.cons (t := 9) rfl (.cons (t := 10) rfl (.cons (t := 12) rfl (.cons (t := 79) rfl .nil))))))))) ?_
              refine Q_then ?_
              refine R_condT rfl ?_
              refine R_seq ?_
              refine R_region ?_
              refine L_val rfl rfl rfl (OpP.v (P_assign rfl rfl)) ?_
              refine L_nil ?_
              refine St.env (.cons (t := 1) rfl (.cons (t := 2) rfl (.cons (t := 3) rfl (.cons (t := 6) rfl (.cons (t := 8) rfl (.cons (t := 9) rfl (.cons (t := 10) rfl (.cons (t := 12) rfl .nil)))))))) ?_
              refine Q_then ?_
              refine R_ret ?_
              refine Q_then_ret ?_
              exact R_endV rfl rfl (.tmp rfl .nil) (rfl)
            · skip
              have h7 : ¬ b < 0 := of_decide_eq_false h7
              refine L_val rfl rfl rfl (OpP.v (P_move rfl rfl)) ?_
              refine L_val rfl rfl rfl (OpP.v (P_move rfl rfl)) ?_
              refine L_val rfl rfl rfl (OpP.v (P_move rfl rfl)) ?_
              refine L_val rfl rfl rfl (OpP.v (P_subN rfl rfl rfl (by simp only [fits]; omega))) ?_
              refine L_val rfl rfl rfl (OpP.v (P_gtr rfl rfl rfl)) ?_
              refine L_val rfl rfl rfl (OpP.v (P_pick rfl rfl rfl)) ?_
              refine L_nil ?_
              refine St.env (.cons (t := 1) rfl (.cons (t := 2) rfl (.cons (t := 3) rfl (.cons (t := 6) rfl (.cons (t := 8) rfl (.cons (t := 9) rfl (.cons (t := 10) rfl (.cons (t := 12) rfl (.cons (t := 79) rfl .nil))))))))) ?_
              refine Q_then ?_
              refine R_condP rfl (fun h8 => ?_) (fun h8 => ?_)
              · skip
                refine R_seq ?_
                refine R_region ?_
                refine L_val rfl rfl rfl (OpP.v (P_assign rfl rfl)) ?_
                refine L_nil ?_
                refine St.env (.cons (t := 1) rfl (.cons (t := 2) rfl (.cons (t := 3) rfl (.cons (t := 6) rfl (.cons (t := 8) rfl (.cons (t := 9) rfl (.cons (t := 10) rfl (.cons (t := 12) rfl .nil)))))))) ?_
                refine Q_then ?_
                refine R_ret ?_
                refine Q_then_ret ?_
                exact R_endV rfl rfl (.tmp rfl .nil) (rfl)
              · skip
                have h8 : ¬ 65536 - a < b := h8
                obtain ⟨hs1, hs2, hs3, hs4⟩ := adds_turn (a := a) (b := b) hok h1 (by omega) (by omega) (by omega)
                refine R_skip ?_
                refine Q_then ?_
                refine R_seq ?_
                refine R_region ?_
                refine L_val rfl rfl rfl (V_loadAgg rfl rfl ty_ag_25 (Rds.blk .h0) (rfl)) ?_
                refine L_val rfl rfl rfl (OpP.v (P_move rfl rfl)) ?_
                refine L_op rfl (W_call rfl rfl rfl rfl fn_ca_26 (Turn_ok ub uc (turnM l a) huc (turnM_len hmax) (turnM_ok hok) b) (Split.nil _) (fun w a b _ hb dj m => (Sn.own .h1 rfl).rw_ w ⟨_, hb, m.le (Heap.le_join_right dj)⟩) fun v3 rs3 ⟨u3, e1, e2⟩ => ?_)
                rw [hs4] at e2
                subst e1; subst e2
                refine St.ownForm (p := []) fun ub3 uc3 huv huc3 => ?_
                subst huv
                refine L_val rfl rfl rfl (OpP.v (P_move rfl rfl)) ?_
                refine L_val rfl rfl rfl (OpP.v (P_extract rfl rfl rfl)) ?_
                refine L_val rfl rfl rfl (OpP.v (P_extract rfl rfl rfl)) ?_
                refine L_op rfl (W_alloc rfl rfl rfl ty_ze_25 fun b15 => ?_)
                refine L_op rfl (W_storeAll rfl rfl rfl rfl ty_ag_25 (rfl) (by intro v hv; simp only [List.mem_singleton] at hv; subst hv; rfl) .h0 (rfl) ?_)
                refine L_val rfl rfl rfl (OpP.v (P_assign rfl rfl)) ?_
                refine L_nil ?_
                refine St.env (.cons (t := 1) rfl (.cons (t := 2) rfl (.cons (t := 3) rfl (.cons (t := 6) rfl (.cons (t := 8) rfl (.cons (t := 9) rfl (.cons (t := 10) rfl (.cons (t := 12) rfl (.cons (t := 15) rfl .nil))))))))) ?_
                refine Q_then ?_
                refine R_seq ?_
                refine R_region ?_
                refine L_val rfl rfl rfl (V_loadAgg rfl rfl ty_ag_25 (Rds.blk .h4) (rfl)) ?_
                refine L_val rfl rfl rfl (OpP.v (P_move rfl rfl)) ?_
                refine L_val rfl rfl rfl (OpP.v (P_move rfl rfl)) ?_
                refine L_val rfl rfl rfl (OpP.v (P_addN rfl rfl rfl (by simp only [fits]; omega))) ?_
                refine L_op rfl (W_call rfl rfl rfl rfl fn_ca_26 (Turn_ok base c l hc hmax hok (a + b)) (Split.nil _) (fun w a b _ hb dj m => (Sn.row hpre rfl).rw_ w ⟨_, hb, m.le (Heap.le_join_right dj)⟩) fun v4 rs4 ⟨u4, e1, e2⟩ => ?_)
                subst e1; subst e2
                refine St.ownForm (p := []) fun ub4 uc4 huv huc4 => ?_
                subst huv
                refine L_val rfl rfl rfl (OpP.v (P_move rfl rfl)) ?_
                refine L_val rfl rfl rfl (OpP.v (P_extract rfl rfl rfl)) ?_
                refine L_val rfl rfl rfl (OpP.v (P_extract rfl rfl rfl)) ?_
                refine L_op rfl (W_alloc rfl rfl rfl ty_ze_25 fun b16 => ?_)
                refine L_op rfl (W_storeAll rfl rfl rfl rfl ty_ag_25 (rfl) (by intro v hv; simp only [List.mem_singleton] at hv; subst hv; rfl) .h0 (rfl) ?_)
                refine L_val rfl rfl rfl (OpP.v (P_assign rfl rfl)) ?_
                refine L_nil ?_
                refine St.env (.cons (t := 6) rfl (.cons (t := 8) rfl (.cons (t := 9) rfl (.cons (t := 10) rfl (.cons (t := 12) rfl (.cons (t := 15) rfl (.cons (t := 16) rfl .nil))))))) ?_
                refine Q_then ?_
                refine R_seq ?_
                refine R_region ?_
                refine L_val rfl rfl rfl (V_loadAgg rfl rfl ty_ag_25 (Rds.blk .h4) (rfl)) ?_
                refine L_op rfl (W_callV rfl rfl rfl rfl fn_ca_20 (rSound_ok ub uc (turnM l a) huc (turnM_len hmax) (turnM_ok hok)) ((Sn.own .h5 rfl).rw_) ?_)
                refine L_val rfl rfl rfl (OpP.v (P_assign rfl rfl)) ?_
                refine L_nil ?_
                refine St.env (.cons (t := 6) rfl (.cons (t := 9) rfl (.cons (t := 10) rfl (.cons (t := 12) rfl (.cons (t := 15) rfl (.cons (t := 16) rfl .nil)))))) ?_
                refine Q_then ?_
                refine R_seq ?_
                refine R_seq ?_
                refine R_region ?_
                refine L_val rfl rfl rfl (OpP.v (P_move rfl rfl)) ?_
                refine L_val rfl rfl rfl (OpP.v (P_neq rfl rfl rfl)) ?_
                refine L_nil ?_
                refine St.env (.cons (t := 6) rfl (.cons (t := 9) rfl (.cons (t := 12) rfl (.cons (t := 15) rfl (.cons (t := 16) rfl (.cons (t := 97) rfl .nil)))))) ?_
                refine Q_then ?_
                refine R_condP rfl (fun h9 => ?_) (fun h9 => ?_)
                · skip
                  exact absurd hs1 h9
                · skip
                  refine R_skip ?_
                  refine Q_then ?_
                  refine R_seq ?_
                  refine R_region ?_
                  refine L_val rfl rfl rfl (OpP.v (P_move rfl rfl)) ?_
                  refine L_val rfl rfl rfl (OpP.v (P_eql rfl rfl rfl)) ?_
                  refine E_true (t := 101) rfl (decide_eq_true hs2) ?_
                  refine L_val rfl rfl rfl (OpP.v (P_move rfl rfl)) ?_
                  refine L_val rfl rfl rfl (OpP.v (P_move rfl rfl)) ?_
                  refine L_val rfl rfl rfl (OpP.v (P_eql rfl rfl rfl)) ?_
                  refine E_true (t := 104) rfl (decide_eq_true hs3) ?_
                  refine L_val rfl rfl rfl (OpP.v (P_pick rfl rfl rfl)) ?_
                  refine L_val rfl rfl rfl (OpP.v (P_move rfl rfl)) ?_
                  refine L_val rfl rfl rfl (OpP.v (P_fld0 rfl ty_fl_25_0 rfl)) ?_
                  refine L_val rfl rfl rfl (V_load rfl rfl ty_sc_22 (Rd.blk .h2 rfl)) ?_
                  refine L_val rfl rfl rfl (OpP.v (P_fld0 rfl ty_fl_25_0 rfl)) ?_
                  refine L_val rfl rfl rfl (V_load rfl rfl ty_sc_22 (Rd.blk .h0 rfl)) ?_
                  refine L_op rfl (W_callV rfl rfl rfl rfl fn_ca_18 (same_ok ub3 uc3 ub4 uc4 (turnM l (a + b)) (turnM_len hmax)) (fun w nw => ⟨(Sn.own .h3 rfl).rw_ w nw, (Sn.own .h1 rfl).rw_ w nw⟩) ?_)
                  refine E_true (t := 111) rfl (rfl) ?_
                  refine L_val rfl rfl rfl (OpP.v (P_pick rfl rfl rfl)) ?_
                  refine L_val rfl rfl rfl (OpP.v (P_assign rfl rfl)) ?_
                  refine L_nil ?_
                  refine St.env (.cons (t := 6) rfl .nil) ?_
                  refine Q_then ?_
                  refine R_ret ?_
                  exact R_endV rfl rfl (.tmp rfl .nil) (rfl)
          · skip
            refine R_skip ?_
            refine Q_then ?_
            refine R_seq ?_
            refine R_seq ?_
            refine R_region ?_
            refine L_val rfl rfl rfl (OpP.v (P_move rfl rfl)) ?_
            refine L_val rfl rfl rfl (OpP.v (P_lss rfl rfl rfl)) ?_
            refine E_bool (t := 73) rfl (fun h7 => ?_) (fun h7 => ?_)
            · skip
              refine L_val rfl rfl rfl (OpP.v (P_move rfl rfl)) ?_
              refine L_no rfl rfl rfl ?_
              refine L_no rfl rfl rfl ?_
              refine L_no rfl rfl rfl ?_
              refine L_no rfl rfl rfl ?_
              refine L_val rfl rfl rfl (OpP.v (P_pick rfl rfl rfl)) ?_
              refine L_nil ?_
              refine St.env (.cons (t := 1) rfl (.cons (t := 2) rfl (.cons (t := 3) rfl (.cons (t := 6) rfl (.cons (t := 8) rfl (.cons (t := 9) rfl (.cons (t := 10) rfl (.cons (t := 12) rfl (.cons (t := 79) rfl .nil))))))))) ?_
              refine Q_then ?_
              refine R_condT rfl ?_
              refine R_seq ?_
              refine R_region ?_
              refine L_val rfl rfl rfl (OpP.v (P_assign rfl rfl)) ?_
              refine L_nil ?_
              refine St.env (.cons (t := 1) rfl (.cons (t := 2) rfl (.cons (t := 3) rfl (.cons (t := 6) rfl (.cons (t := 8) rfl (.cons (t := 9) rfl (.cons (t := 10) rfl (.cons (t := 12) rfl .nil)))))))) ?_
              refine Q_then ?_
              refine R_ret ?_
              refine Q_then_ret ?_
              exact R_endV rfl rfl (.tmp rfl .nil) (rfl)
            · skip
              have h7 : ¬ b < 0 := of_decide_eq_false h7
              refine L_val rfl rfl rfl (OpP.v (P_move rfl rfl)) ?_
              refine L_val rfl rfl rfl (OpP.v (P_move rfl rfl)) ?_
              refine L_val rfl rfl rfl (OpP.v (P_move rfl rfl)) ?_
              refine L_val rfl rfl rfl (OpP.v (P_subN rfl rfl rfl (by simp only [fits]; omega))) ?_
              refine L_val rfl rfl rfl (OpP.v (P_gtr rfl rfl rfl)) ?_
              refine L_val rfl rfl rfl (OpP.v (P_pick rfl rfl rfl)) ?_
              refine L_nil ?_
              refine St.env (.cons (t := 1) rfl (.cons (t := 2) rfl (.cons (t := 3) rfl (.cons (t := 6) rfl (.cons (t := 8) rfl (.cons (t := 9) rfl (.cons (t := 10) rfl (.cons (t := 12) rfl (.cons (t := 79) rfl .nil))))))))) ?_
              refine Q_then ?_
              refine R_condP rfl (fun h8 => ?_) (fun h8 => ?_)
              · skip
                refine R_seq ?_
                refine R_region ?_
                refine L_val rfl rfl rfl (OpP.v (P_assign rfl rfl)) ?_
                refine L_nil ?_
                refine St.env (.cons (t := 1) rfl (.cons (t := 2) rfl (.cons (t := 3) rfl (.cons (t := 6) rfl (.cons (t := 8) rfl (.cons (t := 9) rfl (.cons (t := 10) rfl (.cons (t := 12) rfl .nil)))))))) ?_
                refine Q_then ?_
                refine R_ret ?_
                refine Q_then_ret ?_
                exact R_endV rfl rfl (.tmp rfl .nil) (rfl)
              · skip
                have h8 : ¬ 65536 - a < b := h8
                obtain ⟨hs1, hs2, hs3, hs4⟩ := adds_turn (a := a) (b := b) hok h1 (by omega) (by omega) (by omega)
                refine R_skip ?_
                refine Q_then ?_
                refine R_seq ?_
                refine R_region ?_
                refine L_val rfl rfl rfl (V_loadAgg rfl rfl ty_ag_25 (Rds.blk .h0) (rfl)) ?_
                refine L_val rfl rfl rfl (OpP.v (P_move rfl rfl)) ?_
                refine L_op rfl (W_call rfl rfl rfl rfl fn_ca_26 (Turn_ok ub uc (turnM l a) huc (turnM_len hmax) (turnM_ok hok) b) (Split.nil _) (fun w a b _ hb dj m => (Sn.own .h1 rfl).rw_ w ⟨_, hb, m.le (Heap.le_join_right dj)⟩) fun v3 rs3 ⟨u3, e1, e2⟩ => ?_)
                rw [hs4] at e2
                subst e1; subst e2
                refine St.ownForm (p := []) fun ub3 uc3 huv huc3 => ?_
                subst huv
                refine L_val rfl rfl rfl (OpP.v (P_move rfl rfl)) ?_
                refine L_val rfl rfl rfl (OpP.v (P_extract rfl rfl rfl)) ?_
                refine L_val rfl rfl rfl (OpP.v (P_extract rfl rfl rfl)) ?_
                refine L_op rfl (W_alloc rfl rfl rfl ty_ze_25 fun b15 => ?_)
                refine L_op rfl (W_storeAll rfl rfl rfl rfl ty_ag_25 (rfl) (by intro v hv; simp only [List.mem_singleton] at hv; subst hv; rfl) .h0 (rfl) ?_)
                refine L_val rfl rfl rfl (OpP.v (P_assign rfl rfl)) ?_
                refine L_nil ?_
                refine St.env (.cons (t := 1) rfl (.cons (t := 2) rfl (.cons (t := 3) rfl (.cons (t := 6) rfl (.cons (t := 8) rfl (.cons (t := 9) rfl (.cons (t := 10) rfl (.cons (t := 12) rfl (.cons (t := 15) rfl .nil))))))))) ?_
                refine Q_then ?_
                refine R_seq ?_
                refine R_region ?_
                refine L_val rfl rfl rfl (V_loadAgg rfl rfl ty_ag_25 (Rds.blk .h4) (rfl)) ?_
                refine L_val rfl rfl rfl (OpP.v (P_move rfl rfl)) ?_
                refine L_val rfl rfl rfl (OpP.v (P_move rfl rfl)) ?_
                refine L_val rfl rfl rfl (OpP.v (P_addN rfl rfl rfl (by simp only [fits]; omega))) ?_
                refine L_op rfl (W_call rfl rfl rfl rfl fn_ca_26 (Turn_ok base c l hc hmax hok (a + b)) (Split.nil _) (fun w a b _ hb dj m => (Sn.row hpre rfl).rw_ w ⟨_, hb, m.le (Heap.le_join_right dj)⟩) fun v4 rs4 ⟨u4, e1, e2⟩ => ?_)
                subst e1; subst e2
                refine St.ownForm (p := []) fun ub4 uc4 huv huc4 => ?_
                subst huv
                refine L_val rfl rfl rfl (OpP.v (P_move rfl rfl)) ?_
                refine L_val rfl rfl rfl (OpP.v (P_extract rfl rfl rfl)) ?_
                refine L_val rfl rfl rfl (OpP.v (P_extract rfl rfl rfl)) ?_
                refine L_op rfl (W_alloc rfl rfl rfl ty_ze_25 fun b16 => ?_)
                refine L_op rfl (W_storeAll rfl rfl rfl rfl ty_ag_25 (rfl) (by intro v hv; simp only [List.mem_singleton] at hv; subst hv; rfl) .h0 (rfl) ?_)
                refine L_val rfl rfl rfl (OpP.v (P_assign rfl rfl)) ?_
                refine L_nil ?_
                refine St.env (.cons (t := 6) rfl (.cons (t := 8) rfl (.cons (t := 9) rfl (.cons (t := 10) rfl (.cons (t := 12) rfl (.cons (t := 15) rfl (.cons (t := 16) rfl .nil))))))) ?_
                refine Q_then ?_
                refine R_seq ?_
                refine R_region ?_
                refine L_val rfl rfl rfl (V_loadAgg rfl rfl ty_ag_25 (Rds.blk .h4) (rfl)) ?_
                refine L_op rfl (W_callV rfl rfl rfl rfl fn_ca_20 (rSound_ok ub uc (turnM l a) huc (turnM_len hmax) (turnM_ok hok)) ((Sn.own .h5 rfl).rw_) ?_)
                refine L_val rfl rfl rfl (OpP.v (P_assign rfl rfl)) ?_
                refine L_nil ?_
                refine St.env (.cons (t := 6) rfl (.cons (t := 9) rfl (.cons (t := 10) rfl (.cons (t := 12) rfl (.cons (t := 15) rfl (.cons (t := 16) rfl .nil)))))) ?_
                refine Q_then ?_
                refine R_seq ?_
                refine R_seq ?_
                refine R_region ?_
                refine L_val rfl rfl rfl (OpP.v (P_move rfl rfl)) ?_
                refine L_val rfl rfl rfl (OpP.v (P_neq rfl rfl rfl)) ?_
                refine L_nil ?_
                refine St.env (.cons (t := 6) rfl (.cons (t := 9) rfl (.cons (t := 12) rfl (.cons (t := 15) rfl (.cons (t := 16) rfl (.cons (t := 97) rfl .nil)))))) ?_
                refine Q_then ?_
                refine R_condP rfl (fun h9 => ?_) (fun h9 => ?_)
                · skip
                  exact absurd hs1 h9
                · skip
                  refine R_skip ?_
                  refine Q_then ?_
                  refine R_seq ?_
                  refine R_region ?_
                  refine L_val rfl rfl rfl (OpP.v (P_move rfl rfl)) ?_
                  refine L_val rfl rfl rfl (OpP.v (P_eql rfl rfl rfl)) ?_
                  refine E_true (t := 101) rfl (decide_eq_true hs2) ?_
                  refine L_val rfl rfl rfl (OpP.v (P_move rfl rfl)) ?_
                  refine L_val rfl rfl rfl (OpP.v (P_move rfl rfl)) ?_
                  refine L_val rfl rfl rfl (OpP.v (P_eql rfl rfl rfl)) ?_
                  refine E_true (t := 104) rfl (decide_eq_true hs3) ?_
                  refine L_val rfl rfl rfl (OpP.v (P_pick rfl rfl rfl)) ?_
                  refine L_val rfl rfl rfl (OpP.v (P_move rfl rfl)) ?_
                  refine L_val rfl rfl rfl (OpP.v (P_fld0 rfl ty_fl_25_0 rfl)) ?_
                  refine L_val rfl rfl rfl (V_load rfl rfl ty_sc_22 (Rd.blk .h2 rfl)) ?_
                  refine L_val rfl rfl rfl (OpP.v (P_fld0 rfl ty_fl_25_0 rfl)) ?_
                  refine L_val rfl rfl rfl (V_load rfl rfl ty_sc_22 (Rd.blk .h0 rfl)) ?_
                  refine L_op rfl (W_callV rfl rfl rfl rfl fn_ca_18 (same_ok ub3 uc3 ub4 uc4 (turnM l (a + b)) (turnM_len hmax)) (fun w nw => ⟨(Sn.own .h3 rfl).rw_ w nw, (Sn.own .h1 rfl).rw_ w nw⟩) ?_)
                  refine E_true (t := 111) rfl (rfl) ?_
                  refine L_val rfl rfl rfl (OpP.v (P_pick rfl rfl rfl)) ?_
                  refine L_val rfl rfl rfl (OpP.v (P_assign rfl rfl)) ?_
                  refine L_nil ?_
                  refine St.env (.cons (t := 6) rfl .nil) ?_
                  refine Q_then ?_
                  refine R_ret ?_
                  exact R_endV rfl rfl (.tmp rfl .nil) (rfl)
end Go.Proofs.Ytjhhpagcejgclaa
