/- The walk of CouncilRenews. Printed by gen.py. -/
import Derived.Test.YtjhhpagcejgclaaCR4
set_option linter.unusedVariables false
set_option linter.unusedSimpArgs false
set_option maxRecDepth 100000
namespace Go.Proofs.Ytjhhpagcejgclaa
open Go Go.RowKit Go.Proofs
theorem renM_len {c l : List Mem} {n : Nat} (h : l.length ≤ n) : (renM c l).length ≤ n := by unfold renM; split; rw [renL_length]; exact h; exact Nat.zero_le _
theorem councilRenews_walk {gl : Nat → Obj} (base1 : Option Addr) (c1 : Nat) (l1 : List Mem) (hc1 : l1.length ≤ c1) (hmax1 : l1.length ≤ 5864062014700) (hok1 : ∀ m ∈ l1, m.ok) (base : Option Addr) (c : Nat) (l : List Mem) (hc : l.length ≤ c) (hmax : l.length ≤ 5864062014700) (hok : ∀ m ∈ l, m.ok) : SpecV (cx gl) 9 [.agg [.slice base1 l1.length c1].toArray, .slice base l.length c] (fun w => Row w base1 (memC l1) ∧ Row w base (memC l)) (.bool true) := by
  refine Spec.enter (C := cx gl) Try.func9 rfl 61 rfl rfl fun w0 h0 hsep hsub hpre => ?_
  obtain rfl : h0 = Heap.none := hsep
  show St (cx gl) _ [(0, .agg [.slice base1 l1.length c1].toArray), (1, .slice base l.length c)] _ _
  refine R_seq ?_
  refine R_region ?_
  refine L_op rfl (W_box ([.slice base1 l1.length c1]) rfl rfl rfl rfl rfl fun b2 => ?_)
  refine L_val rfl rfl rfl (OpP.v (P_assign rfl rfl)) ?_
  refine L_nil ?_
  refine St.env (.cons (t := 1) rfl (.cons (t := 2) rfl (.cons (t := 4) rfl .nil))) ?_
  refine Q_then ?_
  refine R_seq ?_
  refine R_region ?_
  refine L_op rfl (W_callV rfl rfl rfl rfl fn_ca_17 (alive_ok) (fun _ _ => trivial) ?_)
  refine L_val rfl rfl rfl (OpP.v (P_assign rfl rfl)) ?_
  refine L_nil ?_
  refine St.env (.cons (t := 1) rfl (.cons (t := 2) rfl (.cons (t := 4) rfl (.cons (t := 5) rfl .nil)))) ?_
  refine Q_then ?_
  refine R_seq ?_
  refine R_seq ?_
  refine R_region ?_
  refine L_val rfl rfl rfl (OpP.v (P_move rfl rfl)) ?_
  refine L_val rfl rfl rfl (OpP.v (P_not rfl rfl)) ?_
  refine E_false (t := 14) rfl (rfl) ?_
  refine L_nil ?_
  refine St.env (.cons (t := 1) rfl (.cons (t := 2) rfl (.cons (t := 4) rfl (.cons (t := 14) rfl .nil)))) ?_
  refine Q_then ?_
  refine R_condF rfl ?_
  refine R_skip ?_
  refine Q_then ?_
  refine R_seq ?_
  refine R_region ?_
  refine L_val rfl rfl rfl (OpP.v (P_fld0 rfl ty_fl_25_0 rfl)) ?_
  refine L_val rfl rfl rfl (V_load rfl rfl ty_sc_22 (Rd.blk .h0 rfl)) ?_
  refine L_op rfl (W_call rfl rfl rfl rfl fn_ca_14 (roomy_ok base1 c1 l1 hc1 hmax1) (Split.nil _) (fun w a b _ hb dj m => (Sn.row hpre.1 rfl).rw_ w ⟨_, hb, m.le (Heap.le_join_right dj)⟩) fun vr rs0 (e0 : rs0 = _) => ?_)
  subst e0
  refine St.ownSome (p := []) (by omega) fun fb fc hvr hfc => ?_
  subst hvr
  refine L_val rfl rfl rfl (OpP.v (P_assign rfl rfl)) ?_
  refine L_nil ?_
  refine St.env (.cons (t := 1) rfl (.cons (t := 2) rfl (.cons (t := 4) rfl (.cons (t := 6) rfl .nil)))) ?_
  refine Q_then ?_
  refine R_seq ?_
  refine R_region ?_
  refine L_val rfl rfl rfl (OpP.v (P_move rfl rfl)) ?_
  refine L_op rfl (W_call rfl rfl rfl rfl fn_ca_14 (roomy_ok base c l hc hmax) (Split.nil _) (fun w a b _ hb dj m => (Sn.row hpre.2 rfl).rw_ w ⟨_, hb, m.le (Heap.le_join_right dj)⟩) fun vr rs0 (e0 : rs0 = _) => ?_)
  subst e0
  refine St.ownSome (p := []) (by omega) fun eb ec hvr hec => ?_
  subst hvr
  refine L_val rfl rfl rfl (OpP.v (P_assign rfl rfl)) ?_
  refine L_nil ?_
  refine St.env (.cons (t := 1) rfl (.cons (t := 2) rfl (.cons (t := 4) rfl (.cons (t := 6) rfl (.cons (t := 7) rfl .nil))))) ?_
  refine Q_then ?_
  refine R_seq ?_
  refine T_open (.op 0 0 (.op 1 0 (.op 2 1 (.op 3 0 (.op 4 0 (.op 5 0 (.op 6 0 (.op 7 0 (.op 8 0 (.op 9 0 (.two 10 14 (.op 11 0 (.op 12 0 (.op 13 0 (.op 14 2 (.op 15 3 (.op 16 0 .nil)))))) (.op 10 2 (.op 11 0 (.op 12 0 (.op 13 0 (.op 15 3 (.op 16 0 .nil))))))))))))))))) mixed (by kernel_rfl) (QOk.then QOk.body) ?_
  refine T_pure rfl rfl rfl rfl (P_move rfl rfl) ?_
  refine T_pure rfl rfl rfl rfl (P_fld0 rfl ty_fl_25_0 rfl) ?_
  refine T_val rfl rfl rfl rfl (V_load rfl rfl ty_sc_22 (Rd.blk .h2 rfl)) ?_
  refine T_pure rfl rfl rfl rfl (P_len rfl ty_sl_22 rfl) ?_
  refine T_pure rfl rfl rfl rfl (P_slice 0 l1.length rfl ty_sl_22 rfl rfl ⟨_, rfl⟩ (by omega) (by omega)) ?_
  refine E_as (t := 25) (v' := .slice (some ⟨fb, 0, none⟩) l1.length fc) rfl (by unfold sliced; rw [if_neg (by omega)]; simp [add_zero_off]) ?_
  refine T_pure rfl rfl rfl rfl (P_buildStruct rfl ty_pl_25 ty_ze_25 rfl rfl (rfl)) ?_
  refine E_as (t := 26) (v' := .agg [.slice (some ⟨fb, 0, none⟩) l1.length fc].toArray) rfl rfl ?_
  refine T_pure rfl rfl rfl rfl (P_move rfl rfl) ?_
  refine T_pure rfl rfl rfl rfl (P_move rfl rfl) ?_
  refine T_pure rfl rfl rfl rfl (P_len rfl ty_sl_22 rfl) ?_
  refine T_pure rfl rfl rfl rfl (P_slice 0 l.length rfl ty_sl_22 rfl rfl ⟨_, rfl⟩ (by omega) (by omega)) ?_
  refine E_as (t := 30) (v' := .slice (some ⟨eb, 0, none⟩) l.length ec) rfl (by unfold sliced; rw [if_neg (by omega)]; simp [add_zero_off]) ?_
  refine T_two ?_ ?_
  · skip
    refine T_keep rfl rfl (W_call rfl rfl rfl rfl fn_ca_37 (Renew_ok (some ⟨fb, 0, none⟩) fc l1 (by omega) hmax1 hok1 (some ⟨eb, 0, none⟩) ec l (by omega) hmax hok) (Split.nil _) (by first | exact fun w a b _ hb dj m => ⟨(sn_left .h1).rw_ w ⟨_, hb, m.le (Heap.le_join_right dj)⟩, (sn_left .h0).rw_ w ⟨_, hb, m.le (Heap.le_join_right dj)⟩⟩ | exact fun w a b _ hb dj m => ⟨(sn_left .h2).rw_ w ⟨_, hb, m.le (Heap.le_join_right dj)⟩, (sn_left .h1).rw_ w ⟨_, hb, m.le (Heap.le_join_right dj)⟩⟩) fun v1 rs1 ⟨u, e1, e2⟩ => ?_)
    subst e1; subst e2
    refine St.ownForm (p := []) fun ub uc huv huc => ?_
    subst huv
    refine K_keepT (Weak.drop (Weak.refl _)) ?_
    refine T_pure rfl rfl rfl rfl (P_move rfl rfl) ?_
    refine T_pure rfl rfl rfl rfl (P_extract rfl rfl rfl) ?_
    refine T_pure rfl rfl rfl rfl (P_extract rfl rfl rfl) ?_
    refine T_keep rfl rfl (W_alloc rfl rfl rfl ty_ze_25 fun b8 => (K_keepT (Weak.drop (Weak.refl _)) ?_))
    first | (refine T_new rfl rfl (W_storeAll rfl rfl rfl rfl ty_ag_25 (rfl) (by intro v hv; simp only [List.mem_singleton] at hv; subst hv; rfl) .h0 (rfl) (K_newT ?_))) | (refine T_new rfl rfl (W_storeAll rfl rfl rfl rfl ty_ag_25 (rfl) (by intro v hv; simp only [List.mem_singleton] at hv; subst hv; rfl) .h1 (rfl) (K_newT ?_))) | (refine T_new rfl rfl (W_storeAll rfl rfl rfl rfl ty_ag_25 (rfl) (by intro v hv; simp only [List.mem_singleton] at hv; subst hv; rfl) .h2 (rfl) (K_newT ?_))) | (refine T_new rfl rfl (W_storeAll rfl rfl rfl rfl ty_ag_25 (rfl) (by intro v hv; simp only [List.mem_singleton] at hv; subst hv; rfl) .h3 (rfl) (K_newT ?_))) | (refine T_new rfl rfl (W_storeAll rfl rfl rfl rfl ty_ag_25 (rfl) (by intro v hv; simp only [List.mem_singleton] at hv; subst hv; rfl) .h4 (rfl) (K_newT ?_))) | (refine T_new rfl rfl (W_storeAll rfl rfl rfl rfl ty_ag_25 (rfl) (by intro v hv; simp only [List.mem_singleton] at hv; subst hv; rfl) .h5 (rfl) (K_newT ?_))) | (refine T_new rfl rfl (W_storeAll rfl rfl rfl rfl ty_ag_25 (rfl) (by intro v hv; simp only [List.mem_singleton] at hv; subst hv; rfl) .h6 (rfl) (K_newT ?_))) | (refine T_new rfl rfl (W_storeAll rfl rfl rfl rfl ty_ag_25 (rfl) (by intro v hv; simp only [List.mem_singleton] at hv; subst hv; rfl) .h7 (rfl) (K_newT ?_)))
    refine T_pure rfl rfl rfl rfl (P_assign rfl rfl) ?_
    refine T_nil ?_
    refine St.env (.cons (t := 1) rfl (.cons (t := 2) rfl (.cons (t := 4) rfl (.cons (t := 6) rfl (.cons (t := 7) rfl (.cons (t := 8) rfl (.cons (t := 9) rfl .nil))))))) ?_
    refine Q_then ?_
    refine R_seq ?_
    refine St.res (rs' := [blk b8 [.slice ub (renM l1 l).length uc] 25, ownS 48 3 (.slice ub (renM l1 l).length uc) ((renM l1 l).length) (memC (renM l1 l)), ownS 48 3 (.slice (some ⟨eb, 0, none⟩) (l.length + 2) ec) (l.length + 2) (memC (l ++ marks)), ownS 48 3 (.slice (some ⟨fb, 0, none⟩) (l1.length + 2) fc) (l1.length + 2) (memC (l1 ++ marks)), blk b2 [.slice base1 l1.length c1] 25]) (by first | exact Weak.keep (Weak.keep (Weak.keep (Weak.keep (Weak.keep (Weak.nil _))))) | exact Weak.pick (p := [_]) (Weak.keep (Weak.keep (Weak.keep (Weak.keep (Weak.nil _)))))) ?_
    refine R_region ?_
    refine L_val rfl rfl rfl (V_loadAgg rfl rfl ty_ag_25 (Rds.blk .h4) (rfl)) ?_
    refine L_val rfl rfl rfl (OpP.v (P_move rfl rfl)) ?_
    refine L_op rfl (W_call rfl rfl rfl rfl fn_ca_38 (rRenew_ok base1 c1 l1 hc1 hmax1 hok1 base c l hc hmax hok) (Split.nil _) (fun w a b _ hb dj m => ⟨(Sn.row hpre.1 rfl).rw_ w ⟨_, hb, m.le (Heap.le_join_right dj)⟩, (Sn.row hpre.2 rfl).rw_ w ⟨_, hb, m.le (Heap.le_join_right dj)⟩⟩) fun v2 rs2 ⟨u2, e1, e2⟩ => ?_)
    subst e1; subst e2
    refine St.ownForm (p := []) fun vb vc huv hvc => ?_
    subst huv
    refine L_val rfl rfl rfl (OpP.v (P_move rfl rfl)) ?_
    refine L_val rfl rfl rfl (OpP.v (P_extract rfl rfl rfl)) ?_
    refine L_val rfl rfl rfl (OpP.v (P_extract rfl rfl rfl)) ?_
    refine L_op rfl (W_alloc rfl rfl rfl ty_ze_25 fun b10 => ?_)
    refine L_op rfl (W_storeAll rfl rfl rfl rfl ty_ag_25 (rfl) (by intro v hv; simp only [List.mem_singleton] at hv; subst hv; rfl) .h0 (rfl) ?_)
    refine L_val rfl rfl rfl (OpP.v (P_assign rfl rfl)) ?_
    refine L_nil ?_
    refine St.env (.cons (t := 1) rfl (.cons (t := 2) rfl (.cons (t := 4) rfl (.cons (t := 6) rfl (.cons (t := 7) rfl (.cons (t := 8) rfl (.cons (t := 9) rfl (.cons (t := 10) rfl (.cons (t := 11) rfl .nil))))))))) ?_
    refine Q_then ?_
    refine R_seq ?_
    refine R_region ?_
    refine L_val rfl rfl rfl (OpP.v (P_move rfl rfl)) ?_
    refine L_val rfl rfl rfl (OpP.v (P_move rfl rfl)) ?_
    refine L_val rfl rfl rfl (OpP.v (P_eql rfl rfl rfl)) ?_
    refine E_true (t := 42) rfl (decide_eq_true rfl) ?_
    refine L_val rfl rfl rfl (OpP.v (P_move rfl rfl)) ?_
    refine L_val rfl rfl rfl (OpP.v (P_fld0 rfl ty_fl_25_0 rfl)) ?_
    refine L_val rfl rfl rfl (V_load rfl rfl ty_sc_22 (Rd.blk .h2 rfl)) ?_
    refine L_val rfl rfl rfl (OpP.v (P_fld0 rfl ty_fl_25_0 rfl)) ?_
    refine L_val rfl rfl rfl (V_load rfl rfl ty_sc_22 (Rd.blk .h0 rfl)) ?_
    refine L_op rfl (W_callV rfl rfl rfl rfl fn_ca_18 (same_ok ub uc vb vc (renM l1 l) (renM_len hmax)) (fun w nw => ⟨(Sn.own .h3 rfl).rw_ w nw, (Sn.own .h1 rfl).rw_ w nw⟩) ?_)
    refine E_true (t := 48) rfl (rfl) ?_
    refine L_val rfl rfl rfl (OpP.v (P_pick rfl rfl rfl)) ?_
    refine L_val rfl rfl rfl (OpP.v (P_move rfl rfl)) ?_
    refine L_val rfl rfl rfl (OpP.v (P_move rfl rfl)) ?_
    refine L_val rfl rfl rfl (OpP.v (P_fld0 rfl ty_fl_25_0 rfl)) ?_
    refine L_val rfl rfl rfl (V_load rfl rfl ty_sc_22 (Rd.blk .h6 rfl)) ?_
    refine L_op rfl (W_callV rfl rfl rfl rfl fn_ca_19 (kept_ok fb 0 fc base1 c1 l1 hc1 hmax1 hfc) (fun w nw => ⟨(Sn.own .h5 rfl).rowAt0 (fun _ _ h => h) w nw, (Sn.row hpre.1 rfl).rw_ w nw⟩) ?_)
    refine E_true (t := 54) rfl (rfl) ?_
    refine L_val rfl rfl rfl (OpP.v (P_pick rfl rfl rfl)) ?_
    refine L_val rfl rfl rfl (OpP.v (P_move rfl rfl)) ?_
    refine L_val rfl rfl rfl (OpP.v (P_move rfl rfl)) ?_
    refine L_val rfl rfl rfl (OpP.v (P_move rfl rfl)) ?_
    refine L_op rfl (W_callV rfl rfl rfl rfl fn_ca_19 (kept_ok eb 0 ec base c l hc hmax hec) (fun w nw => ⟨(Sn.own .h4 rfl).rowAt0 (fun _ _ h => h) w nw, (Sn.row hpre.2 rfl).rw_ w nw⟩) ?_)
    refine E_true (t := 59) rfl (rfl) ?_
    refine L_val rfl rfl rfl (OpP.v (P_pick rfl rfl rfl)) ?_
    refine L_val rfl rfl rfl (OpP.v (P_assign rfl rfl)) ?_
    refine L_nil ?_
    refine St.env (.cons (t := 4) rfl .nil) ?_
    refine Q_then ?_
    refine R_ret ?_
    exact R_endV rfl rfl (.tmp rfl .nil) (rfl)
  · skip
    refine T_keep rfl rfl (W_alloc rfl rfl rfl ty_ze_25 fun b8 => (K_keepT (Weak.drop (Weak.refl _)) ?_))
    refine T_keep rfl rfl (W_call rfl rfl rfl rfl fn_ca_37 (Renew_ok (some ⟨fb, 0, none⟩) fc l1 (by omega) hmax1 hok1 (some ⟨eb, 0, none⟩) ec l (by omega) hmax hok) (Split.nil _) (by first | exact fun w a b _ hb dj m => ⟨(sn_left .h1).rw_ w ⟨_, hb, m.le (Heap.le_join_right dj)⟩, (sn_left .h0).rw_ w ⟨_, hb, m.le (Heap.le_join_right dj)⟩⟩ | exact fun w a b _ hb dj m => ⟨(sn_left .h2).rw_ w ⟨_, hb, m.le (Heap.le_join_right dj)⟩, (sn_left .h1).rw_ w ⟨_, hb, m.le (Heap.le_join_right dj)⟩⟩) fun v1 rs1 ⟨u, e1, e2⟩ => ?_)
    subst e1; subst e2
    refine St.ownForm (p := []) fun ub uc huv huc => ?_
    subst huv
    refine K_keepT (Weak.drop (Weak.refl _)) ?_
    refine T_pure rfl rfl rfl rfl (P_move rfl rfl) ?_
    refine T_pure rfl rfl rfl rfl (P_extract rfl rfl rfl) ?_
    refine T_pure rfl rfl rfl rfl (P_extract rfl rfl rfl) ?_
    first | (refine T_new rfl rfl (W_storeAll rfl rfl rfl rfl ty_ag_25 (rfl) (by intro v hv; simp only [List.mem_singleton] at hv; subst hv; rfl) .h0 (rfl) (K_newT ?_))) | (refine T_new rfl rfl (W_storeAll rfl rfl rfl rfl ty_ag_25 (rfl) (by intro v hv; simp only [List.mem_singleton] at hv; subst hv; rfl) .h1 (rfl) (K_newT ?_))) | (refine T_new rfl rfl (W_storeAll rfl rfl rfl rfl ty_ag_25 (rfl) (by intro v hv; simp only [List.mem_singleton] at hv; subst hv; rfl) .h2 (rfl) (K_newT ?_))) | (refine T_new rfl rfl (W_storeAll rfl rfl rfl rfl ty_ag_25 (rfl) (by intro v hv; simp only [List.mem_singleton] at hv; subst hv; rfl) .h3 (rfl) (K_newT ?_))) | (refine T_new rfl rfl (W_storeAll rfl rfl rfl rfl ty_ag_25 (rfl) (by intro v hv; simp only [List.mem_singleton] at hv; subst hv; rfl) .h4 (rfl) (K_newT ?_))) | (refine T_new rfl rfl (W_storeAll rfl rfl rfl rfl ty_ag_25 (rfl) (by intro v hv; simp only [List.mem_singleton] at hv; subst hv; rfl) .h5 (rfl) (K_newT ?_))) | (refine T_new rfl rfl (W_storeAll rfl rfl rfl rfl ty_ag_25 (rfl) (by intro v hv; simp only [List.mem_singleton] at hv; subst hv; rfl) .h6 (rfl) (K_newT ?_))) | (refine T_new rfl rfl (W_storeAll rfl rfl rfl rfl ty_ag_25 (rfl) (by intro v hv; simp only [List.mem_singleton] at hv; subst hv; rfl) .h7 (rfl) (K_newT ?_)))
    refine T_pure rfl rfl rfl rfl (P_assign rfl rfl) ?_
    refine T_nil ?_
    refine St.env (.cons (t := 1) rfl (.cons (t := 2) rfl (.cons (t := 4) rfl (.cons (t := 6) rfl (.cons (t := 7) rfl (.cons (t := 8) rfl (.cons (t := 9) rfl .nil))))))) ?_
    refine Q_then ?_
    refine R_seq ?_
    refine St.res (rs' := [blk b8 [.slice ub (renM l1 l).length uc] 25, ownS 48 3 (.slice ub (renM l1 l).length uc) ((renM l1 l).length) (memC (renM l1 l)), ownS 48 3 (.slice (some ⟨eb, 0, none⟩) (l.length + 2) ec) (l.length + 2) (memC (l ++ marks)), ownS 48 3 (.slice (some ⟨fb, 0, none⟩) (l1.length + 2) fc) (l1.length + 2) (memC (l1 ++ marks)), blk b2 [.slice base1 l1.length c1] 25]) (by first | exact Weak.keep (Weak.keep (Weak.keep (Weak.keep (Weak.keep (Weak.nil _))))) | exact Weak.pick (p := [_]) (Weak.keep (Weak.keep (Weak.keep (Weak.keep (Weak.nil _)))))) ?_
    refine R_region ?_
    refine L_val rfl rfl rfl (V_loadAgg rfl rfl ty_ag_25 (Rds.blk .h4) (rfl)) ?_
    refine L_val rfl rfl rfl (OpP.v (P_move rfl rfl)) ?_
    refine L_op rfl (W_call rfl rfl rfl rfl fn_ca_38 (rRenew_ok base1 c1 l1 hc1 hmax1 hok1 base c l hc hmax hok) (Split.nil _) (fun w a b _ hb dj m => ⟨(Sn.row hpre.1 rfl).rw_ w ⟨_, hb, m.le (Heap.le_join_right dj)⟩, (Sn.row hpre.2 rfl).rw_ w ⟨_, hb, m.le (Heap.le_join_right dj)⟩⟩) fun v2 rs2 ⟨u2, e1, e2⟩ => ?_)
    subst e1; subst e2
    refine St.ownForm (p := []) fun vb vc huv hvc => ?_
    subst huv
    refine L_val rfl rfl rfl (OpP.v (P_move rfl rfl)) ?_
    refine L_val rfl rfl rfl (OpP.v (P_extract rfl rfl rfl)) ?_
    refine L_val rfl rfl rfl (OpP.v (P_extract rfl rfl rfl)) ?_
    refine L_op rfl (W_alloc rfl rfl rfl ty_ze_25 fun b10 => ?_)
    refine L_op rfl (W_storeAll rfl rfl rfl rfl ty_ag_25 (rfl) (by intro v hv; simp only [List.mem_singleton] at hv; subst hv; rfl) .h0 (rfl) ?_)
    refine L_val rfl rfl rfl (OpP.v (P_assign rfl rfl)) ?_
    refine L_nil ?_
    refine St.env (.cons (t := 1) rfl (.cons (t := 2) rfl (.cons (t := 4) rfl (.cons (t := 6) rfl (.cons (t := 7) rfl (.cons (t := 8) rfl (.cons (t := 9) rfl (.cons (t := 10) rfl (.cons (t := 11) rfl .nil))))))))) ?_
    refine Q_then ?_
    refine R_seq ?_
    refine R_region ?_
    refine L_val rfl rfl rfl (OpP.v (P_move rfl rfl)) ?_
    refine L_val rfl rfl rfl (OpP.v (P_move rfl rfl)) ?_
    refine L_val rfl rfl rfl (OpP.v (P_eql rfl rfl rfl)) ?_
    refine E_true (t := 42) rfl (decide_eq_true rfl) ?_
    refine L_val rfl rfl rfl (OpP.v (P_move rfl rfl)) ?_
    refine L_val rfl rfl rfl (OpP.v (P_fld0 rfl ty_fl_25_0 rfl)) ?_
    refine L_val rfl rfl rfl (V_load rfl rfl ty_sc_22 (Rd.blk .h2 rfl)) ?_
    refine L_val rfl rfl rfl (OpP.v (P_fld0 rfl ty_fl_25_0 rfl)) ?_
    refine L_val rfl rfl rfl (V_load rfl rfl ty_sc_22 (Rd.blk .h0 rfl)) ?_
    refine L_op rfl (W_callV rfl rfl rfl rfl fn_ca_18 (same_ok ub uc vb vc (renM l1 l) (renM_len hmax)) (fun w nw => ⟨(Sn.own .h3 rfl).rw_ w nw, (Sn.own .h1 rfl).rw_ w nw⟩) ?_)
    refine E_true (t := 48) rfl (rfl) ?_
    refine L_val rfl rfl rfl (OpP.v (P_pick rfl rfl rfl)) ?_
    refine L_val rfl rfl rfl (OpP.v (P_move rfl rfl)) ?_
    refine L_val rfl rfl rfl (OpP.v (P_move rfl rfl)) ?_
    refine L_val rfl rfl rfl (OpP.v (P_fld0 rfl ty_fl_25_0 rfl)) ?_
    refine L_val rfl rfl rfl (V_load rfl rfl ty_sc_22 (Rd.blk .h6 rfl)) ?_
    refine L_op rfl (W_callV rfl rfl rfl rfl fn_ca_19 (kept_ok fb 0 fc base1 c1 l1 hc1 hmax1 hfc) (fun w nw => ⟨(Sn.own .h5 rfl).rowAt0 (fun _ _ h => h) w nw, (Sn.row hpre.1 rfl).rw_ w nw⟩) ?_)
    refine E_true (t := 54) rfl (rfl) ?_
    refine L_val rfl rfl rfl (OpP.v (P_pick rfl rfl rfl)) ?_
    refine L_val rfl rfl rfl (OpP.v (P_move rfl rfl)) ?_
    refine L_val rfl rfl rfl (OpP.v (P_move rfl rfl)) ?_
    refine L_val rfl rfl rfl (OpP.v (P_move rfl rfl)) ?_
    refine L_op rfl (W_callV rfl rfl rfl rfl fn_ca_19 (kept_ok eb 0 ec base c l hc hmax hec) (fun w nw => ⟨(Sn.own .h4 rfl).rowAt0 (fun _ _ h => h) w nw, (Sn.row hpre.2 rfl).rw_ w nw⟩) ?_)
    refine E_true (t := 59) rfl (rfl) ?_
    refine L_val rfl rfl rfl (OpP.v (P_pick rfl rfl rfl)) ?_
    refine L_val rfl rfl rfl (OpP.v (P_assign rfl rfl)) ?_
    refine L_nil ?_
    refine St.env (.cons (t := 4) rfl .nil) ?_
    refine Q_then ?_
    refine R_ret ?_
    exact R_endV rfl rfl (.tmp rfl .nil) (rfl)
end Go.Proofs.Ytjhhpagcejgclaa
