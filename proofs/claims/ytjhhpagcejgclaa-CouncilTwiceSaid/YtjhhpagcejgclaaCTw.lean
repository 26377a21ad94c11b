/- The walk of CouncilTwice. Printed by gen.py. -/
import Derived.Test.YtjhhpagcejgclaaCM1
set_option linter.unusedVariables false
set_option linter.unusedSimpArgs false
set_option maxRecDepth 100000
namespace Go.Proofs.Ytjhhpagcejgclaa
open Go Go.RowKit Go.Proofs
theorem councilTwice_walk {gl : Nat → Obj} (base : Option Addr) (c : Nat) (l : List Mem) (hc : l.length ≤ c) (hmax : l.length ≤ 5864062014700) (hok : ∀ m ∈ l, m.ok) (ab : Option Addr) (ac : Nat) (az : List Ac) (hac : az.length ≤ ac) (haz : ∀ a ∈ az, AcOk a) (hamax : az.length ≤ 9223372036854775806) (base1 : Option Addr) (c1 : Nat) (l1 : List Mem) (hc1 : l1.length ≤ c1) (hmax1 : l1.length ≤ 5864062014700) (hok1 : ∀ m ∈ l1, m.ok) : SpecV (cx gl) 12 [.slice base l.length c, .slice ab az.length ac, .slice base1 l1.length c1] (fun w => Row w base (memC l) ∧ Row w ab (acC az) ∧ (∀ a ∈ az, Row w a.b (memC a.l)) ∧ Row w base1 (memC l1)) (.bool true) := by
  refine Spec.enter (C := cx gl) Try.func12 rfl 86 rfl rfl fun w0 h0 hsep hsub hpre => ?_
  obtain rfl : h0 = Heap.none := hsep
  show St (cx gl) _ [(0, .slice base l.length c), (1, .slice ab az.length ac), (2, .slice base1 l1.length c1)] _ _
  refine R_seq ?_
  refine R_region ?_
  refine L_val rfl rfl rfl (OpP.v (P_assign rfl rfl)) ?_
  refine L_nil ?_
  refine Q_then ?_
  refine R_seq ?_
  refine R_region ?_
  refine L_op rfl (W_callV rfl rfl rfl rfl fn_ca_17 (alive_ok) (fun _ _ => trivial) ?_)
  refine L_val rfl rfl rfl (OpP.v (P_assign rfl rfl)) ?_
  refine L_nil ?_
  refine St.env (.cons (t := 0) rfl (.cons (t := 1) rfl (.cons (t := 2) rfl (.cons (t := 6) rfl (.cons (t := 7) rfl .nil))))) ?_
  refine Q_then ?_
  refine R_seq ?_
  refine R_seq ?_
  refine R_region ?_
  refine L_val rfl rfl rfl (OpP.v (P_move rfl rfl)) ?_
  refine L_val rfl rfl rfl (OpP.v (P_not rfl rfl)) ?_
  refine E_false (t := 20) rfl (rfl) ?_
  refine L_nil ?_
  refine St.env (.cons (t := 0) rfl (.cons (t := 1) rfl (.cons (t := 2) rfl (.cons (t := 6) rfl (.cons (t := 7) rfl (.cons (t := 20) rfl .nil)))))) ?_
  refine Q_then ?_
  refine R_condF rfl ?_
  refine R_skip ?_
  refine Q_then ?_
  refine R_seq ?_
  refine R_region ?_
  refine L_val rfl rfl rfl (OpP.v (P_move rfl rfl)) ?_
  refine L_op rfl (W_call rfl rfl rfl rfl fn_ca_16 (rNew_ok base c l hc hmax hok) (Split.nil _) (fun w a b _ hb dj m => (Sn.row hpre.1 rfl).rw_ w ⟨_, hb, m.le (Heap.le_join_right dj)⟩) fun v1 rs1 ⟨u, e1, e2⟩ => ?_)
  subst e1; subst e2
  refine St.ownForm (p := []) fun xb xc huv hxc => ?_
  subst huv
  refine L_val rfl rfl rfl (OpP.v (P_move rfl rfl)) ?_
  refine L_val rfl rfl rfl (OpP.v (P_extract rfl rfl rfl)) ?_
  refine L_val rfl rfl rfl (OpP.v (P_extract rfl rfl rfl)) ?_
  refine L_op rfl (W_alloc rfl rfl rfl ty_ze_25 fun b8 => ?_)
  refine L_op rfl (W_storeAll rfl rfl rfl rfl ty_ag_25 (rfl) (by intro v hv; simp only [List.mem_singleton] at hv; subst hv; rfl) .h0 (rfl) ?_)
  refine L_val rfl rfl rfl (OpP.v (P_assign rfl rfl)) ?_
  refine L_nil ?_
  refine St.env (.cons (t := 0) rfl (.cons (t := 1) rfl (.cons (t := 2) rfl (.cons (t := 6) rfl (.cons (t := 7) rfl (.cons (t := 9) rfl .nil)))))) ?_
  refine Q_then ?_
  refine R_seq ?_
  refine R_region ?_
  refine L_val rfl rfl rfl (OpP.v (P_move rfl rfl)) ?_
  refine L_op rfl (W_call rfl rfl rfl rfl fn_ca_16 (rNew_ok base1 c1 l1 hc1 hmax1 hok1) (Split.nil _) (fun w a b _ hb dj m => (Sn.row hpre.2.2.2 rfl).rw_ w ⟨_, hb, m.le (Heap.le_join_right dj)⟩) fun v7 rs7 ⟨u7, e1, e2⟩ => ?_)
  subst e1; subst e2
  refine St.ownForm (p := []) fun yb yc huv hyc => ?_
  subst huv
  refine L_val rfl rfl rfl (OpP.v (P_move rfl rfl)) ?_
  refine L_val rfl rfl rfl (OpP.v (P_extract rfl rfl rfl)) ?_
  refine L_val rfl rfl rfl (OpP.v (P_extract rfl rfl rfl)) ?_
  refine L_op rfl (W_alloc rfl rfl rfl ty_ze_25 fun b10 => ?_)
  refine L_op rfl (W_storeAll rfl rfl rfl rfl ty_ag_25 (rfl) (by intro v hv; simp only [List.mem_singleton] at hv; subst hv; rfl) .h0 (rfl) ?_)
  refine L_val rfl rfl rfl (OpP.v (P_assign rfl rfl)) ?_
  refine L_nil ?_
  refine St.env (.cons (t := 0) rfl (.cons (t := 1) rfl (.cons (t := 2) rfl (.cons (t := 6) rfl (.cons (t := 7) rfl (.cons (t := 9) rfl (.cons (t := 11) rfl .nil))))))) ?_
  refine Q_then ?_
  refine R_seq ?_
  refine R_seq ?_
  refine R_region ?_
  refine L_val rfl rfl rfl (OpP.v (P_move rfl rfl)) ?_
  refine L_val rfl rfl rfl (OpP.v (P_neq rfl rfl rfl)) ?_
  refine E_bool (t := 32) rfl (fun hn1 => ?_) (fun hn1 => ?_)
  · skip
    refine L_val rfl rfl rfl (OpP.v (P_move rfl rfl)) ?_
    refine L_no rfl rfl rfl ?_
    refine L_no rfl rfl rfl ?_
    refine L_val rfl rfl rfl (OpP.v (P_pick rfl rfl rfl)) ?_
    refine L_nil ?_
    refine St.env (.cons (t := 0) rfl (.cons (t := 1) rfl (.cons (t := 2) rfl (.cons (t := 6) rfl (.cons (t := 7) rfl (.cons (t := 36) rfl .nil)))))) ?_
    refine Q_then ?_
    refine R_condT rfl ?_
    refine R_seq ?_
    refine R_region ?_
    refine L_val rfl rfl rfl (OpP.v (P_assign rfl rfl)) ?_
    refine L_nil ?_
    refine St.env (.cons (t := 0) rfl (.cons (t := 1) rfl (.cons (t := 2) rfl (.cons (t := 6) rfl (.cons (t := 7) rfl .nil))))) ?_
    refine Q_then ?_
    refine R_ret ?_
    refine Q_then_ret ?_
    exact R_endV rfl rfl (.tmp rfl .nil) (rfl)
  · skip
    have he : memE l = 0 := Classical.not_not.1 (of_decide_eq_false hn1)
    refine L_val rfl rfl rfl (OpP.v (P_move rfl rfl)) ?_
    refine L_val rfl rfl rfl (OpP.v (P_move rfl rfl)) ?_
    refine L_val rfl rfl rfl (OpP.v (P_neq rfl rfl rfl)) ?_
    refine E_bool (t := 35) rfl (fun hn2 => ?_) (fun hn2 => ?_)
    · skip
      refine L_val rfl rfl rfl (OpP.v (P_pick rfl rfl rfl)) ?_
      refine L_nil ?_
      refine St.env (.cons (t := 0) rfl (.cons (t := 1) rfl (.cons (t := 2) rfl (.cons (t := 6) rfl (.cons (t := 7) rfl (.cons (t := 36) rfl .nil)))))) ?_
      refine Q_then ?_
      refine R_condT rfl ?_
      refine R_seq ?_
      refine R_region ?_
      refine L_val rfl rfl rfl (OpP.v (P_assign rfl rfl)) ?_
      refine L_nil ?_
      refine St.env (.cons (t := 0) rfl (.cons (t := 1) rfl (.cons (t := 2) rfl (.cons (t := 6) rfl (.cons (t := 7) rfl .nil))))) ?_
      refine Q_then ?_
      refine R_ret ?_
      refine Q_then_ret ?_
      exact R_endV rfl rfl (.tmp rfl .nil) (rfl)
    · skip
      have he1 : memE l1 = 0 := Classical.not_not.1 (of_decide_eq_false hn2)
      obtain ⟨hG, hG64⟩ := good_len hok he haz az.length (Nat.le_refl _)
      rw [List.take_length] at hG hG64
      have hR := good_renE hG he1
      have hGa := good_ren (c := (mkL l az)) hok1 he1
      have hGa64 := hGa.play.few
      have hR2 := good_renE hGa he1
      have hR3 := good_renE hGa hGa.mem
      obtain ⟨ht1, ht2⟩ := ren_twice (c := (mkL l az)) hok1 he1
      refine L_val rfl rfl rfl (OpP.v (P_pick rfl rfl rfl)) ?_
      refine L_nil ?_
      refine St.env (.cons (t := 0) rfl (.cons (t := 1) rfl (.cons (t := 2) rfl (.cons (t := 6) rfl (.cons (t := 7) rfl (.cons (t := 36) rfl .nil)))))) ?_
      refine Q_then ?_
      refine R_condF rfl ?_
      refine R_skip ?_
      refine Q_then ?_
      refine R_seq ?_
      refine R_region ?_
      refine L_val rfl rfl rfl (OpP.v (P_move rfl rfl)) ?_
      refine L_val rfl rfl rfl (OpP.v (P_move rfl rfl)) ?_
      refine L_op rfl (W_call rfl rfl rfl rfl fn_ca_39 (made_ok base c l hc hmax hok he ab ac az hac haz hamax) (Split.nil _) (fun w a b _ hb dj m => ⟨(Sn.row hpre.1 rfl).rw_ w ⟨_, hb, m.le (Heap.le_join_right dj)⟩, (Sn.row hpre.2.1 rfl).rw_ w ⟨_, hb, m.le (Heap.le_join_right dj)⟩, fun a' ha' => (Sn.row (hpre.2.2.1 a' ha') rfl).rw_ w ⟨_, hb, m.le (Heap.le_join_right dj)⟩⟩) fun v2 rs2 ⟨u2, e1, e2⟩ => ?_)
      subst e1; subst e2
      refine St.ownForm (p := []) fun ub uc huv huc => ?_
      subst huv
      refine L_val rfl rfl rfl (OpP.v (P_move rfl rfl)) ?_
      refine L_val rfl rfl rfl (OpP.v (P_extract rfl rfl rfl)) ?_
      refine L_val rfl rfl rfl (OpP.v (P_extract rfl rfl rfl)) ?_
      refine L_op rfl (W_alloc rfl rfl rfl ty_ze_25 fun b12 => ?_)
      refine L_op rfl (W_storeAll rfl rfl rfl rfl ty_ag_25 (rfl) (by intro v hv; simp only [List.mem_singleton] at hv; subst hv; rfl) .h0 (rfl) ?_)
      refine L_val rfl rfl rfl (OpP.v (P_assign rfl rfl)) ?_
      refine L_nil ?_
      refine St.env (.cons (t := 2) rfl (.cons (t := 6) rfl (.cons (t := 7) rfl (.cons (t := 12) rfl .nil)))) ?_
      refine Q_then ?_
      refine R_seq ?_
      refine R_seq ?_
      refine R_region ?_
      refine L_val rfl rfl rfl (OpP.v (P_move rfl rfl)) ?_
      refine L_val rfl rfl rfl (OpP.v (P_not rfl rfl)) ?_
      refine E_false (t := 44) rfl (rfl) ?_
      refine L_nil ?_
      refine St.env (.cons (t := 2) rfl (.cons (t := 6) rfl (.cons (t := 12) rfl (.cons (t := 44) rfl .nil)))) ?_
      refine Q_then ?_
      refine R_condF rfl ?_
      refine R_skip ?_
      refine Q_then ?_
      refine R_seq ?_
      refine St.res (rs' := [blk b12 [.slice ub (mkL l az).length uc] 25, ownS 48 3 (.slice ub (mkL l az).length uc) ((mkL l az).length) (memC (mkL l az))]) (Weak.keep (Weak.keep (Weak.nil _))) ?_
      refine R_region ?_
      refine L_val rfl rfl rfl (V_loadAgg rfl rfl ty_ag_25 (Rds.blk .h0) (rfl)) ?_
      refine L_val rfl rfl rfl (OpP.v (P_move rfl rfl)) ?_
      refine L_op rfl (W_call rfl rfl rfl rfl fn_ca_37 (Renew_ok ub uc (mkL l az) huc (by omega) hG.ok base1 c1 l1 hc1 hmax1 hok1) (Split.nil _) (fun w a b _ hb dj m => ⟨(Sn.own .h1 rfl).rw_ w ⟨_, hb, m.le (Heap.le_join_right dj)⟩, (Sn.row hpre.2.2.2 rfl).rw_ w ⟨_, hb, m.le (Heap.le_join_right dj)⟩⟩) fun v3 rs3 ⟨u3, e1, e2⟩ => ?_)
      rw [hR.2] at e2
      rw [hR.1] at e1
      subst e1; subst e2
      refine St.ownForm (p := []) fun vb vc huv hvc => ?_
      subst huv
      refine L_val rfl rfl rfl (OpP.v (P_move rfl rfl)) ?_
      refine L_val rfl rfl rfl (OpP.v (P_extract rfl rfl rfl)) ?_
      refine L_val rfl rfl rfl (OpP.v (P_extract rfl rfl rfl)) ?_
      refine L_op rfl (W_alloc rfl rfl rfl ty_ze_25 fun b13 => ?_)
      refine L_op rfl (W_storeAll rfl rfl rfl rfl ty_ag_25 (rfl) (by intro v hv; simp only [List.mem_singleton] at hv; subst hv; rfl) .h0 (rfl) ?_)
      refine L_val rfl rfl rfl (OpP.v (P_assign rfl rfl)) ?_
      refine L_nil ?_
      refine St.env (.cons (t := 2) rfl (.cons (t := 6) rfl (.cons (t := 13) rfl (.cons (t := 14) rfl .nil)))) ?_
      refine Q_then ?_
      refine R_seq ?_
      refine R_seq ?_
      refine R_region ?_
      refine L_val rfl rfl rfl (OpP.v (P_move rfl rfl)) ?_
      refine L_val rfl rfl rfl (OpP.v (P_neq rfl rfl rfl)) ?_
      refine E_false (t := 52) rfl (rfl) ?_
      refine L_nil ?_
      refine St.env (.cons (t := 2) rfl (.cons (t := 6) rfl (.cons (t := 13) rfl (.cons (t := 14) rfl (.cons (t := 52) rfl .nil))))) ?_
      refine Q_then ?_
      refine R_condF rfl ?_
      refine R_skip ?_
      refine Q_then ?_
      refine R_seq ?_
      refine R_region ?_
      refine L_val rfl rfl rfl (V_loadAgg rfl rfl ty_ag_25 (Rds.blk .h0) (rfl)) ?_
      refine L_val rfl rfl rfl (OpP.v (P_move rfl rfl)) ?_
      refine L_op rfl (W_call rfl rfl rfl rfl fn_ca_37 (Renew_ok vb vc (renL (mkL l az) l1) hvc (by omega) hGa.ok base1 c1 l1 hc1 hmax1 hok1) (Split.nil _) (fun w a b _ hb dj m => ⟨(Sn.own .h1 rfl).rw_ w ⟨_, hb, m.le (Heap.le_join_right dj)⟩, (Sn.row hpre.2.2.2 rfl).rw_ w ⟨_, hb, m.le (Heap.le_join_right dj)⟩⟩) fun v4 rs4 ⟨u4, e1, e2⟩ => ?_)
      rw [hR2.2, ht1] at e2
      rw [hR2.1] at e1
      subst e1; subst e2
      refine St.ownForm (p := []) fun wb wc huv hwc => ?_
      subst huv
      refine L_val rfl rfl rfl (OpP.v (P_move rfl rfl)) ?_
      refine L_val rfl rfl rfl (OpP.v (P_extract rfl rfl rfl)) ?_
      refine L_val rfl rfl rfl (OpP.v (P_extract rfl rfl rfl)) ?_
      refine L_op rfl (W_alloc rfl rfl rfl ty_ze_25 fun b15 => ?_)
      refine L_op rfl (W_storeAll rfl rfl rfl rfl ty_ag_25 (rfl) (by intro v hv; simp only [List.mem_singleton] at hv; subst hv; rfl) .h0 (rfl) ?_)
      refine L_val rfl rfl rfl (OpP.v (P_assign rfl rfl)) ?_
      refine L_nil ?_
      refine St.env (.cons (t := 6) rfl (.cons (t := 13) rfl (.cons (t := 14) rfl (.cons (t := 15) rfl .nil)))) ?_
      refine Q_then ?_
      refine R_seq ?_
      refine R_region ?_
      refine L_val rfl rfl rfl (V_loadAgg rfl rfl ty_ag_25 (Rds.blk .h2) (rfl)) ?_
      refine L_val rfl rfl rfl (OpP.v (P_fld0 rfl ty_fl_25_0 rfl)) ?_
      refine L_val rfl rfl rfl (V_load rfl rfl ty_sc_22 (Rd.blk .h2 rfl)) ?_
      refine L_op rfl (W_call rfl rfl rfl rfl fn_ca_37 (Renew_ok vb vc (renL (mkL l az) l1) hvc (by omega) hGa.ok vb vc (renL (mkL l az) l1) hvc (by omega) hGa.ok) (Split.nil _) (fun w a b _ hb dj m => ⟨(Sn.own .h3 rfl).rw_ w ⟨_, hb, m.le (Heap.le_join_right dj)⟩, (Sn.own .h3 rfl).rw_ w ⟨_, hb, m.le (Heap.le_join_right dj)⟩⟩) fun v5 rs5 ⟨u5, e1, e2⟩ => ?_)
      rw [hR3.2, ht2] at e2
      rw [hR3.1] at e1
      subst e1; subst e2
      refine St.ownForm (p := []) fun zb zc huv hzc => ?_
      subst huv
      refine L_val rfl rfl rfl (OpP.v (P_move rfl rfl)) ?_
      refine L_val rfl rfl rfl (OpP.v (P_extract rfl rfl rfl)) ?_
      refine L_val rfl rfl rfl (OpP.v (P_extract rfl rfl rfl)) ?_
      refine L_op rfl (W_alloc rfl rfl rfl ty_ze_25 fun b16 => ?_)
      refine L_op rfl (W_storeAll rfl rfl rfl rfl ty_ag_25 (rfl) (by intro v hv; simp only [List.mem_singleton] at hv; subst hv; rfl) .h0 (rfl) ?_)
      refine L_val rfl rfl rfl (OpP.v (P_assign rfl rfl)) ?_
      refine L_nil ?_
      refine St.env (.cons (t := 6) rfl (.cons (t := 13) rfl (.cons (t := 14) rfl (.cons (t := 15) rfl (.cons (t := 16) rfl (.cons (t := 17) rfl .nil)))))) ?_
      refine Q_then ?_
      refine R_seq ?_
      refine R_region ?_
      refine L_val rfl rfl rfl (OpP.v (P_move rfl rfl)) ?_
      refine L_val rfl rfl rfl (OpP.v (P_eql rfl rfl rfl)) ?_
      refine E_true (t := 67) rfl (decide_eq_true rfl) ?_
      refine L_val rfl rfl rfl (OpP.v (P_move rfl rfl)) ?_
      refine L_val rfl rfl rfl (OpP.v (P_move rfl rfl)) ?_
      refine L_val rfl rfl rfl (OpP.v (P_eql rfl rfl rfl)) ?_
      refine E_true (t := 70) rfl (decide_eq_true rfl) ?_
      refine L_val rfl rfl rfl (OpP.v (P_pick rfl rfl rfl)) ?_
      refine L_val rfl rfl rfl (OpP.v (P_move rfl rfl)) ?_
      refine L_val rfl rfl rfl (OpP.v (P_fld0 rfl ty_fl_25_0 rfl)) ?_
      refine L_val rfl rfl rfl (V_load rfl rfl ty_sc_22 (Rd.blk .h4 rfl)) ?_
      refine L_val rfl rfl rfl (OpP.v (P_fld0 rfl ty_fl_25_0 rfl)) ?_
      refine L_val rfl rfl rfl (V_load rfl rfl ty_sc_22 (Rd.blk .h2 rfl)) ?_
      refine L_op rfl (W_callV rfl rfl rfl rfl fn_ca_18 (same_ok vb vc wb wc (renL (mkL l az) l1) (by omega)) (fun w nw => ⟨(Sn.own .h5 rfl).rw_ w nw, (Sn.own .h3 rfl).rw_ w nw⟩) ?_)
      refine E_true (t := 77) rfl (rfl) ?_
      refine L_val rfl rfl rfl (OpP.v (P_pick rfl rfl rfl)) ?_
      refine L_val rfl rfl rfl (OpP.v (P_move rfl rfl)) ?_
      refine L_val rfl rfl rfl (OpP.v (P_fld0 rfl ty_fl_25_0 rfl)) ?_
      refine L_val rfl rfl rfl (V_load rfl rfl ty_sc_22 (Rd.blk .h4 rfl)) ?_
      refine L_val rfl rfl rfl (OpP.v (P_fld0 rfl ty_fl_25_0 rfl)) ?_
      refine L_val rfl rfl rfl (V_load rfl rfl ty_sc_22 (Rd.blk .h0 rfl)) ?_
      refine L_op rfl (W_callV rfl rfl rfl rfl fn_ca_18 (same_ok vb vc zb zc (renL (mkL l az) l1) (by omega)) (fun w nw => ⟨(Sn.own .h5 rfl).rw_ w nw, (Sn.own .h1 rfl).rw_ w nw⟩) ?_)
      refine E_true (t := 84) rfl (rfl) ?_
      refine L_val rfl rfl rfl (OpP.v (P_pick rfl rfl rfl)) ?_
      refine L_val rfl rfl rfl (OpP.v (P_assign rfl rfl)) ?_
      refine L_nil ?_
      refine St.env (.cons (t := 6) rfl .nil) ?_
      refine Q_then ?_
      refine R_ret ?_
      exact R_endV rfl rfl (.tmp rfl .nil) (rfl)
end Go.Proofs.Ytjhhpagcejgclaa
