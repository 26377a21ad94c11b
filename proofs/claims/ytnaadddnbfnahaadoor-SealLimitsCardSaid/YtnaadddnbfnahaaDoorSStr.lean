/- SealStrange: the walks. Printed by gen.py. -/
import Derived.Test.YtnaadddnbfnahaaDoorS7
set_option linter.unusedVariables false
set_option linter.unusedSimpArgs false
set_option maxRecDepth 100000
namespace Go.Proofs.YtnaadddnbfnahaaDoor
open Go Go.RowKit Go.Proofs
def stC (a b : Int) (base : Option Addr) (n c : Nat) (sl : List Int) : List Value := [.int .u64 a, .int .u64 b, .slice base n c] ++ ints .u8 sl
theorem num_ok {gl : Nat → Obj} (e : Int) : SpecV (cx gl) 17 [.int .i64 e] noPre (.int .i64 e) := by
  refine Spec.enter (C := cx gl) Tryd.func17 rfl 4 rfl rfl fun w0 h0 hsep hsub hpre => ?_
  obtain rfl : h0 = Heap.none := hsep
  show St (cx gl) _ [(0, .int .i64 e)] _ _
  refine R_seq ?_
  refine R_region ?_
  refine L_val rfl rfl rfl (OpP.v (P_assign rfl rfl)) ?_
  refine L_nil ?_
  refine Q_then ?_
  refine R_seq ?_
  refine R_region ?_
  refine L_val rfl rfl rfl (OpP.v (P_move rfl rfl)) ?_
  refine L_val rfl rfl rfl (OpP.v (P_assign rfl rfl)) ?_
  refine L_nil ?_
  refine St.env (.cons (t := 2) rfl .nil) ?_
  refine Q_then ?_
  refine R_ret ?_
  exact R_endV rfl rfl (.tmp rfl .nil) (rfl)
theorem strange_zero {gl : Nat → Obj} (hG : Globs gl) (b : Int) (base : Option Addr) (c : Nat) (xs sl : List Int) (hb : IsB xs) (hmax : xs.length ≤ 140737488351232) (hsl : sl.length = 16) : SpecV (cx gl) 6 [.agg (stC 0 b base xs.length c sl).toArray] (fun w => Row w base (ints .u8 xs)) (.bool true) := by
  refine Spec.enter (C := cx gl) Tryd.func6 rfl 120 rfl rfl fun w0 h0 hsep hsub hpre => ?_
  obtain rfl : h0 = Heap.none := hsep
  show St (cx gl) _ [(0, .agg (stC 0 b base xs.length c sl).toArray)] _ _
  refine R_seq ?_
  refine R_region ?_
  refine L_op rfl (W_box (stC 0 b base xs.length c sl) rfl rfl rfl rfl rfl fun b1 => ?_)
  refine L_val rfl rfl rfl (OpP.v (P_assign rfl rfl)) ?_
  refine L_nil ?_
  refine St.env (.cons (t := 1) rfl (.cons (t := 2) rfl .nil)) ?_
  refine Q_then ?_
  refine R_seq ?_
  refine R_open [(0, 0), (1, 1), (2, 0), (3, 1), (4, 0), (5, 1), (6, 0), (7, 1), (8, 2), (9, 0), (10, 0), (11, 0), (12, 3)] mixed (by kernel_rfl) (QOk.then QOk.body) ?_
  refine O_pure rfl rfl rfl rfl (P_fld0 rfl ty_fl_47_0 rfl) ?_
  refine O_val rfl rfl rfl rfl (V_load rfl rfl ty_sc_23 (by first | exact Rd.blk .h0 rfl | exact Rd.blk .h1 rfl | exact Rd.blk .h2 rfl | exact Rd.blk .h3 rfl | exact Rd.blk .h4 rfl | exact Rd.blk .h5 rfl | exact Rd.blk .h6 rfl | exact Rd.blk .h7 rfl)) ?_
  refine O_pure rfl rfl rfl rfl (P_fld0 rfl ty_fl_47_1 rfl) ?_
  refine O_val rfl rfl rfl rfl (V_load rfl rfl ty_sc_23 (by first | exact Rd.blk .h0 rfl | exact Rd.blk .h1 rfl | exact Rd.blk .h2 rfl | exact Rd.blk .h3 rfl | exact Rd.blk .h4 rfl | exact Rd.blk .h5 rfl | exact Rd.blk .h6 rfl | exact Rd.blk .h7 rfl)) ?_
  refine O_pure rfl rfl rfl rfl (P_fld0 rfl ty_fl_47_2 rfl) ?_
  refine O_val rfl rfl rfl rfl (V_load rfl rfl ty_sc_24 (by first | exact Rd.blk .h0 rfl | exact Rd.blk .h1 rfl | exact Rd.blk .h2 rfl | exact Rd.blk .h3 rfl | exact Rd.blk .h4 rfl | exact Rd.blk .h5 rfl | exact Rd.blk .h6 rfl | exact Rd.blk .h7 rfl)) ?_
  refine O_pure rfl rfl rfl rfl (P_fld0 rfl ty_fl_47_3 rfl) ?_
  refine O_val rfl rfl rfl rfl (V_loadAgg rfl rfl ty_ag_33 ((Rds.blk .h0).part 3 (fun i v h => by unfold stC; rw [List.getElem?_append_right (by simp)]; simpa using h)) (by rw [ints_length, hsl])) ?_
  refine O_keep rfl rfl (W_alloc rfl rfl rfl ty_ze_33 fun b6 => (K_keep (Weak.drop (Weak.refl _)) ?_))
  refine O_pure rfl rfl rfl rfl (P_assign rfl rfl) ?_
  refine O_pure rfl rfl rfl rfl (P_assign rfl rfl) ?_
  refine O_pure rfl rfl rfl rfl (P_assign rfl rfl) ?_
  refine O_new rfl rfl (W_storeAll rfl rfl rfl rfl ty_ag_33 (by rw [ints_length, hsl]) (ints_one) .h0 (by rw [ints_length, hsl]; rfl) (K_new ?_))
  refine O_nil ?_
  refine St.env (.cons (t := 2) rfl (.cons (t := 3) rfl (.cons (t := 4) rfl (.cons (t := 5) rfl (.cons (t := 6) rfl .nil))))) ?_
  refine Q_then ?_
  refine R_seq ?_
  refine R_region ?_
  refine L_op rfl (W_call rfl rfl rfl rfl fn_ca_15 (snew_ok) (Split.nil _) (fun _ _ _ _ _ _ _ => trivial) fun v24 rs1 ⟨p, e1, e2⟩ => ?_)
  subst e1; subst e2
  refine St.res (rs' := [REG p [] [], blk b6 (ints .u8 sl) 33, blk b1 (stC 0 b base xs.length c sl) 47]) (Weak.refl _) ?_
  refine L_val rfl rfl rfl (OpP.v (P_assign rfl rfl)) ?_
  refine L_nil ?_
  refine St.env (.cons (t := 2) rfl (.cons (t := 3) rfl (.cons (t := 4) rfl (.cons (t := 5) rfl (.cons (t := 6) rfl (.cons (t := 7) rfl .nil)))))) ?_
  refine Q_then ?_
  refine R_seq ?_
  refine R_seq ?_
  refine R_region ?_
  refine L_val rfl rfl rfl (OpP.v (P_move rfl rfl)) ?_
  refine L_val rfl rfl rfl (OpP.v (P_eqNil rfl ty_ptr_25 rfl rfl)) ?_
  refine L_nil ?_
  refine St.env (.cons (t := 2) rfl (.cons (t := 3) rfl (.cons (t := 4) rfl (.cons (t := 5) rfl (.cons (t := 6) rfl (.cons (t := 7) rfl (.cons (t := 26) rfl .nil))))))) ?_
  refine Q_then ?_
  refine R_condF rfl ?_
  refine R_skip ?_
  refine Q_then ?_
  refine R_seq ?_
  refine R_region ?_
  refine L_val rfl rfl rfl (OpP.v (P_move rfl rfl)) ?_
  refine L_val rfl rfl rfl (OpP.v (P_move rfl rfl)) ?_
  refine L_val rfl rfl rfl (OpP.v (P_move rfl rfl)) ?_
  refine L_val rfl rfl rfl (V_loadAgg rfl rfl ty_ag_33 (Rds.blk .h1) (by rw [ints_length, hsl])) ?_
  refine L_op rfl (W_callR rfl rfl rfl rfl fn_ca_19 (check_ok hG p [] [] 0 base c xs (sl) hb (by omega) (hsl)) (Split.one (p := [])) (Sn.pre (Sn.row hpre rfl)) ?_)
  refine St.res (rs' := [REG p [] [], blk b6 (ints .u8 sl) 33, blk b1 (stC 0 b base xs.length c sl) 47]) (Weak.refl _) ?_
  refine E_false (t := 31) rfl (by simp) ?_
  refine L_val rfl rfl rfl (OpP.v (P_assign rfl rfl)) ?_
  refine L_nil ?_
  refine St.env (.cons (t := 2) rfl (.cons (t := 3) rfl (.cons (t := 4) rfl (.cons (t := 5) rfl (.cons (t := 6) rfl (.cons (t := 7) rfl (.cons (t := 8) rfl .nil))))))) ?_
  refine Q_then ?_
  refine R_seq ?_
  refine R_region ?_
  refine L_val rfl rfl rfl (OpP.v (P_move rfl rfl)) ?_
  refine L_val rfl rfl rfl (OpP.v (P_move rfl rfl)) ?_
  refine L_op rfl (W_callR rfl rfl rfl rfl fn_ca_16 (enter_zero p [] []) (Split.one (p := [])) (fun _ _ _ _ _ _ _ => trivial) ?_)
  refine St.res (rs' := [REG p [] [], blk b6 (ints .u8 sl) 33, blk b1 (stC 0 b base xs.length c sl) 47]) (Weak.refl _) ?_
  refine L_val rfl rfl rfl (OpP.v (P_move rfl rfl)) ?_
  refine L_val rfl rfl rfl (OpP.v (P_extract rfl rfl rfl)) ?_
  refine L_val rfl rfl rfl (OpP.v (P_extract rfl rfl rfl)) ?_
  refine L_val rfl rfl rfl (OpP.v (P_assign rfl rfl)) ?_
  refine L_val rfl rfl rfl (OpP.v (P_assign rfl rfl)) ?_
  refine L_nil ?_
  refine St.env (.cons (t := 2) rfl (.cons (t := 3) rfl (.cons (t := 4) rfl (.cons (t := 5) rfl (.cons (t := 6) rfl (.cons (t := 7) rfl (.cons (t := 8) rfl (.cons (t := 9) rfl (.cons (t := 10) rfl .nil))))))))) ?_
  refine Q_then ?_
  refine R_seq ?_
  refine R_region ?_
  refine L_val rfl rfl rfl (OpP.v (P_move rfl rfl)) ?_
  refine L_val rfl rfl rfl (OpP.v (P_move rfl rfl)) ?_
  refine L_val rfl rfl rfl (OpP.v (P_move rfl rfl)) ?_
  refine L_val rfl rfl rfl (V_loadAgg rfl rfl ty_ag_33 (Rds.blk .h1) (by rw [ints_length, hsl])) ?_
  refine L_op rfl (W_callR rfl rfl rfl rfl fn_ca_19 (check_ok hG p [] [] 0 base c xs (sl) hb (by omega) (hsl)) (Split.one (p := [])) (Sn.pre (Sn.row hpre rfl)) ?_)
  refine St.res (rs' := [REG p [] [], blk b6 (ints .u8 sl) 33, blk b1 (stC 0 b base xs.length c sl) 47]) (Weak.refl _) ?_
  refine E_false (t := 42) rfl (by simp) ?_
  refine L_val rfl rfl rfl (OpP.v (P_assign rfl rfl)) ?_
  refine L_nil ?_
  refine St.env (.cons (t := 2) rfl (.cons (t := 3) rfl (.cons (t := 4) rfl (.cons (t := 5) rfl (.cons (t := 7) rfl (.cons (t := 8) rfl (.cons (t := 9) rfl (.cons (t := 10) rfl (.cons (t := 11) rfl .nil))))))))) ?_
  refine Q_then ?_
  refine R_seq ?_
  refine R_seq ?_
  refine R_region ?_
  refine L_val rfl rfl rfl (OpP.v (P_move rfl rfl)) ?_
  refine L_val rfl rfl rfl (OpP.v (P_move rfl rfl)) ?_
  refine L_val rfl rfl rfl (OpP.v (P_move rfl rfl)) ?_
  refine L_val rfl rfl rfl (OpP.v (P_pick rfl rfl rfl)) ?_
  refine L_val rfl rfl rfl (OpP.v (P_move rfl rfl)) ?_
  refine L_val rfl rfl rfl (OpP.v (P_move rfl rfl)) ?_
  refine L_op rfl (W_callV rfl rfl rfl rfl fn_ca_17 (num_ok 2) (fun _ _ => trivial) ?_)
  refine L_val rfl rfl rfl (OpP.v (P_eql rfl rfl rfl)) ?_
  refine E_false (t := 50) rfl (rfl) ?_
  refine L_val rfl rfl rfl (OpP.v (P_move rfl rfl)) ?_
  refine L_val rfl rfl rfl (OpP.v (P_neq rfl rfl rfl)) ?_
  refine E_false (t := 52) rfl (rfl) ?_
  refine L_val rfl rfl rfl (OpP.v (P_neq_bool rfl ty_bool_4 rfl rfl)) ?_
  refine E_false (t := 53) rfl (rfl) ?_
  refine L_val rfl rfl rfl (OpP.v (P_pick rfl rfl rfl)) ?_
  refine L_val rfl rfl rfl (OpP.v (P_move rfl rfl)) ?_
  refine L_val rfl rfl rfl (OpP.v (P_move rfl rfl)) ?_
  refine L_val rfl rfl rfl (OpP.v (P_neNil0 rfl ty_ptr_27 rfl rfl)) ?_
  refine L_val rfl rfl rfl (OpP.v (P_move rfl rfl)) ?_
  refine L_val rfl rfl rfl (OpP.v (P_neq rfl rfl rfl)) ?_
  refine E_false (t := 59) rfl (rfl) ?_
  refine L_val rfl rfl rfl (OpP.v (P_neq_bool rfl ty_bool_4 rfl rfl)) ?_
  refine E_false (t := 60) rfl (rfl) ?_
  refine L_val rfl rfl rfl (OpP.v (P_pick rfl rfl rfl)) ?_
  refine L_val rfl rfl rfl (OpP.v (P_move rfl rfl)) ?_
  refine L_val rfl rfl rfl (OpP.v (P_move rfl rfl)) ?_
  refine L_val rfl rfl rfl (OpP.v (P_move rfl rfl)) ?_
  refine L_op rfl (W_callR rfl rfl rfl rfl fn_ca_24 (known_ok p [] [] 0) (Split.one (p := [])) (fun _ _ _ _ _ _ _ => trivial) ?_)
  refine St.res (rs' := [REG p [] [], blk b6 (ints .u8 sl) 33, blk b1 (stC 0 b base xs.length c sl) 47]) (Weak.refl _) ?_
  refine E_false (t := 65) rfl (rfl) ?_
  refine L_val rfl rfl rfl (OpP.v (P_move rfl rfl)) ?_
  refine L_val rfl rfl rfl (OpP.v (P_neq rfl rfl rfl)) ?_
  refine E_false (t := 67) rfl (rfl) ?_
  refine L_val rfl rfl rfl (OpP.v (P_neq_bool rfl ty_bool_4 rfl rfl)) ?_
  refine E_false (t := 68) rfl (rfl) ?_
  refine L_val rfl rfl rfl (OpP.v (P_pick rfl rfl rfl)) ?_
  refine L_nil ?_
  refine St.env (.cons (t := 2) rfl (.cons (t := 3) rfl (.cons (t := 4) rfl (.cons (t := 5) rfl (.cons (t := 7) rfl (.cons (t := 9) rfl (.cons (t := 69) rfl .nil))))))) ?_
  refine Q_then ?_
  refine R_condF rfl ?_
  refine R_skip ?_
  refine Q_then ?_
  refine R_seq ?_
  refine R_seq ?_
  refine R_region ?_
  refine L_val rfl rfl rfl (OpP.v (P_move rfl rfl)) ?_
  refine L_val rfl rfl rfl (OpP.v (P_eql rfl rfl rfl)) ?_
  refine E_true (t := 71) rfl (rfl) ?_
  refine L_val rfl rfl rfl (OpP.v (P_move rfl rfl)) ?_
  refine L_no rfl rfl rfl ?_
  refine L_no rfl rfl rfl ?_
  refine L_no rfl rfl rfl ?_
  refine L_val rfl rfl rfl (OpP.v (P_pick rfl rfl rfl)) ?_
  refine L_nil ?_
  refine St.env (.cons (t := 2) rfl (.cons (t := 3) rfl (.cons (t := 4) rfl (.cons (t := 5) rfl (.cons (t := 7) rfl (.cons (t := 9) rfl (.cons (t := 76) rfl .nil))))))) ?_
  refine Q_then ?_
  refine R_condT rfl ?_
  refine R_seq ?_
  refine R_region ?_
  refine L_val rfl rfl rfl (OpP.v (P_move rfl rfl)) ?_
  refine L_op rfl (W_callR rfl rfl rfl rfl fn_ca_23 (count_ok p [] []) (Split.one (p := [])) (fun _ _ _ _ _ _ _ => trivial) ?_)
  refine L_val rfl rfl rfl (OpP.v (P_eql rfl rfl rfl)) ?_
  refine E_true (t := 79) rfl (rfl) ?_
  refine L_val rfl rfl rfl (OpP.v (P_assign rfl rfl)) ?_
  refine L_nil ?_
  refine St.env (.cons (t := 2) rfl (.cons (t := 3) rfl (.cons (t := 4) rfl (.cons (t := 5) rfl (.cons (t := 7) rfl (.cons (t := 9) rfl .nil)))))) ?_
  refine Q_then ?_
  refine R_ret ?_
  refine Q_then_ret ?_
  exact R_endV rfl rfl (.tmp rfl .nil) (rfl)
theorem strange_big {gl : Nat → Obj} (hG : Globs gl) (a : Int) (ha : a ≠ 0) (b : Int) (base : Option Addr) (c : Nat) (xs sl : List Int) (hb : IsB xs) (hmax : xs.length ≤ 140737488351232) (hsl : sl.length = 16) (hbig : 1048576 < xs.length) : SpecV (cx gl) 6 [.agg (stC a b base xs.length c sl).toArray] (fun w => Row w base (ints .u8 xs)) (.bool true) := by
  refine Spec.enter (C := cx gl) Tryd.func6 rfl 120 rfl rfl fun w0 h0 hsep hsub hpre => ?_
  obtain rfl : h0 = Heap.none := hsep
  show St (cx gl) _ [(0, .agg (stC a b base xs.length c sl).toArray)] _ _
  refine R_seq ?_
  refine R_region ?_
  refine L_op rfl (W_box (stC a b base xs.length c sl) rfl rfl rfl rfl rfl fun b1 => ?_)
  refine L_val rfl rfl rfl (OpP.v (P_assign rfl rfl)) ?_
  refine L_nil ?_
  refine St.env (.cons (t := 1) rfl (.cons (t := 2) rfl .nil)) ?_
  refine Q_then ?_
  refine R_seq ?_
  refine R_open [(0, 0), (1, 1), (2, 0), (3, 1), (4, 0), (5, 1), (6, 0), (7, 1), (8, 2), (9, 0), (10, 0), (11, 0), (12, 3)] mixed (by kernel_rfl) (QOk.then QOk.body) ?_
  refine O_pure rfl rfl rfl rfl (P_fld0 rfl ty_fl_47_0 rfl) ?_
  refine O_val rfl rfl rfl rfl (V_load rfl rfl ty_sc_23 (by first | exact Rd.blk .h0 rfl | exact Rd.blk .h1 rfl | exact Rd.blk .h2 rfl | exact Rd.blk .h3 rfl | exact Rd.blk .h4 rfl | exact Rd.blk .h5 rfl | exact Rd.blk .h6 rfl | exact Rd.blk .h7 rfl)) ?_
  refine O_pure rfl rfl rfl rfl (P_fld0 rfl ty_fl_47_1 rfl) ?_
  refine O_val rfl rfl rfl rfl (V_load rfl rfl ty_sc_23 (by first | exact Rd.blk .h0 rfl | exact Rd.blk .h1 rfl | exact Rd.blk .h2 rfl | exact Rd.blk .h3 rfl | exact Rd.blk .h4 rfl | exact Rd.blk .h5 rfl | exact Rd.blk .h6 rfl | exact Rd.blk .h7 rfl)) ?_
  refine O_pure rfl rfl rfl rfl (P_fld0 rfl ty_fl_47_2 rfl) ?_
  refine O_val rfl rfl rfl rfl (V_load rfl rfl ty_sc_24 (by first | exact Rd.blk .h0 rfl | exact Rd.blk .h1 rfl | exact Rd.blk .h2 rfl | exact Rd.blk .h3 rfl | exact Rd.blk .h4 rfl | exact Rd.blk .h5 rfl | exact Rd.blk .h6 rfl | exact Rd.blk .h7 rfl)) ?_
  refine O_pure rfl rfl rfl rfl (P_fld0 rfl ty_fl_47_3 rfl) ?_
  refine O_val rfl rfl rfl rfl (V_loadAgg rfl rfl ty_ag_33 ((Rds.blk .h0).part 3 (fun i v h => by unfold stC; rw [List.getElem?_append_right (by simp)]; simpa using h)) (by rw [ints_length, hsl])) ?_
  refine O_keep rfl rfl (W_alloc rfl rfl rfl ty_ze_33 fun b6 => (K_keep (Weak.drop (Weak.refl _)) ?_))
  refine O_pure rfl rfl rfl rfl (P_assign rfl rfl) ?_
  refine O_pure rfl rfl rfl rfl (P_assign rfl rfl) ?_
  refine O_pure rfl rfl rfl rfl (P_assign rfl rfl) ?_
  refine O_new rfl rfl (W_storeAll rfl rfl rfl rfl ty_ag_33 (by rw [ints_length, hsl]) (ints_one) .h0 (by rw [ints_length, hsl]; rfl) (K_new ?_))
  refine O_nil ?_
  refine St.env (.cons (t := 2) rfl (.cons (t := 3) rfl (.cons (t := 4) rfl (.cons (t := 5) rfl (.cons (t := 6) rfl .nil))))) ?_
  refine Q_then ?_
  refine R_seq ?_
  refine R_region ?_
  refine L_op rfl (W_call rfl rfl rfl rfl fn_ca_15 (snew_ok) (Split.nil _) (fun _ _ _ _ _ _ _ => trivial) fun v24 rs1 ⟨p, e1, e2⟩ => ?_)
  subst e1; subst e2
  refine St.res (rs' := [REG p [] [], blk b6 (ints .u8 sl) 33, blk b1 (stC a b base xs.length c sl) 47]) (Weak.refl _) ?_
  refine L_val rfl rfl rfl (OpP.v (P_assign rfl rfl)) ?_
  refine L_nil ?_
  refine St.env (.cons (t := 2) rfl (.cons (t := 3) rfl (.cons (t := 4) rfl (.cons (t := 5) rfl (.cons (t := 6) rfl (.cons (t := 7) rfl .nil)))))) ?_
  refine Q_then ?_
  refine R_seq ?_
  refine R_seq ?_
  refine R_region ?_
  refine L_val rfl rfl rfl (OpP.v (P_move rfl rfl)) ?_
  refine L_val rfl rfl rfl (OpP.v (P_eqNil rfl ty_ptr_25 rfl rfl)) ?_
  refine L_nil ?_
  refine St.env (.cons (t := 2) rfl (.cons (t := 3) rfl (.cons (t := 4) rfl (.cons (t := 5) rfl (.cons (t := 6) rfl (.cons (t := 7) rfl (.cons (t := 26) rfl .nil))))))) ?_
  refine Q_then ?_
  refine R_condF rfl ?_
  refine R_skip ?_
  refine Q_then ?_
  refine R_seq ?_
  refine R_region ?_
  refine L_val rfl rfl rfl (OpP.v (P_move rfl rfl)) ?_
  refine L_val rfl rfl rfl (OpP.v (P_move rfl rfl)) ?_
  refine L_val rfl rfl rfl (OpP.v (P_move rfl rfl)) ?_
  refine L_val rfl rfl rfl (V_loadAgg rfl rfl ty_ag_33 (Rds.blk .h1) (by rw [ints_length, hsl])) ?_
  refine L_op rfl (W_callR rfl rfl rfl rfl fn_ca_19 (check_ok hG p [] [] a base c xs (sl) hb (by omega) (hsl)) (Split.one (p := [])) (Sn.pre (Sn.row hpre rfl)) ?_)
  refine St.res (rs' := [REG p [] [], blk b6 (ints .u8 sl) 33, blk b1 (stC a b base xs.length c sl) 47]) (Weak.refl _) ?_
  refine E_false (t := 31) rfl (by simp) ?_
  refine L_val rfl rfl rfl (OpP.v (P_assign rfl rfl)) ?_
  refine L_nil ?_
  refine St.env (.cons (t := 2) rfl (.cons (t := 3) rfl (.cons (t := 4) rfl (.cons (t := 5) rfl (.cons (t := 6) rfl (.cons (t := 7) rfl (.cons (t := 8) rfl .nil))))))) ?_
  refine Q_then ?_
  refine R_seq ?_
  refine R_region ?_
  refine L_val rfl rfl rfl (OpP.v (P_move rfl rfl)) ?_
  refine L_val rfl rfl rfl (OpP.v (P_move rfl rfl)) ?_
  refine L_op rfl (W_call rfl rfl rfl rfl fn_ca_16 (enter_new p [] [] a ha rfl) (Split.one (p := [])) (fun _ _ _ _ _ _ _ => trivial) fun v40 rs1 ⟨s, e1, e2⟩ => ?_)
  subst e1; subst e2
  refine St.res (rs' := [REG p [(a, s)] [], blk b6 (ints .u8 sl) 33, blk b1 (stC a b base xs.length c sl) 47]) (Weak.refl _) ?_
  refine L_val rfl rfl rfl (OpP.v (P_move rfl rfl)) ?_
  refine L_val rfl rfl rfl (OpP.v (P_extract rfl rfl rfl)) ?_
  refine L_val rfl rfl rfl (OpP.v (P_extract rfl rfl rfl)) ?_
  refine L_val rfl rfl rfl (OpP.v (P_assign rfl rfl)) ?_
  refine L_val rfl rfl rfl (OpP.v (P_assign rfl rfl)) ?_
  refine L_nil ?_
  refine St.env (.cons (t := 2) rfl (.cons (t := 3) rfl (.cons (t := 4) rfl (.cons (t := 5) rfl (.cons (t := 6) rfl (.cons (t := 7) rfl (.cons (t := 8) rfl (.cons (t := 9) rfl (.cons (t := 10) rfl .nil))))))))) ?_
  refine Q_then ?_
  refine R_seq ?_
  refine R_region ?_
  refine L_val rfl rfl rfl (OpP.v (P_move rfl rfl)) ?_
  refine L_val rfl rfl rfl (OpP.v (P_move rfl rfl)) ?_
  refine L_val rfl rfl rfl (OpP.v (P_move rfl rfl)) ?_
  refine L_val rfl rfl rfl (V_loadAgg rfl rfl ty_ag_33 (Rds.blk .h1) (by rw [ints_length, hsl])) ?_
  refine L_op rfl (W_callR rfl rfl rfl rfl fn_ca_19 (check_ok hG p [(a, s)] [] a base c xs (sl) hb (by omega) (hsl)) (Split.one (p := [])) (Sn.pre (Sn.row hpre rfl)) ?_)
  refine St.res (rs' := [REG p [(a, s)] [], blk b6 (ints .u8 sl) 33, blk b1 (stC a b base xs.length c sl) 47]) (Weak.refl _) ?_
  refine E_false (t := 42) rfl (by simp) ?_
  refine L_val rfl rfl rfl (OpP.v (P_assign rfl rfl)) ?_
  refine L_nil ?_
  refine St.env (.cons (t := 2) rfl (.cons (t := 3) rfl (.cons (t := 4) rfl (.cons (t := 5) rfl (.cons (t := 7) rfl (.cons (t := 8) rfl (.cons (t := 9) rfl (.cons (t := 10) rfl (.cons (t := 11) rfl .nil))))))))) ?_
  refine Q_then ?_
  refine R_seq ?_
  refine R_seq ?_
  refine R_region ?_
  refine L_val rfl rfl rfl (OpP.v (P_move rfl rfl)) ?_
  refine L_val rfl rfl rfl (OpP.v (P_move rfl rfl)) ?_
  refine L_val rfl rfl rfl (OpP.v (P_move rfl rfl)) ?_
  refine L_val rfl rfl rfl (OpP.v (P_pick rfl rfl rfl)) ?_
  refine L_val rfl rfl rfl (OpP.v (P_move rfl rfl)) ?_
  refine L_val rfl rfl rfl (OpP.v (P_move rfl rfl)) ?_
  refine L_op rfl (W_callV rfl rfl rfl rfl fn_ca_17 (num_ok 0) (fun _ _ => trivial) ?_)
  refine L_val rfl rfl rfl (OpP.v (P_eql rfl rfl rfl)) ?_
  refine E_true (t := 50) rfl (rfl) ?_
  refine L_val rfl rfl rfl (OpP.v (P_move rfl rfl)) ?_
  refine L_val rfl rfl rfl (OpP.v (P_neq rfl rfl rfl)) ?_
  refine E_true (t := 52) rfl (decide_eq_true ha) ?_
  refine L_val rfl rfl rfl (OpP.v (P_neq_bool rfl ty_bool_4 rfl rfl)) ?_
  refine E_false (t := 53) rfl (rfl) ?_
  refine L_val rfl rfl rfl (OpP.v (P_pick rfl rfl rfl)) ?_
  refine L_val rfl rfl rfl (OpP.v (P_move rfl rfl)) ?_
  refine L_val rfl rfl rfl (OpP.v (P_move rfl rfl)) ?_
  refine L_val rfl rfl rfl (OpP.v (P_neNil rfl ty_ptr_27 rfl rfl)) ?_
  refine L_val rfl rfl rfl (OpP.v (P_move rfl rfl)) ?_
  refine L_val rfl rfl rfl (OpP.v (P_neq rfl rfl rfl)) ?_
  refine E_true (t := 59) rfl (decide_eq_true ha) ?_
  refine L_val rfl rfl rfl (OpP.v (P_neq_bool rfl ty_bool_4 rfl rfl)) ?_
  refine E_false (t := 60) rfl (rfl) ?_
  refine L_val rfl rfl rfl (OpP.v (P_pick rfl rfl rfl)) ?_
  refine L_val rfl rfl rfl (OpP.v (P_move rfl rfl)) ?_
  refine L_val rfl rfl rfl (OpP.v (P_move rfl rfl)) ?_
  refine L_val rfl rfl rfl (OpP.v (P_move rfl rfl)) ?_
  refine L_op rfl (W_callR rfl rfl rfl rfl fn_ca_24 (known_ok p [(a, s)] [] a) (Split.one (p := [])) (fun _ _ _ _ _ _ _ => trivial) ?_)
  refine St.res (rs' := [REG p [(a, s)] [], blk b6 (ints .u8 sl) 33, blk b1 (stC a b base xs.length c sl) 47]) (Weak.refl _) ?_
  refine E_true (t := 65) rfl (by simp [isIn, sgP]) ?_
  refine L_val rfl rfl rfl (OpP.v (P_move rfl rfl)) ?_
  refine L_val rfl rfl rfl (OpP.v (P_neq rfl rfl rfl)) ?_
  refine E_true (t := 67) rfl (decide_eq_true ha) ?_
  refine L_val rfl rfl rfl (OpP.v (P_neq_bool rfl ty_bool_4 rfl rfl)) ?_
  refine E_false (t := 68) rfl (rfl) ?_
  refine L_val rfl rfl rfl (OpP.v (P_pick rfl rfl rfl)) ?_
  refine L_nil ?_
  refine St.env (.cons (t := 2) rfl (.cons (t := 3) rfl (.cons (t := 4) rfl (.cons (t := 5) rfl (.cons (t := 7) rfl (.cons (t := 9) rfl (.cons (t := 69) rfl .nil))))))) ?_
  refine Q_then ?_
  refine R_condF rfl ?_
  refine R_skip ?_
  refine Q_then ?_
  refine R_seq ?_
  refine R_seq ?_
  refine R_region ?_
  refine L_val rfl rfl rfl (OpP.v (P_move rfl rfl)) ?_
  refine L_val rfl rfl rfl (OpP.v (P_eql rfl rfl rfl)) ?_
  refine E_false (t := 71) rfl (decide_eq_false ha) ?_
  refine L_val rfl rfl rfl (OpP.v (P_move rfl rfl)) ?_
  refine L_val rfl rfl rfl (OpP.v (P_move rfl rfl)) ?_
  refine L_val rfl rfl rfl (OpP.v (P_len rfl ty_sl_24 rfl)) ?_
  refine L_val rfl rfl rfl (OpP.v (P_gtr rfl rfl rfl)) ?_
  refine E_true (t := 75) rfl (decide_eq_true (by omega)) ?_
  refine L_val rfl rfl rfl (OpP.v (P_pick rfl rfl rfl)) ?_
  refine L_nil ?_
  refine St.env (.cons (t := 2) rfl (.cons (t := 3) rfl (.cons (t := 4) rfl (.cons (t := 5) rfl (.cons (t := 7) rfl (.cons (t := 9) rfl (.cons (t := 76) rfl .nil))))))) ?_
  refine Q_then ?_
  refine R_condT rfl ?_
  refine R_seq ?_
  refine R_region ?_
  refine L_val rfl rfl rfl (OpP.v (P_move rfl rfl)) ?_
  refine L_op rfl (W_callR rfl rfl rfl rfl fn_ca_23 (count_ok p [(a, s)] []) (Split.one (p := [])) (fun _ _ _ _ _ _ _ => trivial) ?_)
  refine L_val rfl rfl rfl (OpP.v (P_eql rfl rfl rfl)) ?_
  refine E_true (t := 79) rfl (rfl) ?_
  refine L_val rfl rfl rfl (OpP.v (P_assign rfl rfl)) ?_
  refine L_nil ?_
  refine St.env (.cons (t := 2) rfl (.cons (t := 3) rfl (.cons (t := 4) rfl (.cons (t := 5) rfl (.cons (t := 7) rfl (.cons (t := 9) rfl .nil)))))) ?_
  refine Q_then ?_
  refine R_ret ?_
  refine Q_then_ret ?_
  exact R_endV rfl rfl (.tmp rfl .nil) (rfl)
theorem strange_ok {gl : Nat → Obj} (hG : Globs gl) (a : Int) (ha : a ≠ 0) (b : Int) (base : Option Addr) (c : Nat) (xs sl : List Int) (hb : IsB xs) (hmax : xs.length ≤ 140737488351232) (hsl : sl.length = 16) (hle : xs.length ≤ 1048576) : SpecV (cx gl) 6 [.agg (stC a b base xs.length c sl).toArray] (fun w => Row w base (ints .u8 xs)) (.bool true) := by
  refine Spec.enter (C := cx gl) Tryd.func6 rfl 120 rfl rfl fun w0 h0 hsep hsub hpre => ?_
  obtain rfl : h0 = Heap.none := hsep
  show St (cx gl) _ [(0, .agg (stC a b base xs.length c sl).toArray)] _ _
  refine R_seq ?_
  refine R_region ?_
  refine L_op rfl (W_box (stC a b base xs.length c sl) rfl rfl rfl rfl rfl fun b1 => ?_)
  refine L_val rfl rfl rfl (OpP.v (P_assign rfl rfl)) ?_
  refine L_nil ?_
  refine St.env (.cons (t := 1) rfl (.cons (t := 2) rfl .nil)) ?_
  refine Q_then ?_
  refine R_seq ?_
  refine R_open [(0, 0), (1, 1), (2, 0), (3, 1), (4, 0), (5, 1), (6, 0), (7, 1), (8, 2), (9, 0), (10, 0), (11, 0), (12, 3)] mixed (by kernel_rfl) (QOk.then QOk.body) ?_
  refine O_pure rfl rfl rfl rfl (P_fld0 rfl ty_fl_47_0 rfl) ?_
  refine O_val rfl rfl rfl rfl (V_load rfl rfl ty_sc_23 (by first | exact Rd.blk .h0 rfl | exact Rd.blk .h1 rfl | exact Rd.blk .h2 rfl | exact Rd.blk .h3 rfl | exact Rd.blk .h4 rfl | exact Rd.blk .h5 rfl | exact Rd.blk .h6 rfl | exact Rd.blk .h7 rfl)) ?_
  refine O_pure rfl rfl rfl rfl (P_fld0 rfl ty_fl_47_1 rfl) ?_
  refine O_val rfl rfl rfl rfl (V_load rfl rfl ty_sc_23 (by first | exact Rd.blk .h0 rfl | exact Rd.blk .h1 rfl | exact Rd.blk .h2 rfl | exact Rd.blk .h3 rfl | exact Rd.blk .h4 rfl | exact Rd.blk .h5 rfl | exact Rd.blk .h6 rfl | exact Rd.blk .h7 rfl)) ?_
  refine O_pure rfl rfl rfl rfl (P_fld0 rfl ty_fl_47_2 rfl) ?_
  refine O_val rfl rfl rfl rfl (V_load rfl rfl ty_sc_24 (by first | exact Rd.blk .h0 rfl | exact Rd.blk .h1 rfl | exact Rd.blk .h2 rfl | exact Rd.blk .h3 rfl | exact Rd.blk .h4 rfl | exact Rd.blk .h5 rfl | exact Rd.blk .h6 rfl | exact Rd.blk .h7 rfl)) ?_
  refine O_pure rfl rfl rfl rfl (P_fld0 rfl ty_fl_47_3 rfl) ?_
  refine O_val rfl rfl rfl rfl (V_loadAgg rfl rfl ty_ag_33 ((Rds.blk .h0).part 3 (fun i v h => by unfold stC; rw [List.getElem?_append_right (by simp)]; simpa using h)) (by rw [ints_length, hsl])) ?_
  refine O_keep rfl rfl (W_alloc rfl rfl rfl ty_ze_33 fun b6 => (K_keep (Weak.drop (Weak.refl _)) ?_))
  refine O_pure rfl rfl rfl rfl (P_assign rfl rfl) ?_
  refine O_pure rfl rfl rfl rfl (P_assign rfl rfl) ?_
  refine O_pure rfl rfl rfl rfl (P_assign rfl rfl) ?_
  refine O_new rfl rfl (W_storeAll rfl rfl rfl rfl ty_ag_33 (by rw [ints_length, hsl]) (ints_one) .h0 (by rw [ints_length, hsl]; rfl) (K_new ?_))
  refine O_nil ?_
  refine St.env (.cons (t := 2) rfl (.cons (t := 3) rfl (.cons (t := 4) rfl (.cons (t := 5) rfl (.cons (t := 6) rfl .nil))))) ?_
  refine Q_then ?_
  refine R_seq ?_
  refine R_region ?_
  refine L_op rfl (W_call rfl rfl rfl rfl fn_ca_15 (snew_ok) (Split.nil _) (fun _ _ _ _ _ _ _ => trivial) fun v24 rs1 ⟨p, e1, e2⟩ => ?_)
  subst e1; subst e2
  refine St.res (rs' := [REG p [] [], blk b6 (ints .u8 sl) 33, blk b1 (stC a b base xs.length c sl) 47]) (Weak.refl _) ?_
  refine L_val rfl rfl rfl (OpP.v (P_assign rfl rfl)) ?_
  refine L_nil ?_
  refine St.env (.cons (t := 2) rfl (.cons (t := 3) rfl (.cons (t := 4) rfl (.cons (t := 5) rfl (.cons (t := 6) rfl (.cons (t := 7) rfl .nil)))))) ?_
  refine Q_then ?_
  refine R_seq ?_
  refine R_seq ?_
  refine R_region ?_
  refine L_val rfl rfl rfl (OpP.v (P_move rfl rfl)) ?_
  refine L_val rfl rfl rfl (OpP.v (P_eqNil rfl ty_ptr_25 rfl rfl)) ?_
  refine L_nil ?_
  refine St.env (.cons (t := 2) rfl (.cons (t := 3) rfl (.cons (t := 4) rfl (.cons (t := 5) rfl (.cons (t := 6) rfl (.cons (t := 7) rfl (.cons (t := 26) rfl .nil))))))) ?_
  refine Q_then ?_
  refine R_condF rfl ?_
  refine R_skip ?_
  refine Q_then ?_
  refine R_seq ?_
  refine R_region ?_
  refine L_val rfl rfl rfl (OpP.v (P_move rfl rfl)) ?_
  refine L_val rfl rfl rfl (OpP.v (P_move rfl rfl)) ?_
  refine L_val rfl rfl rfl (OpP.v (P_move rfl rfl)) ?_
  refine L_val rfl rfl rfl (V_loadAgg rfl rfl ty_ag_33 (Rds.blk .h1) (by rw [ints_length, hsl])) ?_
  refine L_op rfl (W_callR rfl rfl rfl rfl fn_ca_19 (check_ok hG p [] [] a base c xs (sl) hb (by omega) (hsl)) (Split.one (p := [])) (Sn.pre (Sn.row hpre rfl)) ?_)
  refine St.res (rs' := [REG p [] [], blk b6 (ints .u8 sl) 33, blk b1 (stC a b base xs.length c sl) 47]) (Weak.refl _) ?_
  refine E_false (t := 31) rfl (by simp) ?_
  refine L_val rfl rfl rfl (OpP.v (P_assign rfl rfl)) ?_
  refine L_nil ?_
  refine St.env (.cons (t := 2) rfl (.cons (t := 3) rfl (.cons (t := 4) rfl (.cons (t := 5) rfl (.cons (t := 6) rfl (.cons (t := 7) rfl (.cons (t := 8) rfl .nil))))))) ?_
  refine Q_then ?_
  refine R_seq ?_
  refine R_region ?_
  refine L_val rfl rfl rfl (OpP.v (P_move rfl rfl)) ?_
  refine L_val rfl rfl rfl (OpP.v (P_move rfl rfl)) ?_
  refine L_op rfl (W_call rfl rfl rfl rfl fn_ca_16 (enter_new p [] [] a ha rfl) (Split.one (p := [])) (fun _ _ _ _ _ _ _ => trivial) fun v40 rs1 ⟨s, e1, e2⟩ => ?_)
  subst e1; subst e2
  refine St.res (rs' := [REG p [(a, s)] [], blk b6 (ints .u8 sl) 33, blk b1 (stC a b base xs.length c sl) 47]) (Weak.refl _) ?_
  refine L_val rfl rfl rfl (OpP.v (P_move rfl rfl)) ?_
  refine L_val rfl rfl rfl (OpP.v (P_extract rfl rfl rfl)) ?_
  refine L_val rfl rfl rfl (OpP.v (P_extract rfl rfl rfl)) ?_
  refine L_val rfl rfl rfl (OpP.v (P_assign rfl rfl)) ?_
  refine L_val rfl rfl rfl (OpP.v (P_assign rfl rfl)) ?_
  refine L_nil ?_
  refine St.env (.cons (t := 2) rfl (.cons (t := 3) rfl (.cons (t := 4) rfl (.cons (t := 5) rfl (.cons (t := 6) rfl (.cons (t := 7) rfl (.cons (t := 8) rfl (.cons (t := 9) rfl (.cons (t := 10) rfl .nil))))))))) ?_
  refine Q_then ?_
  refine R_seq ?_
  refine R_region ?_
  refine L_val rfl rfl rfl (OpP.v (P_move rfl rfl)) ?_
  refine L_val rfl rfl rfl (OpP.v (P_move rfl rfl)) ?_
  refine L_val rfl rfl rfl (OpP.v (P_move rfl rfl)) ?_
  refine L_val rfl rfl rfl (V_loadAgg rfl rfl ty_ag_33 (Rds.blk .h1) (by rw [ints_length, hsl])) ?_
  refine L_op rfl (W_callR rfl rfl rfl rfl fn_ca_19 (check_ok hG p [(a, s)] [] a base c xs (sl) hb (by omega) (hsl)) (Split.one (p := [])) (Sn.pre (Sn.row hpre rfl)) ?_)
  refine St.res (rs' := [REG p [(a, s)] [], blk b6 (ints .u8 sl) 33, blk b1 (stC a b base xs.length c sl) 47]) (Weak.refl _) ?_
  refine E_false (t := 42) rfl (by simp) ?_
  refine L_val rfl rfl rfl (OpP.v (P_assign rfl rfl)) ?_
  refine L_nil ?_
  refine St.env (.cons (t := 2) rfl (.cons (t := 3) rfl (.cons (t := 4) rfl (.cons (t := 5) rfl (.cons (t := 7) rfl (.cons (t := 8) rfl (.cons (t := 9) rfl (.cons (t := 10) rfl (.cons (t := 11) rfl .nil))))))))) ?_
  refine Q_then ?_
  refine R_seq ?_
  refine R_seq ?_
  refine R_region ?_
  refine L_val rfl rfl rfl (OpP.v (P_move rfl rfl)) ?_
  refine L_val rfl rfl rfl (OpP.v (P_move rfl rfl)) ?_
  refine L_val rfl rfl rfl (OpP.v (P_move rfl rfl)) ?_
  refine L_val rfl rfl rfl (OpP.v (P_pick rfl rfl rfl)) ?_
  refine L_val rfl rfl rfl (OpP.v (P_move rfl rfl)) ?_
  refine L_val rfl rfl rfl (OpP.v (P_move rfl rfl)) ?_
  refine L_op rfl (W_callV rfl rfl rfl rfl fn_ca_17 (num_ok 0) (fun _ _ => trivial) ?_)
  refine L_val rfl rfl rfl (OpP.v (P_eql rfl rfl rfl)) ?_
  refine E_true (t := 50) rfl (rfl) ?_
  refine L_val rfl rfl rfl (OpP.v (P_move rfl rfl)) ?_
  refine L_val rfl rfl rfl (OpP.v (P_neq rfl rfl rfl)) ?_
  refine E_true (t := 52) rfl (decide_eq_true ha) ?_
  refine L_val rfl rfl rfl (OpP.v (P_neq_bool rfl ty_bool_4 rfl rfl)) ?_
  refine E_false (t := 53) rfl (rfl) ?_
  refine L_val rfl rfl rfl (OpP.v (P_pick rfl rfl rfl)) ?_
  refine L_val rfl rfl rfl (OpP.v (P_move rfl rfl)) ?_
  refine L_val rfl rfl rfl (OpP.v (P_move rfl rfl)) ?_
  refine L_val rfl rfl rfl (OpP.v (P_neNil rfl ty_ptr_27 rfl rfl)) ?_
  refine L_val rfl rfl rfl (OpP.v (P_move rfl rfl)) ?_
  refine L_val rfl rfl rfl (OpP.v (P_neq rfl rfl rfl)) ?_
  refine E_true (t := 59) rfl (decide_eq_true ha) ?_
  refine L_val rfl rfl rfl (OpP.v (P_neq_bool rfl ty_bool_4 rfl rfl)) ?_
  refine E_false (t := 60) rfl (rfl) ?_
  refine L_val rfl rfl rfl (OpP.v (P_pick rfl rfl rfl)) ?_
  refine L_val rfl rfl rfl (OpP.v (P_move rfl rfl)) ?_
  refine L_val rfl rfl rfl (OpP.v (P_move rfl rfl)) ?_
  refine L_val rfl rfl rfl (OpP.v (P_move rfl rfl)) ?_
  refine L_op rfl (W_callR rfl rfl rfl rfl fn_ca_24 (known_ok p [(a, s)] [] a) (Split.one (p := [])) (fun _ _ _ _ _ _ _ => trivial) ?_)
  refine St.res (rs' := [REG p [(a, s)] [], blk b6 (ints .u8 sl) 33, blk b1 (stC a b base xs.length c sl) 47]) (Weak.refl _) ?_
  refine E_true (t := 65) rfl (by simp [isIn, sgP]) ?_
  refine L_val rfl rfl rfl (OpP.v (P_move rfl rfl)) ?_
  refine L_val rfl rfl rfl (OpP.v (P_neq rfl rfl rfl)) ?_
  refine E_true (t := 67) rfl (decide_eq_true ha) ?_
  refine L_val rfl rfl rfl (OpP.v (P_neq_bool rfl ty_bool_4 rfl rfl)) ?_
  refine E_false (t := 68) rfl (rfl) ?_
  refine L_val rfl rfl rfl (OpP.v (P_pick rfl rfl rfl)) ?_
  refine L_nil ?_
  refine St.env (.cons (t := 2) rfl (.cons (t := 3) rfl (.cons (t := 4) rfl (.cons (t := 5) rfl (.cons (t := 7) rfl (.cons (t := 9) rfl (.cons (t := 69) rfl .nil))))))) ?_
  refine Q_then ?_
  refine R_condF rfl ?_
  refine R_skip ?_
  refine Q_then ?_
  refine R_seq ?_
  refine R_seq ?_
  refine R_region ?_
  refine L_val rfl rfl rfl (OpP.v (P_move rfl rfl)) ?_
  refine L_val rfl rfl rfl (OpP.v (P_eql rfl rfl rfl)) ?_
  refine E_false (t := 71) rfl (decide_eq_false ha) ?_
  refine L_val rfl rfl rfl (OpP.v (P_move rfl rfl)) ?_
  refine L_val rfl rfl rfl (OpP.v (P_move rfl rfl)) ?_
  refine L_val rfl rfl rfl (OpP.v (P_len rfl ty_sl_24 rfl)) ?_
  refine L_val rfl rfl rfl (OpP.v (P_gtr rfl rfl rfl)) ?_
  refine E_false (t := 75) rfl (decide_eq_false (by omega)) ?_
  refine L_val rfl rfl rfl (OpP.v (P_pick rfl rfl rfl)) ?_
  refine L_nil ?_
  refine St.env (.cons (t := 2) rfl (.cons (t := 3) rfl (.cons (t := 4) rfl (.cons (t := 5) rfl (.cons (t := 7) rfl (.cons (t := 9) rfl (.cons (t := 76) rfl .nil))))))) ?_
  refine Q_then ?_
  refine R_condF rfl ?_
  refine R_skip ?_
  refine Q_then ?_
  refine R_seq ?_
  refine R_region ?_
  refine L_val rfl rfl rfl (OpP.v (P_move rfl rfl)) ?_
  refine L_val rfl rfl rfl (OpP.v (P_move rfl rfl)) ?_
  refine L_op rfl (W_callR rfl rfl rfl rfl fn_ca_18 (sign_new hG p [(a, s)] [] 0 a s rfl base c xs hb hle (Nat.zero_le _) (by simp)) (Split.one (p := [])) (Sn.pre (Sn.row hpre rfl)) ?_)
  refine L_val rfl rfl rfl (OpP.v (P_move rfl rfl)) ?_
  refine L_val rfl rfl rfl (OpP.v (P_extract rfl rfl rfl)) ?_
  refine L_val rfl rfl rfl (OpP.v (P_extract rfl rfl rfl)) ?_
  refine L_op rfl (W_alloc rfl rfl rfl ty_ze_33 fun b12 => ?_)
  refine L_op rfl (W_storeAll rfl rfl rfl rfl ty_ag_33 (by rw [ints_length, sealH_length]) (ints_one) .h0 (by rw [ints_length, sealH_length]; rfl) ?_)
  refine St.res (rs' := [REG p [(a, s)] [(a, xs)], blk b12 (ints .u8 (sealH a xs)) 33, blk b6 (ints .u8 sl) 33, blk b1 (stC a b base xs.length c sl) 47]) (Weak.p1 (Weak.refl _)) ?_
  refine L_val rfl rfl rfl (OpP.v (P_assign rfl rfl)) ?_
  refine L_nil ?_
  refine St.env (.cons (t := 2) rfl (.cons (t := 3) rfl (.cons (t := 4) rfl (.cons (t := 5) rfl (.cons (t := 7) rfl (.cons (t := 9) rfl (.cons (t := 12) rfl (.cons (t := 13) rfl .nil)))))))) ?_
  refine Q_then ?_
  refine R_seq ?_
  refine R_region ?_
  refine L_val rfl rfl rfl (OpP.v (P_move rfl rfl)) ?_
  refine L_val rfl rfl rfl (OpP.v (P_move rfl rfl)) ?_
  refine L_val rfl rfl rfl (OpP.v (P_move rfl rfl)) ?_
  refine L_val rfl rfl rfl (V_loadAgg rfl rfl ty_ag_33 (Rds.blk .h1) (by rw [ints_length, sealH_length])) ?_
  refine L_op rfl (W_callR rfl rfl rfl rfl fn_ca_19 (check_ok hG p [(a, s)] [(a, xs)] a base c xs (sealH a xs) hb (by omega) (sealH_length _ _)) (Split.one (p := [])) (Sn.pre (Sn.row hpre rfl)) ?_)
  refine St.res (rs' := [REG p [(a, s)] [(a, xs)], blk b12 (ints .u8 (sealH a xs)) 33, blk b6 (ints .u8 sl) 33, blk b1 (stC a b base xs.length c sl) 47]) (Weak.refl _) ?_
  refine E_true (t := 90) rfl (by simp) ?_
  refine L_val rfl rfl rfl (OpP.v (P_assign rfl rfl)) ?_
  refine L_nil ?_
  refine St.env (.cons (t := 2) rfl (.cons (t := 3) rfl (.cons (t := 4) rfl (.cons (t := 5) rfl (.cons (t := 7) rfl (.cons (t := 9) rfl (.cons (t := 12) rfl (.cons (t := 13) rfl (.cons (t := 14) rfl .nil))))))))) ?_
  refine Q_then ?_
  refine R_seq ?_
  refine R_region ?_
  refine L_val rfl rfl rfl (OpP.v (P_move rfl rfl)) ?_
  refine L_val rfl rfl rfl (OpP.v (P_move rfl rfl)) ?_
  refine L_val rfl rfl rfl (OpP.v (P_move rfl rfl)) ?_
  refine L_val rfl rfl rfl (V_loadAgg rfl rfl ty_ag_33 (Rds.blk .h1) (by rw [ints_length, sealH_length])) ?_
  refine L_op rfl (W_callR rfl rfl rfl rfl fn_ca_19 (check_ok hG p [(a, s)] [(a, xs)] b base c xs (sealH a xs) hb (by omega) (sealH_length _ _)) (Split.one (p := [])) (Sn.pre (Sn.row hpre rfl)) ?_)
  refine St.res (rs' := [REG p [(a, s)] [(a, xs)], blk b12 (ints .u8 (sealH a xs)) 33, blk b6 (ints .u8 sl) 33, blk b1 (stC a b base xs.length c sl) 47]) (Weak.refl _) ?_
  refine L_val rfl rfl rfl (OpP.v (P_assign rfl rfl)) ?_
  refine L_nil ?_
  refine St.env (.cons (t := 2) rfl (.cons (t := 3) rfl (.cons (t := 4) rfl (.cons (t := 7) rfl (.cons (t := 9) rfl (.cons (t := 13) rfl (.cons (t := 14) rfl (.cons (t := 15) rfl .nil)))))))) ?_
  refine Q_then ?_
  refine R_seq ?_
  refine R_region ?_
  refine L_val rfl rfl rfl (OpP.v (P_move rfl rfl)) ?_
  refine L_op rfl (W_callV rfl rfl rfl rfl fn_ca_17 (num_ok 0) (fun _ _ => trivial) ?_)
  refine L_val rfl rfl rfl (OpP.v (P_eql rfl rfl rfl)) ?_
  refine E_true (t := 98) rfl (rfl) ?_
  refine L_val rfl rfl rfl (OpP.v (P_move rfl rfl)) ?_
  refine L_val rfl rfl rfl (OpP.v (P_move rfl rfl)) ?_
  refine L_val rfl rfl rfl (OpP.v (P_pick rfl rfl rfl)) ?_
  refine L_val rfl rfl rfl (OpP.v (P_move rfl rfl)) ?_
  refine L_val rfl rfl rfl (OpP.v (P_move rfl rfl)) ?_
  refine L_val rfl rfl rfl (OpP.v (P_move rfl rfl)) ?_
  refine L_val rfl rfl rfl (OpP.v (P_move rfl rfl)) ?_
  refine L_val rfl rfl rfl (OpP.v (P_eql rfl rfl rfl)) ?_
  refine L_val rfl rfl rfl (OpP.v (P_eql_bool rfl ty_bool_4 rfl rfl)) ?_
  refine E_true (t := 107) rfl (by by_cases h : a = b <;> simp [h, eq_comm]) ?_
  refine L_val rfl rfl rfl (OpP.v (P_pick rfl rfl rfl)) ?_
  refine L_val rfl rfl rfl (OpP.v (P_move rfl rfl)) ?_
  refine L_val rfl rfl rfl (OpP.v (P_move rfl rfl)) ?_
  refine L_op rfl (W_callR rfl rfl rfl rfl fn_ca_25 (addr_ok p [(a, s)] [(a, xs)] 0 a s rfl) (Split.one (p := [])) (fun _ _ _ _ _ _ _ => trivial) ?_)
  refine St.res (rs' := [REG p [(a, s)] [(a, xs)], blk b12 (ints .u8 (sealH a xs)) 33, blk b6 (ints .u8 sl) 33, blk b1 (stC a b base xs.length c sl) 47]) (Weak.refl _) ?_
  refine L_val rfl rfl rfl (OpP.v (P_move rfl rfl)) ?_
  refine L_val rfl rfl rfl (OpP.v (P_eql rfl rfl rfl)) ?_
  refine E_true (t := 113) rfl (decide_eq_true rfl) ?_
  refine L_val rfl rfl rfl (OpP.v (P_pick rfl rfl rfl)) ?_
  refine L_val rfl rfl rfl (OpP.v (P_move rfl rfl)) ?_
  refine L_val rfl rfl rfl (OpP.v (P_move rfl rfl)) ?_
  refine L_op rfl (W_callR rfl rfl rfl rfl fn_ca_23 (count_ok p [(a, s)] [(a, xs)]) (Split.one (p := [])) (fun _ _ _ _ _ _ _ => trivial) ?_)
  refine St.res (rs' := [REG p [(a, s)] [(a, xs)], blk b12 (ints .u8 (sealH a xs)) 33, blk b6 (ints .u8 sl) 33, blk b1 (stC a b base xs.length c sl) 47]) (Weak.refl _) ?_
  refine L_val rfl rfl rfl (OpP.v (P_eql rfl rfl rfl)) ?_
  refine E_true (t := 118) rfl (rfl) ?_
  refine L_val rfl rfl rfl (OpP.v (P_pick rfl rfl rfl)) ?_
  refine L_val rfl rfl rfl (OpP.v (P_assign rfl rfl)) ?_
  refine L_nil ?_
  refine St.env (.cons (t := 2) rfl .nil) ?_
  refine Q_then ?_
  refine R_ret ?_
  exact R_endV rfl rfl (.tmp rfl .nil) (rfl)
theorem strange_walk {gl : Nat → Obj} (hG : Globs gl) (a : Int) (b : Int) (base : Option Addr) (c : Nat) (xs sl : List Int) (hb : IsB xs) (hmax : xs.length ≤ 140737488351232) (hsl : sl.length = 16) : SpecV (cx gl) 6 [.agg (stC a b base xs.length c sl).toArray] (fun w => Row w base (ints .u8 xs)) (.bool true) := by
  by_cases ha : a = 0
  · subst ha; exact strange_zero hG b base c xs sl hb hmax hsl
  · by_cases hle : xs.length ≤ 1048576
    · exact strange_ok hG a ha b base c xs sl hb hmax hsl hle
    · exact strange_big hG a ha b base c xs sl hb hmax hsl (by omega)
end Go.Proofs.YtnaadddnbfnahaaDoor
