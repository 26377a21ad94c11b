/- SealNil: the walks. Printed by gen.py. -/
import Derived.Test.YtnaadddnbfnahaaDoorS8
set_option linter.unusedVariables false
set_option linter.unusedSimpArgs false
set_option maxRecDepth 100000
namespace Go.Proofs.YtnaadddnbfnahaaDoor
open Go Go.RowKit Go.Proofs
theorem build_strange (a b : Int) (base : Option Addr) (n c : Nat) (sl : List Int) (h : sl.length = 16) : fillL [(0, 1), (1, 1), (2, 1), (3, 16)] (.int .u64 0 :: .int .u64 0 :: .slice none 0 0 :: List.replicate 16 (.int .u8 0)) ([0, 1, 2, 3].zip [.int .u64 a, .int .u64 b, .slice base n c, .agg (ints .u8 sl).toArray]) = some (stC a b base n c sl) := by
  have h1 : (ints .u8 sl).length = 16 := by rw [ints_length, h]
  simp [fillL, Value.cells, h1, splice, stC]
theorem nobody_nil {gl : Nat → Obj} (a : Int) (base : Option Addr) (c : Nat) (xs sl : List Int) (hsl : sl.length = 16) : SpecV (cx gl) 37 [.pointer none, .int .u64 a, .slice base xs.length c, .agg (ints .u8 (sl)).toArray] noPre (.bool true) := by
  refine Spec.enter (C := cx gl) Tryd.func37 rfl 48 rfl rfl fun w0 h0 hsep hsub hpre => ?_
  obtain rfl : h0 = Heap.none := hsep
  show St (cx gl) _ [(0, .pointer none), (1, .int .u64 a), (2, .slice base xs.length c), (3, .agg (ints .u8 (sl)).toArray)] _ _
  refine R_seq ?_
  refine R_region ?_
  refine L_op rfl (W_box (ints .u8 sl) rfl rfl rfl rfl rfl fun b7 => ?_)
  refine L_val rfl rfl rfl (OpP.v (P_assign rfl rfl)) ?_
  refine L_nil ?_
  refine St.env (.cons (t := 0) rfl (.cons (t := 1) rfl (.cons (t := 2) rfl (.cons (t := 7) rfl (.cons (t := 8) rfl .nil))))) ?_
  refine Q_then ?_
  refine R_seq ?_
  refine R_region ?_
  refine L_val rfl rfl rfl (OpP.v (P_move rfl rfl)) ?_
  refine L_val rfl rfl rfl (OpP.v (P_move rfl rfl)) ?_
  refine L_op rfl (W_callV rfl rfl rfl rfl fn_ca_16 (enter_nil a) (fun _ _ => trivial) ?_)
  refine L_val rfl rfl rfl (OpP.v (P_move rfl rfl)) ?_
  refine L_val rfl rfl rfl (OpP.v (P_extract rfl rfl rfl)) ?_
  refine L_val rfl rfl rfl (OpP.v (P_extract rfl rfl rfl)) ?_
  refine L_val rfl rfl rfl (OpP.v (P_assign rfl rfl)) ?_
  refine L_val rfl rfl rfl (OpP.v (P_assign rfl rfl)) ?_
  refine L_nil ?_
  refine St.env (.cons (t := 0) rfl (.cons (t := 1) rfl (.cons (t := 2) rfl (.cons (t := 7) rfl (.cons (t := 8) rfl (.cons (t := 9) rfl (.cons (t := 10) rfl .nil))))))) ?_
  refine Q_then ?_
  refine R_seq ?_
  refine R_seq ?_
  refine R_region ?_
  refine L_val rfl rfl rfl (OpP.v (P_move rfl rfl)) ?_
  refine L_val rfl rfl rfl (OpP.v (P_neNil0 rfl ty_ptr_27 rfl rfl)) ?_
  refine L_val rfl rfl rfl (OpP.v (P_move rfl rfl)) ?_
  refine L_val rfl rfl rfl (OpP.v (P_move rfl rfl)) ?_
  refine L_op rfl (W_callV rfl rfl rfl rfl fn_ca_17 (num_ok 1) (fun _ _ => trivial) ?_)
  refine L_val rfl rfl rfl (OpP.v (P_neq rfl rfl rfl)) ?_
  refine E_false (t := 22) rfl (rfl) ?_
  refine L_val rfl rfl rfl (OpP.v (P_pick rfl rfl rfl)) ?_
  refine L_nil ?_
  refine St.env (.cons (t := 0) rfl (.cons (t := 1) rfl (.cons (t := 2) rfl (.cons (t := 7) rfl (.cons (t := 8) rfl (.cons (t := 23) rfl .nil)))))) ?_
  refine Q_then ?_
  refine R_condF rfl ?_
  refine R_skip ?_
  refine Q_then ?_
  refine R_seq ?_
  refine R_region ?_
  refine L_val rfl rfl rfl (OpP.v (P_move rfl rfl)) ?_
  refine L_val rfl rfl rfl (OpP.v (P_move rfl rfl)) ?_
  refine L_val rfl rfl rfl (OpP.v (P_move rfl rfl)) ?_
  refine L_val rfl rfl rfl (V_loadAgg rfl rfl ty_ag_33 (by first | exact Rds.blk .h0 | exact Rds.blk .h1) (by rw [ints_length, hsl])) ?_
  refine L_op rfl (W_callV rfl rfl rfl rfl fn_ca_19 (check_nil a base c xs sl) (fun _ _ => trivial) ?_)
  refine E_false (t := 28) rfl (rfl) ?_
  refine L_val rfl rfl rfl (OpP.v (P_not rfl rfl)) ?_
  refine L_val rfl rfl rfl (OpP.v (P_move rfl rfl)) ?_
  refine L_val rfl rfl rfl (OpP.v (P_move rfl rfl)) ?_
  refine L_val rfl rfl rfl (OpP.v (P_move rfl rfl)) ?_
  refine L_op rfl (W_callV rfl rfl rfl rfl fn_ca_24 (known_nil a) (fun _ _ => trivial) ?_)
  refine E_false (t := 33) rfl (rfl) ?_
  refine L_val rfl rfl rfl (OpP.v (P_not rfl rfl)) ?_
  refine L_val rfl rfl rfl (OpP.v (P_pick rfl rfl rfl)) ?_
  refine L_val rfl rfl rfl (OpP.v (P_move rfl rfl)) ?_
  refine L_val rfl rfl rfl (OpP.v (P_move rfl rfl)) ?_
  refine L_op rfl (W_callV rfl rfl rfl rfl fn_ca_23 (count_nil) (fun _ _ => trivial) ?_)
  refine L_val rfl rfl rfl (OpP.v (P_eql rfl rfl rfl)) ?_
  refine E_true (t := 39) rfl (rfl) ?_
  refine L_val rfl rfl rfl (OpP.v (P_pick rfl rfl rfl)) ?_
  refine L_val rfl rfl rfl (OpP.v (P_move rfl rfl)) ?_
  refine L_val rfl rfl rfl (OpP.v (P_move rfl rfl)) ?_
  refine L_val rfl rfl rfl (OpP.v (P_move rfl rfl)) ?_
  refine L_op rfl (W_callV rfl rfl rfl rfl fn_ca_27 (signed_nil a) (fun _ _ => trivial) ?_)
  refine L_val rfl rfl rfl (OpP.v (P_len rfl ty_sl_60 rfl)) ?_
  refine L_val rfl rfl rfl (OpP.v (P_eql rfl rfl rfl)) ?_
  refine E_true (t := 46) rfl (rfl) ?_
  refine L_val rfl rfl rfl (OpP.v (P_pick rfl rfl rfl)) ?_
  refine L_val rfl rfl rfl (OpP.v (P_assign rfl rfl)) ?_
  refine L_nil ?_
  refine St.env (.cons (t := 8) rfl .nil) ?_
  refine Q_then ?_
  refine R_ret ?_
  exact R_endV rfl rfl (.tmp rfl .nil) (rfl)
theorem nobody_raw {gl : Nat → Obj} (p : Nat) (a : Int) (base : Option Addr) (c : Nat) (xs sl : List Int) (hsl : sl.length = 16) : SpecR (cx gl) 37 [.pointer (some ⟨p, 0, none⟩), .int .u64 a, .slice base xs.length c, .agg (ints .u8 (sl)).toArray] (fun _ _ => True) [blk p [.int .i32 0, .int .u32 0, .map none, .map none, .map none] 97] (.bool true) [blk p [.int .i32 0, .int .u32 0, .map none, .map none, .map none] 97] := by
  refine Spec.enter (C := cx gl) Tryd.func37 rfl 48 rfl rfl fun w0 h0 hsep hsub hpre => ?_
  show St (cx gl) _ [(0, .pointer (some ⟨p, 0, none⟩)), (1, .int .u64 a), (2, .slice base xs.length c), (3, .agg (ints .u8 (sl)).toArray)] _ _
  refine R_seq ?_
  refine R_region ?_
  refine L_op rfl (W_box (ints .u8 sl) rfl rfl rfl rfl rfl fun b7 => ?_)
  refine L_val rfl rfl rfl (OpP.v (P_assign rfl rfl)) ?_
  refine L_nil ?_
  refine St.env (.cons (t := 0) rfl (.cons (t := 1) rfl (.cons (t := 2) rfl (.cons (t := 7) rfl (.cons (t := 8) rfl .nil))))) ?_
  refine Q_then ?_
  refine R_seq ?_
  refine St.res (rs' := [blk p [.int .i32 0, .int .u32 0, .map none, .map none, .map none] 97, blk b7 (ints .u8 sl) 33]) (Weak.p1 (Weak.refl _)) ?_
  refine R_region ?_
  refine L_val rfl rfl rfl (OpP.v (P_move rfl rfl)) ?_
  refine L_val rfl rfl rfl (OpP.v (P_move rfl rfl)) ?_
  refine L_op rfl (W_callR rfl rfl rfl rfl fn_ca_16 (enter_raw p a) (Split.one (p := [])) (fun _ _ _ _ _ _ _ => trivial) ?_)
  refine St.res (rs' := [blk p [.int .i32 0, .int .u32 0, .map none, .map none, .map none] 97, blk b7 (ints .u8 sl) 33]) (Weak.refl _) ?_
  refine L_val rfl rfl rfl (OpP.v (P_move rfl rfl)) ?_
  refine L_val rfl rfl rfl (OpP.v (P_extract rfl rfl rfl)) ?_
  refine L_val rfl rfl rfl (OpP.v (P_extract rfl rfl rfl)) ?_
  refine L_val rfl rfl rfl (OpP.v (P_assign rfl rfl)) ?_
  refine L_val rfl rfl rfl (OpP.v (P_assign rfl rfl)) ?_
  refine L_nil ?_
  refine St.env (.cons (t := 0) rfl (.cons (t := 1) rfl (.cons (t := 2) rfl (.cons (t := 7) rfl (.cons (t := 8) rfl (.cons (t := 9) rfl (.cons (t := 10) rfl .nil))))))) ?_
  refine Q_then ?_
  refine R_seq ?_
  refine R_seq ?_
  refine R_region ?_
  refine L_val rfl rfl rfl (OpP.v (P_move rfl rfl)) ?_
  refine L_val rfl rfl rfl (OpP.v (P_neNil0 rfl ty_ptr_27 rfl rfl)) ?_
  refine L_val rfl rfl rfl (OpP.v (P_move rfl rfl)) ?_
  refine L_val rfl rfl rfl (OpP.v (P_move rfl rfl)) ?_
  refine L_op rfl (W_callV rfl rfl rfl rfl fn_ca_17 (num_ok 1) (fun _ _ => trivial) ?_)
  refine L_val rfl rfl rfl (OpP.v (P_neq rfl rfl rfl)) ?_
  refine E_false (t := 22) rfl (rfl) ?_
  refine L_val rfl rfl rfl (OpP.v (P_pick rfl rfl rfl)) ?_
  refine L_nil ?_
  refine St.env (.cons (t := 0) rfl (.cons (t := 1) rfl (.cons (t := 2) rfl (.cons (t := 7) rfl (.cons (t := 8) rfl (.cons (t := 23) rfl .nil)))))) ?_
  refine Q_then ?_
  refine R_condF rfl ?_
  refine R_skip ?_
  refine Q_then ?_
  refine R_seq ?_
  refine R_region ?_
  refine L_val rfl rfl rfl (OpP.v (P_move rfl rfl)) ?_
  refine L_val rfl rfl rfl (OpP.v (P_move rfl rfl)) ?_
  refine L_val rfl rfl rfl (OpP.v (P_move rfl rfl)) ?_
  refine L_val rfl rfl rfl (V_loadAgg rfl rfl ty_ag_33 (by first | exact Rds.blk .h0 | exact Rds.blk .h1) (by rw [ints_length, hsl])) ?_
  refine L_op rfl (W_callR rfl rfl rfl rfl fn_ca_19 (check_raw p a base c xs sl) (Split.one (p := [])) (fun _ _ _ _ _ _ _ => trivial) ?_)
  refine St.res (rs' := [blk p [.int .i32 0, .int .u32 0, .map none, .map none, .map none] 97, blk b7 (ints .u8 sl) 33]) (Weak.refl _) ?_
  refine E_false (t := 28) rfl (rfl) ?_
  refine L_val rfl rfl rfl (OpP.v (P_not rfl rfl)) ?_
  refine L_val rfl rfl rfl (OpP.v (P_move rfl rfl)) ?_
  refine L_val rfl rfl rfl (OpP.v (P_move rfl rfl)) ?_
  refine L_val rfl rfl rfl (OpP.v (P_move rfl rfl)) ?_
  refine L_op rfl (W_callR rfl rfl rfl rfl fn_ca_24 (known_raw p a) (Split.one (p := [])) (fun _ _ _ _ _ _ _ => trivial) ?_)
  refine St.res (rs' := [blk p [.int .i32 0, .int .u32 0, .map none, .map none, .map none] 97, blk b7 (ints .u8 sl) 33]) (Weak.refl _) ?_
  refine E_false (t := 33) rfl (rfl) ?_
  refine L_val rfl rfl rfl (OpP.v (P_not rfl rfl)) ?_
  refine L_val rfl rfl rfl (OpP.v (P_pick rfl rfl rfl)) ?_
  refine L_val rfl rfl rfl (OpP.v (P_move rfl rfl)) ?_
  refine L_val rfl rfl rfl (OpP.v (P_move rfl rfl)) ?_
  refine L_op rfl (W_callR rfl rfl rfl rfl fn_ca_23 (count_raw p) (Split.one (p := [])) (fun _ _ _ _ _ _ _ => trivial) ?_)
  refine St.res (rs' := [blk p [.int .i32 0, .int .u32 0, .map none, .map none, .map none] 97, blk b7 (ints .u8 sl) 33]) (Weak.refl _) ?_
  refine L_val rfl rfl rfl (OpP.v (P_eql rfl rfl rfl)) ?_
  refine E_true (t := 39) rfl (rfl) ?_
  refine L_val rfl rfl rfl (OpP.v (P_pick rfl rfl rfl)) ?_
  refine L_val rfl rfl rfl (OpP.v (P_move rfl rfl)) ?_
  refine L_val rfl rfl rfl (OpP.v (P_move rfl rfl)) ?_
  refine L_val rfl rfl rfl (OpP.v (P_move rfl rfl)) ?_
  refine L_op rfl (W_callR rfl rfl rfl rfl fn_ca_27 (signed_raw p a) (Split.one (p := [])) (fun _ _ _ _ _ _ _ => trivial) ?_)
  refine St.res (rs' := [blk p [.int .i32 0, .int .u32 0, .map none, .map none, .map none] 97, blk b7 (ints .u8 sl) 33]) (Weak.refl _) ?_
  refine L_val rfl rfl rfl (OpP.v (P_len rfl ty_sl_60 rfl)) ?_
  refine L_val rfl rfl rfl (OpP.v (P_eql rfl rfl rfl)) ?_
  refine E_true (t := 46) rfl (rfl) ?_
  refine L_val rfl rfl rfl (OpP.v (P_pick rfl rfl rfl)) ?_
  refine L_val rfl rfl rfl (OpP.v (P_assign rfl rfl)) ?_
  refine L_nil ?_
  refine St.env (.cons (t := 8) rfl .nil) ?_
  refine Q_then ?_
  refine R_ret ?_
  exact R_end (rs2 := _) rfl rfl (.tmp rfl .nil) (⟨rfl, rfl⟩) (Weak.keep (Weak.nil _))
theorem mute_nil {gl : Nat → Obj} (base : Option Addr) (c : Nat) (xs : List Int) : SpecV (cx gl) 38 [.pointer none, .slice base xs.length c] noPre (.bool true) := by
  refine Spec.enter (C := cx gl) Tryd.func38 rfl 26 rfl rfl fun w0 h0 hsep hsub hpre => ?_
  obtain rfl : h0 = Heap.none := hsep
  show St (cx gl) _ [(0, .pointer none), (1, .slice base xs.length c)] _ _
  refine R_seq ?_
  refine R_region ?_
  refine L_val rfl rfl rfl (OpP.v (P_assign rfl rfl)) ?_
  refine L_nil ?_
  refine Q_then ?_
  refine R_seq ?_
  refine R_region ?_
  refine L_val rfl rfl rfl (OpP.v (P_move rfl rfl)) ?_
  refine L_val rfl rfl rfl (OpP.v (P_move rfl rfl)) ?_
  refine L_op rfl (W_callV rfl rfl rfl rfl fn_ca_18 (sign_nil base c xs) (fun _ _ => trivial) ?_)
  refine L_val rfl rfl rfl (OpP.v (P_move rfl rfl)) ?_
  refine L_val rfl rfl rfl (OpP.v (P_extract rfl rfl rfl)) ?_
  refine L_val rfl rfl rfl (OpP.v (P_extract rfl rfl rfl)) ?_
  refine L_op rfl (W_alloc rfl rfl rfl ty_ze_33 fun b5 => ?_)
  refine L_op rfl (W_storeAll rfl rfl rfl rfl ty_ag_33 (rfl) (ints_one) .h0 (rfl) ?_)
  refine L_val rfl rfl rfl (OpP.v (P_assign rfl rfl)) ?_
  refine L_nil ?_
  refine St.env (.cons (t := 0) rfl (.cons (t := 4) rfl (.cons (t := 5) rfl (.cons (t := 6) rfl .nil)))) ?_
  refine Q_then ?_
  refine R_seq ?_
  refine R_region ?_
  refine L_val rfl rfl rfl (OpP.v (P_move rfl rfl)) ?_
  refine L_op rfl (W_callV rfl rfl rfl rfl fn_ca_17 (num_ok 1) (fun _ _ => trivial) ?_)
  refine L_val rfl rfl rfl (OpP.v (P_eql rfl rfl rfl)) ?_
  refine E_true (t := 15) rfl (rfl) ?_
  refine L_val rfl rfl rfl (OpP.v (P_move rfl rfl)) ?_
  refine L_val rfl rfl rfl (V_loadAgg rfl rfl ty_ag_33 (by first | exact Rds.blk .h0 | exact Rds.blk .h1) (rfl)) ?_
  refine L_val rfl rfl rfl (OpP.v (P_buildArrR rfl ty_ar_33 ty_ze_33 rfl rfl rfl (by first | decide | (simp only [List.length_cons, List.length_nil]; omega)) (by simp [Value.oneCell']))) ?_
  refine E_as (t := 18) (v' := .agg (ints .u8 (List.replicate 16 0)).toArray) rfl (rfl) ?_
  refine L_val rfl rfl rfl (OpP.v (P_eqArr rfl rfl rfl ty_un_33 ty_int_5 ty_sc_5 ty_eg_33 (rfl) (rfl))) ?_
  refine E_true (t := 19) rfl (decide_eq_true rfl) ?_
  refine L_val rfl rfl rfl (OpP.v (P_pick rfl rfl rfl)) ?_
  refine L_val rfl rfl rfl (OpP.v (P_move rfl rfl)) ?_
  refine L_val rfl rfl rfl (OpP.v (P_move rfl rfl)) ?_
  refine L_op rfl (W_callV rfl rfl rfl rfl fn_ca_25 (addr_nil) (fun _ _ => trivial) ?_)
  refine L_val rfl rfl rfl (OpP.v (P_eql rfl rfl rfl)) ?_
  refine E_true (t := 24) rfl (rfl) ?_
  refine L_val rfl rfl rfl (OpP.v (P_pick rfl rfl rfl)) ?_
  refine L_val rfl rfl rfl (OpP.v (P_assign rfl rfl)) ?_
  refine L_nil ?_
  refine St.env (.cons (t := 4) rfl .nil) ?_
  refine Q_then ?_
  refine R_ret ?_
  exact R_endV rfl rfl (.tmp rfl .nil) (rfl)
theorem mute_raw {gl : Nat → Obj} (s : Nat) (base : Option Addr) (c : Nat) (xs : List Int) : SpecR (cx gl) 38 [.pointer (some ⟨s, 0, none⟩), .slice base xs.length c] (fun _ _ => True) [blk s [.pointer none, .int .u64 0] 100] (.bool true) [blk s [.pointer none, .int .u64 0] 100] := by
  refine Spec.enter (C := cx gl) Tryd.func38 rfl 26 rfl rfl fun w0 h0 hsep hsub hpre => ?_
  show St (cx gl) _ [(0, .pointer (some ⟨s, 0, none⟩)), (1, .slice base xs.length c)] _ _
  refine R_seq ?_
  refine R_region ?_
  refine L_val rfl rfl rfl (OpP.v (P_assign rfl rfl)) ?_
  refine L_nil ?_
  refine Q_then ?_
  refine R_seq ?_
  refine R_region ?_
  refine L_val rfl rfl rfl (OpP.v (P_move rfl rfl)) ?_
  refine L_val rfl rfl rfl (OpP.v (P_move rfl rfl)) ?_
  refine L_op rfl (W_callR rfl rfl rfl rfl fn_ca_18 (sign_raw s (.int .u64 0) base c xs) (Split.one (p := [])) (fun _ _ _ _ _ _ _ => trivial) ?_)
  refine St.res (rs' := [blk s [.pointer none, .int .u64 0] 100]) (Weak.refl _) ?_
  refine L_val rfl rfl rfl (OpP.v (P_move rfl rfl)) ?_
  refine L_val rfl rfl rfl (OpP.v (P_extract rfl rfl rfl)) ?_
  refine L_val rfl rfl rfl (OpP.v (P_extract rfl rfl rfl)) ?_
  refine L_op rfl (W_alloc rfl rfl rfl ty_ze_33 fun b5 => ?_)
  refine L_op rfl (W_storeAll rfl rfl rfl rfl ty_ag_33 (rfl) (ints_one) .h0 (rfl) ?_)
  refine L_val rfl rfl rfl (OpP.v (P_assign rfl rfl)) ?_
  refine L_nil ?_
  refine St.env (.cons (t := 0) rfl (.cons (t := 4) rfl (.cons (t := 5) rfl (.cons (t := 6) rfl .nil)))) ?_
  refine Q_then ?_
  refine R_seq ?_
  refine R_region ?_
  refine L_val rfl rfl rfl (OpP.v (P_move rfl rfl)) ?_
  refine L_op rfl (W_callV rfl rfl rfl rfl fn_ca_17 (num_ok 1) (fun _ _ => trivial) ?_)
  refine L_val rfl rfl rfl (OpP.v (P_eql rfl rfl rfl)) ?_
  refine E_true (t := 15) rfl (rfl) ?_
  refine L_val rfl rfl rfl (OpP.v (P_move rfl rfl)) ?_
  refine L_val rfl rfl rfl (V_loadAgg rfl rfl ty_ag_33 (by first | exact Rds.blk .h0 | exact Rds.blk .h1) (rfl)) ?_
  refine L_val rfl rfl rfl (OpP.v (P_buildArrR rfl ty_ar_33 ty_ze_33 rfl rfl rfl (by first | decide | (simp only [List.length_cons, List.length_nil]; omega)) (by simp [Value.oneCell']))) ?_
  refine E_as (t := 18) (v' := .agg (ints .u8 (List.replicate 16 0)).toArray) rfl (rfl) ?_
  refine L_val rfl rfl rfl (OpP.v (P_eqArr rfl rfl rfl ty_un_33 ty_int_5 ty_sc_5 ty_eg_33 (rfl) (rfl))) ?_
  refine E_true (t := 19) rfl (decide_eq_true rfl) ?_
  refine L_val rfl rfl rfl (OpP.v (P_pick rfl rfl rfl)) ?_
  refine L_val rfl rfl rfl (OpP.v (P_move rfl rfl)) ?_
  refine L_val rfl rfl rfl (OpP.v (P_move rfl rfl)) ?_
  refine L_op rfl (W_callR rfl rfl rfl rfl fn_ca_25 (addr_raw s (.pointer none) 0) (Split.one (p := [_])) (fun _ _ _ _ _ _ _ => trivial) ?_)
  refine St.res (rs' := [blk s [.pointer none, .int .u64 0] 100, blk b5 (ints .u8 (List.replicate 16 0)) 33]) (Weak.refl _) ?_
  refine L_val rfl rfl rfl (OpP.v (P_eql rfl rfl rfl)) ?_
  refine E_true (t := 24) rfl (rfl) ?_
  refine L_val rfl rfl rfl (OpP.v (P_pick rfl rfl rfl)) ?_
  refine L_val rfl rfl rfl (OpP.v (P_assign rfl rfl)) ?_
  refine L_nil ?_
  refine St.env (.cons (t := 4) rfl .nil) ?_
  refine Q_then ?_
  refine R_ret ?_
  exact R_end (rs2 := _) rfl rfl (.tmp rfl .nil) (⟨rfl, rfl⟩) (Weak.keep (Weak.nil _))
theorem sealNil_walk {gl : Nat → Obj} (hG : Globs gl) (a : Int) (base : Option Addr) (c : Nat) (xs sl : List Int) (hb : IsB xs) (hmax : xs.length ≤ 140737488351232) (hsl : sl.length = 16) : SpecV (cx gl) 14 [.int .u64 a, .slice base xs.length c, .agg (ints .u8 (sl)).toArray] (fun w => Row w base (ints .u8 xs)) (.bool true) := by
  refine Spec.enter (C := cx gl) Tryd.func14 rfl 42 rfl rfl fun w0 h0 hsep hsub hpre => ?_
  obtain rfl : h0 = Heap.none := hsep
  show St (cx gl) _ [(0, .int .u64 a), (1, .slice base xs.length c), (2, .agg (ints .u8 (sl)).toArray)] _ _
  refine R_seq ?_
  refine R_region ?_
  refine L_op rfl (W_box (ints .u8 sl) rfl rfl rfl rfl rfl fun b5 => ?_)
  refine L_val rfl rfl rfl (OpP.v (P_assign rfl rfl)) ?_
  refine L_nil ?_
  refine St.env (.cons (t := 0) rfl (.cons (t := 1) rfl (.cons (t := 5) rfl (.cons (t := 6) rfl .nil)))) ?_
  refine Q_then ?_
  refine R_seq ?_
  refine R_region ?_
  refine L_val rfl rfl rfl (OpP.v (P_assign rfl rfl)) ?_
  refine L_nil ?_
  refine Q_then ?_
  refine R_seq ?_
  refine R_region ?_
  refine L_val rfl rfl rfl (OpP.v (P_assign rfl rfl)) ?_
  refine L_nil ?_
  refine Q_then ?_
  refine R_seq ?_
  refine R_region ?_
  refine L_val rfl rfl rfl (OpP.v (P_move rfl rfl)) ?_
  refine L_val rfl rfl rfl (OpP.v (P_move rfl rfl)) ?_
  refine L_val rfl rfl rfl (OpP.v (P_move rfl rfl)) ?_
  refine L_val rfl rfl rfl (V_loadAgg rfl rfl ty_ag_33 (by first | exact Rds.blk .h0 | exact Rds.blk .h1 | exact Rds.blk .h2) (by rw [ints_length, hsl])) ?_
  refine L_op rfl (W_callV rfl rfl rfl rfl fn_ca_37 (nobody_nil a base c xs sl hsl) (fun _ _ => trivial) ?_)
  refine E_true (t := 13) rfl (rfl) ?_
  refine L_val rfl rfl rfl (OpP.v (P_move rfl rfl)) ?_
  refine L_val rfl rfl rfl (OpP.v (P_buildStruct rfl ty_pl_97 ty_ze_97 rfl rfl (rfl))) ?_
  refine E_as (t := 15) (v' := .agg ([.int .i32 0, .int .u32 0, .map none, .map none, .map none] : List Value).toArray) rfl (rfl) ?_
  refine L_op rfl (W_box ([.int .i32 0, .int .u32 0, .map none, .map none, .map none]) rfl rfl rfl rfl rfl fun b16 => ?_)
  refine L_val rfl rfl rfl (OpP.v (P_move rfl rfl)) ?_
  refine L_val rfl rfl rfl (OpP.v (P_move rfl rfl)) ?_
  refine L_val rfl rfl rfl (V_loadAgg rfl rfl ty_ag_33 (by first | exact Rds.blk .h0 | exact Rds.blk .h1 | exact Rds.blk .h2) (by rw [ints_length, hsl])) ?_
  refine L_op rfl (W_callR rfl rfl rfl rfl fn_ca_37 (nobody_raw b16 a base c xs sl hsl) (Split.one (p := [])) (fun _ _ _ _ _ _ _ => trivial) ?_)
  refine St.res (rs' := [blk b5 (ints .u8 sl) 33]) (Weak.drop (Weak.refl _)) ?_
  refine E_true (t := 20) rfl (rfl) ?_
  refine L_val rfl rfl rfl (OpP.v (P_pick rfl rfl rfl)) ?_
  refine L_val rfl rfl rfl (OpP.v (P_move rfl rfl)) ?_
  refine L_val rfl rfl rfl (OpP.v (P_move rfl rfl)) ?_
  refine L_val rfl rfl rfl (OpP.v (P_move rfl rfl)) ?_
  refine L_op rfl (W_callV rfl rfl rfl rfl fn_ca_38 (mute_nil base c xs) (fun _ _ => trivial) ?_)
  refine E_true (t := 25) rfl (rfl) ?_
  refine L_val rfl rfl rfl (OpP.v (P_pick rfl rfl rfl)) ?_
  refine L_val rfl rfl rfl (OpP.v (P_move rfl rfl)) ?_
  refine L_val rfl rfl rfl (OpP.v (P_buildStruct rfl ty_pl_100 ty_ze_100 rfl rfl (rfl))) ?_
  refine E_as (t := 28) (v' := .agg ([.pointer none, .int .u64 0] : List Value).toArray) rfl (rfl) ?_
  refine L_op rfl (W_box ([.pointer none, .int .u64 0]) rfl rfl rfl rfl rfl fun b29 => ?_)
  refine L_val rfl rfl rfl (OpP.v (P_move rfl rfl)) ?_
  refine L_op rfl (W_callR rfl rfl rfl rfl fn_ca_38 (mute_raw b29 base c xs) (Split.one (p := [])) (fun _ _ _ _ _ _ _ => trivial) ?_)
  refine St.res (rs' := [blk b5 (ints .u8 sl) 33]) (Weak.drop (Weak.refl _)) ?_
  refine E_true (t := 31) rfl (rfl) ?_
  refine L_val rfl rfl rfl (OpP.v (P_pick rfl rfl rfl)) ?_
  refine L_val rfl rfl rfl (OpP.v (P_move rfl rfl)) ?_
  refine L_val rfl rfl rfl (OpP.v (P_move rfl rfl)) ?_
  refine L_val rfl rfl rfl (OpP.v (P_move rfl rfl)) ?_
  refine L_val rfl rfl rfl (OpP.v (P_add rfl rfl rfl)) ?_
  refine L_val rfl rfl rfl (OpP.v (P_move rfl rfl)) ?_
  refine L_val rfl rfl rfl (V_loadAgg rfl rfl ty_ag_33 (by first | exact Rds.blk .h0 | exact Rds.blk .h1 | exact Rds.blk .h2) (by rw [ints_length, hsl])) ?_
  refine L_val rfl rfl rfl (OpP.v (P_buildStruct rfl ty_pl_47 ty_ze_47 rfl rfl (build_strange a (IntKind.u64.wrap (a + 1)) base xs.length c sl hsl))) ?_
  refine L_op rfl (W_callV rfl rfl rfl rfl fn_ca_6 (strange_walk hG a (IntKind.u64.wrap (a + 1)) base c xs sl hb hmax hsl) ((Sn.row hpre rfl).rw_) ?_)
  refine E_true (t := 40) rfl (rfl) ?_
  refine L_val rfl rfl rfl (OpP.v (P_pick rfl rfl rfl)) ?_
  refine L_val rfl rfl rfl (OpP.v (P_assign rfl rfl)) ?_
  refine L_nil ?_
  refine St.env (.cons (t := 6) rfl .nil) ?_
  refine Q_then ?_
  refine R_ret ?_
  exact R_endV rfl rfl (.tmp rfl .nil) (rfl)
end Go.Proofs.YtnaadddnbfnahaaDoor
