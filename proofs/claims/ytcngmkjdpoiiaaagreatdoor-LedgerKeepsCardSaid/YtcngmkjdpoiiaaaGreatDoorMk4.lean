/- Texts that ledgerKeeps_holds leans on, part 4: each says at its head what it holds; no condition beyond its theorems' own. -/
import Derived.Test.YtcngmkjdpoiiaaaGreatDoorMk3
set_option linter.unusedVariables false
set_option linter.unusedSimpArgs false
set_option linter.unusedSectionVars false
/- Walks: PlainTx, TxBytes. Printed by gen.py. -/
set_option maxRecDepth 100000
namespace Go.Proofs.YtcngmkjdpoiiaaaGreatDoor
open Go Go.RowKit Go.Proofs
theorem plain_ok {gl : Nat → Obj} (x : Tx) (hx : x.ok) : SpecV (cx gl) 189 [.agg x.cells.toArray] noPre (.int .i64 (plainE x)) := by
 refine Spec.enter (C := cx gl) Tryz.func189 rfl 36 rfl rfl fun w0 h0 hsep hsub hpre => ?_
 obtain rfl : h0 = Heap.none := hsep
 show St (cx gl) _ [(0, .agg x.cells.toArray)] _ _
 refine rT ?_
 refine lO (W_box (x.cells) rfl rfl rfl rfl rfl fun b1 => lA (k:=?_))
 refine lQ (cE 1 rfl (cE 2 rfl .nil)) (rS ?_)
 refine R_open [(0, 0), (1, 1), (3, 0), (4, 1), (5, 0), (16, 0), (17, 1), (19, 0), (20, 1), (21, 0), (28, 0), (29, 1), (2, 2), (6, 0), (7, 0), (8, 1), (9, 0), (10, 0), (11, 1), (12, 0), (13, 0), (14, 0), (15, 2), (18, 2), (22, 0), (23, 0), (24, 1), (25, 0), (26, 0), (27, 2), (30, 2), (31, 2), (32, 2), (33, 0)] mixed (by kernel_rfl) (QOk.then QOk.body) (oP rfl (pF ty_fl_67_0) (k:=oV rfl (vB ty_sc_3 .h0) (k:=oP rfl (pF ty_fl_67_1) (k:=oV rfl (vB ty_sc_26 .h0) (k:=oP rfl pEq (k:=?_))))))
 refine E_bool (t := 8) rfl (fun h1 => ?_) (fun h1 => ?_)
 ·skip
  have h1 := of_decide_eq_true h1
  refine oP rfl (pF ty_fl_67_3) (k:=oV rfl (vB ty_sc_23 .h0) (k:=oP rfl (pF ty_fl_67_0) (k:=oV rfl (vB ty_sc_3 .h0) (k:=oP rfl pEq (k:=?_)))))
  refine E_bool (t := 24) rfl (fun h2 => ?_) (fun h2 => ?_)
  ·skip
   have h2 := of_decide_eq_true h2
   refine oP rfl (pF ty_fl_67_4) (k:=oV rfl (vB ty_sc_23 .h0) (k:=?_))
   refine O_keep rfl rfl (W_callV rfl rfl rfl rfl fn_ca_247 (wkind_ok x.kind) (fun _ _ => trivial) (K_keep (Weak.refl _) (oP rfl pM (k:=?_))))
   refine O_no rfl rfl rfl rfl ?_
   refine O_noX rfl rfl rfl rfl ?_
   refine O_no rfl rfl rfl rfl ?_
   refine O_no rfl rfl rfl rfl ?_
   refine O_noX rfl rfl rfl rfl ?_
   refine O_no rfl rfl rfl rfl ?_
   refine O_no rfl rfl rfl rfl (oP rfl pK (k:=?_))
   refine O_keep rfl rfl (W_callV rfl rfl rfl rfl fn_ca_248 (field_ok _) (fun _ _ => trivial) (K_keep (Weak.refl _) ?_))
   refine O_keep rfl rfl (W_callV rfl rfl rfl rfl fn_ca_249 (amount_ok x.amt) (fun _ _ => trivial) (K_keep (Weak.refl _) (oP rfl pM (k:=oP rfl (pF ty_fl_67_3) (k:=oV rfl (vB ty_sc_23 .h0) (k:=oP rfl pNe (k:=oP rfl pK (k:=?_))))))))
   refine O_keep rfl rfl (W_callV rfl rfl rfl rfl fn_ca_248 (field_ok _) (fun _ _ => trivial) (K_keep (Weak.refl _) ?_))
   refine O_keep rfl rfl (W_callV rfl rfl rfl rfl fn_ca_249 (amount_ok x.fee) (fun _ _ => trivial) (K_keep (Weak.refl _) ?_))
   refine O_keep rfl rfl (W_lit (z := .nilIface) (ints .i64 [kindE4 x.kind, fieldE (sndB x), amtE x.amt, fieldE (decide (x.kind = 4) && decide (x.amt ≠ 0)), amtE x.fee]) rfl rfl rfl ty_sl_387 ty_lz_387 rfl rfl rfl (by decide) (by decide) (by simp [Value.cells]) (by first | rfl | (simp only [sndB, if_pos h1, h2, decide_true, decide_false, Bool.true_and, Bool.false_and]; rfl) | (simp only [sndB, if_neg h1, h2, decide_true, decide_false, Bool.true_and, Bool.false_and]; rfl)) fun b34 => (K_keep (Weak.drop (Weak.refl _)) ?_))
   refine O_keep rfl rfl (W_callV rfl rfl rfl rfl fn_ca_246 (all_ok b34 5 [kindE4 x.kind, fieldE (sndB x), amtE x.amt, fieldE (decide (x.kind = 4) && decide (x.amt ≠ 0)), amtE x.fee] (Nat.le_refl 5) (show 5 ≤ 1000 by decide)) (fun w nw => (Sn.ofBlk .h0).rowAt0 (fun _ _ h => h) w nw) (K_keep (Weak.refl _) (oP rfl pA (k:=O_nil ?_))))
   refine St.env (cE 2 rfl .nil) (qT (R_ret ?_))
   exact R_endV rfl rfl (.tmp rfl .nil) (congrArg (Value.int .i64) (plainE_all x))
  ·skip
   have h2 := of_decide_eq_false h2
   refine oP rfl (pF ty_fl_67_4) (k:=oV rfl (vB ty_sc_23 .h0) (k:=?_))
   refine O_keep rfl rfl (W_callV rfl rfl rfl rfl fn_ca_247 (wkind_ok x.kind) (fun _ _ => trivial) (K_keep (Weak.refl _) (oP rfl pM (k:=?_))))
   refine O_no rfl rfl rfl rfl ?_
   refine O_noX rfl rfl rfl rfl ?_
   refine O_no rfl rfl rfl rfl ?_
   refine O_no rfl rfl rfl rfl ?_
   refine O_noX rfl rfl rfl rfl ?_
   refine O_no rfl rfl rfl rfl ?_
   refine O_no rfl rfl rfl rfl (oP rfl pK (k:=?_))
   refine O_keep rfl rfl (W_callV rfl rfl rfl rfl fn_ca_248 (field_ok _) (fun _ _ => trivial) (K_keep (Weak.refl _) ?_))
   refine O_keep rfl rfl (W_callV rfl rfl rfl rfl fn_ca_249 (amount_ok x.amt) (fun _ _ => trivial) (K_keep (Weak.refl _) (oP rfl pM (k:=?_))))
   refine O_no rfl rfl rfl rfl ?_
   refine O_noX rfl rfl rfl rfl ?_
   refine O_no rfl rfl rfl rfl (oP rfl pK (k:=?_))
   refine O_keep rfl rfl (W_callV rfl rfl rfl rfl fn_ca_248 (field_ok _) (fun _ _ => trivial) (K_keep (Weak.refl _) ?_))
   refine O_keep rfl rfl (W_callV rfl rfl rfl rfl fn_ca_249 (amount_ok x.fee) (fun _ _ => trivial) (K_keep (Weak.refl _) ?_))
   refine O_keep rfl rfl (W_lit (z := .nilIface) (ints .i64 [kindE4 x.kind, fieldE (sndB x), amtE x.amt, fieldE (decide (x.kind = 4) && decide (x.amt ≠ 0)), amtE x.fee]) rfl rfl rfl ty_sl_387 ty_lz_387 rfl rfl rfl (by decide) (by decide) (by simp [Value.cells]) (by first | rfl | (simp only [sndB, if_pos h1, h2, decide_true, decide_false, Bool.true_and, Bool.false_and]; rfl) | (simp only [sndB, if_neg h1, h2, decide_true, decide_false, Bool.true_and, Bool.false_and]; rfl)) fun b34 => (K_keep (Weak.drop (Weak.refl _)) ?_))
   refine O_keep rfl rfl (W_callV rfl rfl rfl rfl fn_ca_246 (all_ok b34 5 [kindE4 x.kind, fieldE (sndB x), amtE x.amt, fieldE (decide (x.kind = 4) && decide (x.amt ≠ 0)), amtE x.fee] (Nat.le_refl 5) (show 5 ≤ 1000 by decide)) (fun w nw => (Sn.ofBlk .h0).rowAt0 (fun _ _ h => h) w nw) (K_keep (Weak.refl _) (oP rfl pA (k:=O_nil ?_))))
   refine St.env (cE 2 rfl .nil) (qT (R_ret ?_))
   exact R_endV rfl rfl (.tmp rfl .nil) (congrArg (Value.int .i64) (plainE_all x))
 ·skip
  have h1 := of_decide_eq_false h1
  refine oP rfl (pF ty_fl_67_3) (k:=oV rfl (vB ty_sc_23 .h0) (k:=oP rfl (pF ty_fl_67_0) (k:=oV rfl (vB ty_sc_3 .h0) (k:=oP rfl pEq (k:=?_)))))
  refine E_bool (t := 24) rfl (fun h2 => ?_) (fun h2 => ?_)
  ·skip
   have h2 := of_decide_eq_true h2
   refine oP rfl (pF ty_fl_67_4) (k:=oV rfl (vB ty_sc_23 .h0) (k:=?_))
   refine O_keep rfl rfl (W_callV rfl rfl rfl rfl fn_ca_247 (wkind_ok x.kind) (fun _ _ => trivial) (K_keep (Weak.refl _) (oP rfl pM (k:=oP rfl (pF ty_fl_67_2) (k:=oV rfl (vB ty_sc_26 .h0) (k:=oP rfl pNe (k:=oP rfl (pF ty_fl_67_0) (k:=oV rfl (vB ty_sc_3 .h0) (k:=oP rfl pEq (k:=?_))))))))))
   refine oP rfl (P_neq_bool rfl ty_bool_4 rfl rfl) (k:=oP rfl pK (k:=?_))
   refine O_keep rfl rfl (W_callV rfl rfl rfl rfl fn_ca_248 (field_ok _) (fun _ _ => trivial) (K_keep (Weak.refl _) ?_))
   refine O_keep rfl rfl (W_callV rfl rfl rfl rfl fn_ca_249 (amount_ok x.amt) (fun _ _ => trivial) (K_keep (Weak.refl _) (oP rfl pM (k:=oP rfl (pF ty_fl_67_3) (k:=oV rfl (vB ty_sc_23 .h0) (k:=oP rfl pNe (k:=oP rfl pK (k:=?_))))))))
   refine O_keep rfl rfl (W_callV rfl rfl rfl rfl fn_ca_248 (field_ok _) (fun _ _ => trivial) (K_keep (Weak.refl _) ?_))
   refine O_keep rfl rfl (W_callV rfl rfl rfl rfl fn_ca_249 (amount_ok x.fee) (fun _ _ => trivial) (K_keep (Weak.refl _) ?_))
   refine O_keep rfl rfl (W_lit (z := .nilIface) (ints .i64 [kindE4 x.kind, fieldE (sndB x), amtE x.amt, fieldE (decide (x.kind = 4) && decide (x.amt ≠ 0)), amtE x.fee]) rfl rfl rfl ty_sl_387 ty_lz_387 rfl rfl rfl (by decide) (by decide) (by simp [Value.cells]) (by first | rfl | (simp only [sndB, if_pos h1, h2, decide_true, decide_false, Bool.true_and, Bool.false_and]; rfl) | (simp only [sndB, if_neg h1, h2, decide_true, decide_false, Bool.true_and, Bool.false_and]; rfl)) fun b34 => (K_keep (Weak.drop (Weak.refl _)) ?_))
   refine O_keep rfl rfl (W_callV rfl rfl rfl rfl fn_ca_246 (all_ok b34 5 [kindE4 x.kind, fieldE (sndB x), amtE x.amt, fieldE (decide (x.kind = 4) && decide (x.amt ≠ 0)), amtE x.fee] (Nat.le_refl 5) (show 5 ≤ 1000 by decide)) (fun w nw => (Sn.ofBlk .h0).rowAt0 (fun _ _ h => h) w nw) (K_keep (Weak.refl _) (oP rfl pA (k:=O_nil ?_))))
   refine St.env (cE 2 rfl .nil) (qT (R_ret ?_))
   exact R_endV rfl rfl (.tmp rfl .nil) (congrArg (Value.int .i64) (plainE_all x))
  ·skip
   have h2 := of_decide_eq_false h2
   refine oP rfl (pF ty_fl_67_4) (k:=oV rfl (vB ty_sc_23 .h0) (k:=?_))
   refine O_keep rfl rfl (W_callV rfl rfl rfl rfl fn_ca_247 (wkind_ok x.kind) (fun _ _ => trivial) (K_keep (Weak.refl _) (oP rfl pM (k:=oP rfl (pF ty_fl_67_2) (k:=oV rfl (vB ty_sc_26 .h0) (k:=oP rfl pNe (k:=oP rfl (pF ty_fl_67_0) (k:=oV rfl (vB ty_sc_3 .h0) (k:=oP rfl pEq (k:=?_))))))))))
   refine oP rfl (P_neq_bool rfl ty_bool_4 rfl rfl) (k:=oP rfl pK (k:=?_))
   refine O_keep rfl rfl (W_callV rfl rfl rfl rfl fn_ca_248 (field_ok _) (fun _ _ => trivial) (K_keep (Weak.refl _) ?_))
   refine O_keep rfl rfl (W_callV rfl rfl rfl rfl fn_ca_249 (amount_ok x.amt) (fun _ _ => trivial) (K_keep (Weak.refl _) (oP rfl pM (k:=?_))))
   refine O_no rfl rfl rfl rfl ?_
   refine O_noX rfl rfl rfl rfl ?_
   refine O_no rfl rfl rfl rfl (oP rfl pK (k:=?_))
   refine O_keep rfl rfl (W_callV rfl rfl rfl rfl fn_ca_248 (field_ok _) (fun _ _ => trivial) (K_keep (Weak.refl _) ?_))
   refine O_keep rfl rfl (W_callV rfl rfl rfl rfl fn_ca_249 (amount_ok x.fee) (fun _ _ => trivial) (K_keep (Weak.refl _) ?_))
   refine O_keep rfl rfl (W_lit (z := .nilIface) (ints .i64 [kindE4 x.kind, fieldE (sndB x), amtE x.amt, fieldE (decide (x.kind = 4) && decide (x.amt ≠ 0)), amtE x.fee]) rfl rfl rfl ty_sl_387 ty_lz_387 rfl rfl rfl (by decide) (by decide) (by simp [Value.cells]) (by first | rfl | (simp only [sndB, if_pos h1, h2, decide_true, decide_false, Bool.true_and, Bool.false_and]; rfl) | (simp only [sndB, if_neg h1, h2, decide_true, decide_false, Bool.true_and, Bool.false_and]; rfl)) fun b34 => (K_keep (Weak.drop (Weak.refl _)) ?_))
   refine O_keep rfl rfl (W_callV rfl rfl rfl rfl fn_ca_246 (all_ok b34 5 [kindE4 x.kind, fieldE (sndB x), amtE x.amt, fieldE (decide (x.kind = 4) && decide (x.amt ≠ 0)), amtE x.fee] (Nat.le_refl 5) (show 5 ≤ 1000 by decide)) (fun w nw => (Sn.ofBlk .h0).rowAt0 (fun _ _ h => h) w nw) (K_keep (Weak.refl _) (oP rfl pA (k:=O_nil ?_))))
   refine St.env (cE 2 rfl .nil) (qT (R_ret ?_))
   exact R_endV rfl rfl (.tmp rfl .nil) (congrArg (Value.int .i64) (plainE_all x))
theorem noSeal_ok {gl : Nat → Obj} (v : Value) : SpecV (cx gl) 210 [v] noPre (.tuple #[]) := by
 refine Spec.enter (C := cx gl) Tryz.func210 rfl 2 rfl rfl fun w0 h0 hsep hsub hpre => ?_
 obtain rfl : h0 = Heap.none := hsep
 show St (cx gl) _ [(0, v)] _ _
 refine R_skip ?_
 exact R_endV0 rfl rfl (.nil) (rfl)
theorem putTx_ok {gl : Nat → Obj} (wb : Nat) (bv : Value) (n : Nat) (xs : List Int) (hn : n ≤ 80000000) (x : Tx) (hx : x.ok) : Spec (cx gl) 209 [.pointer (some ⟨wb, 0, none⟩), .agg x.cells.toArray, .func (.func 210) #[] #[]] (fun _ _ => True) [blk wb [.bool true, bv, .int .i64 0] 343, ownS 5 1 (bv) (n) (ints .u8 (xs))] (fun v rs => v = .tuple #[] ∧ ∃ bv', rs = [blk wb [.bool true, bv', .int .i64 0] 343, ownS 5 1 (bv') (n + (txB x).length) (ints .u8 (xs ++ txB x))]) := by
 refine Spec.enter (C := cx gl) Tryz.func209 rfl 35 rfl rfl fun w0 h0 hsep hsub hpre => ?_
 show St (cx gl) _ [(0, .pointer (some ⟨wb, 0, none⟩)), (1, .agg x.cells.toArray), (2, .func (.func 210) #[] #[])] _ _
 refine rT ?_
 refine lO (W_box (x.cells) rfl rfl rfl rfl rfl fun b4 => ?_)
 refine lQ (cE 0 rfl (cE 2 rfl (cE 4 rfl .nil))) (rT (lM (k:=lP (pF ty_fl_67_0) (k:=lV (vB ty_sc_3 .h0) (k:=?_)))))
 refine lP (P_conv rfl ty_int_3 ty_int_5 rfl) (k:=?_)
 refine lO (W_call rfl rfl rfl rfl fn_ca_267 (byte_ok wb bv n xs (by omega) (kindB x.kind)) (Weak.pick (p := [_]) (Weak.pick (p := [_]) (Weak.keep (Weak.nil _)))) (fun _ _ _ _ _ _ _ => trivial) fun v9 rs9 ⟨e9, bv2, e8⟩ => ?_)
 subst e9; subst e8
 refine lQ (cE 0 rfl (cE 2 rfl (cE 4 rfl .nil))) (rS (rT (lP (pF ty_fl_67_1) (k:=lV (vB ty_sc_26 .h2) (k:=lP (pF ty_fl_67_2) (k:=lV (vB ty_sc_26 .h2) (k:=lP (pF ty_fl_67_3) (k:=lV (vB ty_sc_23 .h2) (k:=lP (pF ty_fl_67_4) (k:=lV (vB ty_sc_23 .h2) (k:=lP (pF ty_fl_67_5) (k:=lV (vB ty_sc_23 .h2) (k:=?_)))))))))))))
 refine lP (P_buildArr rfl ty_ar_373 ty_ze_373 rfl rfl rfl rfl (by simp [Value.oneCell'])) (k:=?_)
 refine E_as (t := 23) (v' := .agg (ints .u64 (txW x)).toArray) rfl (rfl) (lM (k:=?_))
 refine lQ (cE 0 rfl (cE 2 rfl (cE 4 rfl (cE 23 rfl (cE 24 rfl .nil))))) (R_block ?_)
 refine R_loopE (G := Nat × Value) (cE 0 rfl (cE 2 rfl (cE 4 rfl (cE 23 rfl .nil)))) (fun g => [(24, .int .i64 ((g.1 : Int)))]) (fun g => [blk wb [.bool true, g.2, .int .i64 0] 343, ownS 5 1 (g.2) (n + 1 + (varsB ((txW x).take g.1)).length) (ints .u8 (xs ++ [kindB x.kind] ++ varsB ((txW x).take g.1))), blk b4 x.cells 67]) (fun g => g.1 ≤ 5) (fun g => 5 - g.1) (0, bv2) (Nat.zero_le _) (by repeat (first | exact .nil | refine .cons rfl ?_ | refine .consE rfl (by first | rfl | (congr 1; omega) | (congr 1; push_cast; omega)) ?_)) (Weak.keep (ownS.to1 (by simp [varsB]) (by simp [varsB]))) ?_
 rintro ⟨j, bv⟩ hinv
 replace hinv : j ≤ 5 := hinv
 show St (cx gl) _ ((24, .int .i64 ((j : Int))) :: _) [blk wb [.bool true, bv, .int .i64 0] 343, ownS 5 1 (bv) (n + 1 + (varsB ((txW x).take j)).length) (ints .u8 (xs ++ [kindB x.kind] ++ varsB ((txW x).take j))), blk b4 x.cells 67] _
 refine rT (lP pLt (k:=?_))
 refine L_nil (qT (rS ?_))
 refine R_condP rfl (fun hlt => ?_) (fun hlt => ?_)
 ·skip
  have hj : j < (txW x).length := by show j < 5; omega
  obtain ⟨y, hw⟩ : ∃ y, (txW x)[j]? = some y := ⟨_, List.getElem?_eq_getElem hj⟩
  have hvb := varsB_len ((txW x).take j)
  rw [List.length_take] at hvb
  refine R_skip (qT (rS (R_block (rT ?_))))
  refine lP (P_index (j) rfl ty_ar_373 ty_sc_23 rfl rfl (by first | rfl | omega) (by omega) (show (ints .u64 (txW x))[j]? = some (.int .u64 y) by simp [ints, hw])) (k:=lA (k:=?_))
  refine L_nil (qT (rR (lM (k:=lM (k:=?_)))))
  refine lO (W_call rfl rfl rfl rfl fn_ca_269 (var_ok wb bv (n + 1 + (varsB ((txW x).take j)).length) (xs ++ [kindB x.kind] ++ varsB ((txW x).take j)) (by omega) y (txW_ok hx y (List.mem_of_getElem? hw))) (Weak.refl _) (fun _ _ _ _ _ _ _ => trivial) fun v9 rs9 ⟨e9, bv3, e8⟩ => ?_)
  subst e9; subst e8
  refine lE (cE 0 rfl (cE 2 rfl (cE 4 rfl (cE 7 rfl (cE 23 rfl (cE 24 rfl (cE 25 rfl (cE 26 rfl (cE 27 rfl (cE 28 rfl .nil)))))))))) (Q_block (qT (rR ?_)))
  first | (refine L_val rfl rfl rfl (OpP.v (P_addN rfl rfl rfl (by simp only [fits]; omega))) ?_) | (refine L_val rfl rfl rfl (OpP.v (P_add rfl rfl rfl)) ?_)
  refine lM (k:=?_)
  refine L_nil ?_
  exact Q_round (j + 1, bv3) (by omega) (by show 5 - (j + 1) < 5 - j; omega) (by repeat (first | exact .nil | refine .cons rfl ?_ | refine .consE rfl (by first | rfl | (congr 1; omega) | (congr 1; push_cast; omega)) ?_)) (Weak.keep (ownS.to1 (by rw [varsB_next hw, List.length_append]; omega) (by rw [varsB_next hw, ← List.append_assoc])))
 ·skip
  obtain rfl : j = 5 := by omega
  refine R_exit (Q_then_exit (Q_then_exit (Q_block_eq ?_)))
  refine St.env (cE 2 rfl (cE 4 rfl .nil)) (qT (rR (lM (k:=lP (pF ty_fl_67_6) (k:=?_)))))
  refine lP (P_sliceAll rfl ty_ar_65 rfl) (k:=?_)
  refine lO (W_callFV (fi := []) (ca := []) rfl rfl rfl rfl rfl rfl fn_ca_210 (noSeal_ok _) (fun _ _ => trivial) ?_)
  refine lE (.nil) ?_
  exact R_end0 (rs2 := _) rfl rfl (.nil) (⟨rfl, _, rfl⟩) (Weak.keep (Weak.trans (ownS.to1 (by show n + 1 + (varsB (txW x)).length = n + (txB x).length; show _ = n + ((varsB (txW x)).length + 1); omega) (by show ints .u8 (xs ++ [kindB x.kind] ++ varsB (txW x)) = ints .u8 (xs ++ txB x); rw [List.append_assoc]; rfl)) (Weak.keep (Weak.nil _))))
theorem tx1_ok {gl : Nat → Obj} (tb : Nat) (wb : Nat) (bv : Value) (n : Nat) (xs : List Int) (hn : n ≤ 80000000) (x : Tx) (hx : x.ok) : Spec (cx gl) 208 [.pointer (some ⟨wb, 0, none⟩), .pointer (some ⟨tb, 0, none⟩)] (fun w h => Seen w h (some ⟨tb, 0, none⟩) x.cells) [blk wb [.bool true, bv, .int .i64 0] 343, ownS 5 1 (bv) (n) (ints .u8 (xs))] (fun v rs => v = .tuple #[] ∧ ∃ bv', rs = [blk wb [.bool true, bv', .int .i64 0] 343, ownS 5 1 (bv') (n + (txB x).length) (ints .u8 (xs ++ txB x))]) := by
 refine Spec.enter (C := cx gl) Tryz.func208 rfl 6 rfl rfl fun w0 h0 hsep hsub hpre => ?_
 show St (cx gl) _ [(0, .pointer (some ⟨wb, 0, none⟩)), (1, .pointer (some ⟨tb, 0, none⟩))] _ _
 refine rR (lM (k:=?_))
 refine lV (V_loadAgg rfl rfl ty_ag_67 ((Sn.old hpre).rds) (hx.cellsLen)) (k:=?_)
 refine lO (W_call rfl rfl rfl rfl fn_ca_209 (putTx_ok wb bv n xs hn x hx) (Weak.refl _) (fun _ _ _ _ _ _ _ => trivial) fun v9 rs9 ⟨e9, bv2, e8⟩ => ?_)
 subst e9; subst e8
 refine lE (.nil) ?_
 exact R_end0 (rs2 := _) rfl rfl (.nil) (⟨rfl, _, rfl⟩) (Weak.refl _)
theorem allE2 (a b : Int) : allE [a, b] = if a ≠ 0 then a else b := by
 show (if a ≠ 0 then a else if b ≠ 0 then b else 0) = _
 split
 ·rfl
 ·split
  ·rfl
  ·omega
theorem txbB_bad {ch : List Int} {x : Tx} (h : txbE ch x ≠ 0) : txbB ch x = [] := if_neg h
theorem txbB_fine {ch : List Int} {x : Tx} (h : txbE ch x = 0) : txbB ch x = saidB ch x := if_pos h
theorem saidB_length (ch : List Int) (x : Tx) : (saidB ch x).length = 0 + 1 + (varB (ch.length : Int)).length + ch.length + (txB x).length := by
 show (varB (ch.length : Int) ++ ch ++ txB x).length + 1 = _
 rw [List.length_append, List.length_append]; omega
theorem said_ok {gl : Nat → Obj} (tb : Nat) (ch : List Int) (hb : IsB ch) (x : Tx) (hx : x.ok) : Spec (cx gl) 207 [.int .u8 84, .string (strOfNums ch), .int .i64 (plainE x), .func (.func 208) #[] #[.pointer (some ⟨tb, 0, none⟩)]] (fun w h => Seen w h (some ⟨tb, 0, none⟩) x.cells) [] (fun v rs => ∃ u, v = .tuple #[u, .int .i64 (txbE ch x)] ∧ rs = [ownS 5 1 (u) ((txbB ch x).length) (ints .u8 (txbB ch x))]) := by
 refine Spec.enter (C := cx gl) Tryz.func207 rfl 34 rfl rfl fun w0 h0 hsep hsub hpre => ?_
 show St (cx gl) _ [(0, .int .u8 84), (1, .string (strOfNums ch)), (2, .int .i64 (plainE x)), (3, .func (.func 208) #[] #[.pointer (some ⟨tb, 0, none⟩)])] _ _
 refine rT (lA (k:=lA (k:=?_)))
 refine L_nil (qT (rS (rT (lM (k:=?_)))))
 refine lO (W_callV rfl rfl rfl rfl fn_ca_266 (named_ok ch) (fun _ _ => trivial) (lM (k:=?_)))
 refine lO (W_lit (z := .nilIface) (ints .i64 [nameE ch, plainE x]) rfl rfl rfl ty_sl_387 ty_lz_387 rfl rfl rfl (by decide) (by decide) (by simp [Value.cells]) (rfl) fun b15 => ?_)
 refine lO (W_callV rfl rfl rfl rfl fn_ca_246 (all_ok b15 2 [nameE ch, plainE x] (Nat.le_refl 2) (show 2 ≤ 1000 by decide)) (fun w nw => (Sn.ofBlk .h0).rowAt0 (fun _ _ h => h) w nw) ?_)
 refine E_as (t := 16) (v' := .int .i64 (txbE ch x)) rfl (by rw [allE2]; rfl) (lA (k:=?_))
 refine lQ (cE 0 rfl (cE 1 rfl (cE 3 rfl (cE 8 rfl (cE 9 rfl (cE 10 rfl .nil)))))) (rT (lM (k:=lP pNe (k:=?_))))
 refine lQ (cE 0 rfl (cE 1 rfl (cE 3 rfl (cE 8 rfl (cE 9 rfl (cE 10 rfl (cE 18 rfl .nil))))))) ?_
 refine R_condP rfl (fun he => ?_) (fun he => ?_)
 ·skip
  refine rT (lM (k:=lA (k:=lA (k:=?_))))
  refine lQ (cE 0 rfl (cE 1 rfl (cE 3 rfl (cE 8 rfl (cE 9 rfl .nil))))) (R_ret (Q_then_ret ?_))
  exact R_end (rs2 := [ownS 5 1 (.slice none 0 0) ((txbB ch x).length) (ints .u8 (txbB ch x))]) rfl rfl (.tmp rfl (.tmp rfl .nil)) (⟨_, rfl, rfl⟩) (by rw [txbB_bad he]; exact Weak.trans (Weak.newNil (T := 5) (sz := 1)) (Weak.keep (Weak.nil _)))
 ·skip
  have he : txbE ch x = 0 := Classical.not_not.1 he
  obtain ⟨hc1, hc2⟩ := nameE_fine (txbE_fine he).1
  have hvl := varB_len (ch.length : Int)
  have htl := txB_len x
  refine R_skip (qT (rT ?_))
  refine lO (W_call rfl rfl rfl rfl fn_ca_172 (newW_ok) (Split.nil _) (fun _ _ _ _ _ _ _ => trivial) fun v1 rs1 ⟨wb, e1, e2⟩ => ?_)
  subst e1; subst e2
  refine lA (k:=?_)
  refine lQ (cE 0 rfl (cE 1 rfl (cE 3 rfl (cE 8 rfl (cE 9 rfl (cE 11 rfl .nil)))))) (rS ?_)
  refine St.res (rs' := [blk wb [.bool true, .slice none 0 0, .int .i64 0] 343, ownS 5 1 (.slice none 0 0) (0) (ints .u8 ([]))]) (Weak.trans (Weak.keep (Weak.newNil (T := 5) (sz := 1))) (Weak.keep (Weak.keep (Weak.nil _)))) (rR (lM (k:=lM (k:=?_))))
  refine lO (W_call rfl rfl rfl rfl fn_ca_267 (byte_ok wb _ 0 [] (by omega) 84) (Weak.refl _) (fun _ _ _ _ _ _ _ => trivial) fun v9 rs9 ⟨e9, bv2, e8⟩ => ?_)
  subst e9; subst e8
  refine lQ (cE 1 rfl (cE 3 rfl (cE 8 rfl (cE 9 rfl (cE 11 rfl .nil))))) (rT (lM (k:=lM (k:=?_))))
  refine lO (W_call rfl rfl rfl rfl fn_ca_268 (text_ok wb bv2 (0 + 1) ([] ++ [84]) (by omega) ch hb (by omega)) (Weak.refl _) (fun _ _ _ _ _ _ _ => trivial) fun v8 rs8 ⟨e9, bv3, e8⟩ => ?_)
  subst e9; subst e8
  refine lQ (cE 3 rfl (cE 8 rfl (cE 9 rfl (cE 11 rfl .nil)))) (rT (lM (k:=lM (k:=?_))))
  refine lO (W_callF (fi := []) (ca := [.pointer (some ⟨tb, 0, none⟩)]) rfl rfl rfl rfl rfl rfl fn_ca_208 (tx1_ok tb wb bv3 (0 + 1 + (varB (ch.length : Int)).length + ch.length) ([] ++ [84] ++ (varB (ch.length : Int) ++ ch)) (by omega) x hx) (Weak.refl _) (Sn.pre (Sn.old hpre)) fun v7 rs7 ⟨e9, bv4, e8⟩ => ?_)
  subst e9; subst e8
  refine St.ownForm (p := [_]) fun ob oc hov hoc => ?_
  subst hov
  have hsl := saidB_length ch x
  refine St.res (rs' := [blk wb [.bool true, .slice ob (saidB ch x).length oc, .int .i64 0] 343, ownS 5 1 (.slice ob (saidB ch x).length oc) ((saidB ch x).length) (ints .u8 (saidB ch x))]) (by rw [hsl]; exact Weak.keep (ownS.to1 rfl rfl)) ?_
  refine lQ (cE 8 rfl (cE 9 rfl (cE 11 rfl .nil))) (rT (lM (k:=?_)))
  refine lO (W_call rfl rfl rfl rfl fn_ca_174 (Out_ok wb ob oc (saidB ch x) (by omega) (by omega) (by omega)) (Weak.refl _) (fun _ _ _ _ _ _ _ => trivial) fun v4 rs4 ⟨u, e7, e8⟩ => ?_)
  subst e7; subst e8
  refine lP pX (k:=lP pX (k:=lA (k:=lA (k:=?_))))
  refine lQ (cE 8 rfl (cE 9 rfl .nil)) (R_ret ?_)
  exact R_end (rs2 := _) rfl rfl (.tmp rfl (.tmp rfl .nil)) (⟨_, by rw [he]; rfl, by rw [txbB_fine he]⟩) (Weak.keep (Weak.nil _))
theorem txBytes_ok {gl : Nat → Obj} (ch : List Int) (hb : IsB ch) (x : Tx) (hx : x.ok) : Spec (cx gl) 144 [.string (strOfNums ch), .agg x.cells.toArray] (fun _ _ => True) [] (fun v rs => ∃ u, v = .tuple #[u, .int .i64 (txbE ch x)] ∧ rs = [ownS 5 1 (u) ((txbB ch x).length) (ints .u8 (txbB ch x))]) := by
 refine Spec.enter (C := cx gl) Tryz.func144 rfl 13 rfl rfl fun w0 h0 hsep hsub hpre => ?_
 obtain rfl : h0 = Heap.none := hsep
 show St (cx gl) _ [(0, .string (strOfNums ch)), (1, .agg x.cells.toArray)] _ _
 refine rT ?_
 refine lO (W_box (x.cells) rfl rfl rfl rfl rfl fun b3 => lA (k:=lA (k:=?_)))
 refine lQ (cE 0 rfl (cE 3 rfl (cE 4 rfl (cE 5 rfl .nil)))) (rT (lM (k:=?_)))
 refine lV (V_loadAgg rfl rfl ty_ag_67 (Rds.blk .h0) (hx.cellsLen)) (k:=?_)
 refine lO (W_callV rfl rfl rfl rfl fn_ca_189 (plain_ok x hx) (fun _ _ => trivial) ?_)
 refine lP (P_func rfl rfl rfl) (k:=?_)
 refine lO (W_call rfl rfl rfl rfl fn_ca_207 (said_ok b3 ch hb x hx) (Split.nil _) (Sn.pre (Sn.ofBlk .h0)) fun v1 rs1 ⟨u, e1, e2⟩ => ?_)
 subst e1; subst e2
 refine lP pX (k:=lP pX (k:=lA (k:=lA (k:=?_))))
 refine lQ (cE 4 rfl (cE 5 rfl .nil)) (R_ret ?_)
 exact R_end (rs2 := _) rfl rfl (.tmp rfl (.tmp rfl .nil)) (⟨u, rfl, rfl⟩) (Weak.keep (Weak.nil _))
end Go.Proofs.YtcngmkjdpoiiaaaGreatDoor

/- The mutex; a registry's memory. Printed by gen.py. -/
set_option maxRecDepth 100000
namespace Go.Proofs.YtcngmkjdpoiiaaaGreatDoor
open Go Go.RowKit Go.Proofs
abbrev kU64 : Int → Value := fun k => .int .u64 k
abbrev Rcd := Int × List Int
structure Sgd where
 a : Int
 v : Value
 ms : List (List Int)
def strV (ms : List (List Int)) : List Value := ms.map fun m => .string (strOfNums m)
def sgM (sg : List (Int × Nat)) : List (Int × Value) := sg.map fun x => (x.1, .pointer (some ⟨x.2, 0, none⟩))
def rcM (rc : List Rcd) : List (Rcd × Value) := rc.map fun x => (x, .agg #[])
def sdM (sd : List Sgd) : List (Int × Value) := sd.map fun x => (x.a, x.v)
def sgH (p : Nat) (x : Int × Nat) : HP := blk x.2 [.pointer (some ⟨p, 0, none⟩), .int .u64 x.1] 305
def sdH (x : Sgd) : HP := ownS 9 1 x.v x.ms.length (strV x.ms)
/-- The messages of an address. -/
def msgsOf (rc : List Rcd) (a : Int) : List (List Int) := (rc.filter (fun x => x.1 = a)).map (·.2)
def RegOK (rc : List Rcd) (sd : List Sgd) : Prop := (∀ x ∈ rc, IsB x.2 ∧ x.2.length ≤ 1048576) ∧ (∀ a, ((sd.find? (fun s => s.a = a)).map (·.ms)).getD [] = msgsOf rc a)
def regL (p m1 m2 m3 : Nat) (sg : List (Int × Nat)) (rc : List Rcd) (sd : List Sgd) : List HP :=
 [blk p [.int .i32 0, .int .u32 0, .map (some m1), .map (some m2), .map (some m3)] 91, mapK kU64 m1 (sgM sg), mapK recK m2 (rcM rc), mapK kU64 m3 (sdM sd), fam (sgH p) sg, fam sdH sd]
/-- A registry: who was entered (with the signers), what was signed. -/
def REG (p : Nat) (sg : List (Int × Nat)) (rc : List Rcd) : HP := ExP (fun x : Nat × Nat × Nat × List Sgd => RegOK rc x.2.2.2) fun x => bundle (regL p x.1 x.2.1 x.2.2.1 sg rc x.2.2.2)
theorem reg_close {p m1 m2 m3 : Nat} {sg : List (Int × Nat)} {rc : List Rcd} {sd : List Sgd} {rs : List HP} (h : RegOK rc sd) : Weak (regL p m1 m2 m3 sg rc sd ++ rs) (REG p sg rc :: rs) :=
 Weak.bundle.trans (Weak.toEx (p := fun x : Nat × Nat × Nat × List Sgd => RegOK rc x.2.2.2) (s := fun x => bundle (regL p x.1 x.2.1 x.2.2.1 sg rc x.2.2.2)) (m1, m2, m3, sd) h)
/-- The signer of an address. -/
def sgP (sg : List (Int × Nat)) (a : Int) : Option Addr := (sg.find? (fun x => x.1 = a)).map fun x => ⟨x.2, 0, none⟩
theorem findK_map {κ α : Type} [DecidableEq κ] (f : α → κ) (g : α → Value) (k : κ) : ∀ (l : List α) (i : Nat), (findK k (l.map fun x => (f x, g x)) i).map (·.2) = (l.find? (fun x => f x = k)).map g
 | [], _ => rfl
 | x :: l, i => by
  by_cases h : f x = k
  ·simp [findK, h]
  ·have h2 : ¬ k = f x := fun e => h e.symm
   have ih := findK_map f g k l (i + 1)
   simp only [List.map_cons, findK, h2, if_false, List.find?_cons, h, decide_false]
   exact ih
theorem lookV_map {κ α : Type} [DecidableEq κ] (f : α → κ) (g : α → Value) (k : κ) (l : List α) (z : Value) : lookV false (findK k (l.map fun x => (f x, g x)) 0) z = ((l.find? (fun x => f x = k)).map g).getD z := by
 rw [← findK_map f g k l 0]
 cases findK k (l.map fun x => (f x, g x)) 0 <;> rfl
theorem look_sg (sg : List (Int × Nat)) (a : Int) : lookV false (findK a (sgM sg) 0) (.pointer none) = .pointer (sgP sg a) := by
 unfold sgM
 rw [lookV_map (fun x : Int × Nat => x.1) (fun x => .pointer (some ⟨x.2, 0, none⟩)) a sg]
 unfold sgP
 cases sg.find? (fun x => decide (x.1 = a)) <;> rfl
/-- Was it entered? -/
def isIn (sg : List (Int × Nat)) (a : Int) : Bool := (sgP sg a).isSome
theorem look_rc (rc : List Rcd) (x : Rcd) : lookV true (findK x (rcM rc) 0) (.agg #[]) = .tuple #[.agg #[], .bool (decide (x ∈ rc))] := by
 have h := findK_map (fun x : Rcd => x) (fun _ => Value.agg #[]) x rc 0
 unfold rcM
 by_cases hm : x ∈ rc
 ·have h2 : rc.find? (fun y => y = x) = some x := by
   cases hf : rc.find? (fun y => decide (y = x)) with
   | none => have := List.find?_eq_none.1 hf x hm; simp at this
   | some y => have := List.find?_some hf; simp at this; rw [this]
  rw [h2] at h
  cases hk : findK x (rc.map fun x => (x, Value.agg #[])) 0 with
  | none => rw [hk] at h; simp at h
  | some p => rw [hk] at h; simp at h; obtain ⟨q, v⟩ := p; simp at h; simp [lookV, h, hm]
 ·have h2 : rc.find? (fun y => y = x) = none := List.find?_eq_none.2 fun y hy => by simp; rintro rfl; exact hm hy
  rw [h2] at h
  cases hk : findK x (rc.map fun x => (x, Value.agg #[])) 0 with
  | none => simp [lookV, hm]
  | some p => rw [hk] at h; simp at h
theorem rcM_ok {rc : List Rcd} (h : ∀ x ∈ rc, IsB x.2 ∧ x.2.length ≤ 1048576) : ∀ x ∈ rcM rc, IsB x.1.2 := fun x hx => by
 obtain ⟨y, hy, rfl⟩ := List.mem_map.1 hx
 exact (h y hy).1
theorem rec_307 : recB Tryz.prog 307 = true := by kernel_rfl
theorem disable_run (w : World) : (callFunc 287 #[]).run Tryz.prog w = .ok (.value (.tuple #[])) w := run_call_mark0 Tryz.func287 (by kernel_rfl) (by kernel_rfl) (by kernel_rfl) .disable (by kernel_rfl) w
theorem enable_run (w : World) : (callFunc 289 #[]).run Tryz.prog w = .ok (.value (.tuple #[])) w := run_call_mark0 Tryz.func289 (by kernel_rfl) (by kernel_rfl) (by kernel_rfl) .enable (by kernel_rfl) w
theorem acquire_run (a : Addr) (w : World) : (callFunc 290 #[.pointer (some a)]).run Tryz.prog w = .ok (.value (.tuple #[])) w := run_call_marked Tryz.func290 (by kernel_rfl) (by kernel_rfl) (by kernel_rfl) .acquire (by kernel_rfl) a w
theorem relMerge_run (a : Addr) (w : World) : (callFunc 292 #[.pointer (some a)]).run Tryz.prog w = .ok (.value (.tuple #[])) w := run_call_marked Tryz.func292 (by kernel_rfl) (by kernel_rfl) (by kernel_rfl) .releaseMerge (by kernel_rfl) a w
theorem cas_run {b : Nat} {w : World} (hc : w.cell? ⟨b, 0, none⟩ = some (.int .i32 0)) (hz : w.frozen? ⟨b, 0, none⟩ = false) : (callFunc 288 #[.pointer (some ⟨b, 0, none⟩), .int .i32 0, .int .i32 1]).run Tryz.prog w = .ok (.value (.bool true)) (w.setCell ⟨b, 0, none⟩ (.int .i32 1)) := run_call_cas_hit Tryz.func288 (by kernel_rfl) (by kernel_rfl) (by kernel_rfl) .i32 (by kernel_rfl) hc hz
theorem add_run {b : Nat} {w : World} (hc : w.cell? ⟨b, 0, none⟩ = some (.int .i32 1)) (hz : w.frozen? ⟨b, 0, none⟩ = false) : (callFunc 293 #[.pointer (some ⟨b, 0, none⟩), .int .i32 (-1)]).run Tryz.prog w = .ok (.value (.int .i32 0)) (w.setCell ⟨b, 0, none⟩ (.int .i32 0)) := run_call_add Tryz.func293 (by kernel_rfl) (by kernel_rfl) (by kernel_rfl) .i32 (by kernel_rfl) hc hz (by rfl)
theorem und_uns : Tryz.prog.underlying 392 = some .unsafePointer := by kernel_rfl
theorem sz_mu : (Tryz.prog.info? 84).map (fun i => decide (i.size = 0)) = some false := by kernel_rfl
end Go.Proofs.YtcngmkjdpoiiaaaGreatDoor

/- The mutex. Printed by gen.py. -/
set_option maxRecDepth 100000
namespace Go.Proofs.YtcngmkjdpoiiaaaGreatDoor
open Go Go.RowKit Go.Proofs
theorem ilock_ok {gl : Nat → Obj} (p T : Nat) (cs : List Value) : SpecR (cx gl) 254 [.pointer (some ⟨p, 0, none⟩)] (fun _ _ => True) [blk p (.int .i32 0 :: cs) T] (.tuple #[]) [blk p (.int .i32 1 :: cs) T] := by
 refine Spec.enter (C := cx gl) Tryz.func254 rfl 13 rfl rfl fun w0 h0 hsep hsub hpre => ?_
 show St (cx gl) _ [(0, .pointer (some ⟨p, 0, none⟩))] _ _
 refine rT ?_
 refine lP (P_ext rfl rfl (disable_run)) (k:=?_)
 refine lQ (cE 0 rfl .nil) (rS (rT (lM (k:=lP pN (k:=lP (pF ty_fl_84_0) (k:=?_))))))
 refine lO (W_extSet (j := 0) rfl rfl rfl rfl rfl (fun w hc hz => cas_run hc hz) .h0 ?_)
 refine E_true (t := 6) rfl (rfl) ?_
 refine lQ (cE 0 rfl (cE 6 rfl .nil)) (kT (k:=rS (kT (k:=rT ?_))))
 refine lP (P_ext rfl rfl (enable_run)) (k:=?_)
 refine lQ (cE 0 rfl .nil) (rR (lM (k:=?_)))
 refine lV (V_toUnsafe rfl ty_ptr_388 und_uns sz_mu rfl .h0 rfl) (k:=?_)
 refine lP (P_ext rfl rfl (acquire_run _)) (k:=?_)
 refine lQ (cE 0 rfl .nil) (R_ret (Q_then_ret ?_))
 exact R_end (rs2 := _) rfl rfl (.nil) (⟨rfl, rfl⟩) (Weak.refl _)
theorem iunlock_ok {gl : Nat → Obj} (p T : Nat) (cs : List Value) : SpecR (cx gl) 255 [.pointer (some ⟨p, 0, none⟩)] (fun _ _ => True) [blk p (.int .i32 1 :: cs) T] (.tuple #[]) [blk p (.int .i32 0 :: cs) T] := by
 refine Spec.enter (C := cx gl) Tryz.func255 rfl 21 rfl rfl fun w0 h0 hsep hsub hpre => ?_
 show St (cx gl) _ [(0, .pointer (some ⟨p, 0, none⟩))] _ _
 refine rS (kT (k:=rT (lM (k:=lP pN (k:=lP (pF ty_fl_84_0) (k:=?_))))))
 refine lV (V_load rfl rfl ty_sc_21 (by first | exact Rd.blk .h0 rfl | exact Rd.blk .h1 rfl | exact Rd.blk .h2 rfl | exact Rd.blk .h3 rfl | exact Rd.blk .h4 rfl | exact Rd.blk .h5 rfl | exact Rd.blk .h6 rfl | exact Rd.blk .h7 rfl)) (k:=?_)
 refine lQ (cE 0 rfl .nil) (rT (lM (k:=?_)))
 refine lV (V_toUnsafe rfl ty_ptr_388 und_uns sz_mu rfl .h0 rfl) (k:=?_)
 refine lP (P_ext rfl rfl (relMerge_run _)) (k:=?_)
 refine lQ (cE 0 rfl .nil) (rR ?_)
 refine lP (P_ext rfl rfl (disable_run)) (k:=?_)
 refine lQ (cE 0 rfl .nil) (rT (lM (k:=lP pN (k:=lP (pF ty_fl_84_0) (k:=?_)))))
 refine lO (W_extSet (j := 0) rfl rfl rfl rfl rfl (fun w hc hz => add_run hc hz) .h0 (lA (k:=?_)))
 refine lQ (cE 0 rfl (cE 2 rfl .nil)) (rS (rT (lM (k:=lP pNe (k:=?_)))))
 refine E_false (t := 16) rfl (rfl) ?_
 refine lQ (cE 0 rfl (cE 2 rfl (cE 16 rfl .nil))) (kF (k:=R_skip (qT (rR ?_))))
 refine lP (P_ext rfl rfl (enable_run)) (k:=?_)
 refine lE (.nil) ?_
 exact R_end0 (rs2 := _) rfl rfl (.nil) (⟨rfl, rfl⟩) (Weak.refl _)
theorem lock_ok {gl : Nat → Obj} (p T : Nat) (cs : List Value) : SpecR (cx gl) 195 [.pointer (some ⟨p, 0, none⟩)] (fun _ _ => True) [blk p (.int .i32 0 :: cs) T] (.tuple #[]) [blk p (.int .i32 1 :: cs) T] := by
 refine Spec.enter (C := cx gl) Tryz.func195 rfl 6 rfl rfl fun w0 h0 hsep hsub hpre => ?_
 show St (cx gl) _ [(0, .pointer (some ⟨p, 0, none⟩))] _ _
 refine rR (lM (k:=lP pN (k:=lP (pF ty_fl_86_1) (k:=?_))))
 refine lO (W_callR rfl rfl rfl rfl fn_ca_254 (ilock_ok p T cs) (Split.one (p := [])) (fun _ _ _ _ _ _ _ => trivial) ?_)
 refine lE (.nil) ?_
 exact R_end0 (rs2 := _) rfl rfl (.nil) (⟨rfl, rfl⟩) (Weak.refl _)
theorem unlockD_ok {gl : Nat → Obj} (p T : Nat) (cs : List Value) : SpecD (cx gl) 196 [.pointer (some ⟨p, 0, none⟩)] (fun _ _ => True) [blk p (.int .i32 1 :: cs) T] [blk p (.int .i32 0 :: cs) T] := by
 refine SpecD.enter (post := fun _ rs => rs = [blk p (.int .i32 0 :: cs) T]) (fun _ _ h => h) (C := cx gl) Tryz.func196 rfl 6 rfl rfl fun w0 h0 hsep hsub hpre => ?_
 show St (cx gl) _ [(0, .pointer (some ⟨p, 0, none⟩))] _ _
 refine rR (lM (k:=lP pN (k:=lP (pF ty_fl_86_1) (k:=?_))))
 refine lO (W_callR rfl rfl rfl rfl fn_ca_255 (iunlock_ok p T cs) (Split.one (p := [])) (fun _ _ _ _ _ _ _ => trivial) ?_)
 refine lE (.nil) ?_
 exact R_end0 (rs2 := _) rfl rfl (.nil) (rfl) (Weak.refl _)
end Go.Proofs.YtcngmkjdpoiiaaaGreatDoor

/- A registry: New, Known, Count. Printed by gen.py. -/
set_option maxRecDepth 100000
namespace Go.Proofs.YtcngmkjdpoiiaaaGreatDoor
open Go Go.RowKit Go.Proofs
theorem snew_ok {gl : Nat → Obj} : Spec (cx gl) 31 [] (fun _ _ => True) [] (fun v rs => ∃ p, v = .pointer (some ⟨p, 0, none⟩) ∧ rs = [REG p [] []]) := by
 refine Spec.enter (C := cx gl) Tryz.func31 rfl 6 rfl rfl fun w0 h0 hsep hsub hpre => ?_
 obtain rfl : h0 = Heap.none := hsep
 show St (cx gl) _ [] _ _
 refine rT (lA (k:=?_))
 refine L_nil (qT (rT ?_))
 refine lO (W_makeMapK (kU64) rfl rfl rfl fun m1 => ?_)
 refine lO (W_makeMapK (recK) rfl rfl rfl fun m2 => ?_)
 refine lO (W_makeMapK (kU64) rfl rfl rfl fun m3 => ?_)
 refine lP (P_buildStruct rfl ty_pl_91 ty_ze_91 rfl rfl (rfl)) (k:=?_)
 refine lO (W_box (_) rfl rfl rfl rfl rfl fun b5 => lA (k:=?_))
 refine lQ (cE 0 rfl .nil) (R_ret ?_)
 refine St.res (rs' := [blk b5 [.int .i32 0, .int .u32 0, .map (some m1), .map (some m2), .map (some m3)] 91, mapK kU64 m1 (sgM []), mapK recK m2 (rcM []), mapK kU64 m3 (sdM []), fam (sgH b5) [], fam sdH []]) ((Weak.keep (Weak.p2 (Weak.p1 (Weak.keep (Weak.famNil.trans (Weak.keep Weak.famNil))))))) ?_
 exact R_end (rs2 := _) rfl rfl (.tmp rfl .nil) (⟨b5, rfl, rfl⟩) (reg_close (rs := []) ⟨fun _ h => (by cases h), fun a => rfl⟩)
theorem missing_ok {gl : Nat → Obj} (p : Nat) (mu x m2 m3 : Value) (m : Option Nat) : SpecR (cx gl) 211 [.pointer (some ⟨p, 0, none⟩)] (fun _ _ => True) [blk p [mu, x, .map m, m2, m3] 91] (.bool m.isNone) [blk p [mu, x, .map m, m2, m3] 91] := by
 refine Spec.enter (C := cx gl) Tryz.func211 rfl 12 rfl rfl fun w0 h0 hsep hsub hpre => ?_
 show St (cx gl) _ [(0, .pointer (some ⟨p, 0, none⟩))] _ _
 refine rT (lA (k:=?_))
 refine L_nil (qT (rT (lM (k:=?_))))
 refine lP (P_eqNil rfl ty_ptr_69 rfl rfl) (k:=lM (k:=lM (k:=lP pN (k:=lP (pF ty_fl_91_1) (k:=?_)))))
 refine lV (V_load rfl rfl ty_sc_87 (by first | exact Rd.blk .h0 rfl | exact Rd.blk .h1 rfl | exact Rd.blk .h2 rfl | exact Rd.blk .h3 rfl | exact Rd.blk .h4 rfl | exact Rd.blk .h5 rfl | exact Rd.blk .h6 rfl | exact Rd.blk .h7 rfl)) (k:=?_)
 refine lP (P_eqlMap rfl ty_map_87 rfl rfl) (k:=lP pK (k:=lA (k:=?_)))
 refine lQ (cE 2 rfl .nil) (R_ret ?_)
 exact R_end (rs2 := _) rfl rfl (.tmp rfl .nil) (⟨rfl, rfl⟩) (Weak.refl _)
end Go.Proofs.YtcngmkjdpoiiaaaGreatDoor

/- The seal of an address and a message. Printed by gen.py. -/
set_option maxRecDepth 100000
namespace Go.Proofs.YtcngmkjdpoiiaaaGreatDoor
open Go Go.RowKit Go.Proofs
/-- A byte of an address. -/
def bF (a : Int) (j : Nat) : Int := IntKind.u8.wrap (shrI .u64 a (8 * (j : Int)))
def be8 (a : Int) : List Int := (List.range 8).map fun i => bF a (7 - i)
theorem be8_length (a : Int) : (be8 a).length = 8 := by simp [be8]
theorem be8_next (a : Int) (j : Nat) (h : j < 8) : (be8 a).take (j + 1) = (be8 a).take j ++ [bF a (7 - j)] := by
 rw [List.take_add_one]
 congr 1
 rw [List.getElem?_eq_getElem (by rw [be8_length]; exact h)]
 simp [be8]
/-- The seal of an address and a message. -/
def sealH (a : Int) (xs : List Int) : List Int := (sha (be8 a ++ xs)).take 16
theorem sealH_length (a : Int) (xs : List Int) : (sealH a xs).length = 16 := by simp [sealH, sha_length]
theorem splice_full {cs news : List Value} (h : news.length = cs.length) : splice cs 0 news = news := by
 unfold splice
 simp [h]
/-- The first i bytes of a text, then zeros. -/
def cp16 (H : List Int) (i : Nat) : List Value := ints .u8 (H.take i ++ List.replicate (16 - i) 0)
theorem cp16_zero (H : List Int) : cp16 H 0 = List.replicate 16 (.int .u8 0) := by simp [cp16, ints]
theorem cp16_length {H : List Int} {i : Nat} (h : 16 ≤ H.length) (hi : i ≤ 16) : (cp16 H i).length = 16 := by simp [cp16, ints]; omega
theorem cp16_next {H : List Int} {i : Nat} (h : 16 ≤ H.length) (hi : i < 16) : (cp16 H i).set i (.int .u8 (H.getD i 0)) = cp16 H (i + 1) := by
 unfold cp16 ints
 have e : Value.int .u8 (H.getD i 0) = (fun x => Value.int .u8 x) (H.getD i 0) := rfl
 rw [e, ← List.map_set]
 congr 1
 rw [List.set_append_right _ _ (by rw [List.length_take]; omega)]
 rw [List.length_take, Nat.min_eq_left (by omega), Nat.sub_self]
 obtain ⟨k, hk⟩ : ∃ k, 16 - i = k + 1 := ⟨15 - i, by omega⟩
 rw [hk, List.replicate_succ, List.set_cons_zero, List.take_add_one, show 16 - (i + 1) = k by omega, List.append_assoc]
 congr 1
 rw [List.getElem?_eq_getElem (by omega)]
 simp [List.getD_eq_getElem?_getD, List.getElem?_eq_getElem (show i < H.length by omega)]
theorem cp16_full (H : List Int) : cp16 H 16 = ints .u8 (H.take 16) := by simp [cp16]
theorem seal_ok {gl : Nat → Obj} (hG : Globs gl) (a : Int) (base : Option Addr) (c : Nat) (xs : List Int) (hmax : xs.length ≤ 140737488355000) : SpecV (cx gl) 197 [.int .u64 a, .slice base xs.length c] (fun w => Row w base (ints .u8 xs)) (.agg (ints .u8 (sealH a xs)).toArray) := by
 refine Spec.enter (C := cx gl) Tryz.func197 rfl 33 rfl rfl fun w0 h0 hsep hsub hpre => ?_
 obtain rfl : h0 = Heap.none := hsep
 show St (cx gl) _ [(0, .int .u64 a), (1, .slice base xs.length c)] _ _
 have hl : (be8 a ++ xs).length = 8 + xs.length := by rw [List.length_append, be8_length]
 refine rT ?_
 refine lO (W_alloc rfl rfl rfl ty_ze_65 fun b4 => ?_)
 refine L_nil (qT (rT (lM (k:=lP (pL ty_sl_198) (k:=?_)))))
 first | (refine L_val rfl rfl rfl (OpP.v (P_addN rfl rfl rfl (by simp only [fits]; omega))) ?_) | (refine L_val rfl rfl rfl (OpP.v (P_add rfl rfl rfl)) ?_)
 refine E_nat (t := 10) (n := 8 + xs.length) rfl (by omega) ?_
 refine lO (W_make0 (n := 8 + xs.length) rfl rfl rfl ty_sl_198 ty_ze_5 rfl rfl (by omega) (by simp only [maxLen]; omega) fun v11 => lA (k:=?_))
 refine lQ (cE 0 rfl (cE 1 rfl (cE 4 rfl (cE 5 rfl .nil)))) (rS (rT (lM (k:=?_))))
 refine L_nil (qT (R_block ?_))
 refine R_loopE (G := Value × Nat) (cE 0 rfl (cE 1 rfl (cE 4 rfl .nil))) (fun g => [(5, g.1), (12, .int .i64 (g.2 : Int))]) (fun g => [ownS 5 1 (g.1) (g.2) (ints .u8 ((be8 a).take g.2)), blk b4 (List.replicate 16 (.int .u8 0)) 65]) (fun g => g.2 ≤ 8) (fun g => 8 - g.2) (v11, 0) (Nat.zero_le _) (by repeat (first | exact .nil | refine .cons rfl ?_ | refine .consE rfl (by first | rfl | (congr 1; omega) | (congr 1; push_cast; omega)) ?_)) (Weak.refl _) ?_
 rintro ⟨v, i⟩ hinv
 replace hinv : i ≤ 8 := hinv
 show St (cx gl) _ ((5, v) :: (12, .int .i64 (i : Int)) :: _) [ownS 5 1 (v) (i) (ints .u8 ((be8 a).take i)), blk b4 (List.replicate 16 (.int .u8 0)) 65] _
 have hi := hinv
 refine rT (lP pLt (k:=?_))
 refine L_nil (qT (rS ?_))
 refine R_condP rfl (fun hlt => ?_) (fun hlt => ?_)
 ·skip
  refine R_skip (qT (rS (R_block (rT (lM (k:=lA (k:=?_)))))))
  refine L_nil (qT (rR (lM (k:=lM (k:=lM (k:=?_))))))
  first | (refine L_val rfl rfl rfl (OpP.v (P_mulN rfl rfl rfl (by simp only [fits]; omega))) ?_) | (refine L_val rfl rfl rfl (OpP.v (P_mul rfl rfl rfl)) ?_)
  first | (refine L_val rfl rfl rfl (OpP.v (P_subN rfl rfl rfl (by simp only [fits]; omega))) ?_) | (refine L_val rfl rfl rfl (OpP.v (P_sub rfl rfl rfl)) ?_)
  refine lP (P_shr rfl rfl rfl (by omega)) (k:=?_)
  refine lP (P_conv rfl ty_int_26 ty_int_5 rfl) (k:=?_)
  refine E_as (t := 21) (v' := .int .u8 (bF a (7 - i))) rfl (by unfold bF; congr 3; omega) ?_
  refine lO (W_lit (z := .nilIface) (ints .u8 [bF a (7 - i)]) rfl rfl rfl ty_sl_198 ty_lz_198 rfl rfl rfl (by decide) (by decide) (by simp [Value.cells]) (rfl) fun b22 => ?_)
  refine lO (W_append (p := [_]) rfl rfl rfl ty_sl_198 ty_ap_198 ty_src_198 rfl rfl rfl (Src.slice (sz := 1) (news := ints .u8 [bF a (7 - i)]) (Rds.blk .h0) rfl ints_one) (by omega) (by simp only [maxLen]; omega) fun v23 => lA (k:=?_))
  refine L_nil (Q_block (qT (rR ?_)))
  first | (refine L_val rfl rfl rfl (OpP.v (P_addN rfl rfl rfl (by simp only [fits]; omega))) ?_) | (refine L_val rfl rfl rfl (OpP.v (P_add rfl rfl rfl)) ?_)
  refine lM (k:=?_)
  refine L_nil ?_
  exact Q_round (v23, i + 1) (by show (i + 1) ≤ 8; omega) (by show 8 - (i + 1) < 8 - i; omega) (by repeat (first | exact .nil | refine .cons rfl ?_ | refine .consE rfl (by first | rfl | (congr 1; omega) | (congr 1; push_cast; omega)) ?_)) (Weak.drop (ownS.to rfl (by rw [be8_next _ _ (by omega), ints_append])))
 ·skip
  obtain rfl : i = 8 := by omega
  refine R_exit (Q_then_exit (Q_then_exit (Q_block_eq ?_)))
  refine St.env (cE 1 rfl (cE 4 rfl (cE 5 rfl .nil))) (qT (rT (lM (k:=lM (k:=?_)))))
  refine lO (W_append (p := []) rfl rfl rfl ty_sl_198 ty_ap_198 ty_src_198 rfl rfl rfl (Src.row (Sn.row hpre rfl).rw_ (by rw [ints_length]; omega) ints_one) (by omega) (by simp only [maxLen]; omega) fun v27 => ?_)
  refine St.ownForm (p := []) fun ub uc huv huc => ?_
  subst huv
  refine St.res (rs' := [ownS 5 1 (.slice ub (8 + xs.length) uc) (8 + xs.length) (ints .u8 (be8 a ++ xs)), blk b4 (List.replicate 16 (.int .u8 0)) 65]) (ownS.to rfl (by rw [List.take_of_length_le (by rw [be8_length]; omega), ints_append])) ?_
  refine lO (W_callV rfl rfl rfl rfl fn_ca_175 (by have h := sum_ok hG ub uc (be8 a ++ xs) (by rw [hl]; exact huc); rw [hl] at h; exact h) ((Sn.own .h0 rfl).rw_) ?_)
  refine lO (W_alloc rfl rfl rfl ty_ze_40 fun b7 => ?_)
  refine lO (W_storeAll rfl rfl rfl rfl ty_ag_40 (by rw [ints_length, sha_length]) (ints_one) .h0 (by rw [ints_length, sha_length]; rfl) ?_)
  refine lQ (cE 4 rfl (cE 7 rfl .nil)) (rS ?_)
  refine R_open [(0, 0), (1, 0), (2, 3)] mixed (by kernel_rfl) (QOk.then QOk.body) ?_
  refine oP rfl (P_sliceAll rfl ty_ar_65 rfl) (k:=?_)
  refine oP rfl (P_sliceAll rfl ty_ar_40 rfl) (k:=?_)
  refine O_new rfl rfl (W_copy (k := 16) (news := ints .u8 (sealH a xs)) rfl rfl rfl ty_sl_198 rfl rfl rfl (rfl) (fun w nw => by have := Src.part (C := cx gl) (sz := 1) (k := 16) (m := 32) (c := 32) (Sn.ofBlk .h0).rw_ (by rw [ints_length, sha_length]; decide) w nw; rwa [Nat.mul_one, ints_take] at this) (ints_one) .h2 (by rw [ints_length, sealH_length]; simp) (K_new ?_))
  rw [splice_full (by rw [ints_length, sealH_length]; rfl)]
  refine O_nil ?_
  refine St.env (cE 4 rfl .nil) (qT (rT ?_))
  refine lV (V_loadAgg rfl rfl ty_ag_65 (Rds.blk .h2) (by rw [ints_length, sealH_length])) (k:=?_)
  refine lO (W_storeAll rfl rfl rfl rfl ty_ag_65 (by rw [ints_length, sealH_length]) (ints_one) .h2 (by simp [ints_length, sealH_length]) ?_)
  refine lQ (cE 4 rfl .nil) (R_ret ?_)
  exact R_endV rfl rfl (.cell rfl (Rds.loadVar ty_ag_65 (Rds.blk .h2) (by rw [ints_length, sealH_length])) .nil) (rfl)
theorem of_ok {gl : Nat → Obj} (hG : GlobsR gl) (a : Int) (base : Option Addr) (c : Nat) (xs : List Int) (hmax : xs.length ≤ 140737488355000) : SpecV (cx gl) 199 [.int .u64 a, .slice base xs.length c] (fun w => Row w base (ints .u8 xs)) (.agg (ints .u8 (sealH a xs)).toArray) := by
 refine Spec.enter (C := cx gl) Tryz.func199 rfl 38 rfl rfl fun w0 h0 hsep hsub hpre => ?_
 obtain rfl : h0 = Heap.none := hsep
 show St (cx gl) _ [(0, .int .u64 a), (1, .slice base xs.length c)] _ _
 have hl : (be8 a ++ xs).length = 8 + xs.length := by rw [List.length_append, be8_length]
 have hsl := sha_length (be8 a ++ xs)
 refine rT ?_
 refine lO (W_alloc rfl rfl rfl ty_ze_65 fun b4 => ?_)
 refine L_nil (qT (rT (lA (k:=?_))))
 refine L_nil (qT (rS (rS ?_)))
 refine St.res (rs' := [ownS 5 1 (.slice none 0 0) (0) ([]), blk b4 (List.replicate 16 (.int .u8 0)) 65]) (Weak.newNil) (rR (lA (k:=?_)))
 refine L_nil (qT (R_block ?_))
 refine R_loopE (G := Value × Nat) (cE 0 rfl (cE 1 rfl (cE 4 rfl .nil))) (fun g => [(5, g.1), (6, .int .i64 (7 - (g.2 : Int)))]) (fun g => [ownS 5 1 (g.1) (g.2) (ints .u8 ((be8 a).take g.2)), blk b4 (List.replicate 16 (.int .u8 0)) 65]) (fun g => g.2 ≤ 8) (fun g => 8 - g.2) (.slice none 0 0, 0) (Nat.zero_le _) (by repeat (first | exact .nil | refine .cons rfl ?_ | refine .consE rfl (by first | rfl | (congr 1; omega) | (congr 1; push_cast; omega)) ?_)) (Weak.refl _) ?_
 rintro ⟨v, i⟩ hinv
 replace hinv : i ≤ 8 := hinv
 show St (cx gl) _ ((5, v) :: (6, .int .i64 (7 - (i : Int))) :: _) [ownS 5 1 (v) (i) (ints .u8 ((be8 a).take i)), blk b4 (List.replicate 16 (.int .u8 0)) 65] _
 have hi := hinv
 refine rS (rT (lM (k:=lP pGe (k:=?_))))
 refine L_nil (qT ?_)
 refine R_condP rfl (fun hlt => ?_) (fun hlt => ?_)
 ·skip
  have hlt : i < 8 := by omega
  refine R_skip (qT (rS (R_block (rR (lM (k:=lM (k:=lM (k:=?_))))))))
  first | (refine L_val rfl rfl rfl (OpP.v (P_mulN rfl rfl rfl (by simp only [fits]; omega))) ?_) | (refine L_val rfl rfl rfl (OpP.v (P_mul rfl rfl rfl)) ?_)
  refine lP (P_convN rfl ty_int_3 ty_int_271 rfl (by simp only [fits]; omega)) (k:=?_)
  refine lP (P_shr rfl rfl rfl (by omega)) (k:=?_)
  refine lP (P_conv rfl ty_int_23 ty_int_5 rfl) (k:=?_)
  refine E_as (t := 20) (v' := .int .u8 (bF a (7 - i))) rfl (by unfold bF; congr 3; omega) ?_
  refine lO (W_lit (z := .nilIface) (ints .u8 [bF a (7 - i)]) rfl rfl rfl ty_sl_198 ty_lz_198 rfl rfl rfl (by decide) (by decide) (by simp [Value.cells]) (rfl) fun b21 => ?_)
  refine lO (W_append (p := [_]) rfl rfl rfl ty_sl_198 ty_ap_198 ty_src_198 rfl rfl rfl (Src.slice (sz := 1) (news := ints .u8 [bF a (7 - i)]) (Rds.blk .h0) rfl ints_one) (by omega) (by simp only [maxLen]; omega) fun v22 => lA (k:=?_))
  refine L_nil (Q_block (qT (rR (lM (k:=?_)))))
  first | (refine L_val rfl rfl rfl (OpP.v (P_subN rfl rfl rfl (by simp only [fits]; omega))) ?_) | (refine L_val rfl rfl rfl (OpP.v (P_sub rfl rfl rfl)) ?_)
  refine lA (k:=?_)
  refine L_nil ?_
  exact Q_round (v22, i + 1) (by show (i + 1) ≤ 8; omega) (by show 8 - (i + 1) < 8 - i; omega) (by repeat (first | exact .nil | refine .cons rfl ?_ | refine .consE rfl (by first | rfl | (congr 1; omega) | (congr 1; push_cast; omega)) ?_)) (Weak.drop (ownS.to rfl (by rw [be8_next _ _ (by omega), ints_append])))
 ·skip
  obtain rfl : i = 8 := by omega
  refine R_exit (Q_then_exit (Q_then_exit (Q_block_eq ?_)))
  refine St.env (cE 1 rfl (cE 4 rfl (cE 5 rfl .nil))) (qT (rT (lM (k:=lM (k:=?_)))))
  refine lO (W_append (p := []) rfl rfl rfl ty_sl_198 ty_ap_198 ty_src_198 rfl rfl rfl (Src.row (Sn.row hpre rfl).rw_ (by rw [ints_length]; omega) ints_one) (by omega) (by simp only [maxLen]; omega) fun v25 => ?_)
  refine St.ownForm (p := []) fun ub uc huv huc => ?_
  subst huv
  refine St.res (rs' := [ownS 5 1 (.slice ub (8 + xs.length) uc) (8 + xs.length) (ints .u8 (be8 a ++ xs)), blk b4 (List.replicate 16 (.int .u8 0)) 65]) (ownS.to rfl (by rw [List.take_of_length_le (by rw [be8_length]; omega), ints_append])) (lA (k:=?_))
  refine lQ (cE 4 rfl (cE 5 rfl .nil)) (rT (lM (k:=?_)))
  refine lO (W_callV rfl rfl rfl rfl fn_ca_103 (by have h := rsum_ok hG ub uc (be8 a ++ xs) (by rw [hl]; exact huc) (by omega); rw [hl] at h; exact h) ((Sn.own .h0 rfl).rw_) ?_)
  refine lO (W_alloc rfl rfl rfl ty_ze_40 fun b7 => ?_)
  refine lO (W_storeAll rfl rfl rfl rfl ty_ag_40 (by rw [ints_length, sha_length]) (ints_one) .h0 (by rw [ints_length, sha_length]; rfl) ?_)
  refine lQ (cE 4 rfl (cE 7 rfl .nil)) (rT ?_)
  refine lO (W_alloc rfl rfl rfl ty_ze_65 fun b8 => ?_)
  refine L_nil (qT (rS (rT (lA (k:=?_)))))
  refine L_nil (qT (R_block ?_))
  refine R_loopE (G := Nat) (cE 4 rfl (cE 7 rfl (cE 8 rfl .nil))) (fun g => [(9, .int .i64 (g : Int))]) (fun g => [blk b8 (cp16 (sha (be8 a ++ xs)) g) 65, blk b7 (ints .u8 (sha (be8 a ++ xs))) 40, blk b4 (List.replicate 16 (.int .u8 0)) 65]) (fun g => g ≤ 16) (fun g => 16 - g) (0) (Nat.zero_le _) (by repeat (first | exact .nil | refine .cons rfl ?_ | refine .consE rfl (by first | rfl | (congr 1; omega) | (congr 1; push_cast; omega)) ?_)) (by rw [cp16_zero]; exact Weak.keep (Weak.keep (Weak.drop (Weak.refl _)))) ?_
  intro j hinv
  replace hinv : j ≤ 16 := hinv
  show St (cx gl) _ ((9, .int .i64 (j : Int)) :: _) [blk b8 (cp16 (sha (be8 a ++ xs)) j) 65, blk b7 (ints .u8 (sha (be8 a ++ xs))) 40, blk b4 (List.replicate 16 (.int .u8 0)) 65] _
  have hj := hinv
  refine rS (rT (lM (k:=lP pLt (k:=?_))))
  refine L_nil (qT ?_)
  refine R_condP rfl (fun hlt2 => ?_) (fun hlt2 => ?_)
  ·skip
   refine R_skip (qT (rS (R_block (rR (lM (k:=lM (k:=?_)))))))
   first | (refine L_val rfl rfl rfl (OpP.v (P_ixa0 (j) rfl ty_ar_40 rfl rfl (by first | rfl | omega) (by omega))) ?_) | (refine L_val rfl rfl rfl (OpP.v (P_ixa (j) rfl ty_ar_40 rfl rfl (by first | rfl | omega) (by omega))) ?_)
   refine lV (V_load rfl rfl ty_sc_5 (Rd.blk .h1 (ints_at (k := .u8) (xs := sha (be8 a ++ xs)) (i := j) (by omega)))) (k:=?_)
   first | (refine L_val rfl rfl rfl (OpP.v (P_ixa0 (j) rfl ty_ar_65 rfl rfl (by first | rfl | omega) (by omega))) ?_) | (refine L_val rfl rfl rfl (OpP.v (P_ixa (j) rfl ty_ar_65 rfl rfl (by first | rfl | omega) (by omega))) ?_)
   refine lO (W_store rfl rfl rfl rfl ty_sc_5 rfl .h0 (by rw [cp16_length (by omega) (by omega)]; omega) ?_)
   refine L_nil (Q_block (qT (rR (lM (k:=?_)))))
   first | (refine L_val rfl rfl rfl (OpP.v (P_addN rfl rfl rfl (by simp only [fits]; omega))) ?_) | (refine L_val rfl rfl rfl (OpP.v (P_add rfl rfl rfl)) ?_)
   refine lA (k:=?_)
   refine L_nil ?_
   exact Q_round (j + 1) (by show (j + 1) ≤ 16; omega) (by show 16 - (j + 1) < 16 - j; omega) (by repeat (first | exact .nil | refine .cons rfl ?_ | refine .consE rfl (by first | rfl | (congr 1; omega) | (congr 1; push_cast; omega)) ?_)) (by rw [cp16_next (by omega) (by omega)]; exact Weak.refl _)
  ·skip
   obtain rfl : j = 16 := by omega
   refine R_exit (Q_then_exit (Q_then_exit (Q_block_eq ?_)))
   refine St.env (cE 4 rfl (cE 8 rfl .nil)) (qT (rT ?_))
   refine lV (V_loadAgg rfl rfl ty_ag_65 (Rds.blk .h0) (by rw [cp16_length (by omega) (by omega)])) (k:=?_)
   refine E_as (t := 37) (v' := .agg (ints .u8 (sealH a xs)).toArray) rfl (by rw [cp16_full]; rfl) ?_
   refine lO (W_storeAll rfl rfl rfl rfl ty_ag_65 (by rw [ints_length, sealH_length]) (ints_one) .h2 (by simp [ints_length, sealH_length]) ?_)
   refine lQ (cE 4 rfl .nil) (R_ret ?_)
   exact R_endV rfl rfl (.cell rfl (Rds.loadVar ty_ag_65 (Rds.blk .h2) (by rw [ints_length, sealH_length])) .nil) (rfl)
end Go.Proofs.YtcngmkjdpoiiaaaGreatDoor

/- A registry: Enter, Addr. Printed by gen.py. -/
set_option maxRecDepth 100000
namespace Go.Proofs.YtcngmkjdpoiiaaaGreatDoor
open Go Go.RowKit Go.Proofs
theorem sgP_none {sg : List (Int × Nat)} {a : Int} (h : isIn sg a = false) : sgP sg a = none := by
 unfold isIn at h
 cases e : sgP sg a with
 | none => rfl
 | some _ => rw [e] at h; cases h
theorem set_sg {sg : List (Int × Nat)} {a : Int} (b : Nat) (h : isIn sg a = false) : setK a (.pointer (some ⟨b, 0, none⟩)) (sgM sg) = sgM (sg ++ [(a, b)]) := by
 have h1 := look_sg sg a
 rw [sgP_none h] at h1
 have h2 : findK a (sgM sg) 0 = none := by
  cases e : findK a (sgM sg) 0 with
  | none => rfl
  | some p =>
   obtain ⟨i, v⟩ := p
   have hf := findK_map (fun x : Int × Nat => x.1) (fun x => Value.pointer (some ⟨x.2, 0, none⟩)) a sg 0
   have hs : (sgP sg a) = none := sgP_none h
   unfold sgP at hs
   have hs2 : sg.find? (fun x => decide (x.1 = a)) = none := by
    cases e2 : sg.find? (fun x => decide (x.1 = a)) with
    | none => rfl
    | some y => rw [e2] at hs; cases hs
   rw [hs2] at hf
   have e : findK a (sg.map fun x => (x.1, Value.pointer (some ⟨x.2, 0, none⟩))) 0 = some (i, v) := e
   rw [e] at hf; cases hf
 unfold setK
 rw [h2]
 simp [sgM]
section
variable {C : Cx} {F : Fx} {rs : List HP}
theorem rd_sg {p i : Nat} {a : Int} {s : Nat} {sg : List (Int × Nat)} (m : Has rs (fam (sgH p) sg) (fam (sgH p) sg) rs) (hi : sg[i]? = some (a, s)) : Rd C F rs ⟨s, 0, none⟩ (.pointer (some ⟨p, 0, none⟩)) ∧ Rd C F rs ⟨s, 1, none⟩ (.int .u64 a) := by
 have h : Sn C F rs (some ⟨s, 0, none⟩) [.pointer (some ⟨p, 0, none⟩), .int .u64 a] := Sn.fam m hi fun rs m => Sn.ofBlk m
 have key : ∀ (j : Nat) (u : Value), [Value.pointer (some ⟨p, 0, none⟩), .int .u64 a][j]? = some u → Rd C F rs ⟨s, j, none⟩ u := fun j u hu w nw => by
  obtain ⟨ad, e, hc⟩ := h.rw_ w nw j u hu
  rw [Option.some.injEq] at e
  subst e
  rwa [add_zero_off, Nat.zero_add] at hc
 exact ⟨key 0 _ rfl, key 1 _ rfl⟩
end
theorem enter_zero {gl : Nat → Obj} (p : Nat) (sg : List (Int × Nat)) (rc : List Rcd) : SpecR (cx gl) 146 [.pointer (some ⟨p, 0, none⟩), .int .u64 0] (fun _ _ => True) [REG p sg rc] (.tuple #[.pointer none, .int .i64 2]) [REG p sg rc] := by
 refine Spec.enterX (C := cx gl) Tryz.func146 rfl 36 rfl rfl fun w0 h0 hsep hsub hpre => ?_
 show St (cx gl) _ [(0, .pointer (some ⟨p, 0, none⟩)), (1, .int .u64 0)] _ _
 refine St.openP (p := []) (fun ⟨m1, m2, m3, sd⟩ hreg => ?_)
 refine St.unbundle [] (rT (lA (k:=lA (k:=?_))))
 refine L_nil (qT (rS (rT (lM (k:=?_)))))
 refine lO (W_callR rfl rfl rfl rfl fn_ca_211 (missing_ok p (.int .i32 0) (.int .u32 0) (.map (some m2)) (.map (some m3)) (some m1)) (Split.one (p := [])) (fun _ _ _ _ _ _ _ => trivial) ?_)
 refine St.res (rs' := [blk p [.int .i32 0, .int .u32 0, .map (some m1), .map (some m2), .map (some m3)] 91, mapK kU64 m1 (sgM sg), mapK recK m2 (rcM rc), mapK kU64 m3 (sdM sd), fam (sgH p) sg, fam sdH sd]) (Weak.refl _) ?_
 refine E_false (t := 8) rfl (rfl) ?_
 refine lQ (cE 0 rfl (cE 1 rfl (cE 4 rfl (cE 5 rfl (cE 8 rfl .nil))))) (kF (k:=R_skip (qT (rS (rT (lM (k:=lP pEq (k:=?_))))))))
 refine E_true (t := 10) rfl (rfl) ?_
 refine lQ (cE 0 rfl (cE 1 rfl (cE 4 rfl (cE 5 rfl (cE 10 rfl .nil))))) (kT (k:=rT (lA (k:=lA (k:=?_)))))
 refine lQ (cE 0 rfl (cE 1 rfl (cE 4 rfl (cE 5 rfl .nil)))) (R_ret (Q_then_ret ?_))
 exact R_endN (rs2 := [REG p (sg) (rc)]) rfl rfl (.tmp rfl (.tmp rfl .nil)) (⟨rfl, rfl⟩) (reg_close (rs := []) hreg)
theorem enter_new {gl : Nat → Obj} (p : Nat) (sg : List (Int × Nat)) (rc : List Rcd) (a : Int) (ha : a ≠ 0) (hin : isIn sg a = false) : Spec (cx gl) 146 [.pointer (some ⟨p, 0, none⟩), .int .u64 a] (fun _ _ => True) [REG p sg rc] (fun v rs => ∃ s, v = .tuple #[.pointer (some ⟨s, 0, none⟩), .int .i64 0] ∧ rs = [REG p (sg ++ [(a, s)]) rc]) := by
 refine Spec.enterX (C := cx gl) Tryz.func146 rfl 36 rfl rfl fun w0 h0 hsep hsub hpre => ?_
 show St (cx gl) _ [(0, .pointer (some ⟨p, 0, none⟩)), (1, .int .u64 a)] _ _
 refine St.openP (p := []) (fun ⟨m1, m2, m3, sd⟩ hreg => ?_)
 refine St.unbundle [] (rT (lA (k:=lA (k:=?_))))
 refine L_nil (qT (rS (rT (lM (k:=?_)))))
 refine lO (W_callR rfl rfl rfl rfl fn_ca_211 (missing_ok p (.int .i32 0) (.int .u32 0) (.map (some m2)) (.map (some m3)) (some m1)) (Split.one (p := [])) (fun _ _ _ _ _ _ _ => trivial) ?_)
 refine St.res (rs' := [blk p [.int .i32 0, .int .u32 0, .map (some m1), .map (some m2), .map (some m3)] 91, mapK kU64 m1 (sgM sg), mapK recK m2 (rcM rc), mapK kU64 m3 (sdM sd), fam (sgH p) sg, fam sdH sd]) (Weak.refl _) ?_
 refine E_false (t := 8) rfl (rfl) ?_
 refine lQ (cE 0 rfl (cE 1 rfl (cE 4 rfl (cE 5 rfl (cE 8 rfl .nil))))) (kF (k:=R_skip (qT (rS (rT (lM (k:=lP pEq (k:=?_))))))))
 refine E_false (t := 10) rfl (decide_eq_false ha) ?_
 refine lQ (cE 0 rfl (cE 1 rfl (cE 4 rfl (cE 5 rfl (cE 10 rfl .nil))))) (kF (k:=R_skip (qT (rT (lM (k:=lP pN (k:=lP (pF ty_fl_91_0) (k:=?_))))))))
 refine lO (W_callR rfl rfl rfl rfl fn_ca_195 (lock_ok p 91 [.int .u32 0, .map (some m1), .map (some m2), .map (some m3)]) (Split.one (p := [])) (fun _ _ _ _ _ _ _ => trivial) ?_)
 refine St.res (rs' := [blk p [.int .i32 1, .int .u32 0, .map (some m1), .map (some m2), .map (some m3)] 91, mapK kU64 m1 (sgM sg), mapK recK m2 (rcM rc), mapK kU64 m3 (sdM sd), fam (sgH p) sg, fam sdH sd]) (Weak.refl _) ?_
 refine lQ (cE 0 rfl (cE 1 rfl (cE 4 rfl (cE 5 rfl .nil)))) (rT (lM (k:=lP pN (k:=lP (pF ty_fl_91_0) (k:=?_)))))
 refine lO (W_defer rfl rfl rfl ?_)
 refine lQ (cE 0 rfl (cE 1 rfl (cE 4 rfl (cE 5 rfl .nil)))) (rS (rT (lM (k:=lP pN (k:=lP (pF ty_fl_91_1) (k:=?_))))))
 refine lV (V_load rfl rfl ty_sc_87 (by first | exact Rd.blk .h0 rfl | exact Rd.blk .h1 rfl | exact Rd.blk .h2 rfl | exact Rd.blk .h3 rfl | exact Rd.blk .h4 rfl | exact Rd.blk .h5 rfl | exact Rd.blk .h6 rfl | exact Rd.blk .h7 rfl)) (k:=lM (k:=?_))
 refine lV (V_lookupK rfl ty_map_87 (keyU64 ty_int_26) rfl rfl (trivial) (fun _ _ => trivial) .h1 (run_zeroValue_of ty_zv_220)) (k:=?_)
 refine E_as (t := 23) (v' := .pointer (sgP sg a)) rfl (look_sg sg a) ?_
 refine lP (P_neP rfl ty_ptr_220 rfl rfl) (k:=?_)
 refine E_as (t := 24) (v' := .bool (isIn sg a)) rfl (by simp [isIn]) ?_
 refine E_false (t := 24) rfl (hin) ?_
 refine lQ (cE 0 rfl (cE 1 rfl (cE 4 rfl (cE 5 rfl (cE 24 rfl .nil))))) (kF (k:=R_skip (qT (rT (lM (k:=lM (k:=?_)))))))
 refine lP (P_buildStruct rfl ty_pl_305 ty_ze_305 rfl rfl (rfl)) (k:=?_)
 refine lO (W_box (_) rfl rfl rfl rfl rfl fun b28 => lA (k:=?_))
 refine lQ (cE 0 rfl (cE 1 rfl (cE 4 rfl (cE 5 rfl (cE 6 rfl .nil))))) (rT (lM (k:=lP pN (k:=lP (pF ty_fl_91_1) (k:=?_)))))
 refine lV (V_load rfl rfl ty_sc_87 (by first | exact Rd.blk .h0 rfl | exact Rd.blk .h1 rfl | exact Rd.blk .h2 rfl | exact Rd.blk .h3 rfl | exact Rd.blk .h4 rfl | exact Rd.blk .h5 rfl | exact Rd.blk .h6 rfl | exact Rd.blk .h7 rfl)) (k:=lM (k:=lM (k:=?_)))
 refine lO (W_mapSet rfl rfl ty_map_87 (keyU64 ty_int_26) rfl rfl rfl (trivial) (fun _ _ => trivial) .h2 .h2 ?_)
 refine St.res (rs' := [blk p [.int .i32 1, .int .u32 0, .map (some m1), .map (some m2), .map (some m3)] 91, mapK kU64 m1 (sgM (sg ++ [(a, b28)])), mapK recK m2 (rcM rc), mapK kU64 m3 (sdM sd), fam (sgH p) (sg ++ [(a, b28)]), fam sdH sd]) (by rw [set_sg b28 hin]; exact Weak.p1 (Weak.p1 (Weak.p1 (Weak.p1 (Weak.famAdd (f := sgH p) (x := (a, b28))))))) ?_
 refine lQ (cE 4 rfl (cE 5 rfl (cE 6 rfl .nil))) (rT (lM (k:=lA (k:=lA (k:=?_)))))
 refine lQ (cE 4 rfl (cE 5 rfl .nil)) (R_ret ?_)
 exact R_endX (rs2 := _) rfl fn_ca_196 (unlockD_ok p 91 [.int .u32 0, .map (some m1), .map (some m2), .map (some m3)]) (Split.one (p := [])) (fun _ _ _ _ _ _ _ => trivial) rfl (.tmp rfl (.tmp rfl .nil)) (⟨b28, rfl, rfl⟩) (reg_close (rs := []) hreg)
end Go.Proofs.YtcngmkjdpoiiaaaGreatDoor

/- A registry: Check. Printed by gen.py. -/
set_option maxRecDepth 100000
namespace Go.Proofs.YtcngmkjdpoiiaaaGreatDoor
open Go Go.RowKit Go.Proofs
theorem check_ok {gl : Nat → Obj} (hG : Globs gl) (p : Nat) (sg : List (Int × Nat)) (rc : List Rcd) (a : Int) (base : Option Addr) (c : Nat) (xs : List Int) (sl : List Int) (hb : IsB xs) (hmax : xs.length ≤ 140737488355000) (hsl : sl.length = 16) : SpecR (cx gl) 159 [.pointer (some ⟨p, 0, none⟩), .int .u64 a, .slice base xs.length c, .agg (ints .u8 sl).toArray] (fun w h => Seen w h base (ints .u8 xs)) [REG p sg rc] (.bool (decide ((a, xs) ∈ rc) && decide (sl = sealH a xs))) [REG p sg rc] := by
 refine Spec.enterX (C := cx gl) Tryz.func159 rfl 40 rfl rfl fun w0 h0 hsep hsub hpre => ?_
 show St (cx gl) _ [(0, .pointer (some ⟨p, 0, none⟩)), (1, .int .u64 a), (2, .slice base xs.length c), (3, .agg (ints .u8 sl).toArray)] _ _
 refine St.openP (p := []) (fun ⟨m1, m2, m3, sd⟩ hreg => ?_)
 refine St.unbundle [] (rT ?_)
 refine lO (W_box (ints .u8 sl) rfl rfl rfl rfl rfl fun b7 => lA (k:=?_))
 refine lQ (cE 0 rfl (cE 1 rfl (cE 2 rfl (cE 7 rfl (cE 8 rfl .nil))))) (rS (rS ?_))
 refine St.res (rs' := [blk p [.int .i32 0, .int .u32 0, .map (some m1), .map (some m2), .map (some m3)] 91, mapK kU64 m1 (sgM sg), mapK recK m2 (rcM rc), mapK kU64 m3 (sdM sd), fam (sgH p) sg, fam sdH sd, blk b7 (ints .u8 sl) 65]) (Weak.p1 (Weak.p1 (Weak.p1 (Weak.p1 (Weak.p1 (Weak.p1 (Weak.refl _))))))) (rR (lM (k:=?_)))
 refine lO (W_callR rfl rfl rfl rfl fn_ca_211 (missing_ok p (.int .i32 0) (.int .u32 0) (.map (some m2)) (.map (some m3)) (some m1)) (Split.one (p := [])) (fun _ _ _ _ _ _ _ => trivial) ?_)
 refine St.res (rs' := [blk p [.int .i32 0, .int .u32 0, .map (some m1), .map (some m2), .map (some m3)] 91, mapK kU64 m1 (sgM sg), mapK recK m2 (rcM rc), mapK kU64 m3 (sdM sd), fam (sgH p) sg, fam sdH sd, blk b7 (ints .u8 sl) 65]) (Weak.refl _) ?_
 refine E_false (t := 12) rfl (rfl) ?_
 refine lQ (cE 0 rfl (cE 1 rfl (cE 2 rfl (cE 7 rfl (cE 8 rfl (cE 12 rfl .nil)))))) (kF (k:=R_skip (qT (rT (lM (k:=lP pN (k:=lP (pF ty_fl_91_0) (k:=?_))))))))
 refine lO (W_callR rfl rfl rfl rfl fn_ca_195 (lock_ok p 91 [.int .u32 0, .map (some m1), .map (some m2), .map (some m3)]) (Split.one (p := [])) (fun _ _ _ _ _ _ _ => trivial) ?_)
 refine St.res (rs' := [blk p [.int .i32 1, .int .u32 0, .map (some m1), .map (some m2), .map (some m3)] 91, mapK kU64 m1 (sgM sg), mapK recK m2 (rcM rc), mapK kU64 m3 (sdM sd), fam (sgH p) sg, fam sdH sd, blk b7 (ints .u8 sl) 65]) (Weak.refl _) ?_
 refine lQ (cE 0 rfl (cE 1 rfl (cE 2 rfl (cE 7 rfl (cE 8 rfl .nil))))) (rT (lM (k:=lP pN (k:=lP (pF ty_fl_91_0) (k:=?_)))))
 refine lO (W_defer rfl rfl rfl ?_)
 refine lQ (cE 0 rfl (cE 1 rfl (cE 2 rfl (cE 7 rfl (cE 8 rfl .nil))))) (rS ?_)
 refine R_open [(0, 0), (1, 0), (2, 0), (3, 1), (4, 0), (5, 0), (6, 1), (7, 0), (8, 1), (9, 0), (10, 0), (11, 0), (12, 2), (13, 3), (14, 0)] mixed (by kernel_rfl) (QOk.then QOk.bodyX) (oP rfl pM (k:=oP rfl pN (k:=oP rfl (pF ty_fl_91_2) (k:=?_))))
 refine oV rfl (V_load rfl rfl ty_sc_88 (by first | exact Rd.blk .h0 rfl | exact Rd.blk .h1 rfl | exact Rd.blk .h2 rfl | exact Rd.blk .h3 rfl | exact Rd.blk .h4 rfl | exact Rd.blk .h5 rfl | exact Rd.blk .h6 rfl | exact Rd.blk .h7 rfl)) (k:=oP rfl pM (k:=oP rfl pM (k:=?_)))
 refine oV rfl (V_str rfl (slB_spec ty_sl_198).1 ty_int_5 ty_str_9 rfl ((Sn.old hpre).rw_)) (k:=?_)
 refine oP rfl (P_buildStruct rfl ty_pl_307 ty_ze_307 rfl rfl (rfl)) (k:=?_)
 refine oV rfl (V_lookupK (k := (a, xs)) rfl ty_map_88 (keyRec rec_307) rfl rfl (hb) (rcM_ok hreg.1) .h2 (run_zeroValue_of ty_zv_80)) (k:=?_)
 refine E_as (t := 29) (v' := .tuple #[.agg #[], .bool (decide ((a, xs) ∈ rc))]) rfl (look_rc rc (a, xs)) (oP rfl pM (k:=oP rfl pX (k:=oP rfl pX (k:=?_))))
 refine O_keep rfl rfl (W_alloc rfl rfl rfl ty_ze_80 fun b9 => (K_keep (Weak.drop (Weak.refl _)) ?_))
 refine O_new rfl rfl (W_storeAll rfl rfl rfl rfl ty_ag_80 (rfl) (fun _ h => by cases h) .h0 (rfl) (K_new (oP rfl pA (k:=O_nil ?_))))
 refine St.env (cE 1 rfl (cE 2 rfl (cE 7 rfl (cE 8 rfl (cE 10 rfl .nil))))) (qT (rS ?_))
 refine St.res (rs' := [blk p [.int .i32 1, .int .u32 0, .map (some m1), .map (some m2), .map (some m3)] 91, mapK kU64 m1 (sgM sg), mapK recK m2 (rcM rc), mapK kU64 m3 (sdM sd), fam (sgH p) sg, fam sdH sd, blk b7 (ints .u8 sl) 65]) (Weak.drop (Weak.refl _)) ?_
 refine R_open [(0, 0), (1, 0), (2, 1), (3, 0), (4, 0), (5, 2), (6, 0), (7, 0), (8, 0)] mixed (by kernel_rfl) (QOk.then QOk.bodyX) (oP rfl pM (k:=oP rfl pM (k:=?_)))
 refine E_bool (t := 33) rfl (fun hok => ?_) (fun hok => ?_)
 ·skip
  refine oV rfl (V_loadAgg rfl rfl ty_ag_65 (Rds.blk .h6) (by rw [ints_length, hsl])) (k:=oP rfl pM (k:=oP rfl pM (k:=?_)))
  refine O_keep rfl rfl (W_callV rfl rfl rfl rfl fn_ca_197 (seal_ok hG a base c xs hmax) ((Sn.old hpre).rw_) (K_keep (Weak.refl _) ?_))
  refine oP rfl (P_eqArr rfl rfl rfl ty_un_65 ty_int_5 ty_sc_5 ty_eg_65 (hsl) (sealH_length _ _)) (k:=oP rfl pK (k:=oP rfl pA (k:=O_nil ?_)))
  refine St.env (cE 8 rfl .nil) (qT (R_ret ?_))
  exact R_endX (rs2 := [REG p (sg) (rc)]) rfl fn_ca_196 (unlockD_ok p 91 [.int .u32 0, .map (some m1), .map (some m2), .map (some m3)]) (Split.one (p := [])) (fun _ _ _ _ _ _ _ => trivial) rfl (.tmp rfl .nil) (⟨by show Value.bool _ = Value.bool _; rw [hok]; rfl, rfl⟩) ((reg_close (rs := [blk b7 (ints .u8 sl) 65]) hreg).trans (Weak.keep (Weak.nil _)))
 ·skip
  refine O_noX rfl rfl rfl rfl ?_
  refine O_no rfl rfl rfl rfl ?_
  refine O_no rfl rfl rfl rfl ?_
  refine O_no2 rfl rfl rfl rfl ?_
  refine O_no rfl rfl rfl rfl (oP rfl pK (k:=oP rfl pA (k:=O_nil ?_)))
  refine St.env (cE 8 rfl .nil) (qT (R_ret ?_))
  exact R_endX (rs2 := [REG p (sg) (rc)]) rfl fn_ca_196 (unlockD_ok p 91 [.int .u32 0, .map (some m1), .map (some m2), .map (some m3)]) (Split.one (p := [])) (fun _ _ _ _ _ _ _ => trivial) rfl (.tmp rfl .nil) (⟨by show Value.bool _ = Value.bool _; rw [hok]; rfl, rfl⟩) ((reg_close (rs := [blk b7 (ints .u8 sl) 65]) hreg).trans (Weak.keep (Weak.nil _)))
end Go.Proofs.YtcngmkjdpoiiaaaGreatDoor

/- Walks: rows, spends, kind. Printed by gen.py. -/
set_option maxRecDepth 100000
namespace Go.Proofs.YtcngmkjdpoiiaaaGreatDoor
open Go Go.RowKit Go.Proofs
def rowK (h a : Int) : Rel := ⟨h, a, 0, 0⟩
/-- Where a row of a height and an address stands, or would stand. -/
def rowI (r : List Rel) (h a : Int) : Nat := bsN (fun i => decide (laterI (relAt r i) (rowK h a) < 0)) 0 r.length
def rowB (r : List Rel) (h a : Int) : Bool := decide (rowI r h a < r.length) && decide (laterI (relAt r (rowI r h a)) (rowK h a) = 0)
theorem rowI_le (r : List Rel) (h a : Int) : rowI r h a ≤ r.length := (bsN_bound _ _ 0 r.length (Nat.le_refl _) (Nat.zero_le _)).2
/-- What a transaction takes from its sender's balance. -/
def costI (x : Tx) : Int := if x.kind = 1 ∨ x.kind = 2 then x.fee + x.amt else x.fee
/-- What Check asks by the kind. -/
def kindE (L : Led) (p : Par) (h : Int) (x : Tx) (A : Acc) : Int :=
 if x.kind = 1 then (if spotB L.acc x.to = false ∧ 65536 ≤ L.acc.length then 86 else 0)
 else if x.kind = 3 then (if x.amt = 0 ∨ A.bond < x.amt then 82 else if rowB L.rel (h + p.p3) x.frm = false ∧ 65536 ≤ L.rel.length then 86 else 0)
 else if x.kind = 4 then (if A.jail = false then 83 else if A.bond < p.mb then 82 else 0) else 0
def seald (rc : List Rcd) (ch : List Int) (x : Tx) : Bool := decide ((x.frm, txbB ch x) ∈ rc) && decide (x.sg16 = sealH x.frm (txbB ch x))
def timeB (p : Par) (h : Int) : Prop := h = 0 ∨ 1099511627776 < h ∨ 4294967296 < p.p3
instance (p : Par) (h : Int) : Decidable (timeB p h) := inferInstanceAs (Decidable (_ ∨ _ ∨ _))
def senderA (L : Led) (x : Tx) : Acc := accAt L.acc (spotI L.acc x.frm)
/-- What Check answers. -/
def chkE (rc : List Rcd) (ch : List Int) (L : Led) (p : Par) (h : Int) (x : Tx) : Int :=
 if timeB p h then 2 else if txbE ch x ≠ 0 then txbE ch x else if seald rc ch x = false then 84 else if spotB L.acc x.frm = false then 85
 else if x.non ≠ (senderA L x).non ∨ x.non = 18446744073709551615 then 80 else if (senderA L x).bal < costI x then 81 else kindE L p h x (senderA L x)
structure ChkFine (rc : List Rcd) (ch : List Int) (L : Led) (p : Par) (h : Int) (x : Tx) : Prop where
 time : ¬ timeB p h
 tx : txbE ch x = 0
 sealed : seald rc ch x = true
 frm : spotB L.acc x.frm = true
 non : x.non = (senderA L x).non
 top : x.non ≠ 18446744073709551615
 bal : costI x ≤ (senderA L x).bal
 kind : kindE L p h x (senderA L x) = 0
theorem chkFine_of {rc : List Rcd} {ch : List Int} {L : Led} {p : Par} {h : Int} {x : Tx} (he : chkE rc ch L p h x = 0) : ChkFine rc ch L p h x := by
 unfold chkE at he
 split at he
 ·omega
 ·split at he
  ·rename_i h1 h2; exact absurd he h2
  ·split at he
   ·omega
   ·split at he
    ·omega
    ·split at he
     ·omega
     ·split at he
      ·omega
      ·rename_i h1 h2 h3 h4 h5 h6
       exact ⟨h1, Classical.not_not.1 h2, by simpa using h3, by simpa using h4, Classical.not_not.1 fun h7 => h5 (.inl h7), fun h7 => h5 (.inr h7), by omega, he⟩
theorem bsR_ok {gl : Nat → Obj} (h a : Int) (base' : Option Addr) (c' : Nat) (r : List Rel) (hc' : r.length ≤ c') (hm' : r.length ≤ 4398046511104) : SpecV (cx gl) 216 [.slice base' r.length c', .agg (rowK h a).cells.toArray, .func (.func 156) #[] #[]] (fun w => Row w base' (rc r)) (.tuple #[.int .i64 (rowI r h a), .bool (rowB r h a)]) := by
 refine Spec.enter (C := cx gl) Tryz.func216 rfl 49 rfl rfl fun w0 h0 hsep hsub hpre => ?_
 obtain rfl : h0 = Heap.none := hsep
 show St (cx gl) _ [(0, .slice base' r.length c'), (1, .agg (rowK h a).cells.toArray), (2, .func (.func 156) #[] #[])] _ _
 refine rT ?_
 refine lO (W_box ((rowK h a).cells) rfl rfl rfl rfl rfl fun b4 => lA (k:=lA (k:=?_)))
 refine lQ (cE 0 rfl (cE 2 rfl (cE 4 rfl (cE 6 rfl (cE 7 rfl .nil))))) (rT (lM (k:=lP (pL ty_sl_28) (k:=lA (k:=?_)))))
 refine lQ (cE 0 rfl (cE 2 rfl (cE 4 rfl (cE 6 rfl (cE 7 rfl (cE 8 rfl .nil)))))) (rT (lM (k:=lA (k:=lA (k:=?_)))))
 refine lQ (cE 0 rfl (cE 2 rfl (cE 4 rfl (cE 6 rfl (cE 7 rfl (cE 8 rfl (cE 9 rfl (cE 10 rfl .nil)))))))) (rS (R_block ?_))
 refine R_loopE (G := Nat × Nat) (cE 0 rfl (cE 2 rfl (cE 4 rfl (cE 6 rfl (cE 7 rfl (cE 8 rfl .nil)))))) (fun g => [(9, .int .i64 ((g.1 : Nat) : Int)), (10, .int .i64 ((g.2 : Nat) : Int))]) (fun _ => _) (fun g => g.1 ≤ g.2 ∧ g.2 ≤ r.length ∧ rowI r h a = bsN (fun i => decide (laterI (relAt r i) (rowK h a) < 0)) g.1 g.2) (fun g => g.2 - g.1) (0, r.length) (by show (0) ≤ (r.length) ∧ (r.length) ≤ r.length ∧ rowI r h a = bsN (fun i => decide (laterI (relAt r i) (rowK h a) < 0)) (0) (r.length); exact ⟨Nat.zero_le _, Nat.le_refl _, rfl⟩) (by repeat (first | exact .nil | refine .cons rfl ?_ | refine .consE rfl (by first | rfl | (congr 1; omega) | (congr 1; push_cast; omega)) ?_)) (Weak.refl _) ?_
 rintro ⟨lo, hi⟩ hinv
 replace hinv : lo ≤ hi ∧ hi ≤ r.length ∧ rowI r h a = bsN (fun i => decide (laterI (relAt r i) (rowK h a) < 0)) lo hi := hinv
 show St (cx gl) _ ((9, .int .i64 ((lo : Nat) : Int)) :: (10, .int .i64 ((hi : Nat) : Int)) :: _) _ _
 obtain ⟨h1, h2, h3⟩ := hinv
 refine rS (rT (lM (k:=lM (k:=lP pLt (k:=?_)))))
 refine L_nil (qT ?_)
 refine R_condP rfl (fun hlt => ?_) (fun hlt => ?_)
 ·skip
  have hx := relAt_get (l := r) (i := (lo + hi) / 2) (by omega)
  obtain ⟨pb, pj, rfl, hrow⟩ := hpre.some_ (by rw [rc_length]; show 0 < _ * 4; omega)
  refine R_skip (qT (R_block (rT (lM (k:=lM (k:=?_))))))
  first | (refine L_val rfl rfl rfl (OpP.v (P_addN rfl rfl rfl (by simp only [fits]; omega))) ?_) | (refine L_val rfl rfl rfl (OpP.v (P_add rfl rfl rfl)) ?_)
  first | (refine L_val rfl rfl rfl (OpP.v (P_convN rfl ty_int_3 ty_int_271 rfl (by simp only [fits]; omega))) ?_) | (refine L_val rfl rfl rfl (OpP.v (P_conv rfl ty_int_3 ty_int_271 rfl)) ?_)
  refine lP (P_shr rfl rfl rfl (by omega)) (k:=?_)
  refine E_as (t := 22) (v' := .int .u64 (((lo + hi) / 2 : Nat) : Int)) rfl (by have h9 := half_nat (lo + hi); push_cast at h9 ⊢; rw [h9]) ?_
  first | (refine L_val rfl rfl rfl (OpP.v (P_convN rfl ty_int_271 ty_int_3 rfl (by simp only [fits]; omega))) ?_) | (refine L_val rfl rfl rfl (OpP.v (P_conv rfl ty_int_271 ty_int_3 rfl)) ?_)
  refine lA (k:=?_)
  refine L_nil (qT (rS ?_))
  refine R_open [(0, 0), (1, 0), (2, 0), (3, 0), (4, 1), (5, 1), (6, 2), (7, 0)] mixed (by kernel_rfl) (QOk.then (QOk.block (QOk.then (QOk.block (QOk.then QOk.body))))) (oP rfl pM (k:=oP rfl pM (k:=oP rfl pM (k:=?_))))
  refine oP rfl (P_ixs ((lo + hi) / 2) rfl ty_sl_28 rfl rfl (by first | rfl | omega) (by omega)) (k:=?_)
  refine oV rfl (V_loadAgg rfl rfl ty_ag_175 (rds_rc (Rds.row hrow rfl) hx) (rfl)) (k:=oV rfl (vG ty_ag_175 .h0) (k:=?_))
  refine O_keep rfl rfl (W_callFV (fi := []) (ca := []) rfl rfl rfl rfl rfl rfl fn_ca_156 (later_ok (relAt r ((lo + hi) / 2)) (rowK h a)) (fun _ _ => trivial) (K_keep (Weak.refl _) (oP rfl pLt (k:=O_nil (qT ?_)))))
  refine R_condP rfl (fun hb => ?_) (fun hb => ?_)
  ·skip
   refine rR (lM (k:=?_))
   first | (refine L_val rfl rfl rfl (OpP.v (P_addN rfl rfl rfl (by simp only [fits]; omega))) ?_) | (refine L_val rfl rfl rfl (OpP.v (P_add rfl rfl rfl)) ?_)
   refine lA (k:=?_)
   refine L_nil (Q_block ?_)
   exact Q_round ((lo + hi) / 2 + 1, hi) (by show ((lo + hi) / 2 + 1) ≤ (hi) ∧ (hi) ≤ r.length ∧ rowI r h a = bsN (fun i => decide (laterI (relAt r i) (rowK h a) < 0)) ((lo + hi) / 2 + 1) (hi); exact ⟨by omega, h2, by rw [h3]; exact bsN_up (by omega) (decide_eq_true hb)⟩) (by show hi - ((lo + hi) / 2 + 1) < hi - lo; omega) (by repeat (first | exact .nil | refine .cons rfl ?_ | refine .consE rfl (by first | rfl | (congr 1; omega) | (congr 1; push_cast; omega)) ?_)) (Weak.refl _)
  ·skip
   refine rR (lM (k:=lA (k:=?_)))
   refine L_nil (Q_block ?_)
   exact Q_round (lo, (lo + hi) / 2) (by show (lo) ≤ ((lo + hi) / 2) ∧ ((lo + hi) / 2) ≤ r.length ∧ rowI r h a = bsN (fun i => decide (laterI (relAt r i) (rowK h a) < 0)) (lo) ((lo + hi) / 2); exact ⟨by omega, by omega, by rw [h3]; exact bsN_down (by omega) (decide_eq_false hb)⟩) (by show (lo + hi) / 2 - lo < hi - lo; omega) (by repeat (first | exact .nil | refine .cons rfl ?_ | refine .consE rfl (by first | rfl | (congr 1; omega) | (congr 1; push_cast; omega)) ?_)) (Weak.refl _)
 ·skip
  have hin : hi = lo := by omega
  have hsp : rowI r h a = lo := by rw [h3]; exact bsN_end (by omega)
  refine R_exit (Q_then_exit (Q_then_exit (Q_block_eq ?_)))
  refine St.env (cE 0 rfl (cE 2 rfl (cE 4 rfl (cE 6 rfl (cE 7 rfl (cE 8 rfl (cE 9 rfl .nil))))))) (qT (rS ?_))
  refine R_open [(0, 0), (1, 0), (2, 0), (3, 0), (4, 0), (5, 0), (6, 0), (7, 0), (8, 0), (9, 1), (10, 1), (11, 2), (12, 0), (13, 0), (14, 0), (15, 0)] mixed (by kernel_rfl) (QOk.then QOk.body) (oP rfl pM (k:=oP rfl pM (k:=oP rfl pM (k:=oP rfl pLt (k:=?_)))))
  refine E_bool (t := 38) rfl (fun hl2 => ?_) (fun hl2 => ?_)
  ·skip
   have hl2 : lo < r.length := by have := of_decide_eq_true hl2; omega
   have hx := relAt_get hl2
   obtain ⟨pb, pj, rfl, hrow⟩ := hpre.some_ (by rw [rc_length]; show 0 < _ * 4; omega)
   refine oP rfl pM (k:=oP rfl pM (k:=oP rfl pM (k:=oP rfl pM (k:=?_))))
   refine oP rfl (P_ixs (lo) rfl ty_sl_28 rfl rfl (by first | rfl | omega) (by omega)) (k:=?_)
   refine oV rfl (V_loadAgg rfl rfl ty_ag_175 (rds_rc (Rds.row hrow rfl) hx) (rfl)) (k:=oV rfl (vG ty_ag_175 .h0) (k:=?_))
   refine O_keep rfl rfl (W_callFV (fi := []) (ca := []) rfl rfl rfl rfl rfl rfl fn_ca_156 (later_ok (relAt r lo) (rowK h a)) (fun _ _ => trivial) (K_keep (Weak.refl _) (oP rfl pEq (k:=oP rfl pK (k:=oP rfl pA (k:=oP rfl pA (k:=O_nil ?_)))))))
   refine St.env (cE 6 rfl (cE 7 rfl .nil)) (qT (R_ret ?_))
   exact R_endV rfl rfl (.tmp rfl (.tmp rfl .nil)) (by unfold rowB; rw [hsp]; first | (rw [decide_eq_false hl2]; rfl) | (rw [decide_eq_true hl2, Bool.true_and]; rfl))
  ·skip
   have hl2 : ¬ lo < r.length := by have := of_decide_eq_false hl2; omega
   refine oP rfl pM (k:=?_)
   refine O_no rfl rfl rfl rfl ?_
   refine O_no rfl rfl rfl rfl ?_
   refine O_no rfl rfl rfl rfl ?_
   refine O_no rfl rfl rfl rfl ?_
   refine O_noX rfl rfl rfl rfl ?_
   refine O_noX rfl rfl rfl rfl ?_
   refine O_no2 rfl rfl rfl rfl ?_
   refine O_no rfl rfl rfl rfl (oP rfl pK (k:=oP rfl pA (k:=oP rfl pA (k:=O_nil ?_))))
   refine St.env (cE 6 rfl (cE 7 rfl .nil)) (qT (R_ret ?_))
   exact R_endV rfl rfl (.tmp rfl (.tmp rfl .nil)) (by unfold rowB; rw [hsp]; first | (rw [decide_eq_false hl2]; rfl) | (rw [decide_eq_true hl2, Bool.true_and]; rfl))
theorem row_ok {gl : Nat → Obj} (u : Value) (hu : u.oneCell' = true) (base' : Option Addr) (c' : Nat) (r : List Rel) (hc' : r.length ≤ c') (hm' : r.length ≤ 4398046511104) (bu su h a : Int) : SpecV (cx gl) 154 [.agg (ledV u (.slice base' r.length c') bu su).toArray, .int .u64 h, .int .u64 a] (fun w => Row w base' (rc r)) (.tuple #[.int .i64 (rowI r h a), .bool (rowB r h a)]) := by
 refine Spec.enter (C := cx gl) Tryz.func154 rfl 16 rfl rfl fun w0 h0 hsep hsub hpre => ?_
 obtain rfl : h0 = Heap.none := hsep
 show St (cx gl) _ [(0, .agg (ledV u (.slice base' r.length c') bu su).toArray), (1, .int .u64 h), (2, .int .u64 a)] _ _
 refine rT ?_
 refine lO (W_box (ledV u (.slice base' r.length c') bu su) rfl rfl rfl rfl rfl fun b3 => lA (k:=lA (k:=?_)))
 refine lQ (cE 1 rfl (cE 2 rfl (cE 3 rfl (cE 6 rfl (cE 7 rfl .nil))))) (rT (lP (pF ty_fl_30_1) (k:=lV (vB ty_sc_28 .h0) (k:=lM (k:=lM (k:=?_))))))
 refine lP (P_buildStruct rfl ty_pl_175 ty_ze_175 rfl rfl (rfl)) (k:=?_)
 refine E_as (t := 12) (v' := .agg (rowK h a).cells.toArray) rfl (rfl) ?_
 refine lO (W_callV rfl rfl rfl rfl fn_ca_216 (bsR_ok h a base' c' r hc' hm') (fun w nw => (Sn.row hpre rfl).rw_ w nw) (lP pX (k:=lP pX (k:=lA (k:=lA (k:=?_))))))
 refine lQ (cE 6 rfl (cE 7 rfl .nil)) (R_ret ?_)
 exact R_endV rfl rfl (.tmp rfl (.tmp rfl .nil)) (rfl)
theorem spends_ok {gl : Nat → Obj} (x : Tx) (hx : x.ok) (h1 : x.amt ≤ MS) (h2 : x.fee ≤ MS) : SpecV (cx gl) 152 [.agg x.cells.toArray] noPre (.int .u64 (costI x)) := by
 refine Spec.enter (C := cx gl) Tryz.func152 rfl 18 rfl rfl fun w0 h0 hsep hsub hpre => ?_
 obtain rfl : h0 = Heap.none := hsep
 show St (cx gl) _ [(0, .agg x.cells.toArray)] _ _
 have hms : MS = 1152921504606846975 := rfl
 have ha := hx.amt
 have hf := hx.fee
 obtain ⟨ha0, ha1⟩ := ha
 obtain ⟨hf0, hf1⟩ := hf
 refine rT ?_
 refine lO (W_box (x.cells) rfl rfl rfl rfl rfl fun b1 => lA (k:=?_))
 refine lQ (cE 1 rfl (cE 2 rfl .nil)) (rS (rT (lP (pF ty_fl_67_0) (k:=lV (vB ty_sc_3 .h0) (k:=lP pEq (k:=?_))))))
 refine E_bool (t := 5) rfl (fun k1 => ?_) (fun k1 => ?_)
 ·skip
  have k1 := of_decide_eq_true k1
  refine lM (k:=lN (k:=lN (k:=lN (k:=lP pK (k:=?_)))))
  refine lQ (cE 1 rfl (cE 2 rfl (cE 10 rfl .nil))) (kT (k:=rT (lP (pF ty_fl_67_4) (k:=lV (vB ty_sc_23 .h0) (k:=lP (pF ty_fl_67_3) (k:=lV (vB ty_sc_23 .h0) (k:=?_)))))))
  refine lP (P_addN rfl rfl rfl (by simp only [fits]; omega)) (k:=lA (k:=?_))
  refine lQ (cE 1 rfl (cE 2 rfl .nil)) (R_ret (Q_then_ret ?_))
  exact R_endV rfl rfl (.tmp rfl .nil) (by unfold costI; rw [if_pos (by omega)]; rfl)
 ·skip
  have k1 := of_decide_eq_false k1
  refine lM (k:=lP (pF ty_fl_67_0) (k:=lV (vB ty_sc_3 .h0) (k:=lP pEq (k:=lP pK (k:=?_)))))
  refine lQ (cE 1 rfl (cE 2 rfl (cE 10 rfl .nil))) ?_
  refine R_condP rfl (fun k2 => ?_) (fun k2 => ?_)
  ·skip
   refine rT (lP (pF ty_fl_67_4) (k:=lV (vB ty_sc_23 .h0) (k:=lP (pF ty_fl_67_3) (k:=lV (vB ty_sc_23 .h0) (k:=?_)))))
   refine lP (P_addN rfl rfl rfl (by simp only [fits]; omega)) (k:=lA (k:=?_))
   refine lQ (cE 1 rfl (cE 2 rfl .nil)) (R_ret (Q_then_ret ?_))
   exact R_endV rfl rfl (.tmp rfl .nil) (by unfold costI; rw [if_pos (by omega)]; rfl)
  ·skip
   refine R_skip (qT (rT (lP (pF ty_fl_67_4) (k:=lV (vB ty_sc_23 .h0) (k:=lA (k:=?_))))))
   refine lQ (cE 2 rfl .nil) (R_ret ?_)
   exact R_endV rfl rfl (.tmp rfl .nil) (by unfold costI; rw [if_neg (by omega)]; rfl)
theorem lkind_ok {gl : Nat → Obj} (base : Option Addr) (c : Nat) (l : List Acc) (hc : l.length ≤ c) (hm : l.length ≤ 3518437208800) (base' : Option Addr) (c' : Nat) (r : List Rel) (hc' : r.length ≤ c') (hm' : r.length ≤ 4398046511104) (bu su : Int) (p : Par) (h : Int) (hh : 0 ≤ h ∧ h ≤ 1099511627776) (hp3 : 0 ≤ p.p3 ∧ p.p3 ≤ 4294967296) (x : Tx) (hx : x.ok) (A : Acc) : SpecV (cx gl) 160 [.agg (ledV (.slice base l.length c) (.slice base' r.length c') bu su).toArray, .agg p.cells.toArray, .int .u64 h, .agg x.cells.toArray, .agg A.cells.toArray] (fun w => Row w base (rc l) ∧ Row w base' (rc r)) (.int .i64 (kindE (⟨l, r, bu, su⟩ : Led) p h x A)) := by
 refine Spec.enter (C := cx gl) Tryz.func160 rfl 69 rfl rfl fun w0 h0 hsep hsub hpre => ?_
 obtain rfl : h0 = Heap.none := hsep
 show St (cx gl) _ [(0, .agg (ledV (.slice base l.length c) (.slice base' r.length c') bu su).toArray), (1, .agg p.cells.toArray), (2, .int .u64 h), (3, .agg x.cells.toArray), (4, .agg A.cells.toArray)] _ _
 refine rT ?_
 refine lO (W_box (ledV (.slice base l.length c) (.slice base' r.length c') bu su) rfl rfl rfl rfl rfl fun b5 => ?_)
 refine lO (W_box (p.cells) rfl rfl rfl rfl rfl fun b6 => ?_)
 refine lO (W_box (x.cells) rfl rfl rfl rfl rfl fun b8 => ?_)
 refine lO (W_box (A.cells) rfl rfl rfl rfl rfl fun b9 => lA (k:=?_))
 refine lQ (cE 2 rfl (cE 5 rfl (cE 6 rfl (cE 8 rfl (cE 9 rfl (cE 10 rfl .nil)))))) (rS (rT (lP (pF ty_fl_67_0) (k:=lV (vB ty_sc_3 .h1) (k:=?_)))))
 refine lQ (cE 2 rfl (cE 5 rfl (cE 6 rfl (cE 8 rfl (cE 9 rfl (cE 10 rfl (cE 14 rfl .nil))))))) (R_block (rT (lP pEq (k:=?_))))
 refine E_bool (t := 16) rfl (fun k1 => ?_) (fun k1 => ?_)
 ·skip
  have k1 := of_decide_eq_true k1
  refine lA (k:=?_)
  refine lQ (cE 2 rfl (cE 5 rfl (cE 6 rfl (cE 8 rfl (cE 9 rfl (cE 10 rfl (cE 14 rfl (cE 15 rfl .nil)))))))) (kT (k:=rT (lV (vG ty_ag_30 .h3) (k:=lP (pF ty_fl_67_2) (k:=lV (vB ty_sc_26 .h1) (k:=?_))))))
  refine lO (W_callV rfl rfl rfl rfl fn_ca_83 (place_ok base c l hc (by omega) (.slice base' r.length c') rfl bu su x.to) (fun w nw => (Sn.row hpre.1 rfl).rw_ w nw) (lP pLt (k:=?_)))
  refine E_bool (t := 21) rfl (fun q1 => ?_) (fun q1 => ?_)
  ·skip
   have q1 := (place_neg _ _).1 (of_decide_eq_true q1)
   refine lM (k:=lP (pF ty_fl_30_0) (k:=lV (vB ty_sc_22 .h3) (k:=lP (pL ty_sl_22) (k:=lP pGe (k:=lP pK (k:=?_))))))
   refine lQ (cE 10 rfl (cE 27 rfl .nil)) ?_
   refine R_condP rfl (fun q2 => ?_) (fun q2 => ?_)
   ·skip
    refine rT (lA (k:=?_))
    refine lQ (cE 10 rfl .nil) (R_ret (Q_block_ret (Q_then_ret ?_)))
    exact R_endV rfl rfl (.tmp rfl .nil) (by rw [show kindE (⟨l, r, bu, su⟩ : Led) p h x A = 86 by unfold kindE; rw [if_pos k1, if_pos ⟨q1, by show 65536 ≤ l.length; omega⟩]]; rfl)
   ·skip
    refine R_skip (Q_block (qT (rT (lA (k:=?_)))))
    refine lQ (cE 10 rfl .nil) (R_ret ?_)
    exact R_endV rfl rfl (.tmp rfl .nil) (by rw [show kindE (⟨l, r, bu, su⟩ : Led) p h x A = 0 by unfold kindE; first | (rw [if_pos k1, if_neg (fun h9 => q1 h9.1)]; done) | (rw [if_pos k1, if_neg (fun h9 => q2 (by have h8 : 65536 ≤ l.length := h9.2; omega))]; done) | (rw [if_neg k1, if_pos k3, if_neg (by omega), if_neg (fun h9 => q5 h9.1)]; done) | (rw [if_neg k1, if_pos k3, if_neg (by omega), if_neg (fun h9 => q6 (by have h8 : 65536 ≤ r.length := h9.2; omega))]; done) | (rw [if_neg k1, if_neg k3, if_pos k4, if_neg (by simpa using q7), if_neg q8]; done) | (rw [if_neg k1, if_neg k3, if_neg k4]; done)]; rfl)
  ·skip
   have q1 : ¬ spotB l x.to = false := fun h9 => of_decide_eq_false q1 ((place_neg _ _).2 h9)
   refine lM (k:=lN (k:=lN (k:=lN (k:=lN (k:=lP pK (k:=?_))))))
   refine lQ (cE 10 rfl (cE 27 rfl .nil)) (kF (k:=R_skip (Q_block (qT (rT (lA (k:=?_)))))))
   refine lQ (cE 10 rfl .nil) (R_ret ?_)
   exact R_endV rfl rfl (.tmp rfl .nil) (by rw [show kindE (⟨l, r, bu, su⟩ : Led) p h x A = 0 by unfold kindE; first | (rw [if_pos k1, if_neg (fun h9 => q1 h9.1)]; done) | (rw [if_pos k1, if_neg (fun h9 => q2 (by have h8 : 65536 ≤ l.length := h9.2; omega))]; done) | (rw [if_neg k1, if_pos k3, if_neg (by omega), if_neg (fun h9 => q5 h9.1)]; done) | (rw [if_neg k1, if_pos k3, if_neg (by omega), if_neg (fun h9 => q6 (by have h8 : 65536 ≤ r.length := h9.2; omega))]; done) | (rw [if_neg k1, if_neg k3, if_pos k4, if_neg (by simpa using q7), if_neg q8]; done) | (rw [if_neg k1, if_neg k3, if_neg k4]; done)]; rfl)
 ·skip
  have k1 := of_decide_eq_false k1
  refine lA (k:=?_)
  refine lQ (cE 2 rfl (cE 5 rfl (cE 6 rfl (cE 8 rfl (cE 9 rfl (cE 10 rfl (cE 14 rfl (cE 15 rfl .nil)))))))) (kF (k:=rT (lP pEq (k:=?_))))
  refine E_bool (t := 29) rfl (fun k3 => ?_) (fun k3 => ?_)
  ·skip
   have k3 := of_decide_eq_true k3
   refine lA (k:=?_)
   refine lQ (cE 2 rfl (cE 5 rfl (cE 6 rfl (cE 8 rfl (cE 9 rfl (cE 10 rfl (cE 14 rfl (cE 28 rfl .nil)))))))) (kT (k:=rS (rT (lP (pF ty_fl_67_3) (k:=lV (vB ty_sc_23 .h1) (k:=lP pEq (k:=?_)))))))
   refine E_bool (t := 32) rfl (fun q3 => ?_) (fun q3 => ?_)
   ·skip
    have q3 := of_decide_eq_true q3
    refine lM (k:=lN (k:=lN (k:=lN (k:=lN (k:=lN (k:=lP pK (k:=?_)))))))
    refine lQ (cE 2 rfl (cE 5 rfl (cE 6 rfl (cE 8 rfl (cE 10 rfl (cE 39 rfl .nil)))))) (kT (k:=rT (lA (k:=?_))))
    refine lQ (cE 2 rfl (cE 5 rfl (cE 6 rfl (cE 8 rfl (cE 10 rfl .nil))))) (R_ret (Q_then_ret (Q_block_ret (Q_then_ret ?_))))
    exact R_endV rfl rfl (.tmp rfl .nil) (by rw [show kindE (⟨l, r, bu, su⟩ : Led) p h x A = 82 by unfold kindE; rw [if_neg k1, if_pos k3, if_pos (by omega)]]; rfl)
   ·skip
    have q3 := of_decide_eq_false q3
    refine lM (k:=lP (pF ty_fl_67_3) (k:=lV (vB ty_sc_23 .h1) (k:=lP (pF ty_fl_50_2) (k:=lV (vB ty_sc_23 .h0) (k:=lP pGt (k:=lP pK (k:=?_)))))))
    refine lQ (cE 2 rfl (cE 5 rfl (cE 6 rfl (cE 8 rfl (cE 10 rfl (cE 39 rfl .nil)))))) ?_
    refine R_condP rfl (fun q4 => ?_) (fun q4 => ?_)
    ·skip
     refine rT (lA (k:=?_))
     refine lQ (cE 2 rfl (cE 5 rfl (cE 6 rfl (cE 8 rfl (cE 10 rfl .nil))))) (R_ret (Q_then_ret (Q_block_ret (Q_then_ret ?_))))
     exact R_endV rfl rfl (.tmp rfl .nil) (by rw [show kindE (⟨l, r, bu, su⟩ : Led) p h x A = 82 by unfold kindE; rw [if_neg k1, if_pos k3, if_pos (by omega)]]; rfl)
    ·skip
     refine R_skip (qT (rT (lV (vG ty_ag_30 .h3) (k:=lM (k:=lP (pF ty_fl_25_3) (k:=lV (vB ty_sc_23 .h2) (k:=?_)))))))
     refine lP (P_addN rfl rfl rfl (by simp only [fits]; omega)) (k:=lP (pF ty_fl_67_1) (k:=lV (vB ty_sc_26 .h1) (k:=?_)))
     refine lO (W_callV rfl rfl rfl rfl fn_ca_154 (row_ok (.slice base l.length c) rfl base' c' r hc' hm' bu su (h + p.p3) x.frm) (fun w nw => (Sn.row hpre.2 rfl).rw_ w nw) (lM (k:=lP pX (k:=lP pX (k:=lA (k:=lA (k:=?_)))))))
     refine lQ (cE 5 rfl (cE 10 rfl (cE 12 rfl .nil))) (rT (lM (k:=lP pO (k:=?_))))
     refine E_bool (t := 52) rfl (fun q5 => ?_) (fun q5 => ?_)
     ·skip
      have q5 : rowB r (h + p.p3) x.frm = false := by simpa using q5
      refine lM (k:=lP (pF ty_fl_30_1) (k:=lV (vB ty_sc_28 .h3) (k:=lP (pL ty_sl_28) (k:=lP pGe (k:=lP pK (k:=?_))))))
      refine lQ (cE 10 rfl (cE 58 rfl .nil)) ?_
      refine R_condP rfl (fun q6 => ?_) (fun q6 => ?_)
      ·skip
       refine rT (lA (k:=?_))
       refine lQ (cE 10 rfl .nil) (R_ret (Q_block_ret (Q_then_ret ?_)))
       exact R_endV rfl rfl (.tmp rfl .nil) (by rw [show kindE (⟨l, r, bu, su⟩ : Led) p h x A = 86 by unfold kindE; rw [if_neg k1, if_pos k3, if_neg (by omega), if_pos ⟨q5, by show 65536 ≤ r.length; omega⟩]]; rfl)
      ·skip
       refine R_skip (Q_block (qT (rT (lA (k:=?_)))))
       refine lQ (cE 10 rfl .nil) (R_ret ?_)
       exact R_endV rfl rfl (.tmp rfl .nil) (by rw [show kindE (⟨l, r, bu, su⟩ : Led) p h x A = 0 by unfold kindE; first | (rw [if_pos k1, if_neg (fun h9 => q1 h9.1)]; done) | (rw [if_pos k1, if_neg (fun h9 => q2 (by have h8 : 65536 ≤ l.length := h9.2; omega))]; done) | (rw [if_neg k1, if_pos k3, if_neg (by omega), if_neg (fun h9 => q5 h9.1)]; done) | (rw [if_neg k1, if_pos k3, if_neg (by omega), if_neg (fun h9 => q6 (by have h8 : 65536 ≤ r.length := h9.2; omega))]; done) | (rw [if_neg k1, if_neg k3, if_pos k4, if_neg (by simpa using q7), if_neg q8]; done) | (rw [if_neg k1, if_neg k3, if_neg k4]; done)]; rfl)
     ·skip
      have q5 : ¬ rowB r (h + p.p3) x.frm = false := by simpa using q5
      refine lM (k:=lN (k:=lN (k:=lN (k:=lN (k:=lP pK (k:=?_))))))
      refine lQ (cE 10 rfl (cE 58 rfl .nil)) (kF (k:=R_skip (Q_block (qT (rT (lA (k:=?_)))))))
      refine lQ (cE 10 rfl .nil) (R_ret ?_)
      exact R_endV rfl rfl (.tmp rfl .nil) (by rw [show kindE (⟨l, r, bu, su⟩ : Led) p h x A = 0 by unfold kindE; first | (rw [if_pos k1, if_neg (fun h9 => q1 h9.1)]; done) | (rw [if_pos k1, if_neg (fun h9 => q2 (by have h8 : 65536 ≤ l.length := h9.2; omega))]; done) | (rw [if_neg k1, if_pos k3, if_neg (by omega), if_neg (fun h9 => q5 h9.1)]; done) | (rw [if_neg k1, if_pos k3, if_neg (by omega), if_neg (fun h9 => q6 (by have h8 : 65536 ≤ r.length := h9.2; omega))]; done) | (rw [if_neg k1, if_neg k3, if_pos k4, if_neg (by simpa using q7), if_neg q8]; done) | (rw [if_neg k1, if_neg k3, if_neg k4]; done)]; rfl)
  ·skip
   have k3 := of_decide_eq_false k3
   refine lA (k:=?_)
   refine lQ (cE 2 rfl (cE 5 rfl (cE 6 rfl (cE 8 rfl (cE 9 rfl (cE 10 rfl (cE 14 rfl (cE 28 rfl .nil)))))))) (kF (k:=rT (lP pEq (k:=?_))))
   refine E_bool (t := 60) rfl (fun k4 => ?_) (fun k4 => ?_)
   ·skip
    have k4 := of_decide_eq_true k4
    refine lA (k:=?_)
    refine lQ (cE 6 rfl (cE 9 rfl (cE 10 rfl (cE 59 rfl .nil)))) (kT (k:=rS (rT (lP (pF ty_fl_50_4) (k:=lV (vB ty_sc_4 .h0) (k:=lP pO (k:=?_)))))))
    refine lQ (cE 6 rfl (cE 9 rfl (cE 10 rfl (cE 63 rfl .nil)))) ?_
    refine R_cond rfl (fun q7 => ?_) (fun q7 => ?_)
    ·skip
     refine rT (lA (k:=?_))
     refine lQ (cE 6 rfl (cE 9 rfl (cE 10 rfl .nil))) (R_ret (Q_then_ret (Q_block_ret (Q_then_ret ?_))))
     exact R_endV rfl rfl (.tmp rfl .nil) (by rw [show kindE (⟨l, r, bu, su⟩ : Led) p h x A = 83 by unfold kindE; rw [if_neg k1, if_neg k3, if_pos k4, if_pos (by simpa using q7)]]; rfl)
    ·skip
     refine R_skip (qT (rT (lP (pF ty_fl_50_2) (k:=lV (vB ty_sc_23 .h0) (k:=lP (pF ty_fl_25_0) (k:=lV (vB ty_sc_23 .h2) (k:=lP pLt (k:=?_))))))))
     refine lQ (cE 10 rfl (cE 68 rfl .nil)) ?_
     refine R_condP rfl (fun q8 => ?_) (fun q8 => ?_)
     ·skip
      refine rT (lA (k:=?_))
      refine lQ (cE 10 rfl .nil) (R_ret (Q_block_ret (Q_then_ret ?_)))
      exact R_endV rfl rfl (.tmp rfl .nil) (by rw [show kindE (⟨l, r, bu, su⟩ : Led) p h x A = 82 by unfold kindE; rw [if_neg k1, if_neg k3, if_pos k4, if_neg (by simpa using q7), if_pos q8]]; rfl)
     ·skip
      refine R_skip (Q_block (qT (rT (lA (k:=?_)))))
      refine lQ (cE 10 rfl .nil) (R_ret ?_)
      exact R_endV rfl rfl (.tmp rfl .nil) (by rw [show kindE (⟨l, r, bu, su⟩ : Led) p h x A = 0 by unfold kindE; first | (rw [if_pos k1, if_neg (fun h9 => q1 h9.1)]; done) | (rw [if_pos k1, if_neg (fun h9 => q2 (by have h8 : 65536 ≤ l.length := h9.2; omega))]; done) | (rw [if_neg k1, if_pos k3, if_neg (by omega), if_neg (fun h9 => q5 h9.1)]; done) | (rw [if_neg k1, if_pos k3, if_neg (by omega), if_neg (fun h9 => q6 (by have h8 : 65536 ≤ r.length := h9.2; omega))]; done) | (rw [if_neg k1, if_neg k3, if_pos k4, if_neg (by simpa using q7), if_neg q8]; done) | (rw [if_neg k1, if_neg k3, if_neg k4]; done)]; rfl)
   ·skip
    have k4 := of_decide_eq_false k4
    refine lA (k:=?_)
    refine lQ (cE 6 rfl (cE 9 rfl (cE 10 rfl (cE 59 rfl .nil)))) (kF (k:=R_skip (Q_block (qT (rT (lA (k:=?_)))))))
    refine lQ (cE 10 rfl .nil) (R_ret ?_)
    exact R_endV rfl rfl (.tmp rfl .nil) (by rw [show kindE (⟨l, r, bu, su⟩ : Led) p h x A = 0 by unfold kindE; first | (rw [if_pos k1, if_neg (fun h9 => q1 h9.1)]; done) | (rw [if_pos k1, if_neg (fun h9 => q2 (by have h8 : 65536 ≤ l.length := h9.2; omega))]; done) | (rw [if_neg k1, if_pos k3, if_neg (by omega), if_neg (fun h9 => q5 h9.1)]; done) | (rw [if_neg k1, if_pos k3, if_neg (by omega), if_neg (fun h9 => q6 (by have h8 : 65536 ≤ r.length := h9.2; omega))]; done) | (rw [if_neg k1, if_neg k3, if_pos k4, if_neg (by simpa using q7), if_neg q8]; done) | (rw [if_neg k1, if_neg k3, if_neg k4]; done)]; rfl)
end Go.Proofs.YtcngmkjdpoiiaaaGreatDoor

/- Walks: the reference's TxBytes. Printed by gen.py. -/
set_option maxRecDepth 100000
namespace Go.Proofs.YtcngmkjdpoiiaaaGreatDoor
open Go Go.RowKit Go.Proofs
theorem rvar_ok {gl : Nat → Obj} (x : Int) (hx : u64 x) : Spec (cx gl) 250 [.int .u64 x] (fun _ _ => True) [] (fun v rs => rs = [ownS 5 1 (v) ((varB x).length) (ints .u8 (varB x))]) := by
 refine Spec.enter (C := cx gl) Tryz.func250 rfl 20 rfl rfl fun w0 h0 hsep hsub hpre => ?_
 obtain rfl : h0 = Heap.none := hsep
 show St (cx gl) _ [(0, .int .u64 x)] _ _
 have hvl := varB_len x
 refine rT (lA (k:=?_))
 refine L_nil (qT (rT (lA (k:=?_))))
 refine L_nil (qT (rS (R_block ?_)))
 refine R_loopE (G := Int × Nat × List Int × Value) (cE 2 rfl .nil) (fun g => [(0, .int .u64 g.1), (3, g.2.2.2)]) (fun g => [ownS 5 1 (g.2.2.2) (g.2.1) (ints .u8 (g.2.2.1))]) (fun g => u64 g.1 ∧ g.2.2.1 ++ varB g.1 = varB x ∧ g.2.1 + (varB g.1).length = (varB x).length) (fun g => g.1.toNat) (x, 0, [], .slice none 0 0) (by show u64 (x) ∧ ([]) ++ varB (x) = varB x ∧ (0) + (varB (x)).length = (varB x).length; exact ⟨hx, rfl, Nat.zero_add _⟩) (by repeat (first | exact .nil | refine .cons rfl ?_ | refine .consE rfl (by first | rfl | (congr 1; omega) | (congr 1; push_cast; omega)) ?_)) (Weak.newNil (T := 5) (sz := 1)) ?_
 rintro ⟨v, m, ys, s⟩ hinv
 replace hinv : u64 v ∧ ys ++ varB v = varB x ∧ m + (varB v).length = (varB x).length := hinv
 show St (cx gl) _ ((0, .int .u64 v) :: (3, s) :: _) [ownS 5 1 (s) (m) (ints .u8 (ys))] _
 obtain ⟨hv, hxy, hmn⟩ := hinv
 refine rS (rT (lM (k:=lP pGe (k:=?_))))
 refine L_nil (qT ?_)
 refine R_condP rfl (fun hb => ?_) (fun hb => ?_)
 ·skip
  have hb : 128 ≤ v := hb
  refine R_skip (qT (R_block (rT (lM (k:=lM (k:=?_))))))
  refine lP (P_rem rfl rfl rfl (by omega)) (k:=?_)
  refine E_as (t := 8) (v' := .int .u64 (v % 128)) rfl (by rw [Int.tmod_eq_emod_of_nonneg hv.1]) ?_
  refine lP (P_addN rfl rfl rfl (by simp only [fits]; omega)) (k:=?_)
  refine lP (P_conv rfl ty_int_23 ty_int_5 rfl) (k:=?_)
  refine E_as (t := 10) (v' := .int .u8 (v % 128 + 128)) rfl (by rw [wrap_fits (by simp only [fits]; omega)]) ?_
  refine lO (W_lit (z := .nilIface) (ints .u8 [v % 128 + 128]) rfl rfl rfl ty_sl_198 ty_lz_198 rfl rfl rfl (by decide) (by decide) (by simp [Value.cells]) (rfl) fun b11 => ?_)
  refine lO (W_append (p := [_]) rfl rfl rfl ty_sl_198 ty_ap_198 ty_src_198 rfl rfl rfl (Src.slice (sz := 1) (news := ints .u8 [v % 128 + 128]) (Rds.blk .h0) rfl ints_one) (by omega) (by simp only [maxLen]; omega) fun v12 => lA (k:=?_))
  refine L_nil (qT (rR (lM (k:=?_))))
  refine lP (P_quo rfl rfl rfl (by omega)) (k:=?_)
  refine E_as (t := 14) (v' := .int .u64 (v / 128)) rfl (by rw [Int.tdiv_eq_ediv_of_nonneg hv.1, wrap_fits (by have := hv.1; have := hv.2; simp only [fits]; omega)]) (lA (k:=?_))
  refine L_nil (Q_block ?_)
  exact Q_round (v / 128, m + 1, ys ++ [v % 128 + 128], v12) (by show u64 (v / 128) ∧ (ys ++ [v % 128 + 128]) ++ varB (v / 128) = varB x ∧ (m + 1) + (varB (v / 128)).length = (varB x).length; exact ⟨u64_div hv, by rw [← hxy, varB_big hv hb, List.append_assoc]; rfl, by rw [← hmn, varB_big hv hb, List.length_cons]; omega⟩) (by show (v / 128).toNat < v.toNat; have := hv.1; omega) (by repeat (first | exact .nil | refine .cons rfl ?_ | refine .consE rfl (by first | rfl | (congr 1; omega) | (congr 1; push_cast; omega)) ?_)) (Weak.drop (ownS.to1 rfl (by rw [ints_append])))
 ·skip
  have hb : ¬ 128 ≤ v := hb
  rw [varB_small hb] at hxy hmn
  have hw := wrap8 hv.1 hb
  refine R_exit (Q_then_exit (Q_then_exit (Q_block_eq ?_)))
  refine St.env (cE 0 rfl (cE 2 rfl (cE 3 rfl .nil))) (qT (rT (lM (k:=lM (k:=?_)))))
  refine lP (P_conv rfl ty_int_23 ty_int_5 rfl) (k:=?_)
  refine E_as (t := 17) (v' := .int .u8 v) rfl (by rw [hw]) ?_
  refine lO (W_lit (z := .nilIface) (ints .u8 [v]) rfl rfl rfl ty_sl_198 ty_lz_198 rfl rfl rfl (by decide) (by decide) (by simp [Value.cells]) (rfl) fun b18 => ?_)
  refine lO (W_append (p := [_]) rfl rfl rfl ty_sl_198 ty_ap_198 ty_src_198 rfl rfl rfl (Src.slice (sz := 1) (news := ints .u8 [v]) (Rds.blk .h0) rfl ints_one) (by omega) (by simp only [maxLen]; omega) fun v19 => lA (k:=?_))
  refine lQ (cE 2 rfl .nil) (R_ret ?_)
  exact R_end (rs2 := _) rfl rfl (.tmp rfl .nil) (rfl) (Weak.drop (ownS.to2 hmn (by rw [ints_append, hxy])))
theorem rnum_ok {gl : Nat → Obj} (x : Int) (hx : u64 x) : Spec (cx gl) 252 [.int .u64 x] (fun _ _ => True) [] (fun v rs => rs = [ownS 5 1 (v) ((varB x).length) (ints .u8 (varB x))]) := by
 refine Spec.enter (C := cx gl) Tryz.func252 rfl 5 rfl rfl fun w0 h0 hsep hsub hpre => ?_
 obtain rfl : h0 = Heap.none := hsep
 show St (cx gl) _ [(0, .int .u64 x)] _ _
 refine rT (lA (k:=?_))
 refine L_nil (qT (rT (lM (k:=?_))))
 refine lO (W_call rfl rfl rfl rfl fn_ca_250 (rvar_ok x hx) (Split.nil _) (fun _ _ _ _ _ _ _ => trivial) fun v1 rs1 (e1 : rs1 = _) => ?_)
 subst e1
 refine lA (k:=?_)
 refine lQ (cE 2 rfl .nil) (R_ret ?_)
 exact R_end (rs2 := _) rfl rfl (.tmp rfl .nil) (rfl) (Weak.refl _)
theorem rtext_ok {gl : Nat → Obj} (ch : List Int) (hb : IsB ch) (hc : ch.length ≤ 1000) : Spec (cx gl) 193 [.string (strOfNums ch)] (fun _ _ => True) [] (fun v rs => rs = [ownS 5 1 (v) ((varB (ch.length : Int)).length + ch.length) (ints .u8 (varB (ch.length : Int) ++ ch))]) := by
 refine Spec.enter (C := cx gl) Tryz.func193 rfl 10 rfl rfl fun w0 h0 hsep hsub hpre => ?_
 obtain rfl : h0 = Heap.none := hsep
 show St (cx gl) _ [(0, .string (strOfNums ch))] _ _
 have hvl := varB_len (ch.length : Int)
 refine rT (lA (k:=?_))
 refine L_nil (qT (rT (lM (k:=?_))))
 refine lP (P_lenStrN rfl ty_str_9 rfl) (k:=?_)
 refine lP (P_convN rfl ty_int_3 ty_int_23 rfl (by simp only [fits]; omega)) (k:=?_)
 refine lO (W_call rfl rfl rfl rfl fn_ca_250 (rvar_ok (ch.length : Int) ⟨by omega, by omega⟩) (Split.nil _) (fun _ _ _ _ _ _ _ => trivial) fun v1 rs1 (e1 : rs1 = _) => ?_)
 subst e1
 refine lM (k:=?_)
 refine lO (W_bytes rfl rfl rfl ty_str_9 (slB_spec ty_sl_198).1 ty_int_5 rfl hb (by simp only [maxLen]; omega) fun v8 => ?_)
 refine St.ownForm (p := []) fun sb sc hsv hsc => ?_
 subst hsv
 refine lO (W_append (p := [_]) rfl rfl rfl ty_sl_198 ty_ap_198 ty_src_198 rfl rfl rfl (Src.row (sz := 1) (Sn.own .h0 rfl).rw_ (by rw [ints_length]; omega) ints_one) (by omega) (by simp only [maxLen]; omega) fun v9 => lA (k:=?_))
 refine lQ (cE 2 rfl .nil) (R_ret ?_)
 exact R_end (rs2 := _) rfl rfl (.tmp rfl .nil) (rfl) (Weak.drop (ownS.to2 rfl (by rw [ints_append])))
theorem rsealed_ok {gl : Nat → Obj} (sl : List Int) (hl : sl.length = 16) (q : Bool) : Spec (cx gl) 253 [.agg (ints .u8 sl).toArray, .bool q] (fun _ _ => True) [] (fun v rs => rs = [ownS 5 1 (v) ((if q = true then sl else []).length) (ints .u8 (if q = true then sl else []))]) := by
 refine Spec.enter (C := cx gl) Tryz.func253 rfl 9 rfl rfl fun w0 h0 hsep hsub hpre => ?_
 obtain rfl : h0 = Heap.none := hsep
 show St (cx gl) _ [(0, .agg (ints .u8 sl).toArray), (1, .bool q)] _ _
 refine rT ?_
 refine lO (W_box (ints .u8 sl) rfl rfl rfl rfl rfl fun b2 => lA (k:=?_))
 refine lQ (cE 1 rfl (cE 2 rfl (cE 4 rfl .nil))) (rS (rT (lM (k:=?_))))
 refine lQ (cE 2 rfl (cE 4 rfl (cE 5 rfl .nil))) ?_
 refine R_cond rfl (fun hq => ?_) (fun hq => ?_)
 ·skip
  refine rT ?_
  refine lO (W_lit0 rfl rfl rfl ty_sl_198 fun b6 => ?_)
  refine St.res (rs' := [ownS 5 1 (.slice (some ⟨b6, 0, none⟩) 0 0) (0) (ints .u8 ([])), blk b2 (ints .u8 sl) 65]) (Weak.turn .h0 (ownS.of_blk rfl (by decide))) ?_
  refine lP (P_sliceAll rfl ty_ar_65 rfl) (k:=?_)
  refine lO (W_append (p := []) rfl rfl rfl ty_sl_198 ty_ap_198 ty_src_198 rfl rfl rfl (Src.slice (sz := 1) (m := 16) (news := ints .u8 sl) (Rds.blk .h1) (by rw [ints_length, hl]) ints_one) (by omega) (by simp only [maxLen]; omega) fun v8 => lA (k:=?_))
  refine lQ (cE 4 rfl .nil) (R_ret (Q_then_ret ?_))
  exact R_end (rs2 := _) rfl rfl (.tmp rfl .nil) (rfl) (by rw [if_pos hq]; exact ownS.to2 (by rw [hl]) (List.nil_append _))
 ·skip
  refine R_skip (qT (rT (lA (k:=?_))))
  refine lQ (cE 4 rfl .nil) (R_ret ?_)
  exact R_end (rs2 := _) rfl rfl (.tmp rfl .nil) (rfl) (by rw [if_neg (by rw [hq]; decide)]; exact Weak.trans (Weak.newNil (T := 5) (sz := 1)) (Weak.keep (Weak.nil _)))
theorem flat_next {xss : List (List Int)} {i : Nat} {x : List Int} (h : xss[i]? = some x) : (xss.take (i + 1)).flatten = (xss.take i).flatten ++ x := by
 rw [List.take_add_one, h]; simp
theorem flat_le {xss : List (List Int)} {n : Nat} (h : ∀ x ∈ xss, x.length ≤ n) : xss.flatten.length ≤ n * xss.length := by
 induction xss with
 | nil => simp
 | cons x xss ih =>
  rw [List.flatten_cons, List.length_append, List.length_cons]
  have h1 := h x (by simp); have h2 := ih fun y hy => h y (by simp [hy])
  rw [Nat.mul_add]; omega
theorem rjoin_ok {gl : Nat → Obj} (base : Option Addr) (c : Nat) (vs : List Value) (xss : List (List Int)) (hvx : vs.length = xss.length) (hc : vs.length ≤ c) (hm : vs.length ≤ 100) (hs : ∀ x ∈ xss, x.length ≤ 1000) : Spec (cx gl) 251 [.slice base vs.length c] (fun w _ => Items w base vs xss) [] (fun v rs => rs = [ownS 5 1 (v) (xss.flatten.length) (ints .u8 (xss.flatten))]) := by
 refine Spec.enter (C := cx gl) Tryz.func251 rfl 18 rfl rfl fun w0 h0 hsep hsub hpre => ?_
 obtain rfl : h0 = Heap.none := hsep
 show St (cx gl) _ [(0, .slice base vs.length c)] _ _
 refine rT (lA (k:=?_))
 refine L_nil (qT (rT (lA (k:=?_))))
 refine L_nil (qT (rS (rT (lA (k:=?_)))))
 refine L_nil (qT (R_block ?_))
 refine R_loopE (G := Nat × Value) (cE 0 rfl (cE 2 rfl .nil)) (fun g => [(3, g.2), (4, .int .i64 ((g.1 : Int)))]) (fun g => [ownS 5 1 (g.2) ((xss.take g.1).flatten.length) (ints .u8 ((xss.take g.1).flatten))]) (fun g => g.1 ≤ vs.length) (fun g => vs.length - g.1) (0, .slice none 0 0) (Nat.zero_le _) (by repeat (first | exact .nil | refine .cons rfl ?_ | refine .consE rfl (by first | rfl | (congr 1; omega) | (congr 1; push_cast; omega)) ?_)) (Weak.newNil (T := 5) (sz := 1)) ?_
 rintro ⟨i, s⟩ hinv
 replace hinv : i ≤ vs.length := hinv
 show St (cx gl) _ ((3, s) :: (4, .int .i64 ((i : Int))) :: _) [ownS 5 1 (s) ((xss.take i).flatten.length) (ints .u8 ((xss.take i).flatten))] _
 have hi := hinv
 refine rS (rT (lM (k:=lM (k:=lP (pL ty_sl_195) (k:=lP pLt (k:=?_))))))
 refine L_nil (qT ?_)
 refine R_condP rfl (fun hlt => ?_) (fun hlt => ?_)
 ·skip
  obtain ⟨yb, yc, y, hvk, hxk, hyc, hyr⟩ := hpre.2.at_ (k := i) (by omega)
  obtain ⟨pb, pj, rfl, hrow⟩ := hpre.1.some_ (by omega)
  have hyl := hs y (List.mem_of_getElem? hxk)
  have hfl := flat_le (xss := xss.take i) fun z hz => hs z (List.mem_of_mem_take hz)
  rw [List.length_take] at hfl
  refine R_skip (qT (rS (R_block (rR (lM (k:=lM (k:=lM (k:=?_))))))))
  refine lP (P_ixs (i) rfl ty_sl_195 rfl rfl (by first | rfl | omega) (by omega)) (k:=?_)
  refine lV (V_load rfl rfl ty_sc_198 (Rd.row hrow rfl hvk)) (k:=?_)
  refine lO (W_append (p := []) rfl rfl rfl ty_sl_198 ty_ap_198 ty_src_198 rfl rfl rfl (Src.row (sz := 1) (Sn.row hyr rfl).rw_ (by rw [ints_length]; omega) ints_one) (by omega) (by simp only [maxLen]; omega) fun v16 => lA (k:=?_))
  refine L_nil (Q_block (qT (rR (lM (k:=?_)))))
  first | (refine L_val rfl rfl rfl (OpP.v (P_addN rfl rfl rfl (by simp only [fits]; omega))) ?_) | (refine L_val rfl rfl rfl (OpP.v (P_add rfl rfl rfl)) ?_)
  refine lA (k:=?_)
  refine L_nil ?_
  exact Q_round (i + 1, v16) (by omega) (by show vs.length - (i + 1) < vs.length - i; omega) (by repeat (first | exact .nil | refine .cons rfl ?_ | refine .consE rfl (by first | rfl | (congr 1; omega) | (congr 1; push_cast; omega)) ?_)) (ownS.to1 (by rw [flat_next hxk, List.length_append]) (by rw [flat_next hxk, ints_append]))
 ·skip
  have hin : i = vs.length := by omega
  subst hin
  rw [hvx, List.take_length]
  refine R_exit (Q_then_exit (Q_then_exit (Q_block_eq ?_)))
  refine St.env (cE 2 rfl (cE 3 rfl .nil)) (qT (rT (lM (k:=lA (k:=?_)))))
  refine lQ (cE 2 rfl .nil) (R_ret ?_)
  exact R_end (rs2 := _) rfl rfl (.tmp rfl .nil) (rfl) (Weak.refl _)
theorem rds_seal {C : Cx} {F : Fx} {rs : List HP} {b : Nat} {x : Tx} (h : Rds C F rs ⟨b, 0, none⟩ x.cells) : Rds C F rs ⟨b, 6, none⟩ (ints .u8 x.sg16) := by
 have := h.part 6 (us := ints .u8 x.sg16) fun i v hv => by unfold Tx.cells; rw [List.getElem?_append_right (by simp), show 6 + i - [Value.int .i64 x.kind, .int .u64 x.frm, .int .u64 x.to, .int .u64 x.amt, .int .u64 x.fee, .int .u64 x.non].length = i by simp]; exact hv
 rwa [Nat.zero_add] at this
theorem rtx_ok {gl : Nat → Obj} (x : Tx) (hx : x.ok) (q : Bool) : Spec (cx gl) 194 [.agg x.cells.toArray, .bool q] (fun _ _ => True) [] (fun v rs => rs = [ownS 5 1 (v) ((txB x ++ (if q = true then x.sg16 else [])).length) (ints .u8 (txB x ++ (if q = true then x.sg16 else [])))]) := by
 refine Spec.enter (C := cx gl) Tryz.func194 rfl 30 rfl rfl fun w0 h0 hsep hsub hpre => ?_
 obtain rfl : h0 = Heap.none := hsep
 show St (cx gl) _ [(0, .agg x.cells.toArray), (1, .bool q)] _ _
 have hsm : ∀ y ∈ ([[kindB x.kind], varB x.frm, varB x.to, varB x.amt, varB x.fee, varB x.non, if q = true then x.sg16 else []] : List (List Int)), y.length ≤ 1000 := by
  intro y hy; simp only [List.mem_cons, List.not_mem_nil, or_false] at hy
  have h6 := hx.len; have l1 := varB_len x.frm; have l2 := varB_len x.to; have l3 := varB_len x.amt; have l4 := varB_len x.fee; have l5 := varB_len x.non
  rcases hy with rfl | rfl | rfl | rfl | rfl | rfl | rfl <;> first | omega | (simp; done) | (split <;> first | omega | (simp; done))
 have hfl : ([[kindB x.kind], varB x.frm, varB x.to, varB x.amt, varB x.fee, varB x.non, if q = true then x.sg16 else []] : List (List Int)).flatten = txB x ++ (if q = true then x.sg16 else []) := by simp [txB, varsB, txW]
 refine rT ?_
 refine lO (W_box (x.cells) rfl rfl rfl rfl rfl fun b2 => lA (k:=?_))
 refine lQ (cE 1 rfl (cE 2 rfl (cE 4 rfl .nil))) (rS ?_)
 refine T_open (.op 0 0 (.op 1 1 (.op 2 0 (.op 4 0 (.op 5 1 (.op 7 0 (.op 8 1 (.op 10 0 (.op 11 1 (.op 13 0 (.op 14 1 (.op 16 0 (.op 17 1 (.op 19 0 (.op 20 1 (.op 21 0 (.two 3 6 (.op 6 2 (.op 9 2 (.op 12 2 (.op 15 2 (.op 18 2 (.op 22 2 (.op 23 2 (.op 24 2 (.op 25 0 .nil))))))))) (.two 3 9 (.op 9 2 (.op 12 2 (.op 15 2 (.op 18 2 (.op 22 2 (.op 23 2 (.op 24 2 (.op 25 0 .nil)))))))) (.two 3 12 (.op 12 2 (.op 15 2 (.op 18 2 (.op 22 2 (.op 23 2 (.op 24 2 (.op 25 0 .nil))))))) (.two 3 15 (.op 15 2 (.op 18 2 (.op 22 2 (.op 23 2 (.op 24 2 (.op 25 0 .nil)))))) (.two 3 18 (.op 18 2 (.op 22 2 (.op 23 2 (.op 24 2 (.op 25 0 .nil))))) (.two 3 22 (.op 22 2 (.op 23 2 (.op 24 2 (.op 25 0 .nil)))) (.op 3 2 (.op 23 2 (.op 24 2 (.op 25 0 .nil)))))))))))))))))))))))))) mixed (by kernel_rfl) (QOk.then QOk.body) ?_
 refine T_pure rfl rfl rfl rfl (P_fld0 rfl ty_fl_67_0 rfl) ?_
 refine T_val rfl rfl rfl rfl (V_load rfl rfl ty_sc_3 (Rd.blk (by first | exact .h0 | exact .h1 | exact .h2 | exact .h3 | exact .h4 | exact .h5 | exact .h6 | exact .h7) rfl)) ?_
 refine T_pure rfl rfl rfl rfl (P_conv rfl ty_int_3 ty_int_5 rfl) ?_
 refine T_pure rfl rfl rfl rfl (P_fld0 rfl ty_fl_67_1 rfl) ?_
 refine T_val rfl rfl rfl rfl (V_load rfl rfl ty_sc_26 (Rd.blk (by first | exact .h0 | exact .h1 | exact .h2 | exact .h3 | exact .h4 | exact .h5 | exact .h6 | exact .h7) rfl)) ?_
 refine T_pure rfl rfl rfl rfl (P_fld0 rfl ty_fl_67_2 rfl) ?_
 refine T_val rfl rfl rfl rfl (V_load rfl rfl ty_sc_26 (Rd.blk (by first | exact .h0 | exact .h1 | exact .h2 | exact .h3 | exact .h4 | exact .h5 | exact .h6 | exact .h7) rfl)) ?_
 refine T_pure rfl rfl rfl rfl (P_fld0 rfl ty_fl_67_3 rfl) ?_
 refine T_val rfl rfl rfl rfl (V_load rfl rfl ty_sc_23 (Rd.blk (by first | exact .h0 | exact .h1 | exact .h2 | exact .h3 | exact .h4 | exact .h5 | exact .h6 | exact .h7) rfl)) ?_
 refine T_pure rfl rfl rfl rfl (P_fld0 rfl ty_fl_67_4 rfl) ?_
 refine T_val rfl rfl rfl rfl (V_load rfl rfl ty_sc_23 (Rd.blk (by first | exact .h0 | exact .h1 | exact .h2 | exact .h3 | exact .h4 | exact .h5 | exact .h6 | exact .h7) rfl)) ?_
 refine T_pure rfl rfl rfl rfl (P_fld0 rfl ty_fl_67_5 rfl) ?_
 refine T_val rfl rfl rfl rfl (V_load rfl rfl ty_sc_23 (Rd.blk (by first | exact .h0 | exact .h1 | exact .h2 | exact .h3 | exact .h4 | exact .h5 | exact .h6 | exact .h7) rfl)) ?_
 refine T_pure rfl rfl rfl rfl (P_fld0 rfl ty_fl_67_6 rfl) ?_
 refine T_val rfl rfl rfl rfl (V_loadAgg rfl rfl ty_ag_65 (rds_seal (Rds.blk (by first | exact .h0 | exact .h1 | exact .h2 | exact .h3 | exact .h4 | exact .h5 | exact .h6 | exact .h7))) (by rw [ints_length, hx.len])) ?_
 refine T_pure rfl rfl rfl rfl (P_move rfl rfl) ?_
 refine T_two ?_ ?_
 ·skip
  refine T_keep rfl rfl (W_lit (z := .nilIface) (ints .u8 [kindB x.kind]) rfl rfl rfl ty_sl_198 ty_lz_198 rfl rfl rfl (by decide) (by decide) (by simp [Value.cells]) (rfl) fun b8 => (K_keepT (Weak.drop (Weak.refl _)) ?_))
  refine T_keep rfl rfl (W_call rfl rfl rfl rfl fn_ca_252 (rnum_ok (x.frm) (hx.frm)) (Split.nil _) (fun _ _ _ _ _ _ _ => trivial) fun v1 rs1 (e1 : rs1 = _) => ?_)
  subst e1
  refine St.ownForm (p := []) fun a1 c1 ha1 hc1 => ?_
  subst ha1
  refine K_keepT (Weak.drop (Weak.refl _)) ?_
  refine T_keep rfl rfl (W_call rfl rfl rfl rfl fn_ca_252 (rnum_ok (x.to) (hx.to)) (Split.nil _) (fun _ _ _ _ _ _ _ => trivial) fun v2 rs2 (e2 : rs2 = _) => ?_)
  subst e2
  refine St.ownForm (p := []) fun a2 c2 ha2 hc2 => ?_
  subst ha2
  refine K_keepT (Weak.drop (Weak.refl _)) ?_
  refine T_keep rfl rfl (W_call rfl rfl rfl rfl fn_ca_252 (rnum_ok (x.amt) (hx.amt)) (Split.nil _) (fun _ _ _ _ _ _ _ => trivial) fun v3 rs3 (e3 : rs3 = _) => ?_)
  subst e3
  refine St.ownForm (p := []) fun a3 c3 ha3 hc3 => ?_
  subst ha3
  refine K_keepT (Weak.drop (Weak.refl _)) ?_
  refine T_keep rfl rfl (W_call rfl rfl rfl rfl fn_ca_252 (rnum_ok (x.fee) (hx.fee)) (Split.nil _) (fun _ _ _ _ _ _ _ => trivial) fun v4 rs4 (e4 : rs4 = _) => ?_)
  subst e4
  refine St.ownForm (p := []) fun a4 c4 ha4 hc4 => ?_
  subst ha4
  refine K_keepT (Weak.drop (Weak.refl _)) ?_
  refine T_keep rfl rfl (W_call rfl rfl rfl rfl fn_ca_252 (rnum_ok (x.non) (hx.non)) (Split.nil _) (fun _ _ _ _ _ _ _ => trivial) fun v5 rs5 (e5 : rs5 = _) => ?_)
  subst e5
  refine St.ownForm (p := []) fun a5 c5 ha5 hc5 => ?_
  subst ha5
  refine K_keepT (Weak.drop (Weak.refl _)) ?_
  refine T_keep rfl rfl (W_call rfl rfl rfl rfl fn_ca_253 (rsealed_ok x.sg16 hx.len q) (Split.nil _) (fun _ _ _ _ _ _ _ => trivial) fun v6 rs6 (e6 : rs6 = _) => ?_)
  subst e6
  refine St.ownForm (p := []) fun a6 c6 ha6 hc6 => ?_
  subst ha6
  refine K_keepT (Weak.drop (Weak.refl _)) ?_
  refine T_keep rfl rfl (W_lit (z := .nilIface) ([.slice (some ⟨b8, 0, none⟩) 1 1, .slice a1 (varB x.frm).length c1, .slice a2 (varB x.to).length c2, .slice a3 (varB x.amt).length c3, .slice a4 (varB x.fee).length c4, .slice a5 (varB x.non).length c5, .slice a6 (if q = true then x.sg16 else []).length c6]) rfl rfl rfl ty_sl_195 ty_lz_195 rfl rfl rfl (by decide) (by decide) (by intro v hv; simp only [List.mem_cons, List.not_mem_nil, or_false] at hv; rcases hv with rfl | rfl | rfl | rfl | rfl | rfl | rfl <;> rfl) (rfl) fun b28 => (K_keepT (Weak.drop (Weak.refl _)) ?_))
  refine T_keep rfl rfl (W_call rfl rfl rfl rfl fn_ca_251 (rjoin_ok (some ⟨b28, 0, none⟩) 7 [.slice (some ⟨b8, 0, none⟩) 1 1, .slice a1 (varB x.frm).length c1, .slice a2 (varB x.to).length c2, .slice a3 (varB x.amt).length c3, .slice a4 (varB x.fee).length c4, .slice a5 (varB x.non).length c5, .slice a6 (if q = true then x.sg16 else []).length c6] [[kindB x.kind], varB x.frm, varB x.to, varB x.amt, varB x.fee, varB x.non, if q = true then x.sg16 else []] rfl (Nat.le_refl 7) (show 7 ≤ 100 by decide) hsm) (Split.nil _) (fun w a b _ hb dj m => ⟨(Sn.ofBlk .h0).rw_ w ⟨_, hb, m.le (Heap.le_join_right dj)⟩, BytesL.cons ⟨_, _, rfl, Nat.le_refl 1, (Sn.ofBlk (by first | exact .h0 | exact .h1 | exact .h2 | exact .h3 | exact .h4 | exact .h5 | exact .h6 | exact .h7 | exact .h8)).rw_ w ⟨_, hb, m.le (Heap.le_join_right dj)⟩⟩ (BytesL.cons ⟨_, _, rfl, by omega, (Sn.own (by first | exact .h0 | exact .h1 | exact .h2 | exact .h3 | exact .h4 | exact .h5 | exact .h6 | exact .h7 | exact .h8) rfl).rw_ w ⟨_, hb, m.le (Heap.le_join_right dj)⟩⟩ ( BytesL.cons ⟨_, _, rfl, by omega, (Sn.own (by first | exact .h0 | exact .h1 | exact .h2 | exact .h3 | exact .h4 | exact .h5 | exact .h6 | exact .h7 | exact .h8) rfl).rw_ w ⟨_, hb, m.le (Heap.le_join_right dj)⟩⟩ ( BytesL.cons ⟨_, _, rfl, by omega, (Sn.own (by first | exact .h0 | exact .h1 | exact .h2 | exact .h3 | exact .h4 | exact .h5 | exact .h6 | exact .h7 | exact .h8) rfl).rw_ w ⟨_, hb, m.le (Heap.le_join_right dj)⟩⟩ ( BytesL.cons ⟨_, _, rfl, by omega, (Sn.own (by first | exact .h0 | exact .h1 | exact .h2 | exact .h3 | exact .h4 | exact .h5 | exact .h6 | exact .h7 | exact .h8) rfl).rw_ w ⟨_, hb, m.le (Heap.le_join_right dj)⟩⟩ ( BytesL.cons ⟨_, _, rfl, by omega, (Sn.own (by first | exact .h0 | exact .h1 | exact .h2 | exact .h3 | exact .h4 | exact .h5 | exact .h6 | exact .h7 | exact .h8) rfl).rw_ w ⟨_, hb, m.le (Heap.le_join_right dj)⟩⟩ ( BytesL.cons ⟨_, _, rfl, by omega, (Sn.own (by first | exact .h0 | exact .h1 | exact .h2 | exact .h3 | exact .h4 | exact .h5 | exact .h6 | exact .h7 | exact .h8) rfl).rw_ w ⟨_, hb, m.le (Heap.le_join_right dj)⟩⟩ ( BytesL.nil)))))))⟩) fun v9 rs9 (e9 : rs9 = _) => ?_)
  subst e9
  refine K_keepT (Weak.drop (Weak.refl _)) ?_
  refine T_pure rfl rfl rfl rfl (P_assign rfl rfl) ?_
  refine T_nil ?_
  refine St.env (cE 4 rfl .nil) (qT (R_ret ?_))
  exact R_end (rs2 := _) rfl rfl (.tmp rfl .nil) (rfl) (Weak.trans (ownS.to1 (by rw [hfl]) (by rw [hfl])) (Weak.keep (Weak.nil _)))
 ·skip
  refine T_keep rfl rfl (W_call rfl rfl rfl rfl fn_ca_252 (rnum_ok (x.frm) (hx.frm)) (Split.nil _) (fun _ _ _ _ _ _ _ => trivial) fun v1 rs1 (e1 : rs1 = _) => ?_)
  subst e1
  refine St.ownForm (p := []) fun a1 c1 ha1 hc1 => ?_
  subst ha1
  refine K_keepT (Weak.drop (Weak.refl _)) ?_
  refine T_two ?_ ?_
  ·skip
   refine T_keep rfl rfl (W_lit (z := .nilIface) (ints .u8 [kindB x.kind]) rfl rfl rfl ty_sl_198 ty_lz_198 rfl rfl rfl (by decide) (by decide) (by simp [Value.cells]) (rfl) fun b8 => (K_keepT (Weak.drop (Weak.refl _)) ?_))
   refine T_keep rfl rfl (W_call rfl rfl rfl rfl fn_ca_252 (rnum_ok (x.to) (hx.to)) (Split.nil _) (fun _ _ _ _ _ _ _ => trivial) fun v2 rs2 (e2 : rs2 = _) => ?_)
   subst e2
   refine St.ownForm (p := []) fun a2 c2 ha2 hc2 => ?_
   subst ha2
   refine K_keepT (Weak.drop (Weak.refl _)) ?_
   refine T_keep rfl rfl (W_call rfl rfl rfl rfl fn_ca_252 (rnum_ok (x.amt) (hx.amt)) (Split.nil _) (fun _ _ _ _ _ _ _ => trivial) fun v3 rs3 (e3 : rs3 = _) => ?_)
   subst e3
   refine St.ownForm (p := []) fun a3 c3 ha3 hc3 => ?_
   subst ha3
   refine K_keepT (Weak.drop (Weak.refl _)) ?_
   refine T_keep rfl rfl (W_call rfl rfl rfl rfl fn_ca_252 (rnum_ok (x.fee) (hx.fee)) (Split.nil _) (fun _ _ _ _ _ _ _ => trivial) fun v4 rs4 (e4 : rs4 = _) => ?_)
   subst e4
   refine St.ownForm (p := []) fun a4 c4 ha4 hc4 => ?_
   subst ha4
   refine K_keepT (Weak.drop (Weak.refl _)) ?_
   refine T_keep rfl rfl (W_call rfl rfl rfl rfl fn_ca_252 (rnum_ok (x.non) (hx.non)) (Split.nil _) (fun _ _ _ _ _ _ _ => trivial) fun v5 rs5 (e5 : rs5 = _) => ?_)
   subst e5
   refine St.ownForm (p := []) fun a5 c5 ha5 hc5 => ?_
   subst ha5
   refine K_keepT (Weak.drop (Weak.refl _)) ?_
   refine T_keep rfl rfl (W_call rfl rfl rfl rfl fn_ca_253 (rsealed_ok x.sg16 hx.len q) (Split.nil _) (fun _ _ _ _ _ _ _ => trivial) fun v6 rs6 (e6 : rs6 = _) => ?_)
   subst e6
   refine St.ownForm (p := []) fun a6 c6 ha6 hc6 => ?_
   subst ha6
   refine K_keepT (Weak.drop (Weak.refl _)) ?_
   refine T_keep rfl rfl (W_lit (z := .nilIface) ([.slice (some ⟨b8, 0, none⟩) 1 1, .slice a1 (varB x.frm).length c1, .slice a2 (varB x.to).length c2, .slice a3 (varB x.amt).length c3, .slice a4 (varB x.fee).length c4, .slice a5 (varB x.non).length c5, .slice a6 (if q = true then x.sg16 else []).length c6]) rfl rfl rfl ty_sl_195 ty_lz_195 rfl rfl rfl (by decide) (by decide) (by intro v hv; simp only [List.mem_cons, List.not_mem_nil, or_false] at hv; rcases hv with rfl | rfl | rfl | rfl | rfl | rfl | rfl <;> rfl) (rfl) fun b28 => (K_keepT (Weak.drop (Weak.refl _)) ?_))
   refine T_keep rfl rfl (W_call rfl rfl rfl rfl fn_ca_251 (rjoin_ok (some ⟨b28, 0, none⟩) 7 [.slice (some ⟨b8, 0, none⟩) 1 1, .slice a1 (varB x.frm).length c1, .slice a2 (varB x.to).length c2, .slice a3 (varB x.amt).length c3, .slice a4 (varB x.fee).length c4, .slice a5 (varB x.non).length c5, .slice a6 (if q = true then x.sg16 else []).length c6] [[kindB x.kind], varB x.frm, varB x.to, varB x.amt, varB x.fee, varB x.non, if q = true then x.sg16 else []] rfl (Nat.le_refl 7) (show 7 ≤ 100 by decide) hsm) (Split.nil _) (fun w a b _ hb dj m => ⟨(Sn.ofBlk .h0).rw_ w ⟨_, hb, m.le (Heap.le_join_right dj)⟩, BytesL.cons ⟨_, _, rfl, Nat.le_refl 1, (Sn.ofBlk (by first | exact .h0 | exact .h1 | exact .h2 | exact .h3 | exact .h4 | exact .h5 | exact .h6 | exact .h7 | exact .h8)).rw_ w ⟨_, hb, m.le (Heap.le_join_right dj)⟩⟩ (BytesL.cons ⟨_, _, rfl, by omega, (Sn.own (by first | exact .h0 | exact .h1 | exact .h2 | exact .h3 | exact .h4 | exact .h5 | exact .h6 | exact .h7 | exact .h8) rfl).rw_ w ⟨_, hb, m.le (Heap.le_join_right dj)⟩⟩ ( BytesL.cons ⟨_, _, rfl, by omega, (Sn.own (by first | exact .h0 | exact .h1 | exact .h2 | exact .h3 | exact .h4 | exact .h5 | exact .h6 | exact .h7 | exact .h8) rfl).rw_ w ⟨_, hb, m.le (Heap.le_join_right dj)⟩⟩ ( BytesL.cons ⟨_, _, rfl, by omega, (Sn.own (by first | exact .h0 | exact .h1 | exact .h2 | exact .h3 | exact .h4 | exact .h5 | exact .h6 | exact .h7 | exact .h8) rfl).rw_ w ⟨_, hb, m.le (Heap.le_join_right dj)⟩⟩ ( BytesL.cons ⟨_, _, rfl, by omega, (Sn.own (by first | exact .h0 | exact .h1 | exact .h2 | exact .h3 | exact .h4 | exact .h5 | exact .h6 | exact .h7 | exact .h8) rfl).rw_ w ⟨_, hb, m.le (Heap.le_join_right dj)⟩⟩ ( BytesL.cons ⟨_, _, rfl, by omega, (Sn.own (by first | exact .h0 | exact .h1 | exact .h2 | exact .h3 | exact .h4 | exact .h5 | exact .h6 | exact .h7 | exact .h8) rfl).rw_ w ⟨_, hb, m.le (Heap.le_join_right dj)⟩⟩ ( BytesL.cons ⟨_, _, rfl, by omega, (Sn.own (by first | exact .h0 | exact .h1 | exact .h2 | exact .h3 | exact .h4 | exact .h5 | exact .h6 | exact .h7 | exact .h8) rfl).rw_ w ⟨_, hb, m.le (Heap.le_join_right dj)⟩⟩ ( BytesL.nil)))))))⟩) fun v9 rs9 (e9 : rs9 = _) => ?_)
   subst e9
   refine K_keepT (Weak.drop (Weak.refl _)) ?_
   refine T_pure rfl rfl rfl rfl (P_assign rfl rfl) ?_
   refine T_nil ?_
   refine St.env (cE 4 rfl .nil) (qT (R_ret ?_))
   exact R_end (rs2 := _) rfl rfl (.tmp rfl .nil) (rfl) (Weak.trans (ownS.to1 (by rw [hfl]) (by rw [hfl])) (Weak.keep (Weak.nil _)))
  ·skip
   refine T_keep rfl rfl (W_call rfl rfl rfl rfl fn_ca_252 (rnum_ok (x.to) (hx.to)) (Split.nil _) (fun _ _ _ _ _ _ _ => trivial) fun v2 rs2 (e2 : rs2 = _) => ?_)
   subst e2
   refine St.ownForm (p := []) fun a2 c2 ha2 hc2 => ?_
   subst ha2
   refine K_keepT (Weak.drop (Weak.refl _)) ?_
   refine T_two ?_ ?_
   ·skip
    refine T_keep rfl rfl (W_lit (z := .nilIface) (ints .u8 [kindB x.kind]) rfl rfl rfl ty_sl_198 ty_lz_198 rfl rfl rfl (by decide) (by decide) (by simp [Value.cells]) (rfl) fun b8 => (K_keepT (Weak.drop (Weak.refl _)) ?_))
    refine T_keep rfl rfl (W_call rfl rfl rfl rfl fn_ca_252 (rnum_ok (x.amt) (hx.amt)) (Split.nil _) (fun _ _ _ _ _ _ _ => trivial) fun v3 rs3 (e3 : rs3 = _) => ?_)
    subst e3
    refine St.ownForm (p := []) fun a3 c3 ha3 hc3 => ?_
    subst ha3
    refine K_keepT (Weak.drop (Weak.refl _)) ?_
    refine T_keep rfl rfl (W_call rfl rfl rfl rfl fn_ca_252 (rnum_ok (x.fee) (hx.fee)) (Split.nil _) (fun _ _ _ _ _ _ _ => trivial) fun v4 rs4 (e4 : rs4 = _) => ?_)
    subst e4
    refine St.ownForm (p := []) fun a4 c4 ha4 hc4 => ?_
    subst ha4
    refine K_keepT (Weak.drop (Weak.refl _)) ?_
    refine T_keep rfl rfl (W_call rfl rfl rfl rfl fn_ca_252 (rnum_ok (x.non) (hx.non)) (Split.nil _) (fun _ _ _ _ _ _ _ => trivial) fun v5 rs5 (e5 : rs5 = _) => ?_)
    subst e5
    refine St.ownForm (p := []) fun a5 c5 ha5 hc5 => ?_
    subst ha5
    refine K_keepT (Weak.drop (Weak.refl _)) ?_
    refine T_keep rfl rfl (W_call rfl rfl rfl rfl fn_ca_253 (rsealed_ok x.sg16 hx.len q) (Split.nil _) (fun _ _ _ _ _ _ _ => trivial) fun v6 rs6 (e6 : rs6 = _) => ?_)
    subst e6
    refine St.ownForm (p := []) fun a6 c6 ha6 hc6 => ?_
    subst ha6
    refine K_keepT (Weak.drop (Weak.refl _)) ?_
    refine T_keep rfl rfl (W_lit (z := .nilIface) ([.slice (some ⟨b8, 0, none⟩) 1 1, .slice a1 (varB x.frm).length c1, .slice a2 (varB x.to).length c2, .slice a3 (varB x.amt).length c3, .slice a4 (varB x.fee).length c4, .slice a5 (varB x.non).length c5, .slice a6 (if q = true then x.sg16 else []).length c6]) rfl rfl rfl ty_sl_195 ty_lz_195 rfl rfl rfl (by decide) (by decide) (by intro v hv; simp only [List.mem_cons, List.not_mem_nil, or_false] at hv; rcases hv with rfl | rfl | rfl | rfl | rfl | rfl | rfl <;> rfl) (rfl) fun b28 => (K_keepT (Weak.drop (Weak.refl _)) ?_))
    refine T_keep rfl rfl (W_call rfl rfl rfl rfl fn_ca_251 (rjoin_ok (some ⟨b28, 0, none⟩) 7 [.slice (some ⟨b8, 0, none⟩) 1 1, .slice a1 (varB x.frm).length c1, .slice a2 (varB x.to).length c2, .slice a3 (varB x.amt).length c3, .slice a4 (varB x.fee).length c4, .slice a5 (varB x.non).length c5, .slice a6 (if q = true then x.sg16 else []).length c6] [[kindB x.kind], varB x.frm, varB x.to, varB x.amt, varB x.fee, varB x.non, if q = true then x.sg16 else []] rfl (Nat.le_refl 7) (show 7 ≤ 100 by decide) hsm) (Split.nil _) (fun w a b _ hb dj m => ⟨(Sn.ofBlk .h0).rw_ w ⟨_, hb, m.le (Heap.le_join_right dj)⟩, BytesL.cons ⟨_, _, rfl, Nat.le_refl 1, (Sn.ofBlk (by first | exact .h0 | exact .h1 | exact .h2 | exact .h3 | exact .h4 | exact .h5 | exact .h6 | exact .h7 | exact .h8)).rw_ w ⟨_, hb, m.le (Heap.le_join_right dj)⟩⟩ (BytesL.cons ⟨_, _, rfl, by omega, (Sn.own (by first | exact .h0 | exact .h1 | exact .h2 | exact .h3 | exact .h4 | exact .h5 | exact .h6 | exact .h7 | exact .h8) rfl).rw_ w ⟨_, hb, m.le (Heap.le_join_right dj)⟩⟩ ( BytesL.cons ⟨_, _, rfl, by omega, (Sn.own (by first | exact .h0 | exact .h1 | exact .h2 | exact .h3 | exact .h4 | exact .h5 | exact .h6 | exact .h7 | exact .h8) rfl).rw_ w ⟨_, hb, m.le (Heap.le_join_right dj)⟩⟩ ( BytesL.cons ⟨_, _, rfl, by omega, (Sn.own (by first | exact .h0 | exact .h1 | exact .h2 | exact .h3 | exact .h4 | exact .h5 | exact .h6 | exact .h7 | exact .h8) rfl).rw_ w ⟨_, hb, m.le (Heap.le_join_right dj)⟩⟩ ( BytesL.cons ⟨_, _, rfl, by omega, (Sn.own (by first | exact .h0 | exact .h1 | exact .h2 | exact .h3 | exact .h4 | exact .h5 | exact .h6 | exact .h7 | exact .h8) rfl).rw_ w ⟨_, hb, m.le (Heap.le_join_right dj)⟩⟩ ( BytesL.cons ⟨_, _, rfl, by omega, (Sn.own (by first | exact .h0 | exact .h1 | exact .h2 | exact .h3 | exact .h4 | exact .h5 | exact .h6 | exact .h7 | exact .h8) rfl).rw_ w ⟨_, hb, m.le (Heap.le_join_right dj)⟩⟩ ( BytesL.cons ⟨_, _, rfl, by omega, (Sn.own (by first | exact .h0 | exact .h1 | exact .h2 | exact .h3 | exact .h4 | exact .h5 | exact .h6 | exact .h7 | exact .h8) rfl).rw_ w ⟨_, hb, m.le (Heap.le_join_right dj)⟩⟩ ( BytesL.nil)))))))⟩) fun v9 rs9 (e9 : rs9 = _) => ?_)
    subst e9
    refine K_keepT (Weak.drop (Weak.refl _)) ?_
    refine T_pure rfl rfl rfl rfl (P_assign rfl rfl) ?_
    refine T_nil ?_
    refine St.env (cE 4 rfl .nil) (qT (R_ret ?_))
    exact R_end (rs2 := _) rfl rfl (.tmp rfl .nil) (rfl) (Weak.trans (ownS.to1 (by rw [hfl]) (by rw [hfl])) (Weak.keep (Weak.nil _)))
   ·skip
    refine T_keep rfl rfl (W_call rfl rfl rfl rfl fn_ca_252 (rnum_ok (x.amt) (hx.amt)) (Split.nil _) (fun _ _ _ _ _ _ _ => trivial) fun v3 rs3 (e3 : rs3 = _) => ?_)
    subst e3
    refine St.ownForm (p := []) fun a3 c3 ha3 hc3 => ?_
    subst ha3
    refine K_keepT (Weak.drop (Weak.refl _)) ?_
    refine T_two ?_ ?_
    ·skip
     refine T_keep rfl rfl (W_lit (z := .nilIface) (ints .u8 [kindB x.kind]) rfl rfl rfl ty_sl_198 ty_lz_198 rfl rfl rfl (by decide) (by decide) (by simp [Value.cells]) (rfl) fun b8 => (K_keepT (Weak.drop (Weak.refl _)) ?_))
     refine T_keep rfl rfl (W_call rfl rfl rfl rfl fn_ca_252 (rnum_ok (x.fee) (hx.fee)) (Split.nil _) (fun _ _ _ _ _ _ _ => trivial) fun v4 rs4 (e4 : rs4 = _) => ?_)
     subst e4
     refine St.ownForm (p := []) fun a4 c4 ha4 hc4 => ?_
     subst ha4
     refine K_keepT (Weak.drop (Weak.refl _)) ?_
     refine T_keep rfl rfl (W_call rfl rfl rfl rfl fn_ca_252 (rnum_ok (x.non) (hx.non)) (Split.nil _) (fun _ _ _ _ _ _ _ => trivial) fun v5 rs5 (e5 : rs5 = _) => ?_)
     subst e5
     refine St.ownForm (p := []) fun a5 c5 ha5 hc5 => ?_
     subst ha5
     refine K_keepT (Weak.drop (Weak.refl _)) ?_
     refine T_keep rfl rfl (W_call rfl rfl rfl rfl fn_ca_253 (rsealed_ok x.sg16 hx.len q) (Split.nil _) (fun _ _ _ _ _ _ _ => trivial) fun v6 rs6 (e6 : rs6 = _) => ?_)
     subst e6
     refine St.ownForm (p := []) fun a6 c6 ha6 hc6 => ?_
     subst ha6
     refine K_keepT (Weak.drop (Weak.refl _)) ?_
     refine T_keep rfl rfl (W_lit (z := .nilIface) ([.slice (some ⟨b8, 0, none⟩) 1 1, .slice a1 (varB x.frm).length c1, .slice a2 (varB x.to).length c2, .slice a3 (varB x.amt).length c3, .slice a4 (varB x.fee).length c4, .slice a5 (varB x.non).length c5, .slice a6 (if q = true then x.sg16 else []).length c6]) rfl rfl rfl ty_sl_195 ty_lz_195 rfl rfl rfl (by decide) (by decide) (by intro v hv; simp only [List.mem_cons, List.not_mem_nil, or_false] at hv; rcases hv with rfl | rfl | rfl | rfl | rfl | rfl | rfl <;> rfl) (rfl) fun b28 => (K_keepT (Weak.drop (Weak.refl _)) ?_))
     refine T_keep rfl rfl (W_call rfl rfl rfl rfl fn_ca_251 (rjoin_ok (some ⟨b28, 0, none⟩) 7 [.slice (some ⟨b8, 0, none⟩) 1 1, .slice a1 (varB x.frm).length c1, .slice a2 (varB x.to).length c2, .slice a3 (varB x.amt).length c3, .slice a4 (varB x.fee).length c4, .slice a5 (varB x.non).length c5, .slice a6 (if q = true then x.sg16 else []).length c6] [[kindB x.kind], varB x.frm, varB x.to, varB x.amt, varB x.fee, varB x.non, if q = true then x.sg16 else []] rfl (Nat.le_refl 7) (show 7 ≤ 100 by decide) hsm) (Split.nil _) (fun w a b _ hb dj m => ⟨(Sn.ofBlk .h0).rw_ w ⟨_, hb, m.le (Heap.le_join_right dj)⟩, BytesL.cons ⟨_, _, rfl, Nat.le_refl 1, (Sn.ofBlk (by first | exact .h0 | exact .h1 | exact .h2 | exact .h3 | exact .h4 | exact .h5 | exact .h6 | exact .h7 | exact .h8)).rw_ w ⟨_, hb, m.le (Heap.le_join_right dj)⟩⟩ (BytesL.cons ⟨_, _, rfl, by omega, (Sn.own (by first | exact .h0 | exact .h1 | exact .h2 | exact .h3 | exact .h4 | exact .h5 | exact .h6 | exact .h7 | exact .h8) rfl).rw_ w ⟨_, hb, m.le (Heap.le_join_right dj)⟩⟩ ( BytesL.cons ⟨_, _, rfl, by omega, (Sn.own (by first | exact .h0 | exact .h1 | exact .h2 | exact .h3 | exact .h4 | exact .h5 | exact .h6 | exact .h7 | exact .h8) rfl).rw_ w ⟨_, hb, m.le (Heap.le_join_right dj)⟩⟩ ( BytesL.cons ⟨_, _, rfl, by omega, (Sn.own (by first | exact .h0 | exact .h1 | exact .h2 | exact .h3 | exact .h4 | exact .h5 | exact .h6 | exact .h7 | exact .h8) rfl).rw_ w ⟨_, hb, m.le (Heap.le_join_right dj)⟩⟩ ( BytesL.cons ⟨_, _, rfl, by omega, (Sn.own (by first | exact .h0 | exact .h1 | exact .h2 | exact .h3 | exact .h4 | exact .h5 | exact .h6 | exact .h7 | exact .h8) rfl).rw_ w ⟨_, hb, m.le (Heap.le_join_right dj)⟩⟩ ( BytesL.cons ⟨_, _, rfl, by omega, (Sn.own (by first | exact .h0 | exact .h1 | exact .h2 | exact .h3 | exact .h4 | exact .h5 | exact .h6 | exact .h7 | exact .h8) rfl).rw_ w ⟨_, hb, m.le (Heap.le_join_right dj)⟩⟩ ( BytesL.cons ⟨_, _, rfl, by omega, (Sn.own (by first | exact .h0 | exact .h1 | exact .h2 | exact .h3 | exact .h4 | exact .h5 | exact .h6 | exact .h7 | exact .h8) rfl).rw_ w ⟨_, hb, m.le (Heap.le_join_right dj)⟩⟩ ( BytesL.nil)))))))⟩) fun v9 rs9 (e9 : rs9 = _) => ?_)
     subst e9
     refine K_keepT (Weak.drop (Weak.refl _)) ?_
     refine T_pure rfl rfl rfl rfl (P_assign rfl rfl) ?_
     refine T_nil ?_
     refine St.env (cE 4 rfl .nil) (qT (R_ret ?_))
     exact R_end (rs2 := _) rfl rfl (.tmp rfl .nil) (rfl) (Weak.trans (ownS.to1 (by rw [hfl]) (by rw [hfl])) (Weak.keep (Weak.nil _)))
    ·skip
     refine T_keep rfl rfl (W_call rfl rfl rfl rfl fn_ca_252 (rnum_ok (x.fee) (hx.fee)) (Split.nil _) (fun _ _ _ _ _ _ _ => trivial) fun v4 rs4 (e4 : rs4 = _) => ?_)
     subst e4
     refine St.ownForm (p := []) fun a4 c4 ha4 hc4 => ?_
     subst ha4
     refine K_keepT (Weak.drop (Weak.refl _)) ?_
     refine T_two ?_ ?_
     ·skip
      refine T_keep rfl rfl (W_lit (z := .nilIface) (ints .u8 [kindB x.kind]) rfl rfl rfl ty_sl_198 ty_lz_198 rfl rfl rfl (by decide) (by decide) (by simp [Value.cells]) (rfl) fun b8 => (K_keepT (Weak.drop (Weak.refl _)) ?_))
      refine T_keep rfl rfl (W_call rfl rfl rfl rfl fn_ca_252 (rnum_ok (x.non) (hx.non)) (Split.nil _) (fun _ _ _ _ _ _ _ => trivial) fun v5 rs5 (e5 : rs5 = _) => ?_)
      subst e5
      refine St.ownForm (p := []) fun a5 c5 ha5 hc5 => ?_
      subst ha5
      refine K_keepT (Weak.drop (Weak.refl _)) ?_
      refine T_keep rfl rfl (W_call rfl rfl rfl rfl fn_ca_253 (rsealed_ok x.sg16 hx.len q) (Split.nil _) (fun _ _ _ _ _ _ _ => trivial) fun v6 rs6 (e6 : rs6 = _) => ?_)
      subst e6
      refine St.ownForm (p := []) fun a6 c6 ha6 hc6 => ?_
      subst ha6
      refine K_keepT (Weak.drop (Weak.refl _)) ?_
      refine T_keep rfl rfl (W_lit (z := .nilIface) ([.slice (some ⟨b8, 0, none⟩) 1 1, .slice a1 (varB x.frm).length c1, .slice a2 (varB x.to).length c2, .slice a3 (varB x.amt).length c3, .slice a4 (varB x.fee).length c4, .slice a5 (varB x.non).length c5, .slice a6 (if q = true then x.sg16 else []).length c6]) rfl rfl rfl ty_sl_195 ty_lz_195 rfl rfl rfl (by decide) (by decide) (by intro v hv; simp only [List.mem_cons, List.not_mem_nil, or_false] at hv; rcases hv with rfl | rfl | rfl | rfl | rfl | rfl | rfl <;> rfl) (rfl) fun b28 => (K_keepT (Weak.drop (Weak.refl _)) ?_))
      refine T_keep rfl rfl (W_call rfl rfl rfl rfl fn_ca_251 (rjoin_ok (some ⟨b28, 0, none⟩) 7 [.slice (some ⟨b8, 0, none⟩) 1 1, .slice a1 (varB x.frm).length c1, .slice a2 (varB x.to).length c2, .slice a3 (varB x.amt).length c3, .slice a4 (varB x.fee).length c4, .slice a5 (varB x.non).length c5, .slice a6 (if q = true then x.sg16 else []).length c6] [[kindB x.kind], varB x.frm, varB x.to, varB x.amt, varB x.fee, varB x.non, if q = true then x.sg16 else []] rfl (Nat.le_refl 7) (show 7 ≤ 100 by decide) hsm) (Split.nil _) (fun w a b _ hb dj m => ⟨(Sn.ofBlk .h0).rw_ w ⟨_, hb, m.le (Heap.le_join_right dj)⟩, BytesL.cons ⟨_, _, rfl, Nat.le_refl 1, (Sn.ofBlk (by first | exact .h0 | exact .h1 | exact .h2 | exact .h3 | exact .h4 | exact .h5 | exact .h6 | exact .h7 | exact .h8)).rw_ w ⟨_, hb, m.le (Heap.le_join_right dj)⟩⟩ (BytesL.cons ⟨_, _, rfl, by omega, (Sn.own (by first | exact .h0 | exact .h1 | exact .h2 | exact .h3 | exact .h4 | exact .h5 | exact .h6 | exact .h7 | exact .h8) rfl).rw_ w ⟨_, hb, m.le (Heap.le_join_right dj)⟩⟩ ( BytesL.cons ⟨_, _, rfl, by omega, (Sn.own (by first | exact .h0 | exact .h1 | exact .h2 | exact .h3 | exact .h4 | exact .h5 | exact .h6 | exact .h7 | exact .h8) rfl).rw_ w ⟨_, hb, m.le (Heap.le_join_right dj)⟩⟩ ( BytesL.cons ⟨_, _, rfl, by omega, (Sn.own (by first | exact .h0 | exact .h1 | exact .h2 | exact .h3 | exact .h4 | exact .h5 | exact .h6 | exact .h7 | exact .h8) rfl).rw_ w ⟨_, hb, m.le (Heap.le_join_right dj)⟩⟩ ( BytesL.cons ⟨_, _, rfl, by omega, (Sn.own (by first | exact .h0 | exact .h1 | exact .h2 | exact .h3 | exact .h4 | exact .h5 | exact .h6 | exact .h7 | exact .h8) rfl).rw_ w ⟨_, hb, m.le (Heap.le_join_right dj)⟩⟩ ( BytesL.cons ⟨_, _, rfl, by omega, (Sn.own (by first | exact .h0 | exact .h1 | exact .h2 | exact .h3 | exact .h4 | exact .h5 | exact .h6 | exact .h7 | exact .h8) rfl).rw_ w ⟨_, hb, m.le (Heap.le_join_right dj)⟩⟩ ( BytesL.cons ⟨_, _, rfl, by omega, (Sn.own (by first | exact .h0 | exact .h1 | exact .h2 | exact .h3 | exact .h4 | exact .h5 | exact .h6 | exact .h7 | exact .h8) rfl).rw_ w ⟨_, hb, m.le (Heap.le_join_right dj)⟩⟩ ( BytesL.nil)))))))⟩) fun v9 rs9 (e9 : rs9 = _) => ?_)
      subst e9
      refine K_keepT (Weak.drop (Weak.refl _)) ?_
      refine T_pure rfl rfl rfl rfl (P_assign rfl rfl) ?_
      refine T_nil ?_
      refine St.env (cE 4 rfl .nil) (qT (R_ret ?_))
      exact R_end (rs2 := _) rfl rfl (.tmp rfl .nil) (rfl) (Weak.trans (ownS.to1 (by rw [hfl]) (by rw [hfl])) (Weak.keep (Weak.nil _)))
     ·skip
      refine T_keep rfl rfl (W_call rfl rfl rfl rfl fn_ca_252 (rnum_ok (x.non) (hx.non)) (Split.nil _) (fun _ _ _ _ _ _ _ => trivial) fun v5 rs5 (e5 : rs5 = _) => ?_)
      subst e5
      refine St.ownForm (p := []) fun a5 c5 ha5 hc5 => ?_
      subst ha5
      refine K_keepT (Weak.drop (Weak.refl _)) ?_
      refine T_two ?_ ?_
      ·skip
       refine T_keep rfl rfl (W_lit (z := .nilIface) (ints .u8 [kindB x.kind]) rfl rfl rfl ty_sl_198 ty_lz_198 rfl rfl rfl (by decide) (by decide) (by simp [Value.cells]) (rfl) fun b8 => (K_keepT (Weak.drop (Weak.refl _)) ?_))
       refine T_keep rfl rfl (W_call rfl rfl rfl rfl fn_ca_253 (rsealed_ok x.sg16 hx.len q) (Split.nil _) (fun _ _ _ _ _ _ _ => trivial) fun v6 rs6 (e6 : rs6 = _) => ?_)
       subst e6
       refine St.ownForm (p := []) fun a6 c6 ha6 hc6 => ?_
       subst ha6
       refine K_keepT (Weak.drop (Weak.refl _)) ?_
       refine T_keep rfl rfl (W_lit (z := .nilIface) ([.slice (some ⟨b8, 0, none⟩) 1 1, .slice a1 (varB x.frm).length c1, .slice a2 (varB x.to).length c2, .slice a3 (varB x.amt).length c3, .slice a4 (varB x.fee).length c4, .slice a5 (varB x.non).length c5, .slice a6 (if q = true then x.sg16 else []).length c6]) rfl rfl rfl ty_sl_195 ty_lz_195 rfl rfl rfl (by decide) (by decide) (by intro v hv; simp only [List.mem_cons, List.not_mem_nil, or_false] at hv; rcases hv with rfl | rfl | rfl | rfl | rfl | rfl | rfl <;> rfl) (rfl) fun b28 => (K_keepT (Weak.drop (Weak.refl _)) ?_))
       refine T_keep rfl rfl (W_call rfl rfl rfl rfl fn_ca_251 (rjoin_ok (some ⟨b28, 0, none⟩) 7 [.slice (some ⟨b8, 0, none⟩) 1 1, .slice a1 (varB x.frm).length c1, .slice a2 (varB x.to).length c2, .slice a3 (varB x.amt).length c3, .slice a4 (varB x.fee).length c4, .slice a5 (varB x.non).length c5, .slice a6 (if q = true then x.sg16 else []).length c6] [[kindB x.kind], varB x.frm, varB x.to, varB x.amt, varB x.fee, varB x.non, if q = true then x.sg16 else []] rfl (Nat.le_refl 7) (show 7 ≤ 100 by decide) hsm) (Split.nil _) (fun w a b _ hb dj m => ⟨(Sn.ofBlk .h0).rw_ w ⟨_, hb, m.le (Heap.le_join_right dj)⟩, BytesL.cons ⟨_, _, rfl, Nat.le_refl 1, (Sn.ofBlk (by first | exact .h0 | exact .h1 | exact .h2 | exact .h3 | exact .h4 | exact .h5 | exact .h6 | exact .h7 | exact .h8)).rw_ w ⟨_, hb, m.le (Heap.le_join_right dj)⟩⟩ (BytesL.cons ⟨_, _, rfl, by omega, (Sn.own (by first | exact .h0 | exact .h1 | exact .h2 | exact .h3 | exact .h4 | exact .h5 | exact .h6 | exact .h7 | exact .h8) rfl).rw_ w ⟨_, hb, m.le (Heap.le_join_right dj)⟩⟩ ( BytesL.cons ⟨_, _, rfl, by omega, (Sn.own (by first | exact .h0 | exact .h1 | exact .h2 | exact .h3 | exact .h4 | exact .h5 | exact .h6 | exact .h7 | exact .h8) rfl).rw_ w ⟨_, hb, m.le (Heap.le_join_right dj)⟩⟩ ( BytesL.cons ⟨_, _, rfl, by omega, (Sn.own (by first | exact .h0 | exact .h1 | exact .h2 | exact .h3 | exact .h4 | exact .h5 | exact .h6 | exact .h7 | exact .h8) rfl).rw_ w ⟨_, hb, m.le (Heap.le_join_right dj)⟩⟩ ( BytesL.cons ⟨_, _, rfl, by omega, (Sn.own (by first | exact .h0 | exact .h1 | exact .h2 | exact .h3 | exact .h4 | exact .h5 | exact .h6 | exact .h7 | exact .h8) rfl).rw_ w ⟨_, hb, m.le (Heap.le_join_right dj)⟩⟩ ( BytesL.cons ⟨_, _, rfl, by omega, (Sn.own (by first | exact .h0 | exact .h1 | exact .h2 | exact .h3 | exact .h4 | exact .h5 | exact .h6 | exact .h7 | exact .h8) rfl).rw_ w ⟨_, hb, m.le (Heap.le_join_right dj)⟩⟩ ( BytesL.cons ⟨_, _, rfl, by omega, (Sn.own (by first | exact .h0 | exact .h1 | exact .h2 | exact .h3 | exact .h4 | exact .h5 | exact .h6 | exact .h7 | exact .h8) rfl).rw_ w ⟨_, hb, m.le (Heap.le_join_right dj)⟩⟩ ( BytesL.nil)))))))⟩) fun v9 rs9 (e9 : rs9 = _) => ?_)
       subst e9
       refine K_keepT (Weak.drop (Weak.refl _)) ?_
       refine T_pure rfl rfl rfl rfl (P_assign rfl rfl) ?_
       refine T_nil ?_
       refine St.env (cE 4 rfl .nil) (qT (R_ret ?_))
       exact R_end (rs2 := _) rfl rfl (.tmp rfl .nil) (rfl) (Weak.trans (ownS.to1 (by rw [hfl]) (by rw [hfl])) (Weak.keep (Weak.nil _)))
      ·skip
       refine T_keep rfl rfl (W_call rfl rfl rfl rfl fn_ca_253 (rsealed_ok x.sg16 hx.len q) (Split.nil _) (fun _ _ _ _ _ _ _ => trivial) fun v6 rs6 (e6 : rs6 = _) => ?_)
       subst e6
       refine St.ownForm (p := []) fun a6 c6 ha6 hc6 => ?_
       subst ha6
       refine K_keepT (Weak.drop (Weak.refl _)) ?_
       refine T_keep rfl rfl (W_lit (z := .nilIface) (ints .u8 [kindB x.kind]) rfl rfl rfl ty_sl_198 ty_lz_198 rfl rfl rfl (by decide) (by decide) (by simp [Value.cells]) (rfl) fun b8 => (K_keepT (Weak.drop (Weak.refl _)) ?_))
       refine T_keep rfl rfl (W_lit (z := .nilIface) ([.slice (some ⟨b8, 0, none⟩) 1 1, .slice a1 (varB x.frm).length c1, .slice a2 (varB x.to).length c2, .slice a3 (varB x.amt).length c3, .slice a4 (varB x.fee).length c4, .slice a5 (varB x.non).length c5, .slice a6 (if q = true then x.sg16 else []).length c6]) rfl rfl rfl ty_sl_195 ty_lz_195 rfl rfl rfl (by decide) (by decide) (by intro v hv; simp only [List.mem_cons, List.not_mem_nil, or_false] at hv; rcases hv with rfl | rfl | rfl | rfl | rfl | rfl | rfl <;> rfl) (rfl) fun b28 => (K_keepT (Weak.drop (Weak.refl _)) ?_))
       refine T_keep rfl rfl (W_call rfl rfl rfl rfl fn_ca_251 (rjoin_ok (some ⟨b28, 0, none⟩) 7 [.slice (some ⟨b8, 0, none⟩) 1 1, .slice a1 (varB x.frm).length c1, .slice a2 (varB x.to).length c2, .slice a3 (varB x.amt).length c3, .slice a4 (varB x.fee).length c4, .slice a5 (varB x.non).length c5, .slice a6 (if q = true then x.sg16 else []).length c6] [[kindB x.kind], varB x.frm, varB x.to, varB x.amt, varB x.fee, varB x.non, if q = true then x.sg16 else []] rfl (Nat.le_refl 7) (show 7 ≤ 100 by decide) hsm) (Split.nil _) (fun w a b _ hb dj m => ⟨(Sn.ofBlk .h0).rw_ w ⟨_, hb, m.le (Heap.le_join_right dj)⟩, BytesL.cons ⟨_, _, rfl, Nat.le_refl 1, (Sn.ofBlk (by first | exact .h0 | exact .h1 | exact .h2 | exact .h3 | exact .h4 | exact .h5 | exact .h6 | exact .h7 | exact .h8)).rw_ w ⟨_, hb, m.le (Heap.le_join_right dj)⟩⟩ (BytesL.cons ⟨_, _, rfl, by omega, (Sn.own (by first | exact .h0 | exact .h1 | exact .h2 | exact .h3 | exact .h4 | exact .h5 | exact .h6 | exact .h7 | exact .h8) rfl).rw_ w ⟨_, hb, m.le (Heap.le_join_right dj)⟩⟩ ( BytesL.cons ⟨_, _, rfl, by omega, (Sn.own (by first | exact .h0 | exact .h1 | exact .h2 | exact .h3 | exact .h4 | exact .h5 | exact .h6 | exact .h7 | exact .h8) rfl).rw_ w ⟨_, hb, m.le (Heap.le_join_right dj)⟩⟩ ( BytesL.cons ⟨_, _, rfl, by omega, (Sn.own (by first | exact .h0 | exact .h1 | exact .h2 | exact .h3 | exact .h4 | exact .h5 | exact .h6 | exact .h7 | exact .h8) rfl).rw_ w ⟨_, hb, m.le (Heap.le_join_right dj)⟩⟩ ( BytesL.cons ⟨_, _, rfl, by omega, (Sn.own (by first | exact .h0 | exact .h1 | exact .h2 | exact .h3 | exact .h4 | exact .h5 | exact .h6 | exact .h7 | exact .h8) rfl).rw_ w ⟨_, hb, m.le (Heap.le_join_right dj)⟩⟩ ( BytesL.cons ⟨_, _, rfl, by omega, (Sn.own (by first | exact .h0 | exact .h1 | exact .h2 | exact .h3 | exact .h4 | exact .h5 | exact .h6 | exact .h7 | exact .h8) rfl).rw_ w ⟨_, hb, m.le (Heap.le_join_right dj)⟩⟩ ( BytesL.cons ⟨_, _, rfl, by omega, (Sn.own (by first | exact .h0 | exact .h1 | exact .h2 | exact .h3 | exact .h4 | exact .h5 | exact .h6 | exact .h7 | exact .h8) rfl).rw_ w ⟨_, hb, m.le (Heap.le_join_right dj)⟩⟩ ( BytesL.nil)))))))⟩) fun v9 rs9 (e9 : rs9 = _) => ?_)
       subst e9
       refine K_keepT (Weak.drop (Weak.refl _)) ?_
       refine T_pure rfl rfl rfl rfl (P_assign rfl rfl) ?_
       refine T_nil ?_
       refine St.env (cE 4 rfl .nil) (qT (R_ret ?_))
       exact R_end (rs2 := _) rfl rfl (.tmp rfl .nil) (rfl) (Weak.trans (ownS.to1 (by rw [hfl]) (by rw [hfl])) (Weak.keep (Weak.nil _)))
theorem rtx0_ok {gl : Nat → Obj} (x : Tx) (hx : x.ok) : Spec (cx gl) 194 [.agg x.cells.toArray, .bool false] (fun _ _ => True) [] (fun v rs => rs = [ownS 5 1 (v) ((txB x).length) (ints .u8 (txB x))]) := by
 have h := rtx_ok (gl := gl) x hx false
 simp only [Bool.false_eq_true, if_false, List.append_nil] at h
 exact h
end Go.Proofs.YtcngmkjdpoiiaaaGreatDoor

/- Walks: the reference's PlainTx, TxBytes. Printed by gen.py. -/
set_option maxRecDepth 100000
namespace Go.Proofs.YtcngmkjdpoiiaaaGreatDoor
open Go Go.RowKit Go.Proofs
theorem ramount_ok {gl : Nat → Obj} (a : Int) : SpecV (cx gl) 200 [.int .u64 a] noPre (.bool (decide (a ≤ MS))) := by
 refine Spec.enter (C := cx gl) Tryz.func200 rfl 5 rfl rfl fun w0 h0 hsep hsub hpre => ?_
 obtain rfl : h0 = Heap.none := hsep
 show St (cx gl) _ [(0, .int .u64 a)] _ _
 refine rT (lA (k:=?_))
 refine L_nil (qT (rT (lM (k:=lP pLe (k:=lA (k:=?_))))))
 refine lQ (cE 2 rfl .nil) (R_ret ?_)
 exact R_endV rfl rfl (.tmp rfl .nil) (rfl)
theorem rnamed_ok {gl : Nat → Obj} (ch : List Int) : SpecV (cx gl) 192 [.string (strOfNums ch)] noPre (.bool (decide (nameE ch = 0))) := by
 refine Spec.enter (C := cx gl) Tryz.func192 rfl 11 rfl rfl fun w0 h0 hsep hsub hpre => ?_
 obtain rfl : h0 = Heap.none := hsep
 show St (cx gl) _ [(0, .string (strOfNums ch))] _ _
 refine rT (lA (k:=?_))
 refine L_nil (qT (rT (lM (k:=?_))))
 refine lP (P_lenStrN rfl ty_str_9 rfl) (k:=lP pGe (k:=?_))
 refine E_bool (t := 5) rfl (fun h1 => ?_) (fun h1 => ?_)
 ·skip
  have h1 := of_decide_eq_true h1
  refine lM (k:=lM (k:=?_))
  refine lP (P_lenStrN rfl ty_str_9 rfl) (k:=lP pLe (k:=lP pK (k:=lA (k:=?_))))
  refine lQ (cE 2 rfl .nil) (R_ret ?_)
  exact R_endV rfl rfl (.tmp rfl .nil) (congrArg Value.bool (by unfold nameE; first | (rw [decide_eq_decide]; split <;> omega) | (refine (decide_eq_false ?_).symm; split <;> omega)))
 ·skip
  have h1 := of_decide_eq_false h1
  refine lM (k:=lN (k:=lN (k:=lN (k:=lP pK (k:=lA (k:=?_))))))
  refine lQ (cE 2 rfl .nil) (R_ret ?_)
  exact R_endV rfl rfl (.tmp rfl .nil) (congrArg Value.bool (by unfold nameE; first | (rw [decide_eq_decide]; split <;> omega) | (refine (decide_eq_false ?_).symm; split <;> omega)))
theorem rplain_ok {gl : Nat → Obj} (x : Tx) (hx : x.ok) : SpecV (cx gl) 129 [.agg x.cells.toArray] noPre (.int .i64 (plainE x)) := by
 refine Spec.enter (C := cx gl) Tryz.func129 rfl 39 rfl rfl fun w0 h0 hsep hsub hpre => ?_
 obtain rfl : h0 = Heap.none := hsep
 show St (cx gl) _ [(0, .agg x.cells.toArray)] _ _
 have hms : MS = 1152921504606846975 := rfl
 refine rT ?_
 refine lO (W_box (x.cells) rfl rfl rfl rfl rfl fun b1 => lA (k:=?_))
 refine lQ (cE 1 rfl (cE 2 rfl .nil)) (rS (rT (lP (pF ty_fl_67_0) (k:=lV (vB ty_sc_3 .h0) (k:=lP pLt (k:=?_))))))
 refine E_bool (t := 5) rfl (fun h1 => ?_) (fun h1 => ?_)
 ·skip
  have h1 := of_decide_eq_true h1
  refine lM (k:=lN (k:=lN (k:=lN (k:=lP pK (k:=?_)))))
  refine lQ (cE 1 rfl (cE 2 rfl (cE 10 rfl .nil))) (kT (k:=rT (lA (k:=?_))))
  refine lQ (cE 1 rfl (cE 2 rfl .nil)) (R_ret (Q_then_ret ?_))
  have h9 : plainE x = 40 := by
   unfold plainE
   (repeat' split) <;> omega
  exact R_endV rfl rfl (.tmp rfl .nil) (by rw [h9]; rfl)
 ·skip
  have h1 := of_decide_eq_false h1
  refine lM (k:=lP (pF ty_fl_67_0) (k:=lV (vB ty_sc_3 .h0) (k:=lP pGt (k:=lP pK (k:=?_)))))
  refine lQ (cE 1 rfl (cE 2 rfl (cE 10 rfl .nil))) ?_
  refine R_condP rfl (fun h2 => ?_) (fun h2 => ?_)
  ·skip
   refine rT (lA (k:=?_))
   refine lQ (cE 1 rfl (cE 2 rfl .nil)) (R_ret (Q_then_ret ?_))
   have h9 : plainE x = 40 := by
    unfold plainE
    (repeat' split) <;> omega
   exact R_endV rfl rfl (.tmp rfl .nil) (by rw [h9]; rfl)
  ·skip
   refine R_skip (qT (rS (rT (lP (pF ty_fl_67_1) (k:=lV (vB ty_sc_26 .h0) (k:=lP pEq (k:=?_)))))))
   refine lQ (cE 1 rfl (cE 2 rfl (cE 13 rfl .nil))) ?_
   refine R_condP rfl (fun h3 => ?_) (fun h3 => ?_)
   ·skip
    refine rT (lA (k:=?_))
    refine lQ (cE 1 rfl (cE 2 rfl .nil)) (R_ret (Q_then_ret ?_))
    have h9 : plainE x = 41 := by
     unfold plainE
     (repeat' split) <;> omega
    exact R_endV rfl rfl (.tmp rfl .nil) (by rw [h9]; rfl)
   ·skip
    refine R_skip (qT (rS (rT (lP (pF ty_fl_67_0) (k:=lV (vB ty_sc_3 .h0) (k:=lP pEq (k:=lP (pF ty_fl_67_2) (k:=lV (vB ty_sc_26 .h0) (k:=lP pEq (k:=?_))))))))))
    refine lP (P_eql_bool rfl ty_bool_4 rfl rfl) (k:=?_)
    refine lQ (cE 1 rfl (cE 2 rfl (cE 20 rfl .nil))) ?_
    refine R_cond rfl (fun h4 => ?_) (fun h4 => ?_)
    ·skip
     have h4' : (x.kind = 1) ↔ (x.to = 0) := by rw [beq_iff_eq, decide_eq_decide] at h4; exact h4
     refine rT (lA (k:=?_))
     refine lQ (cE 1 rfl (cE 2 rfl .nil)) (R_ret (Q_then_ret ?_))
     have h9 : plainE x = 41 := by
      unfold plainE
      (repeat' split) <;> omega
     exact R_endV rfl rfl (.tmp rfl .nil) (by rw [h9]; rfl)
    ·skip
     have h4' : ¬ ((x.kind = 1) ↔ (x.to = 0)) := by rw [beq_eq_false_iff_ne, ne_eq, decide_eq_decide] at h4; exact h4
     refine R_skip (qT (rS (rT (lP (pF ty_fl_67_3) (k:=lV (vB ty_sc_23 .h0) (k:=?_))))))
     refine lO (W_callV rfl rfl rfl rfl fn_ca_200 (ramount_ok x.amt) (fun _ _ => trivial) (lP pO (k:=?_)))
     refine E_bool (t := 24) rfl (fun h5 => ?_) (fun h5 => ?_)
     ·skip
      have h5' : ¬ x.amt ≤ MS := by simpa using h5
      refine lM (k:=lN (k:=lN (k:=lN (k:=lN (k:=lN (k:=lN (k:=lN (k:=lN (k:=lP pK (k:=?_))))))))))
      refine lQ (cE 1 rfl (cE 2 rfl (cE 34 rfl .nil))) (kT (k:=rT (lA (k:=?_))))
      refine lQ (cE 1 rfl (cE 2 rfl .nil)) (R_ret (Q_then_ret ?_))
      have h9 : plainE x = 41 := by
       unfold plainE
       (repeat' split) <;> omega
      exact R_endV rfl rfl (.tmp rfl .nil) (by rw [h9]; rfl)
     ·skip
      have h5' : x.amt ≤ MS := by simpa using h5
      refine lM (k:=lP (pF ty_fl_67_0) (k:=lV (vB ty_sc_3 .h0) (k:=lP pEq (k:=?_))))
      refine E_bool (t := 28) rfl (fun h6 => ?_) (fun h6 => ?_)
      ·skip
       have h6 := of_decide_eq_true h6
       refine lM (k:=lP (pF ty_fl_67_3) (k:=lV (vB ty_sc_23 .h0) (k:=lP pNe (k:=lP pK (k:=lP pK (k:=?_))))))
       refine lQ (cE 1 rfl (cE 2 rfl (cE 34 rfl .nil))) ?_
       refine R_condP rfl (fun h7 => ?_) (fun h7 => ?_)
       ·skip
        refine rT (lA (k:=?_))
        refine lQ (cE 1 rfl (cE 2 rfl .nil)) (R_ret (Q_then_ret ?_))
        have h9 : plainE x = 41 := by
         unfold plainE
         (repeat' split) <;> omega
        exact R_endV rfl rfl (.tmp rfl .nil) (by rw [h9]; rfl)
       ·skip
        refine R_skip (qT (rS (rT (lP (pF ty_fl_67_4) (k:=lV (vB ty_sc_23 .h0) (k:=?_))))))
        refine lO (W_callV rfl rfl rfl rfl fn_ca_200 (ramount_ok x.fee) (fun _ _ => trivial) (lP pO (k:=?_)))
        refine lQ (cE 2 rfl (cE 38 rfl .nil)) ?_
        refine R_cond rfl (fun h8 => ?_) (fun h8 => ?_)
        ·skip
         have h8' : ¬ x.fee ≤ MS := by simpa using h8
         refine rT (lA (k:=?_))
         refine lQ (cE 2 rfl .nil) (R_ret (Q_then_ret ?_))
         have h9 : plainE x = 41 := by
          unfold plainE
          (repeat' split) <;> omega
         exact R_endV rfl rfl (.tmp rfl .nil) (by rw [h9]; rfl)
        ·skip
         have h8' : x.fee ≤ MS := by simpa using h8
         refine R_skip (qT (rT (lA (k:=?_))))
         refine lQ (cE 2 rfl .nil) (R_ret ?_)
         have h9 : plainE x = 0 := by
          unfold plainE
          (repeat' split) <;> omega
         exact R_endV rfl rfl (.tmp rfl .nil) (by rw [h9]; rfl)
      ·skip
       have h6 := of_decide_eq_false h6
       refine lM (k:=lN (k:=lN (k:=lN (k:=lP pK (k:=lP pK (k:=?_))))))
       refine lQ (cE 1 rfl (cE 2 rfl (cE 34 rfl .nil))) (kF (k:=R_skip (qT (rS (rT (lP (pF ty_fl_67_4) (k:=lV (vB ty_sc_23 .h0) (k:=?_))))))))
       refine lO (W_callV rfl rfl rfl rfl fn_ca_200 (ramount_ok x.fee) (fun _ _ => trivial) (lP pO (k:=?_)))
       refine lQ (cE 2 rfl (cE 38 rfl .nil)) ?_
       refine R_cond rfl (fun h8 => ?_) (fun h8 => ?_)
       ·skip
        have h8' : ¬ x.fee ≤ MS := by simpa using h8
        refine rT (lA (k:=?_))
        refine lQ (cE 2 rfl .nil) (R_ret (Q_then_ret ?_))
        have h9 : plainE x = 41 := by
         unfold plainE
         (repeat' split) <;> omega
        exact R_endV rfl rfl (.tmp rfl .nil) (by rw [h9]; rfl)
       ·skip
        have h8' : x.fee ≤ MS := by simpa using h8
        refine R_skip (qT (rT (lA (k:=?_))))
        refine lQ (cE 2 rfl .nil) (R_ret ?_)
        have h9 : plainE x = 0 := by
         unfold plainE
         (repeat' split) <;> omega
        exact R_endV rfl rfl (.tmp rfl .nil) (by rw [h9]; rfl)
theorem nameE_bad {ch : List Int} (h : nameE ch ≠ 0) : nameE ch = 41 := by
 unfold nameE at h ⊢; split at h
 ·rename_i h1; rw [if_pos h1]
 ·omega
theorem txbE_name {ch : List Int} {x : Tx} (h : nameE ch ≠ 0) : txbE ch x = 41 := by unfold txbE; rw [if_pos h, nameE_bad h]
theorem txbE_rest {ch : List Int} {x : Tx} (h : nameE ch = 0) : txbE ch x = plainE x := by unfold txbE; rw [if_neg (by rw [h]; simp)]
theorem rtxBytes_ok {gl : Nat → Obj} (ch : List Int) (hb : IsB ch) (x : Tx) (hx : x.ok) : Spec (cx gl) 123 [.string (strOfNums ch), .agg x.cells.toArray] (fun _ _ => True) [] (fun v rs => ∃ u, v = .tuple #[u, .int .i64 (txbE ch x)] ∧ rs = [ownS 5 1 (u) ((txbB ch x).length) (ints .u8 (txbB ch x))]) := by
 refine Spec.enter (C := cx gl) Tryz.func123 rfl 22 rfl rfl fun w0 h0 hsep hsub hpre => ?_
 obtain rfl : h0 = Heap.none := hsep
 show St (cx gl) _ [(0, .string (strOfNums ch)), (1, .agg x.cells.toArray)] _ _
 refine rT ?_
 refine lO (W_box (x.cells) rfl rfl rfl rfl rfl fun b3 => lA (k:=lA (k:=?_)))
 refine lQ (cE 0 rfl (cE 3 rfl (cE 4 rfl (cE 5 rfl .nil)))) (rS (rT (lM (k:=?_))))
 refine lO (W_callV rfl rfl rfl rfl fn_ca_192 (rnamed_ok ch) (fun _ _ => trivial) (lP pO (k:=?_)))
 refine lQ (cE 0 rfl (cE 3 rfl (cE 4 rfl (cE 5 rfl (cE 9 rfl .nil))))) ?_
 refine R_cond rfl (fun h1 => ?_) (fun h1 => ?_)
 ·skip
  have hn : nameE ch ≠ 0 := by simpa using h1
  refine rT (lA (k:=lA (k:=?_)))
  refine lQ (cE 0 rfl (cE 3 rfl (cE 4 rfl (cE 5 rfl .nil)))) (R_ret (Q_then_ret ?_))
  exact R_end (rs2 := [ownS 5 1 (.slice none 0 0) ((txbB ch x).length) (ints .u8 (txbB ch x))]) rfl rfl (.tmp rfl (.tmp rfl .nil)) (⟨_, by rw [txbE_name hn]; rfl, rfl⟩) (by rw [txbB_bad (by rw [txbE_name hn]; decide)]; exact Weak.trans (Weak.newNil (T := 5) (sz := 1)) (Weak.keep (Weak.nil _)))
 ·skip
  have hn : nameE ch = 0 := by simpa using h1
  obtain ⟨hc1, hc2⟩ := nameE_fine hn
  have hvl := varB_len (ch.length : Int)
  have htl := txB_len x
  refine R_skip (qT (rS (rT ?_)))
  refine lV (V_loadAgg rfl rfl ty_ag_67 (Rds.blk .h0) (hx.cellsLen)) (k:=?_)
  refine lO (W_callV rfl rfl rfl rfl fn_ca_129 (rplain_ok x hx) (fun _ _ => trivial) (lA (k:=?_)))
  refine lQ (cE 0 rfl (cE 3 rfl (cE 4 rfl (cE 5 rfl (cE 6 rfl .nil))))) (rT (lM (k:=lP pNe (k:=?_))))
  refine lQ (cE 0 rfl (cE 3 rfl (cE 4 rfl (cE 5 rfl (cE 6 rfl (cE 13 rfl .nil)))))) ?_
  refine R_condP rfl (fun hp => ?_) (fun hp => ?_)
  ·skip
   refine rT (lM (k:=lA (k:=lA (k:=?_))))
   refine lQ (cE 0 rfl (cE 3 rfl (cE 4 rfl (cE 5 rfl .nil)))) (R_ret (Q_then_ret ?_))
   exact R_end (rs2 := [ownS 5 1 (.slice none 0 0) ((txbB ch x).length) (ints .u8 (txbB ch x))]) rfl rfl (.tmp rfl (.tmp rfl .nil)) (⟨_, by rw [txbE_rest hn]; rfl, rfl⟩) (by rw [txbB_bad (by rw [txbE_rest hn]; exact hp)]; exact Weak.trans (Weak.newNil (T := 5) (sz := 1)) (Weak.keep (Weak.nil _)))
  ·skip
   have hp : plainE x = 0 := Classical.not_not.1 hp
   have he : txbE ch x = 0 := by rw [txbE_rest hn, hp]
   have hsl := saidB_length ch x
   refine R_skip (qT (rS ?_))
   refine TQ_open (.op 1 0 (.op 4 1 (.two 0 2 (.op 2 2 (.op 3 2 (.op 5 2 (.op 6 2 (.op 7 0 (.op 8 0 .nil)))))) (.op 0 2 (.op 3 2 (.op 5 2 (.op 6 2 (.op 7 0 (.op 8 0 .nil))))))))) [blk b3 x.cells 67] (Weak.refl _) mixed (by kernel_rfl) (QOk.then QOk.body) ?_
   refine TQ_pure rfl rfl rfl rfl (P_move rfl rfl) ?_
   refine TQ_val rfl rfl rfl rfl (V_loadAgg rfl rfl ty_ag_67 (Rds.blk .h0) (hx.cellsLen)) ?_
   refine TQ_two ?_ ?_
   ·skip
    refine TQ_keep rfl rfl (W_lit (z := .nilIface) (ints .u8 [84]) rfl rfl rfl ty_sl_198 ty_lz_198 rfl rfl rfl (by decide) (by decide) (by simp [Value.cells]) (rfl) fun b15 => (K_keepTQ (by repeat (first | exact Weak.refl _ | refine Weak.drop ?_)) ?_))
    refine TQ_keep rfl rfl (W_call rfl rfl rfl rfl fn_ca_193 (rtext_ok ch hb (by omega)) (Split.nil _) (fun _ _ _ _ _ _ _ => trivial) fun v1 rs1 (e1 : rs1 = _) => ?_)
    subst e1
    refine St.ownForm (p := []) fun tb tc htv htc => ?_
    subst htv
    refine K_keepTQ (by repeat (first | exact Weak.refl _ | refine Weak.drop ?_)) ?_
    refine TQ_keep rfl rfl (W_appendFull (n := 1) rfl rfl rfl ty_sl_198 ty_ap_198 ty_src_198 rfl rfl (Rds.blk (by first | exact .h0 | exact .h1 | exact .h2 | exact .h3)) rfl (Src.row (sz := 1) (Sn.own (by first | exact .h0 | exact .h1 | exact .h2 | exact .h3) rfl).rw_ (by rw [ints_length, List.length_append]; omega) ints_one) (by omega) (by omega) (by simp only [maxLen]; omega) fun v18 => (K_keepTQ (by repeat (first | exact Weak.refl _ | refine Weak.drop ?_)) ?_))
    refine TQ_keep rfl rfl (W_call rfl rfl rfl rfl fn_ca_194 (rtx0_ok x hx) (Split.nil _) (fun _ _ _ _ _ _ _ => trivial) fun v2 rs2 (e2 : rs2 = _) => ?_)
    subst e2
    refine St.ownForm (p := []) fun xb xc hxv hxc => ?_
    subst hxv
    refine K_keepTQ (by repeat (first | exact Weak.refl _ | refine Weak.drop ?_)) ?_
    refine TQ_keep rfl rfl (W_append (p := [_]) rfl rfl rfl ty_sl_198 ty_ap_198 ty_src_198 rfl rfl rfl (Src.row (sz := 1) (Sn.own .h0 rfl).rw_ (by rw [ints_length]; omega) ints_one) (by omega) (by simp only [maxLen]; omega) fun v21 => (K_keepTQ (by repeat (first | exact Weak.refl _ | refine Weak.drop ?_)) ?_))
    refine TQ_pure rfl rfl rfl rfl (P_assign rfl rfl) ?_
    refine TQ_pure rfl rfl rfl rfl (P_assign rfl rfl) ?_
    refine TQ_nil ?_
    refine St.env (cE 4 rfl (cE 5 rfl .nil)) (qT (R_ret ?_))
    exact R_end (rs2 := _) rfl rfl (.tmp rfl (.tmp rfl .nil)) (⟨_, by rw [he]; rfl, rfl⟩) (Weak.drop (Weak.trans (ownS.to1 (by rw [txbB_fine he]; omega) (by rw [txbB_fine he, ints_append, ints_append]; simp only [saidB, List.cons_append, List.nil_append])) (Weak.keep (Weak.nil _))))
   ·skip
    refine TQ_keep rfl rfl (W_call rfl rfl rfl rfl fn_ca_193 (rtext_ok ch hb (by omega)) (Split.nil _) (fun _ _ _ _ _ _ _ => trivial) fun v1 rs1 (e1 : rs1 = _) => ?_)
    subst e1
    refine St.ownForm (p := []) fun tb tc htv htc => ?_
    subst htv
    refine K_keepTQ (by repeat (first | exact Weak.refl _ | refine Weak.drop ?_)) ?_
    refine TQ_keep rfl rfl (W_lit (z := .nilIface) (ints .u8 [84]) rfl rfl rfl ty_sl_198 ty_lz_198 rfl rfl rfl (by decide) (by decide) (by simp [Value.cells]) (rfl) fun b15 => (K_keepTQ (by repeat (first | exact Weak.refl _ | refine Weak.drop ?_)) ?_))
    refine TQ_keep rfl rfl (W_appendFull (n := 1) rfl rfl rfl ty_sl_198 ty_ap_198 ty_src_198 rfl rfl (Rds.blk (by first | exact .h0 | exact .h1 | exact .h2 | exact .h3)) rfl (Src.row (sz := 1) (Sn.own (by first | exact .h0 | exact .h1 | exact .h2 | exact .h3) rfl).rw_ (by rw [ints_length, List.length_append]; omega) ints_one) (by omega) (by omega) (by simp only [maxLen]; omega) fun v18 => (K_keepTQ (by repeat (first | exact Weak.refl _ | refine Weak.drop ?_)) ?_))
    refine TQ_keep rfl rfl (W_call rfl rfl rfl rfl fn_ca_194 (rtx0_ok x hx) (Split.nil _) (fun _ _ _ _ _ _ _ => trivial) fun v2 rs2 (e2 : rs2 = _) => ?_)
    subst e2
    refine St.ownForm (p := []) fun xb xc hxv hxc => ?_
    subst hxv
    refine K_keepTQ (by repeat (first | exact Weak.refl _ | refine Weak.drop ?_)) ?_
    refine TQ_keep rfl rfl (W_append (p := [_]) rfl rfl rfl ty_sl_198 ty_ap_198 ty_src_198 rfl rfl rfl (Src.row (sz := 1) (Sn.own .h0 rfl).rw_ (by rw [ints_length]; omega) ints_one) (by omega) (by simp only [maxLen]; omega) fun v21 => (K_keepTQ (by repeat (first | exact Weak.refl _ | refine Weak.drop ?_)) ?_))
    refine TQ_pure rfl rfl rfl rfl (P_assign rfl rfl) ?_
    refine TQ_pure rfl rfl rfl rfl (P_assign rfl rfl) ?_
    refine TQ_nil ?_
    refine St.env (cE 4 rfl (cE 5 rfl .nil)) (qT (R_ret ?_))
    exact R_end (rs2 := _) rfl rfl (.tmp rfl (.tmp rfl .nil)) (⟨_, by rw [he]; rfl, rfl⟩) (Weak.drop (Weak.trans (ownS.to1 (by rw [txbB_fine he]; omega) (by rw [txbB_fine he, ints_append, ints_append]; simp only [saidB, List.cons_append, List.nil_append])) (Weak.keep (Weak.nil _))))
end Go.Proofs.YtcngmkjdpoiiaaaGreatDoor

/- Walks: made, Check. Printed by gen.py. -/
set_option maxRecDepth 100000
namespace Go.Proofs.YtcngmkjdpoiiaaaGreatDoor
open Go Go.RowKit Go.Proofs
theorem made_ok {gl : Nat → Obj} (q : Nat) (sg : List (Int × Nat)) (rc : List Rcd) : SpecR (cx gl) 158 [.pointer (some ⟨q, 0, none⟩)] (fun _ _ => True) [REG q sg rc] (.bool true) [REG q sg rc] := by
 refine Spec.enter (C := cx gl) Tryz.func158 rfl 12 rfl rfl fun w0 h0 hsep hsub hpre => ?_
 show St (cx gl) _ [(0, .pointer (some ⟨q, 0, none⟩))] _ _
 refine rT (lA (k:=?_))
 refine L_nil (qT (rT (lM (k:=?_))))
 refine lO (W_callR rfl rfl rfl rfl fn_ca_146 (enter_zero q sg rc) (Weak.refl _) (fun _ _ _ _ _ _ _ => trivial) (lM (k:=lP pX (k:=lP pX (k:=lA (k:=lA (k:=?_)))))))
 refine lQ (cE 2 rfl (cE 4 rfl .nil)) (rT (lM (k:=lP pNe (k:=?_))))
 refine E_true (t := 11) rfl (rfl) (lA (k:=?_))
 refine lQ (cE 2 rfl .nil) (R_ret ?_)
 exact R_end (rs2 := _) rfl rfl (.tmp rfl .nil) (⟨rfl, rfl⟩) (Weak.refl _)
set_option maxHeartbeats 1000000 in
theorem lcheck_ok {gl : Nat → Obj} (hG : Globs gl) (q : Nat) (sg : List (Int × Nat)) (rc : List Rcd) (base : Option Addr) (c : Nat) (l : List Acc) (hc : l.length ≤ c) (hm : l.length ≤ 3518437208800) (base' : Option Addr) (c' : Nat) (r : List Rel) (hc' : r.length ≤ c') (hm' : r.length ≤ 4398046511104) (bu su : Int) (ch : List Int) (hcb : IsB ch) (p : Par) (hp3 : u64 p.p3) (h : Int) (hh : u64 h) (x : Tx) (hx : x.ok) : SpecR (cx gl) 70 [.agg (ledV (.slice base l.length c) (.slice base' r.length c') bu su).toArray, .pointer (some ⟨q, 0, none⟩), .string (strOfNums ch), .agg p.cells.toArray, .int .u64 h, .agg x.cells.toArray] (fun w hp => Seen w hp base (Go.Proofs.YtcngmkjdpoiiaaaGreatDoor.rc l) ∧ Seen w hp base' (Go.Proofs.YtcngmkjdpoiiaaaGreatDoor.rc r)) [REG q sg rc] (.int .i64 (chkE rc ch (⟨l, r, bu, su⟩ : Led) p h x)) [REG q sg rc] := by
 refine Spec.enter (C := cx gl) Tryz.func70 rfl 86 rfl rfl fun w0 h0 hsep hsub hpre => ?_
 show St (cx gl) _ [(0, .agg (ledV (.slice base l.length c) (.slice base' r.length c') bu su).toArray), (1, .pointer (some ⟨q, 0, none⟩)), (2, .string (strOfNums ch)), (3, .agg p.cells.toArray), (4, .int .u64 h), (5, .agg x.cells.toArray)] _ _
 obtain ⟨hh0, hh1⟩ := hh
 have hnn := hx.non
 refine rT ?_
 refine lO (W_box (ledV (.slice base l.length c) (.slice base' r.length c') bu su) rfl rfl rfl rfl rfl fun b6 => ?_)
 refine lO (W_box (p.cells) rfl rfl rfl rfl rfl fun b9 => ?_)
 refine lO (W_box (x.cells) rfl rfl rfl rfl rfl fun b11 => lA (k:=?_))
 refine lQ (cE 1 rfl (cE 2 rfl (cE 4 rfl (cE 6 rfl (cE 9 rfl (cE 11 rfl (cE 12 rfl .nil))))))) (rS (rS ?_))
 refine St.res (rs' := [REG q sg rc, blk b11 x.cells 67, blk b9 p.cells 25, blk b6 (ledV (.slice base l.length c) (.slice base' r.length c') bu su) 30]) (Weak.pick (p := [_, _, _]) (Weak.keep (Weak.keep (Weak.keep (Weak.nil _))))) (rR (lM (k:=?_)))
 refine lP (P_eqNil rfl ty_ptr_69 rfl rfl) (k:=lM (k:=lM (k:=?_)))
 refine lO (W_callR rfl rfl rfl rfl fn_ca_158 (made_ok q sg rc) (Split.one (p := [])) (fun _ _ _ _ _ _ _ => trivial) (lP pO (k:=?_)))
 refine E_false (t := 22) rfl (rfl) (lP pK (k:=?_))
 refine lQ (cE 1 rfl (cE 2 rfl (cE 4 rfl (cE 6 rfl (cE 9 rfl (cE 11 rfl (cE 12 rfl (cE 23 rfl .nil)))))))) (kF (k:=R_skip (qT (rS (rT (lM (k:=lP pEq (k:=?_))))))))
 refine E_bool (t := 25) rfl (fun h1 => ?_) (fun h1 => ?_)
 ·skip
  have h1 := of_decide_eq_true h1
  refine lM (k:=lN (k:=lN (k:=lP pK (k:=lM (k:=lN (k:=lN (k:=lN (k:=lP pK (k:=?_)))))))))
  refine lQ (cE 1 rfl (cE 2 rfl (cE 4 rfl (cE 6 rfl (cE 9 rfl (cE 11 rfl (cE 12 rfl (cE 34 rfl .nil)))))))) (kT (k:=rT (lA (k:=?_))))
  refine lQ (cE 1 rfl (cE 2 rfl (cE 4 rfl (cE 6 rfl (cE 9 rfl (cE 11 rfl (cE 12 rfl .nil))))))) (R_ret (Q_then_ret ?_))
  exact R_end (rs2 := [REG q sg rc]) rfl rfl (.tmp rfl .nil) (⟨by rw [show chkE rc ch (⟨l, r, bu, su⟩ : Led) p h x = 2 by unfold chkE; rw [if_pos (by unfold timeB; omega)]]; rfl, rfl⟩) (Weak.keep (Weak.nil _))
 ·skip
  have h1 := of_decide_eq_false h1
  refine lM (k:=lM (k:=lP pGt (k:=?_)))
  refine E_bool (t := 28) rfl (fun h2 => ?_) (fun h2 => ?_)
  ·skip
   have h2 := of_decide_eq_true h2
   refine lP pK (k:=lM (k:=lN (k:=lN (k:=lN (k:=lP pK (k:=?_))))))
   refine lQ (cE 1 rfl (cE 2 rfl (cE 4 rfl (cE 6 rfl (cE 9 rfl (cE 11 rfl (cE 12 rfl (cE 34 rfl .nil)))))))) (kT (k:=rT (lA (k:=?_))))
   refine lQ (cE 1 rfl (cE 2 rfl (cE 4 rfl (cE 6 rfl (cE 9 rfl (cE 11 rfl (cE 12 rfl .nil))))))) (R_ret (Q_then_ret ?_))
   exact R_end (rs2 := [REG q sg rc]) rfl rfl (.tmp rfl .nil) (⟨by rw [show chkE rc ch (⟨l, r, bu, su⟩ : Led) p h x = 2 by unfold chkE; rw [if_pos (by unfold timeB; omega)]]; rfl, rfl⟩) (Weak.keep (Weak.nil _))
  ·skip
   have h2 := of_decide_eq_false h2
   refine lP pK (k:=lM (k:=lP (pF ty_fl_25_3) (k:=lV (vB ty_sc_23 .h2) (k:=lP pGt (k:=lP pK (k:=?_))))))
   refine lQ (cE 1 rfl (cE 2 rfl (cE 4 rfl (cE 6 rfl (cE 9 rfl (cE 11 rfl (cE 12 rfl (cE 34 rfl .nil)))))))) ?_
   refine R_condP rfl (fun h3 => ?_) (fun h3 => ?_)
   ·skip
    refine rT (lA (k:=?_))
    refine lQ (cE 1 rfl (cE 2 rfl (cE 4 rfl (cE 6 rfl (cE 9 rfl (cE 11 rfl (cE 12 rfl .nil))))))) (R_ret (Q_then_ret ?_))
    exact R_end (rs2 := [REG q sg rc]) rfl rfl (.tmp rfl .nil) (⟨by rw [show chkE rc ch (⟨l, r, bu, su⟩ : Led) p h x = 2 by unfold chkE; rw [if_pos (by unfold timeB; omega)]]; rfl, rfl⟩) (Weak.keep (Weak.nil _))
   ·skip
    have ht : ¬ timeB p h := by unfold timeB; omega
    refine R_skip (qT (rT (lM (k:=?_))))
    refine lV (V_loadAgg rfl rfl ty_ag_67 (Rds.blk .h1) (hx.cellsLen)) (k:=?_)
    refine lO (W_call rfl rfl rfl rfl fn_ca_144 (txBytes_ok ch hcb x hx) (Split.nil _) (fun _ _ _ _ _ _ _ => trivial) fun v1 rs1 ⟨u, e1, e2⟩ => ?_)
    subst e1; subst e2
    refine St.ownForm (p := []) fun ub uc huv huc => ?_
    subst huv
    refine lM (k:=lP pX (k:=lP pX (k:=lA (k:=lA (k:=?_)))))
    refine lQ (cE 1 rfl (cE 4 rfl (cE 6 rfl (cE 9 rfl (cE 11 rfl (cE 12 rfl (cE 13 rfl (cE 14 rfl .nil)))))))) (rS (rT (lM (k:=lP pNe (k:=?_)))))
    refine lQ (cE 1 rfl (cE 4 rfl (cE 6 rfl (cE 9 rfl (cE 11 rfl (cE 12 rfl (cE 13 rfl (cE 14 rfl (cE 42 rfl .nil))))))))) ?_
    refine R_condP rfl (fun he => ?_) (fun he => ?_)
    ·skip
     refine rT (lM (k:=lA (k:=?_)))
     refine lQ (cE 1 rfl (cE 4 rfl (cE 6 rfl (cE 9 rfl (cE 11 rfl (cE 12 rfl (cE 13 rfl .nil))))))) (R_ret (Q_then_ret ?_))
     exact R_end (rs2 := [REG q sg rc]) rfl rfl (.tmp rfl .nil) (⟨by rw [show chkE rc ch (⟨l, r, bu, su⟩ : Led) p h x = txbE ch x by unfold chkE; rw [if_neg ht, if_pos he]]; rfl, rfl⟩) (Weak.drop (Weak.keep (Weak.nil _)))
    ·skip
     have he : txbE ch x = 0 := Classical.not_not.1 he
     have hF := txFine_of (txbE_fine he).2
     have htl := txbB_len ch x
     refine R_skip (qT (rS (rT (lM (k:=lP (pF ty_fl_67_1) (k:=lV (vB ty_sc_26 .h2) (k:=lM (k:=lP (pF ty_fl_67_6) (k:=?_)))))))))
     refine lV (V_loadAgg rfl rfl ty_ag_65 (rds_seal (Rds.blk .h2)) (by rw [ints_length, hx.len])) (k:=?_)
     refine lO (W_callR rfl rfl rfl rfl fn_ca_159 (check_ok hG q sg rc x.frm ub uc (txbB ch x) x.sg16 (txbB_b hcb hx) (by omega) hx.len) (Weak.pick (p := [_]) (Weak.keep (Weak.keep (Weak.keep (Weak.keep (Weak.nil _)))))) (Sn.pre (Sn.own .h0 rfl)) ?_)
     refine St.res (rs' := [REG q sg rc, blk b11 x.cells 67, blk b9 p.cells 25, blk b6 (ledV (.slice base l.length c) (.slice base' r.length c') bu su) 30]) (Weak.keep (Weak.drop (Weak.refl _))) ?_
     refine E_as (t := 50) (v' := .bool (seald rc ch x)) rfl (rfl) (lP pO (k:=?_))
     refine lQ (cE 4 rfl (cE 6 rfl (cE 9 rfl (cE 11 rfl (cE 12 rfl (cE 51 rfl .nil)))))) ?_
     refine R_cond rfl (fun hs => ?_) (fun hs => ?_)
     ·skip
      have hs : seald rc ch x = false := by simpa using hs
      refine rT (lA (k:=?_))
      refine lQ (cE 4 rfl (cE 6 rfl (cE 9 rfl (cE 11 rfl (cE 12 rfl .nil))))) (R_ret (Q_then_ret ?_))
      exact R_end (rs2 := [REG q sg rc]) rfl rfl (.tmp rfl .nil) (⟨by rw [show chkE rc ch (⟨l, r, bu, su⟩ : Led) p h x = 84 by unfold chkE; rw [if_neg ht, if_neg (by rw [he]; simp), if_pos hs]]; rfl, rfl⟩) (Weak.keep (Weak.nil _))
     ·skip
      have hs : ¬ seald rc ch x = false := by simpa using hs
      refine R_skip (qT (rT (lV (vG ty_ag_30 .h3) (k:=lP (pF ty_fl_67_1) (k:=lV (vB ty_sc_26 .h1) (k:=?_))))))
      refine lO (W_callV rfl rfl rfl rfl fn_ca_83 (place_ok base c l hc (by omega) (.slice base' r.length c') rfl bu su x.frm) (fun w nw => (Sn.old hpre.1).rw_ w nw) (lA (k:=?_)))
      refine lQ (cE 4 rfl (cE 6 rfl (cE 9 rfl (cE 11 rfl (cE 12 rfl (cE 15 rfl .nil)))))) (rS (rT (lM (k:=lP pLt (k:=?_)))))
      refine lQ (cE 4 rfl (cE 6 rfl (cE 9 rfl (cE 11 rfl (cE 12 rfl (cE 15 rfl (cE 57 rfl .nil))))))) ?_
      refine R_condP rfl (fun hp => ?_) (fun hp => ?_)
      ·skip
       have hp := (place_neg _ _).1 hp
       refine rT (lA (k:=?_))
       refine lQ (cE 4 rfl (cE 6 rfl (cE 9 rfl (cE 11 rfl (cE 12 rfl (cE 15 rfl .nil)))))) (R_ret (Q_then_ret ?_))
       exact R_end (rs2 := [REG q sg rc]) rfl rfl (.tmp rfl .nil) (⟨by rw [show chkE rc ch (⟨l, r, bu, su⟩ : Led) p h x = 85 by unfold chkE; rw [if_neg ht, if_neg (by rw [he]; simp), if_neg hs, if_pos hp]]; rfl, rfl⟩) (Weak.keep (Weak.nil _))
      ·skip
       have hb : spotB l x.frm = true := by cases h9 : spotB l x.frm with | true => rfl | false => exact absurd ((place_neg _ _).2 h9) hp
       have hp2 : placeI l x.frm = (spotI l x.frm : Int) := by unfold placeI; rw [if_pos hb]
       have hlt : spotI l x.frm < l.length := by unfold spotB at hb; rw [Bool.and_eq_true, decide_eq_true_eq] at hb; exact hb.1
       have hA := accAt_get hlt
       obtain ⟨pb, pj, rfl, _⟩ := hpre.1.row.some_ (by rw [rc_length]; show 0 < _ * 5; omega)
       refine E_as (t := 15) (v' := .int .i64 ((spotI l x.frm : Nat) : Int)) rfl (by rw [hp2]) (R_skip (qT (rT (lP (pF ty_fl_30_0) (k:=lV (vB ty_sc_22 .h3) (k:=lM (k:=?_)))))))
       refine lP (P_ixs (spotI l x.frm) rfl ty_sl_22 rfl rfl (by first | rfl | omega) (by omega)) (k:=?_)
       refine lV (V_loadAgg rfl rfl ty_ag_50 (rds_rc (Sn.rdsj (Sn.old hpre.1)) hA) (rfl)) (k:=?_)
       refine lO (W_alloc rfl rfl rfl ty_ze_50 fun b16 => ?_)
       refine lO (W_storeAll rfl rfl rfl rfl ty_ag_50 (rfl) (Rec.one (accAt l (spotI l x.frm))) .h0 (rfl) ?_)
       refine lQ (cE 4 rfl (cE 6 rfl (cE 9 rfl (cE 11 rfl (cE 12 rfl (cE 16 rfl .nil)))))) (rS (R_block (rT (lP (pF ty_fl_67_5) (k:=lV (vB ty_sc_23 .h2) (k:=lP (pF ty_fl_50_3) (k:=lV (vB ty_sc_23 .h0) (k:=lP pNe (k:=?_)))))))))
       refine E_bool (t := 68) rfl (fun h5 => ?_) (fun h5 => ?_)
       ·skip
        have h5 := of_decide_eq_true h5
        refine lM (k:=lN (k:=lN (k:=lN (k:=lP pK (k:=lA (k:=?_))))))
        refine lQ (cE 4 rfl (cE 6 rfl (cE 9 rfl (cE 11 rfl (cE 12 rfl (cE 16 rfl (cE 63 rfl .nil))))))) (kT (k:=rT (lA (k:=?_))))
        refine lQ (cE 4 rfl (cE 6 rfl (cE 9 rfl (cE 11 rfl (cE 12 rfl (cE 16 rfl .nil)))))) (R_ret (Q_block_ret (Q_then_ret ?_)))
        exact R_end (rs2 := [REG q sg rc]) rfl rfl (.tmp rfl .nil) (⟨by rw [show chkE rc ch (⟨l, r, bu, su⟩ : Led) p h x = 80 by unfold chkE; rw [if_neg ht, if_neg (by rw [he]; simp), if_neg hs, if_neg (by show ¬ spotB l x.frm = false; rw [hb]; decide), if_pos (by show x.non ≠ (accAt l (spotI l x.frm)).non ∨ x.non = 18446744073709551615; omega)]]; rfl, rfl⟩) (Weak.drop (Weak.keep (Weak.nil _)))
       ·skip
        have h5 := of_decide_eq_false h5
        refine lM (k:=lP (pF ty_fl_67_5) (k:=lV (vB ty_sc_23 .h2) (k:=lP pEq (k:=lP pK (k:=lA (k:=?_))))))
        refine lQ (cE 4 rfl (cE 6 rfl (cE 9 rfl (cE 11 rfl (cE 12 rfl (cE 16 rfl (cE 63 rfl .nil))))))) ?_
        refine R_condP rfl (fun h6 => ?_) (fun h6 => ?_)
        ·skip
         refine rT (lA (k:=?_))
         refine lQ (cE 4 rfl (cE 6 rfl (cE 9 rfl (cE 11 rfl (cE 12 rfl (cE 16 rfl .nil)))))) (R_ret (Q_block_ret (Q_then_ret ?_)))
         exact R_end (rs2 := [REG q sg rc]) rfl rfl (.tmp rfl .nil) (⟨by rw [show chkE rc ch (⟨l, r, bu, su⟩ : Led) p h x = 80 by unfold chkE; rw [if_neg ht, if_neg (by rw [he]; simp), if_neg hs, if_neg (by show ¬ spotB l x.frm = false; rw [hb]; decide), if_pos (by show x.non ≠ (accAt l (spotI l x.frm)).non ∨ x.non = 18446744073709551615; omega)]]; rfl, rfl⟩) (Weak.drop (Weak.keep (Weak.nil _)))
        ·skip
         refine rS ?_
         refine R_open [(0, 1), (2, 0), (3, 1), (1, 2), (4, 0), (5, 0)] mixed (by kernel_rfl) (QOk.then (QOk.block (QOk.then QOk.body))) ?_
         refine oV rfl (V_loadAgg rfl rfl ty_ag_67 (Rds.blk .h2) (hx.cellsLen)) (k:=oP rfl (pF ty_fl_50_1) (k:=oV rfl (vB ty_sc_23 .h0) (k:=?_)))
         refine O_keep rfl rfl (W_callV rfl rfl rfl rfl fn_ca_152 (spends_ok x hx hF.amt hF.fee) (fun _ _ => trivial) (K_keep (Weak.refl _) (oP rfl pGt (k:=oP rfl pA (k:=O_nil ?_)))))
         refine St.env (cE 4 rfl (cE 6 rfl (cE 9 rfl (cE 11 rfl (cE 12 rfl (cE 16 rfl (cE 74 rfl .nil))))))) (qT ?_)
         refine R_condP rfl (fun h7 => ?_) (fun h7 => ?_)
         ·skip
          refine rT (lA (k:=?_))
          refine lQ (cE 4 rfl (cE 6 rfl (cE 9 rfl (cE 11 rfl (cE 12 rfl (cE 16 rfl .nil)))))) (R_ret (Q_block_ret (Q_then_ret ?_)))
          exact R_end (rs2 := [REG q sg rc]) rfl rfl (.tmp rfl .nil) (⟨by rw [show chkE rc ch (⟨l, r, bu, su⟩ : Led) p h x = 81 by unfold chkE; rw [if_neg ht, if_neg (by rw [he]; simp), if_neg hs, if_neg (by show ¬ spotB l x.frm = false; rw [hb]; decide), if_neg (by show ¬ (x.non ≠ (accAt l (spotI l x.frm)).non ∨ x.non = 18446744073709551615); omega), if_pos (show (senderA (⟨l, r, bu, su⟩ : Led) x).bal < costI x from h7)]]; rfl, rfl⟩) (Weak.drop (Weak.keep (Weak.nil _)))
         ·skip
          refine R_skip (Q_block (qT (rT (lV (vG ty_ag_30 .h4) (k:=lV (vG ty_ag_25 .h3) (k:=lM (k:=?_)))))))
          refine lV (V_loadAgg rfl rfl ty_ag_67 (Rds.blk .h2) (hx.cellsLen)) (k:=lV (vG ty_ag_50 .h0) (k:=?_))
          refine lO (W_callV rfl rfl rfl rfl fn_ca_160 (lkind_ok _ c l hc hm base' c' r hc' hm' bu su p h (by unfold timeB at ht; omega) (by unfold timeB at ht; have := hp3.1; omega) x hx (accAt l (spotI l x.frm))) (fun w nw => And.intro ((Sn.old hpre.1).rw_ w nw) ((Sn.old hpre.2).rw_ w nw)) (lA (k:=?_)))
          refine lQ (cE 12 rfl .nil) (R_ret ?_)
          exact R_end (rs2 := [REG q sg rc]) rfl rfl (.tmp rfl .nil) (⟨by rw [show chkE rc ch (⟨l, r, bu, su⟩ : Led) p h x = kindE (⟨l, r, bu, su⟩ : Led) p h x (accAt l (spotI l x.frm)) by unfold chkE; rw [if_neg ht, if_neg (by rw [he]; simp), if_neg hs, if_neg (by show ¬ spotB l x.frm = false; rw [hb]; decide), if_neg (by show ¬ (x.non ≠ (accAt l (spotI l x.frm)).non ∨ x.non = 18446744073709551615); omega), if_neg (show ¬ (senderA (⟨l, r, bu, su⟩ : Led) x).bal < costI x from h7)]; rfl]; rfl, rfl⟩) (Weak.drop (Weak.keep (Weak.nil _)))
end Go.Proofs.YtcngmkjdpoiiaaaGreatDoor

/- Walks: Apply. Printed by gen.py. -/
set_option maxRecDepth 100000
namespace Go.Proofs.YtcngmkjdpoiiaaaGreatDoor
open Go Go.RowKit Go.Proofs
def w64 (x : Int) : Int := IntKind.u64.wrap x
def payer (x : Tx) (A : Acc) : Acc := ⟨A.a, A.bal - costI x, A.bond, A.non + 1, A.jail⟩
def addBal (n : Int) (A : Acc) : Acc := ⟨A.a, w64 (A.bal + n), A.bond, A.non, A.jail⟩
def addBond (n : Int) (A : Acc) : Acc := ⟨A.a, A.bal, w64 (A.bond + n), A.non, A.jail⟩
def subBond (n : Int) (A : Acc) : Acc := ⟨A.a, A.bal, A.bond - n, A.non, A.jail⟩
def unjail (A : Acc) : Acc := ⟨A.a, A.bal, A.bond, A.non, false⟩
def addAmt (n : Int) (y : Rel) : Rel := ⟨y.h, y.a, y.born, w64 (y.amt + n)⟩
/-- There is such an account from now on. -/
def midA (l : List Acc) (a : Int) : List Acc := if spotB l a = true then l else insL l (spotI l a) ⟨a, 0, 0, 0, false⟩
def payP (l : List Acc) (a n : Int) : List Acc := (midA l a).set (spotI l a) (addBal n (accAt (midA l a) (spotI l a)))
def midR (r : List Rel) (h a b : Int) : List Rel := if rowB r h a = true then r else insL r (rowI r h a) ⟨h, a, b, 0⟩
def relP (r : List Rel) (h a b n : Int) : List Rel := (midR r h a b).set (rowI r h a) (addAmt n (relAt (midR r h a b) (rowI r h a)))
/-- The accounts when the sender has paid. -/
def paidL (L : Led) (x : Tx) : List Acc := L.acc.set (spotI L.acc x.frm) (payer x (senderA L x))
def accK (L : Led) (x : Tx) : List Acc :=
 if x.kind = 1 then payP (paidL L x) x.to x.amt else if x.kind = 2 then L.acc.set (spotI L.acc x.frm) (addBond x.amt (payer x (senderA L x)))
 else if x.kind = 3 then L.acc.set (spotI L.acc x.frm) (subBond x.amt (payer x (senderA L x))) else if x.kind = 4 then L.acc.set (spotI L.acc x.frm) (unjail (payer x (senderA L x))) else paidL L x
def relK (L : Led) (p : Par) (h : Int) (x : Tx) : List Rel := if x.kind = 3 then relP L.rel (h + p.p3) x.frm h x.amt else L.rel
/-- The ledger behind a transaction that is taken. -/
def appP (L : Led) (p : Par) (h b : Int) (x : Tx) : Led :=
 if spotB (accK L x) b = true then ⟨(accK L x).set (spotI (accK L x) b) (addBal x.fee (accAt (accK L x) (spotI (accK L x) b))), relK L p h x, L.burnt, L.sup⟩ else ⟨accK L x, relK L p h x, w64 (L.burnt + x.fee), L.sup⟩
/-- What Apply answers. -/
def appL (rc : List Rcd) (ch : List Int) (L : Led) (p : Par) (h b : Int) (x : Tx) : Led := if chkE rc ch L p h x = 0 then appP L p h b x else led0
theorem paidL_length (L : Led) (x : Tx) : (paidL L x).length = L.acc.length := by unfold paidL; rw [List.length_set]
theorem midA_yes {l : List Acc} {a : Int} (h : spotB l a = true) : midA l a = l := if_pos h
theorem midA_no {l : List Acc} {a : Int} (h : spotB l a = false) : midA l a = insL l (spotI l a) ⟨a, 0, 0, 0, false⟩ := if_neg (by rw [h]; decide)
theorem midR_yes {r : List Rel} {h a b : Int} (e : rowB r h a = true) : midR r h a b = r := if_pos e
theorem midR_no {r : List Rel} {h a b : Int} (e : rowB r h a = false) : midR r h a b = insL r (rowI r h a) ⟨h, a, b, 0⟩ := if_neg (by rw [e]; decide)
theorem spotB_lt {l : List Acc} {a : Int} (h : spotB l a = true) : spotI l a < l.length := by unfold spotB at h; rw [Bool.and_eq_true, decide_eq_true_eq] at h; exact h.1
theorem rowB_lt {r : List Rel} {h a : Int} (e : rowB r h a = true) : rowI r h a < r.length := by unfold rowB at e; rw [Bool.and_eq_true, decide_eq_true_eq] at e; exact e.1
theorem midA_lt (l : List Acc) (a : Int) : spotI l a < (midA l a).length := by
 cases h : spotB l a with
 | true => rw [midA_yes h]; exact spotB_lt h
 | false => rw [midA_no h, insL_length (spotI_le l a)]; have := spotI_le l a; omega
theorem midR_lt (r : List Rel) (h a b : Int) : rowI r h a < (midR r h a b).length := by
 cases e : rowB r h a with
 | true => rw [midR_yes e]; exact rowB_lt e
 | false => rw [midR_no e, insL_length (rowI_le r h a)]; have := rowI_le r h a; omega
theorem midA_le (l : List Acc) (a : Int) : (midA l a).length ≤ l.length + 1 := by
 unfold midA; split
 ·omega
 ·rw [insL_length (spotI_le l a)]; exact Nat.le_refl _
theorem midR_le (r : List Rel) (h a b : Int) : (midR r h a b).length ≤ r.length + 1 := by
 unfold midR; split
 ·omega
 ·rw [insL_length (rowI_le r h a)]; exact Nat.le_refl _
theorem accK_le (L : Led) (x : Tx) : (accK L x).length ≤ L.acc.length + 1 := by
 unfold accK
 split
 ·unfold payP; rw [List.length_set]; have := midA_le (paidL L x) x.to; rwa [paidL_length] at this
 ·split
  ·rw [List.length_set]; omega
  ·split
   ·rw [List.length_set]; omega
   ·split
    ·rw [List.length_set]; omega
    ·rw [paidL_length]; omega
theorem accAt_set {l : List Acc} {i : Nat} (h : i < l.length) (y : Acc) : (l.set i y)[i]? = some y := List.getElem?_set_self h
set_option maxHeartbeats 4000000 in
theorem apply_ok {gl : Nat → Obj} (hG : Globs gl) (q : Nat) (sg : List (Int × Nat)) (rc : List Rcd) (base : Option Addr) (c : Nat) (l : List Acc) (hc : l.length ≤ c) (hm : l.length ≤ 1759218604000)(hok : ∀ x ∈ l, x.ok) (base' : Option Addr) (c' : Nat) (r : List Rel) (hc' : r.length ≤ c') (hm' : r.length ≤ 2199023255000) (hok' : ∀ y ∈ r, y.ok) (bu su : Int) (hbu : u64 bu) (ch : List Int) (hcb : IsB ch) (p : Par) (hp3 : u64 p.p3) (h by_ : Int) (hh : u64 h) (x : Tx) (hx : x.ok) : Spec (cx gl) 67 [.agg (ledV (.slice base l.length c) (.slice base' r.length c') bu su).toArray, .pointer (some ⟨q, 0, none⟩), .string (strOfNums ch), .agg p.cells.toArray, .int .u64 h, .int .u64 by_, .agg x.cells.toArray] (fun w hp => Seen w hp base (Go.Proofs.YtcngmkjdpoiiaaaGreatDoor.rc l) ∧ Seen w hp base' (Go.Proofs.YtcngmkjdpoiiaaaGreatDoor.rc r)) [REG q sg rc] (fun v rs => ∃ u u', v = .tuple #[.agg (ledV u u' (appL rc ch (⟨l, r, bu, su⟩ : Led) p h by_ x).burnt (appL rc ch (⟨l, r, bu, su⟩ : Led) p h by_ x).sup).toArray, .int .i64 (chkE rc ch (⟨l, r, bu, su⟩ : Led) p h x)] ∧ rs = [ownS 50 5 (u) ((appL rc ch (⟨l, r, bu, su⟩ : Led) p h by_ x).acc.length) (Go.Proofs.YtcngmkjdpoiiaaaGreatDoor.rc ((appL rc ch (⟨l, r, bu, su⟩ : Led) p h by_ x).acc)), ownS 175 4 (u') ((appL rc ch (⟨l, r, bu, su⟩ : Led) p h by_ x).rel.length) (Go.Proofs.YtcngmkjdpoiiaaaGreatDoor.rc ((appL rc ch (⟨l, r, bu, su⟩ : Led) p h by_ x).rel)), REG q sg rc]) := by
 refine Spec.enter (C := cx gl) Tryz.func67 rfl 186 rfl rfl fun w0 h0 hsep hsub hpre => ?_
 show St (cx gl) _ [(0, .agg (ledV (.slice base l.length c) (.slice base' r.length c') bu su).toArray), (1, .pointer (some ⟨q, 0, none⟩)), (2, .string (strOfNums ch)), (3, .agg p.cells.toArray), (4, .int .u64 h), (5, .int .u64 by_), (6, .agg x.cells.toArray)] _ _
 have hhc := hh
 obtain ⟨hh0, hh1⟩ := hhc
 refine rT ?_
 refine lO (W_box (ledV (.slice base l.length c) (.slice base' r.length c') bu su) rfl rfl rfl rfl rfl fun b7 => ?_)
 refine lO (W_box (p.cells) rfl rfl rfl rfl rfl fun b10 => ?_)
 refine lO (W_box (x.cells) rfl rfl rfl rfl rfl fun b13 => ?_)
 refine lO (W_alloc rfl rfl rfl ty_ze_30 fun b14 => lA (k:=?_))
 refine lQ (cE 1 rfl (cE 2 rfl (cE 4 rfl (cE 5 rfl (cE 7 rfl (cE 10 rfl (cE 13 rfl (cE 14 rfl (cE 15 rfl .nil))))))))) (rS (rS ?_))
 refine St.res (rs' := [REG q sg rc, blk b14 (ledV (.slice none 0 0) (.slice none 0 0) 0 0) 30, blk b13 x.cells 67, blk b10 p.cells 25, blk b7 (ledV (.slice base l.length c) (.slice base' r.length c') bu su) 30]) (Weak.pick (p := [_, _, _, _]) (Weak.keep (Weak.keep (Weak.keep (Weak.keep (Weak.nil _)))))) (rR (lV (vG ty_ag_30 .h4) (k:=lM (k:=lM (k:=lV (vG ty_ag_25 .h3) (k:=lM (k:=?_)))))))
 refine lV (V_loadAgg rfl rfl ty_ag_67 (Rds.blk .h2) (hx.cellsLen)) (k:=?_)
 refine lO (W_callR rfl rfl rfl rfl fn_ca_70 (lcheck_ok hG q sg rc base c l hc (by omega) base' c' r hc' (by omega) bu su ch hcb p hp3 h hh x hx) (Split.one (p := [])) (fun w a b ha hb dj m => ⟨Sn.pre (Sn.old hpre.1) w a b ha hb dj m, Sn.pre (Sn.old hpre.2) w a b ha hb dj m⟩) (lA (k:=?_)))
 refine lQ (cE 4 rfl (cE 5 rfl (cE 7 rfl (cE 10 rfl (cE 13 rfl (cE 14 rfl (cE 15 rfl (cE 16 rfl .nil)))))))) (rT (lM (k:=lP pNe (k:=?_))))
 refine lQ (cE 4 rfl (cE 5 rfl (cE 7 rfl (cE 10 rfl (cE 13 rfl (cE 14 rfl (cE 15 rfl (cE 16 rfl (cE 31 rfl .nil))))))))) ?_
 refine R_condP rfl (fun he => ?_) (fun he => ?_)
 ·skip
  refine rT ?_
  refine lP (P_buildStruct rfl ty_pl_30 ty_ze_30 rfl rfl (rfl)) (k:=lM (k:=?_))
  refine lO (W_storeAll rfl rfl rfl rfl ty_ag_30 (rfl) (ledV_one _ _ _ _ rfl rfl) .h1 (rfl) (lA (k:=?_)))
  refine lQ (cE 4 rfl (cE 5 rfl (cE 7 rfl (cE 10 rfl (cE 13 rfl (cE 14 rfl (cE 15 rfl .nil))))))) (R_ret (Q_then_ret ?_))
  exact R_end (rs2 := _) rfl rfl (.cell rfl (Rds.loadVar ty_ag_30 (Rds.blk .h1) rfl) (.tmp rfl .nil)) (⟨.slice none 0 0, .slice none 0 0, by rw [show (appL rc ch (⟨l, r, bu, su⟩ : Led) p h by_ x) = led0 from if_neg he]; rfl, rfl⟩) (by rw [show (appL rc ch (⟨l, r, bu, su⟩ : Led) p h by_ x) = led0 from if_neg he]; exact Weak.trans (Weak.newNil (T := 175) (sz := 4)) (Weak.trans (Weak.newNil (T := 50) (sz := 5)) (Weak.keep (Weak.keep (Weak.keep (Weak.nil _))))))
 ·skip
  have he : chkE rc ch (⟨l, r, bu, su⟩ : Led) p h x = 0 := Classical.not_not.1 he
  have hC := chkFine_of he
  have hF := txFine_of (txbE_fine hC.tx).2
  have hlt : spotI l x.frm < l.length := spotB_lt hC.frm
  have hA : l[spotI l x.frm]? = some (senderA (⟨l, r, bu, su⟩ : Led) x) := accAt_get hlt
  obtain ⟨⟨hA0, hA1⟩, ⟨hb0, hb1⟩, ⟨hd0, hd1⟩, ⟨hn0, hn1⟩⟩ := hok _ (List.mem_of_getElem? hA)
  have hkd := hC.kind
  have hn := hC.non
  have hn2 := hC.top
  have hbal := hC.bal
  have htime := hC.time
  unfold timeB at htime
  have hcost : 0 ≤ costI x := by unfold costI; have := hx.fee.1; have := hx.amt.1; split <;> omega
  refine R_skip (qT (rS ?_))
  refine R_open [(0, 0), (1, 1), (3, 0), (4, 1), (2, 2), (6, 0), (5, 2), (7, 3), (8, 0), (9, 3)] mixed (by kernel_rfl) (QOk.then QOk.body) (oP rfl (pF ty_fl_30_0) (k:=oV rfl (vB ty_sc_22 .h4) (k:=oP rfl (pF ty_fl_30_1) (k:=oV rfl (vB ty_sc_28 .h4) (k:=?_)))))
  refine O_keep rfl rfl (W_call rfl rfl rfl rfl fn_ca_79 (freshA_ok base c l hc (by omega)) (Split.nil _) (Sn.pre (Sn.old hpre.1)) fun v1 rs1 (e1 : rs1 = _) => ?_)
  subst e1
  refine St.ownSome (p := []) (by omega) fun fb fc huv hfc => ?_
  subst huv
  refine K_keep (Weak.drop (Weak.refl _)) (oP rfl (pF ty_fl_30_0) (k:=?_))
  refine O_keep rfl rfl (W_call rfl rfl rfl rfl fn_ca_80 (freshR_ok base' c' r hc' (by omega)) (Split.nil _) (Sn.pre (Sn.old hpre.2)) fun v2 rs2 (e2 : rs2 = _) => ?_)
  subst e2
  refine St.ownForm (p := []) fun vb vc hvv hvc => ?_
  subst hvv
  refine K_keep (Weak.drop (Weak.refl _)) ?_
  refine O_new rfl rfl (W_store rfl rfl rfl rfl ty_sc_22 rfl .h6 (by simp [ledV]) (K_new (oP rfl (pF ty_fl_30_1) (k:=?_))))
  refine O_new rfl rfl (W_store rfl rfl rfl rfl ty_sc_28 rfl .h6 (by simp [ledV]) (K_new (O_nil ?_)))
  refine St.env (cE 4 rfl (cE 5 rfl (cE 7 rfl (cE 10 rfl (cE 13 rfl (cE 14 rfl (cE 15 rfl .nil))))))) (qT (rS ?_))
  refine St.res (rs' := [REG q sg rc, ownS 50 5 (.slice (some ⟨fb, 0, none⟩) l.length fc) (l.length) (Go.Proofs.YtcngmkjdpoiiaaaGreatDoor.rc (l)), ownS 175 4 (.slice vb r.length vc) (r.length) (Go.Proofs.YtcngmkjdpoiiaaaGreatDoor.rc (r)), blk b14 (ledV (.slice none 0 0) (.slice none 0 0) 0 0) 30, blk b13 x.cells 67, blk b10 p.cells 25, blk b7 (ledV (.slice (some ⟨fb, 0, none⟩) l.length fc) (.slice vb r.length vc) (bu) su) 30]) (Weak.pick (p := [_, _]) (Weak.pick (p := [_]) (Weak.keep (Weak.keep (Weak.keep (Weak.keep (Weak.keep (Weak.nil _)))))))) ?_
  refine R_open [(0, 0), (1, 1), (2, 1), (3, 0), (4, 1), (5, 2), (6, 0), (7, 0)] mixed (by kernel_rfl) (QOk.then QOk.body) (oP rfl (pF ty_fl_30_0) (k:=oV rfl (vB ty_sc_22 .h6) (k:=oV rfl (vG ty_ag_30 .h6) (k:=oP rfl (pF ty_fl_67_1) (k:=oV rfl (vB ty_sc_26 .h4) (k:=?_))))))
  refine O_keep rfl rfl (W_callV rfl rfl rfl rfl fn_ca_83 (place_ok (some ⟨fb, 0, none⟩) fc l hfc (by omega) (.slice vb r.length vc) rfl bu su x.frm) ((Sn.own .h1 rfl).rw_) (K_keep (Weak.refl _) ?_))
  refine E_as (t := 47) (v' := .int .i64 ((spotI l x.frm : Nat) : Int)) rfl (by unfold placeI; rw [if_pos (show spotB l x.frm = true from hC.frm)]) ?_
  refine oP rfl (P_ixs (spotI l x.frm) rfl ty_sl_22 rfl rfl (by first | rfl | omega) (by omega)) (k:=oP rfl pA (k:=O_nil ?_))
  refine St.env (cE 4 rfl (cE 5 rfl (cE 7 rfl (cE 10 rfl (cE 13 rfl (cE 14 rfl (cE 15 rfl (cE 17 rfl .nil)))))))) (qT (rT (lM (k:=lP pN (k:=lP (pG ty_fl_50_3) (k:=?_))))))
  refine lV (V_load rfl rfl ty_sc_23 (rd_rc (rds_own .h1) hA rfl)) (k:=?_)
  refine lP (P_addN rfl rfl rfl (by simp only [fits]; omega)) (k:=lP pN (k:=lP (pG ty_fl_50_3) (k:=?_)))
  refine lO (W_setRec (sz := 5) (j := 3) (z := ⟨(senderA (⟨l, r, bu, su⟩ : Led) x).a, (senderA (⟨l, r, bu, su⟩ : Led) x).bal, (senderA (⟨l, r, bu, su⟩ : Led) x).bond, (senderA (⟨l, r, bu, su⟩ : Led) x).non + 1, (senderA (⟨l, r, bu, su⟩ : Led) x).jail⟩) rfl rfl rfl rfl ty_sc_23 rfl (hA) rfl (by decide) rfl .h1 ?_)
  refine lQ (cE 4 rfl (cE 5 rfl (cE 7 rfl (cE 10 rfl (cE 13 rfl (cE 14 rfl (cE 15 rfl (cE 17 rfl .nil)))))))) (rS ?_)
  have hA1 := accAt_set hlt (⟨(senderA (⟨l, r, bu, su⟩ : Led) x).a, (senderA (⟨l, r, bu, su⟩ : Led) x).bal, (senderA (⟨l, r, bu, su⟩ : Led) x).bond, (senderA (⟨l, r, bu, su⟩ : Led) x).non + 1, (senderA (⟨l, r, bu, su⟩ : Led) x).jail⟩ : Acc)
  refine R_open [(0, 0), (1, 0), (2, 0), (3, 1), (4, 1), (5, 2), (6, 0), (7, 0), (8, 0), (9, 3)] mixed (by kernel_rfl) (QOk.then QOk.body) (oP rfl pM (k:=oP rfl pN (k:=oP rfl (pG ty_fl_50_1) (k:=?_))))
  refine oV rfl (V_load rfl rfl ty_sc_23 (rd_rc (rds_own .h1) hA1 rfl)) (k:=?_)
  refine oV rfl (V_loadAgg rfl rfl ty_ag_67 (Rds.blk .h4) (hx.cellsLen)) (k:=?_)
  refine O_keep rfl rfl (W_callV rfl rfl rfl rfl fn_ca_152 (spends_ok x hx hF.amt hF.fee) (fun _ _ => trivial) (K_keep (Weak.refl _) ?_))
  refine oP rfl (P_subN rfl rfl rfl (by simp only [fits]; omega)) (k:=oP rfl pN (k:=oP rfl (pG ty_fl_50_1) (k:=?_)))
  refine O_new rfl rfl (W_setRec (sz := 5) (j := 1) (z := (payer x (senderA (⟨l, r, bu, su⟩ : Led) x))) rfl rfl rfl rfl ty_sc_23 rfl (hA1) rfl (by decide) rfl .h1 (K_new (O_nil ?_)))
  refine St.env (cE 4 rfl (cE 5 rfl (cE 7 rfl (cE 10 rfl (cE 13 rfl (cE 14 rfl (cE 15 rfl (cE 17 rfl .nil)))))))) (qT ?_)
  refine R_joinE (G := Nat × Nat × Nat × Option Addr × Nat × Nat) (cE 5 rfl (cE 7 rfl (cE 13 rfl (cE 14 rfl (cE 15 rfl .nil))))) (fun g => []) (fun g => [REG q sg rc, ownS 50 5 (.slice (some ⟨g.1, 0, none⟩) g.2.1 g.2.2.1) (g.2.1) (Go.Proofs.YtcngmkjdpoiiaaaGreatDoor.rc ((accK (⟨l, r, bu, su⟩ : Led) x))), ownS 175 4 (.slice g.2.2.2.1 g.2.2.2.2.1 g.2.2.2.2.2) (g.2.2.2.2.1) (Go.Proofs.YtcngmkjdpoiiaaaGreatDoor.rc ((relK (⟨l, r, bu, su⟩ : Led) p h x))), blk b14 (ledV (.slice none 0 0) (.slice none 0 0) 0 0) 30, blk b13 x.cells 67, blk b10 p.cells 25, blk b7 (ledV (.slice (some ⟨g.1, 0, none⟩) g.2.1 g.2.2.1) (.slice g.2.2.2.1 g.2.2.2.2.1 g.2.2.2.2.2) (bu) su) 30]) (fun g => g.2.1 = (accK (⟨l, r, bu, su⟩ : Led) x).length ∧ g.2.1 ≤ g.2.2.1 ∧ g.2.2.2.2.1 = (relK (⟨l, r, bu, su⟩ : Led) p h x).length ∧ g.2.2.2.2.1 ≤ g.2.2.2.2.2) ?_ ?_
  ·skip
   refine rS ?_
   refine St.res (rs' := [REG q sg rc, ownS 50 5 (.slice (some ⟨fb, 0, none⟩) l.length fc) (l.length) (Go.Proofs.YtcngmkjdpoiiaaaGreatDoor.rc ((paidL (⟨l, r, bu, su⟩ : Led) x))), ownS 175 4 (.slice vb r.length vc) (r.length) (Go.Proofs.YtcngmkjdpoiiaaaGreatDoor.rc (r)), blk b14 (ledV (.slice none 0 0) (.slice none 0 0) 0 0) 30, blk b13 x.cells 67, blk b10 p.cells 25, blk b7 (ledV (.slice (some ⟨fb, 0, none⟩) l.length fc) (.slice vb r.length vc) (bu) su) 30]) (Weak.keep (Weak.trans (ownS.to1 rfl (by rw [List.set_set]; rfl)) (Weak.refl _))) ?_
   have hP : (paidL (⟨l, r, bu, su⟩ : Led) x)[spotI l x.frm]? = some (payer x (senderA (⟨l, r, bu, su⟩ : Led) x)) := accAt_set hlt _
   have hL1 := paidL_length (⟨l, r, bu, su⟩ : Led) x
   have hL1' : (paidL (⟨l, r, bu, su⟩ : Led) x).length = l.length := hL1
   refine rR (lP (pF ty_fl_67_0) (k:=lV (vB ty_sc_3 .h4) (k:=?_)))
   refine lQ (cE 4 rfl (cE 5 rfl (cE 7 rfl (cE 10 rfl (cE 13 rfl (cE 14 rfl (cE 15 rfl (cE 17 rfl (cE 66 rfl .nil))))))))) (R_block (rT (lP pEq (k:=?_))))
   refine E_bool (t := 68) rfl (fun k1 => ?_) (fun k1 => ?_)
   ·skip
    have k1 := of_decide_eq_true k1
    have haK : accK (⟨l, r, bu, su⟩ : Led) x = payP (paidL (⟨l, r, bu, su⟩ : Led) x) x.to x.amt := by unfold accK; rw [if_pos k1]
    have hrK : relK (⟨l, r, bu, su⟩ : Led) p h x = r := by unfold relK; rw [if_neg (by omega)]
    refine lA (k:=?_)
    refine lQ (cE 4 rfl (cE 5 rfl (cE 7 rfl (cE 10 rfl (cE 13 rfl (cE 14 rfl (cE 15 rfl (cE 17 rfl (cE 66 rfl (cE 67 rfl .nil)))))))))) (kT (k:=rT (lV (vG ty_ag_30 .h6) (k:=lP (pF ty_fl_67_2) (k:=lV (vB ty_sc_26 .h4) (k:=?_))))))
    refine lO (W_callV rfl rfl rfl rfl fn_ca_99 ((by have h9 := spot_ok (gl := gl) (some ⟨fb, 0, none⟩) fc (paidL (⟨l, r, bu, su⟩ : Led) x) (by rw [hL1']; exact hfc) (by rw [hL1']; omega) (.slice vb r.length vc) rfl bu su x.to; rw [hL1'] at h9; exact h9)) ((Sn.own .h1 rfl).rw_) (lM (k:=lP pX (k:=lP pX (k:=lA (k:=lA (k:=?_)))))))
    refine lQ (cE 5 rfl (cE 7 rfl (cE 13 rfl (cE 14 rfl (cE 15 rfl (cE 18 rfl (cE 19 rfl .nil))))))) ?_
    refine R_joinE (G := Nat × Nat × Nat) (cE 5 rfl (cE 7 rfl (cE 13 rfl (cE 14 rfl (cE 15 rfl (cE 18 rfl .nil)))))) (fun g => []) (fun g => [REG q sg rc, ownS 50 5 (.slice (some ⟨g.1, 0, none⟩) g.2.1 g.2.2) (g.2.1) (Go.Proofs.YtcngmkjdpoiiaaaGreatDoor.rc ((midA (paidL (⟨l, r, bu, su⟩ : Led) x) x.to))), ownS 175 4 (.slice vb r.length vc) (r.length) (Go.Proofs.YtcngmkjdpoiiaaaGreatDoor.rc (r)), blk b14 (ledV (.slice none 0 0) (.slice none 0 0) 0 0) 30, blk b13 x.cells 67, blk b10 p.cells 25, blk b7 (ledV (.slice (some ⟨g.1, 0, none⟩) g.2.1 g.2.2) (.slice vb r.length vc) (bu) su) 30]) (fun g => g.2.1 = (midA (paidL (⟨l, r, bu, su⟩ : Led) x) x.to).length ∧ g.2.1 ≤ g.2.2) ?_ ?_
    ·skip
     refine rT (lM (k:=lP pO (k:=?_)))
     refine lQ (cE 5 rfl (cE 7 rfl (cE 13 rfl (cE 14 rfl (cE 15 rfl (cE 18 rfl (cE 77 rfl .nil))))))) ?_
     refine R_cond rfl (fun hto => ?_) (fun hto => ?_)
     ·skip
      have hto : spotB (paidL (⟨l, r, bu, su⟩ : Led) x) x.to = false := by simpa using hto
      have hmid := midA_no hto
      have hil := insL_length (spotI_le (paidL (⟨l, r, bu, su⟩ : Led) x) x.to) (⟨x.to, 0, 0, 0, false⟩ : Acc)
      refine rR (lP (pF ty_fl_30_0) (k:=lV (vB ty_sc_22 .h6) (k:=lM (k:=lP (pF ty_fl_67_2) (k:=lV (vB ty_sc_26 .h4) (k:=?_))))))
      refine lP (P_buildStruct rfl ty_pl_50 ty_ze_50 rfl rfl (rfl)) (k:=?_)
      refine E_as (t := 83) (v' := .agg (⟨x.to, 0, 0, 0, false⟩ : Acc).cells.toArray) rfl (rfl) ?_
      refine lO (W_litZ (z := .nilIface) (Rec.cells (⟨x.to, 0, 0, 0, false⟩ : Acc)) rfl rfl rfl ty_sl_22 ty_lz_22 rfl rfl rfl (by decide) (by decide) (by intro v hv; simp only [List.mem_cons, List.not_mem_nil, or_false] at hv; subst hv; rfl) (by rfl) fun b84 => ?_)
      have h9a := insA_ok (gl := gl) (some ⟨fb, 0, none⟩) fc (paidL (⟨l, r, bu, su⟩ : Led) x) (spotI (paidL (⟨l, r, bu, su⟩ : Led) x) x.to) (⟨x.to, 0, 0, 0, false⟩ : Acc) b84 (spotI_le _ _) (by rw [hL1']; exact hfc) (by rw [hL1']; omega)
      rw [hL1'] at h9a
      refine lO (W_call rfl rfl rfl rfl fn_ca_153 (h9a) (Weak.pick (p := [_, _]) (Weak.keep (Weak.keep (Weak.keep (Weak.keep (Weak.keep (Weak.keep (Weak.keep (Weak.nil _))))))))) (fun _ _ _ _ _ _ _ => trivial) fun v1 rs1 (e1 : rs1 = _) => ?_)
      subst e1
      refine St.ownSome (p := []) (by omega) fun gb gc huv hgc => ?_
      subst huv
      refine lP (pF ty_fl_30_0) (k:=?_)
      refine lO (W_store rfl rfl rfl rfl ty_sc_22 rfl .h6 (by simp [ledV]) ?_)
      refine lE (cE 5 rfl (cE 7 rfl (cE 13 rfl (cE 14 rfl (cE 15 rfl (cE 18 rfl .nil)))))) ?_
      exact Q_meet (gb, l.length + 1, gc) (by show (l.length + 1) = (midA (paidL (⟨l, r, bu, su⟩ : Led) x) x.to).length ∧ (l.length + 1) ≤ (gc); exact ⟨by rw [hmid, hil, hL1'], hgc⟩) (by repeat (first | exact .nil | refine .cons rfl ?_ | refine .consE rfl (by first | rfl | (congr 1; omega) | (congr 1; push_cast; omega)) ?_)) (Weak.trans (Weak.pick (p := [_]) (Weak.keep (Weak.keep (Weak.keep (Weak.keep (Weak.keep (Weak.keep (Weak.nil _)))))))) (Weak.keep (ownS.to1 rfl (by rw [hmid]))))
     ·skip
      have hto : spotB (paidL (⟨l, r, bu, su⟩ : Led) x) x.to = true := by simpa using hto
      have hmid := midA_yes hto
      refine R_skip ?_
      exact Q_meet (fb, l.length, fc) (by show (l.length) = (midA (paidL (⟨l, r, bu, su⟩ : Led) x) x.to).length ∧ (l.length) ≤ (fc); exact ⟨by rw [hmid, hL1'], hfc⟩) (by repeat (first | exact .nil | refine .cons rfl ?_ | refine .consE rfl (by first | rfl | (congr 1; omega) | (congr 1; push_cast; omega)) ?_)) (Weak.keep (ownS.to1 rfl (by rw [hmid])))
    ·rintro ⟨gb, gn, gc⟩ hinv
     replace hinv : gn = (midA (paidL (⟨l, r, bu, su⟩ : Led) x) x.to).length ∧ gn ≤ gc := hinv
     show St (cx gl) _ _ [REG q sg rc, ownS 50 5 (.slice (some ⟨gb, 0, none⟩) gn gc) (gn) (Go.Proofs.YtcngmkjdpoiiaaaGreatDoor.rc ((midA (paidL (⟨l, r, bu, su⟩ : Led) x) x.to))), ownS 175 4 (.slice vb r.length vc) (r.length) (Go.Proofs.YtcngmkjdpoiiaaaGreatDoor.rc (r)), blk b14 (ledV (.slice none 0 0) (.slice none 0 0) 0 0) 30, blk b13 x.cells 67, blk b10 p.cells 25, blk b7 (ledV (.slice (some ⟨gb, 0, none⟩) gn gc) (.slice vb r.length vc) (bu) su) 30] _
     obtain ⟨hgn, hgc⟩ := hinv
     have hMl : (spotI (paidL (⟨l, r, bu, su⟩ : Led) x) x.to) < gn := by rw [hgn]; exact midA_lt _ _
     have hM : (midA (paidL (⟨l, r, bu, su⟩ : Led) x) x.to)[(spotI (paidL (⟨l, r, bu, su⟩ : Led) x) x.to)]? = some (accAt (midA (paidL (⟨l, r, bu, su⟩ : Led) x) x.to) (spotI (paidL (⟨l, r, bu, su⟩ : Led) x) x.to)) := accAt_get (midA_lt _ _)
     refine R_open [(0, 0), (1, 1), (2, 0), (3, 0), (4, 0), (5, 1), (6, 0), (7, 1), (8, 0), (9, 0), (10, 0), (11, 3)] mixed (by kernel_rfl) (QOk.block (QOk.then QOk.body)) (oP rfl (pF ty_fl_30_0) (k:=oV rfl (vB ty_sc_22 .h6) (k:=oP rfl pM (k:=?_))))
     refine oP rfl (P_ixs ((spotI (paidL (⟨l, r, bu, su⟩ : Led) x) x.to)) rfl ty_sl_22 rfl rfl (by first | rfl | omega) (by omega)) (k:=oP rfl (pG ty_fl_50_1) (k:=?_))
     refine oV rfl (V_load rfl rfl ty_sc_23 (rd_rc (rds_own .h1) hM rfl)) (k:=oP rfl (pF ty_fl_67_3) (k:=oV rfl (vB ty_sc_23 .h4) (k:=?_)))
     refine oP rfl (P_add rfl rfl rfl) (k:=?_)
     refine oP rfl (P_ixs ((spotI (paidL (⟨l, r, bu, su⟩ : Led) x) x.to)) rfl ty_sl_22 rfl rfl (by first | rfl | omega) (by omega)) (k:=oP rfl (pG ty_fl_50_1) (k:=?_))
     refine O_new rfl rfl (W_setRec (sz := 5) (j := 1) (z := addBal x.amt (accAt (midA (paidL (⟨l, r, bu, su⟩ : Led) x) x.to) (spotI (paidL (⟨l, r, bu, su⟩ : Led) x) x.to))) rfl rfl rfl rfl ty_sc_23 rfl (hM) rfl (by decide) rfl .h1 (K_new (O_nil ?_)))
     refine St.env (cE 5 rfl (cE 7 rfl (cE 13 rfl (cE 14 rfl (cE 15 rfl .nil))))) (Q_block ?_)
     exact Q_meet (gb, gn, gc, vb, r.length, vc) (by show (gn) = (accK (⟨l, r, bu, su⟩ : Led) x).length ∧ (gn) ≤ (gc) ∧ (r.length) = (relK (⟨l, r, bu, su⟩ : Led) p h x).length ∧ (r.length) ≤ (vc); exact ⟨by rw [haK]; unfold payP; rw [List.length_set]; exact hgn, hgc, by rw [hrK], hvc⟩) (by repeat (first | exact .nil | refine .cons rfl ?_ | refine .consE rfl (by first | rfl | (congr 1; omega) | (congr 1; push_cast; omega)) ?_)) (Weak.keep (Weak.trans (ownS.to1 rfl (by rw [haK]; rfl)) (Weak.keep (ownS.to1 rfl (by rw [hrK])))))
   ·skip
    have k1 := of_decide_eq_false k1
    refine lA (k:=?_)
    refine lQ (cE 4 rfl (cE 5 rfl (cE 7 rfl (cE 10 rfl (cE 13 rfl (cE 14 rfl (cE 15 rfl (cE 17 rfl (cE 66 rfl (cE 67 rfl .nil)))))))))) (kF (k:=rT (lP pEq (k:=?_))))
    refine E_bool (t := 99) rfl (fun k2 => ?_) (fun k2 => ?_)
    ·skip
     have k2 := of_decide_eq_true k2
     have haK : accK (⟨l, r, bu, su⟩ : Led) x = l.set (spotI l x.frm) (addBond x.amt (payer x (senderA (⟨l, r, bu, su⟩ : Led) x))) := by unfold accK; rw [if_neg k1, if_pos k2]
     have hrK : relK (⟨l, r, bu, su⟩ : Led) p h x = r := by unfold relK; rw [if_neg (by omega)]
     refine lA (k:=?_)
     refine lQ (cE 4 rfl (cE 5 rfl (cE 7 rfl (cE 10 rfl (cE 13 rfl (cE 14 rfl (cE 15 rfl (cE 17 rfl (cE 66 rfl (cE 98 rfl .nil)))))))))) (kT (k:=?_))
     refine R_open [(0, 0), (1, 0), (2, 0), (3, 1), (4, 0), (5, 1), (6, 0), (7, 0), (8, 0), (9, 3)] mixed (by kernel_rfl) (QOk.block (QOk.then QOk.body)) (oP rfl pM (k:=oP rfl pN (k:=oP rfl (pG ty_fl_50_2) (k:=?_))))
     refine oV rfl (V_load rfl rfl ty_sc_23 (rd_rc (rds_own .h1) hP rfl)) (k:=oP rfl (pF ty_fl_67_3) (k:=oV rfl (vB ty_sc_23 .h4) (k:=?_)))
     refine oP rfl (P_add rfl rfl rfl) (k:=oP rfl pN (k:=oP rfl (pG ty_fl_50_2) (k:=?_)))
     refine O_new rfl rfl (W_setRec (sz := 5) (j := 2) (z := addBond x.amt (payer x (senderA (⟨l, r, bu, su⟩ : Led) x))) rfl rfl rfl rfl ty_sc_23 rfl (hP) rfl (by decide) rfl .h1 (K_new (O_nil ?_)))
     refine St.env (cE 5 rfl (cE 7 rfl (cE 13 rfl (cE 14 rfl (cE 15 rfl .nil))))) (Q_block ?_)
     exact Q_meet (fb, l.length, fc, vb, r.length, vc) (by show (l.length) = (accK (⟨l, r, bu, su⟩ : Led) x).length ∧ (l.length) ≤ (fc) ∧ (r.length) = (relK (⟨l, r, bu, su⟩ : Led) p h x).length ∧ (r.length) ≤ (vc); exact ⟨by rw [haK, List.length_set], hfc, by rw [hrK], hvc⟩) (by repeat (first | exact .nil | refine .cons rfl ?_ | refine .consE rfl (by first | rfl | (congr 1; omega) | (congr 1; push_cast; omega)) ?_)) (Weak.keep (Weak.trans (ownS.to1 rfl (by rw [haK]; exact congrArg _ (List.set_set ..))) (Weak.keep (ownS.to1 rfl (by rw [hrK])))))
    ·skip
     have k2 := of_decide_eq_false k2
     refine lA (k:=?_)
     refine lQ (cE 4 rfl (cE 5 rfl (cE 7 rfl (cE 10 rfl (cE 13 rfl (cE 14 rfl (cE 15 rfl (cE 17 rfl (cE 66 rfl (cE 98 rfl .nil)))))))))) (kF (k:=rT (lP pEq (k:=?_))))
     refine E_bool (t := 110) rfl (fun k3 => ?_) (fun k3 => ?_)
     ·skip
      have k3 := of_decide_eq_true k3
      have haK : accK (⟨l, r, bu, su⟩ : Led) x = l.set (spotI l x.frm) (subBond x.amt (payer x (senderA (⟨l, r, bu, su⟩ : Led) x))) := by unfold accK; rw [if_neg k1, if_neg k2, if_pos k3]
      have hrK : relK (⟨l, r, bu, su⟩ : Led) p h x = relP r (h + p.p3) x.frm h x.amt := by unfold relK; rw [if_pos k3]
      have hsub : x.amt ≤ (senderA (⟨l, r, bu, su⟩ : Led) x).bond := by unfold kindE at hkd; rw [if_neg k1, if_pos k3] at hkd; split at hkd <;> omega
      refine lA (k:=?_)
      refine lQ (cE 4 rfl (cE 5 rfl (cE 7 rfl (cE 10 rfl (cE 13 rfl (cE 14 rfl (cE 15 rfl (cE 17 rfl (cE 66 rfl (cE 109 rfl .nil)))))))))) (kT (k:=rS ?_))
      refine R_open [(0, 0), (1, 0), (2, 0), (3, 1), (4, 0), (5, 1), (6, 0), (7, 0), (8, 0), (9, 3)] mixed (by kernel_rfl) (QOk.then (QOk.block (QOk.then QOk.body))) (oP rfl pM (k:=oP rfl pN (k:=oP rfl (pG ty_fl_50_2) (k:=?_))))
      refine oV rfl (V_load rfl rfl ty_sc_23 (rd_rc (rds_own .h1) hP rfl)) (k:=oP rfl (pF ty_fl_67_3) (k:=oV rfl (vB ty_sc_23 .h4) (k:=?_)))
      refine oP rfl (P_subN rfl rfl rfl (by have := hx.amt.1; show fits .u64 ((senderA (⟨l, r, bu, su⟩ : Led) x).bond - x.amt); simp only [fits]; omega)) (k:=oP rfl pN (k:=oP rfl (pG ty_fl_50_2) (k:=?_)))
      refine O_new rfl rfl (W_setRec (sz := 5) (j := 2) (z := subBond x.amt (payer x (senderA (⟨l, r, bu, su⟩ : Led) x))) rfl rfl rfl rfl ty_sc_23 rfl (hP) rfl (by decide) rfl .h1 (K_new (O_nil ?_)))
      refine St.env (cE 4 rfl (cE 5 rfl (cE 7 rfl (cE 10 rfl (cE 13 rfl (cE 14 rfl (cE 15 rfl .nil))))))) (qT (rS ?_))
      refine St.res (rs' := [REG q sg rc, ownS 50 5 (.slice (some ⟨fb, 0, none⟩) l.length fc) (l.length) (Go.Proofs.YtcngmkjdpoiiaaaGreatDoor.rc (l.set (spotI l x.frm) (subBond x.amt (payer x (senderA (⟨l, r, bu, su⟩ : Led) x))))), ownS 175 4 (.slice vb r.length vc) (r.length) (Go.Proofs.YtcngmkjdpoiiaaaGreatDoor.rc (r)), blk b14 (ledV (.slice none 0 0) (.slice none 0 0) 0 0) 30, blk b13 x.cells 67, blk b10 p.cells 25, blk b7 (ledV (.slice (some ⟨fb, 0, none⟩) l.length fc) (.slice vb r.length vc) (bu) su) 30]) (Weak.keep (ownS.to1 rfl (congrArg _ (List.set_set ..)))) (rR (lV (vG ty_ag_30 .h6) (k:=lM (k:=lP (pF ty_fl_25_3) (k:=lV (vB ty_sc_23 .h5) (k:=?_))))))
      refine lP (P_addN rfl rfl rfl (by have := hp3.1; simp only [fits]; omega)) (k:=lP (pF ty_fl_67_1) (k:=lV (vB ty_sc_26 .h4) (k:=?_)))
      refine lO (W_callV rfl rfl rfl rfl fn_ca_154 (row_ok (.slice (some ⟨fb, 0, none⟩) l.length fc) rfl vb vc r hvc (by omega) bu su (h + p.p3) x.frm) ((Sn.own .h2 rfl).rw_) (lM (k:=lP pX (k:=lP pX (k:=lA (k:=lA (k:=?_)))))))
      refine lQ (cE 4 rfl (cE 5 rfl (cE 7 rfl (cE 10 rfl (cE 13 rfl (cE 14 rfl (cE 15 rfl (cE 20 rfl (cE 21 rfl .nil))))))))) ?_
      refine R_joinE (G := Option Addr × Nat × Nat) (cE 5 rfl (cE 7 rfl (cE 13 rfl (cE 14 rfl (cE 15 rfl (cE 20 rfl .nil)))))) (fun g => []) (fun g => [REG q sg rc, ownS 50 5 (.slice (some ⟨fb, 0, none⟩) l.length fc) (l.length) (Go.Proofs.YtcngmkjdpoiiaaaGreatDoor.rc (l.set (spotI l x.frm) (subBond x.amt (payer x (senderA (⟨l, r, bu, su⟩ : Led) x))))), ownS 175 4 (.slice g.1 g.2.1 g.2.2) (g.2.1) (Go.Proofs.YtcngmkjdpoiiaaaGreatDoor.rc ((midR r (h + p.p3) x.frm h))), blk b14 (ledV (.slice none 0 0) (.slice none 0 0) 0 0) 30, blk b13 x.cells 67, blk b10 p.cells 25, blk b7 (ledV (.slice (some ⟨fb, 0, none⟩) l.length fc) (.slice g.1 g.2.1 g.2.2) (bu) su) 30]) (fun g => g.2.1 = (midR r (h + p.p3) x.frm h).length ∧ g.2.1 ≤ g.2.2) ?_ ?_
      ·skip
       refine rT (lM (k:=lP pO (k:=?_)))
       refine lQ (cE 4 rfl (cE 5 rfl (cE 7 rfl (cE 10 rfl (cE 13 rfl (cE 14 rfl (cE 15 rfl (cE 20 rfl (cE 132 rfl .nil))))))))) ?_
       refine R_cond rfl (fun hro => ?_) (fun hro => ?_)
       ·skip
        have hro : rowB r (h + p.p3) x.frm = false := by simpa using hro
        have hmid := midR_no (b := h) hro
        have hil := insL_length (rowI_le r (h + p.p3) x.frm) (⟨h + p.p3, x.frm, h, 0⟩ : Rel)
        refine rR (lP (pF ty_fl_30_1) (k:=lV (vB ty_sc_28 .h6) (k:=lM (k:=lM (k:=lP (pF ty_fl_25_3) (k:=lV (vB ty_sc_23 .h5) (k:=?_)))))))
        refine lP (P_addN rfl rfl rfl (by have := hp3.1; simp only [fits]; omega)) (k:=lP (pF ty_fl_67_1) (k:=lV (vB ty_sc_26 .h4) (k:=lM (k:=?_))))
        refine lP (P_buildStruct rfl ty_pl_175 ty_ze_175 rfl rfl (rfl)) (k:=?_)
        refine E_as (t := 143) (v' := .agg (⟨h + p.p3, x.frm, h, 0⟩ : Rel).cells.toArray) rfl (rfl) ?_
        refine lO (W_litZ (z := .nilIface) (Rec.cells (⟨h + p.p3, x.frm, h, 0⟩ : Rel)) rfl rfl rfl ty_sl_28 ty_lz_28 rfl rfl rfl (by decide) (by decide) (by intro v hv; simp only [List.mem_cons, List.not_mem_nil, or_false] at hv; subst hv; rfl) (by rfl) fun b144 => ?_)
        refine lO (W_call rfl rfl rfl rfl fn_ca_155 (insR_ok vb vc r (rowI r (h + p.p3) x.frm) (⟨h + p.p3, x.frm, h, 0⟩ : Rel) b144 (rowI_le _ _ _) hvc (by omega)) (Weak.pick (p := [_, _, _]) (Weak.keep (Weak.keep (Weak.keep (Weak.keep (Weak.keep (Weak.keep (Weak.keep (Weak.nil _))))))))) (fun _ _ _ _ _ _ _ => trivial) fun v1 rs1 (e1 : rs1 = _) => ?_)
        subst e1
        refine St.ownForm (p := []) fun ub uc huv huc => ?_
        subst huv
        refine lP (pF ty_fl_30_1) (k:=?_)
        refine lO (W_store rfl rfl rfl rfl ty_sc_28 rfl .h6 (by simp [ledV]) ?_)
        refine lE (cE 5 rfl (cE 7 rfl (cE 13 rfl (cE 14 rfl (cE 15 rfl (cE 20 rfl .nil)))))) ?_
        exact Q_meet (ub, r.length + 1, uc) (by show (r.length + 1) = (midR r (h + p.p3) x.frm h).length ∧ (r.length + 1) ≤ (uc); exact ⟨by rw [hmid, hil], huc⟩) (by repeat (first | exact .nil | refine .cons rfl ?_ | refine .consE rfl (by first | rfl | (congr 1; omega) | (congr 1; push_cast; omega)) ?_)) (Weak.trans (Weak.pick (p := [_]) (Weak.pick (p := [_]) (Weak.keep (Weak.keep (Weak.keep (Weak.keep (Weak.keep (Weak.nil _)))))))) (Weak.keep (Weak.keep (ownS.to1 rfl (by rw [hmid])))))
       ·skip
        have hro : rowB r (h + p.p3) x.frm = true := by simpa using hro
        have hmid := midR_yes (b := h) hro
        refine R_skip ?_
        exact Q_meet (vb, r.length, vc) (by show (r.length) = (midR r (h + p.p3) x.frm h).length ∧ (r.length) ≤ (vc); exact ⟨by rw [hmid], hvc⟩) (by repeat (first | exact .nil | refine .cons rfl ?_ | refine .consE rfl (by first | rfl | (congr 1; omega) | (congr 1; push_cast; omega)) ?_)) (Weak.keep (Weak.keep (ownS.to1 rfl (by rw [hmid]))))
      ·rintro ⟨hb, hn_, hc_⟩ hinv
       replace hinv : hn_ = (midR r (h + p.p3) x.frm h).length ∧ hn_ ≤ hc_ := hinv
       show St (cx gl) _ _ [REG q sg rc, ownS 50 5 (.slice (some ⟨fb, 0, none⟩) l.length fc) (l.length) (Go.Proofs.YtcngmkjdpoiiaaaGreatDoor.rc (l.set (spotI l x.frm) (subBond x.amt (payer x (senderA (⟨l, r, bu, su⟩ : Led) x))))), ownS 175 4 (.slice hb hn_ hc_) (hn_) (Go.Proofs.YtcngmkjdpoiiaaaGreatDoor.rc ((midR r (h + p.p3) x.frm h))), blk b14 (ledV (.slice none 0 0) (.slice none 0 0) 0 0) 30, blk b13 x.cells 67, blk b10 p.cells 25, blk b7 (ledV (.slice (some ⟨fb, 0, none⟩) l.length fc) (.slice hb hn_ hc_) (bu) su) 30] _
       obtain ⟨hhn, hhc⟩ := hinv
       have hMl := midR_lt r (h + p.p3) x.frm h
       have hM : (midR r (h + p.p3) x.frm h)[(rowI r (h + p.p3) x.frm)]? = some (relAt (midR r (h + p.p3) x.frm h) (rowI r (h + p.p3) x.frm)) := relAt_get hMl
       refine St.ownSome (p := [_, _]) (by omega) fun rbb rcc hrv hrc => ?_
       simp only [Value.slice.injEq, true_and] at hrv
       obtain ⟨rfl, rfl⟩ := hrv
       refine R_open [(0, 0), (1, 1), (2, 0), (3, 0), (4, 0), (5, 1), (6, 0), (7, 1), (8, 0), (9, 0), (10, 0), (11, 3)] mixed (by kernel_rfl) (QOk.block (QOk.then QOk.body)) (oP rfl (pF ty_fl_30_1) (k:=oV rfl (vB ty_sc_28 .h6) (k:=oP rfl pM (k:=?_))))
       refine oP rfl (P_ixs ((rowI r (h + p.p3) x.frm)) rfl ty_sl_28 rfl rfl (by first | rfl | omega) (by omega)) (k:=oP rfl (pG ty_fl_175_3) (k:=?_))
       refine oV rfl (V_load rfl rfl ty_sc_23 (rd_rc (rds_own .h2) hM rfl)) (k:=oP rfl (pF ty_fl_67_3) (k:=oV rfl (vB ty_sc_23 .h4) (k:=?_)))
       refine oP rfl (P_add rfl rfl rfl) (k:=?_)
       refine oP rfl (P_ixs ((rowI r (h + p.p3) x.frm)) rfl ty_sl_28 rfl rfl (by first | rfl | omega) (by omega)) (k:=oP rfl (pG ty_fl_175_3) (k:=?_))
       refine O_new rfl rfl (W_setRec (sz := 4) (j := 3) (z := addAmt x.amt (relAt (midR r (h + p.p3) x.frm h) (rowI r (h + p.p3) x.frm))) rfl rfl rfl rfl ty_sc_23 rfl (hM) rfl (by decide) rfl .h2 (K_new (O_nil ?_)))
       refine St.env (cE 5 rfl (cE 7 rfl (cE 13 rfl (cE 14 rfl (cE 15 rfl .nil))))) (Q_block ?_)
       exact Q_meet (fb, l.length, fc, some ⟨rbb, 0, none⟩, hn_, hc_) (by show (l.length) = (accK (⟨l, r, bu, su⟩ : Led) x).length ∧ (l.length) ≤ (fc) ∧ (hn_) = (relK (⟨l, r, bu, su⟩ : Led) p h x).length ∧ (hn_) ≤ (hc_); exact ⟨by rw [haK, List.length_set], hfc, by rw [hrK]; unfold relP; rw [List.length_set]; exact hhn, hhc⟩) (by repeat (first | exact .nil | refine .cons rfl ?_ | refine .consE rfl (by first | rfl | (congr 1; omega) | (congr 1; push_cast; omega)) ?_)) (Weak.keep (Weak.trans (ownS.to1 rfl (by rw [haK])) (Weak.keep (ownS.to1 rfl (by rw [hrK]; rfl)))))
     ·skip
      have k3 := of_decide_eq_false k3
      refine lA (k:=?_)
      refine lQ (cE 4 rfl (cE 5 rfl (cE 7 rfl (cE 10 rfl (cE 13 rfl (cE 14 rfl (cE 15 rfl (cE 17 rfl (cE 66 rfl (cE 109 rfl .nil)))))))))) (kF (k:=rT (lP pEq (k:=?_))))
      refine E_true (t := 159) rfl (decide_eq_true (by have := hF.k1; have := hF.k2; omega)) (lA (k:=?_))
      refine lQ (cE 5 rfl (cE 7 rfl (cE 13 rfl (cE 14 rfl (cE 15 rfl (cE 17 rfl (cE 158 rfl .nil))))))) (kT (k:=?_))
      have k4 : x.kind = 4 := by have := hF.k1; have := hF.k2; omega
      have haK : accK (⟨l, r, bu, su⟩ : Led) x = l.set (spotI l x.frm) (unjail (payer x (senderA (⟨l, r, bu, su⟩ : Led) x))) := by unfold accK; rw [if_neg k1, if_neg k2, if_neg k3, if_pos k4]
      have hrK : relK (⟨l, r, bu, su⟩ : Led) p h x = r := by unfold relK; rw [if_neg (by omega)]
      refine rR (lM (k:=lP pN (k:=lP (pG ty_fl_50_4) (k:=?_))))
      refine lO (W_setRec (sz := 5) (j := 4) (z := unjail (payer x (senderA (⟨l, r, bu, su⟩ : Led) x))) rfl rfl rfl rfl ty_sc_4 rfl (hP) rfl (by decide) rfl .h1 ?_)
      refine lE (cE 5 rfl (cE 7 rfl (cE 13 rfl (cE 14 rfl (cE 15 rfl .nil))))) (Q_block ?_)
      exact Q_meet (fb, l.length, fc, vb, r.length, vc) (by show (l.length) = (accK (⟨l, r, bu, su⟩ : Led) x).length ∧ (l.length) ≤ (fc) ∧ (r.length) = (relK (⟨l, r, bu, su⟩ : Led) p h x).length ∧ (r.length) ≤ (vc); exact ⟨by rw [haK, List.length_set], hfc, by rw [hrK], hvc⟩) (by repeat (first | exact .nil | refine .cons rfl ?_ | refine .consE rfl (by first | rfl | (congr 1; omega) | (congr 1; push_cast; omega)) ?_)) (Weak.keep (Weak.trans (ownS.to1 rfl (by rw [haK]; exact congrArg _ (List.set_set ..))) (Weak.keep (ownS.to1 rfl (by rw [hrK])))))
  ·rintro ⟨ab, an, ac, rb, rn, rcap⟩ hinv
   replace hinv : an = (accK (⟨l, r, bu, su⟩ : Led) x).length ∧ an ≤ ac ∧ rn = (relK (⟨l, r, bu, su⟩ : Led) p h x).length ∧ rn ≤ rcap := hinv
   show St (cx gl) _ _ [REG q sg rc, ownS 50 5 (.slice (some ⟨ab, 0, none⟩) an ac) (an) (Go.Proofs.YtcngmkjdpoiiaaaGreatDoor.rc ((accK (⟨l, r, bu, su⟩ : Led) x))), ownS 175 4 (.slice rb rn rcap) (rn) (Go.Proofs.YtcngmkjdpoiiaaaGreatDoor.rc ((relK (⟨l, r, bu, su⟩ : Led) p h x))), blk b14 (ledV (.slice none 0 0) (.slice none 0 0) 0 0) 30, blk b13 x.cells 67, blk b10 p.cells 25, blk b7 (ledV (.slice (some ⟨ab, 0, none⟩) an ac) (.slice rb rn rcap) (bu) su) 30] _
   obtain ⟨han, hac, hrn, hrc⟩ := hinv
   have hAle := accK_le (⟨l, r, bu, su⟩ : Led) x
   have hAle' : (accK (⟨l, r, bu, su⟩ : Led) x).length ≤ l.length + 1 := hAle
   refine rS (rT (lV (vG ty_ag_30 .h6) (k:=lM (k:=?_))))
   refine lO (W_callV rfl rfl rfl rfl fn_ca_83 ((by have h9 := place_ok (gl := gl) (some ⟨ab, 0, none⟩) ac (accK (⟨l, r, bu, su⟩ : Led) x) (by rw [← han]; exact hac) (by omega) (.slice rb rn rcap) rfl bu su by_; rw [← han] at h9; exact h9)) ((Sn.own .h1 rfl).rw_) (lA (k:=?_)))
   refine lQ (cE 7 rfl (cE 13 rfl (cE 14 rfl (cE 15 rfl (cE 22 rfl .nil))))) (rT (lM (k:=lP pGe (k:=?_))))
   refine lQ (cE 7 rfl (cE 13 rfl (cE 14 rfl (cE 15 rfl (cE 22 rfl (cE 167 rfl .nil)))))) ?_
   refine R_condP rfl (fun hq => ?_) (fun hq => ?_)
   ·skip
    have hB : spotB (accK (⟨l, r, bu, su⟩ : Led) x) by_ = true := by cases h9 : spotB (accK (⟨l, r, bu, su⟩ : Led) x) by_ with | true => rfl | false => exfalso; rw [show placeI (accK (⟨l, r, bu, su⟩ : Led) x) by_ = -1 by unfold placeI; rw [if_neg (by rw [h9]; decide)]] at hq; omega
    have hS := accAt_get (spotB_lt hB)
    have hBl : spotI (accK (⟨l, r, bu, su⟩ : Led) x) by_ < an := by rw [han]; exact spotB_lt hB
    have hAp : (appL rc ch (⟨l, r, bu, su⟩ : Led) p h by_ x) = ⟨(accK (⟨l, r, bu, su⟩ : Led) x).set (spotI (accK (⟨l, r, bu, su⟩ : Led) x) by_) (addBal x.fee (accAt (accK (⟨l, r, bu, su⟩ : Led) x) (spotI (accK (⟨l, r, bu, su⟩ : Led) x) by_))), (relK (⟨l, r, bu, su⟩ : Led) p h x), bu, su⟩ := by unfold appL; rw [if_pos he]; unfold appP; rw [if_pos hB]
    have hlen : an = (appL rc ch (⟨l, r, bu, su⟩ : Led) p h by_ x).acc.length := by rw [hAp]; show an = (List.set _ _ _).length; rw [List.length_set]; exact han
    have hlen2 : rn = (appL rc ch (⟨l, r, bu, su⟩ : Led) p h by_ x).rel.length := by rw [hAp]; exact hrn
    refine E_as (t := 22) (v' := .int .i64 ((spotI (accK (⟨l, r, bu, su⟩ : Led) x) by_ : Nat) : Int)) rfl (by unfold placeI; rw [if_pos hB]) ?_
    refine R_open [(0, 0), (1, 1), (2, 0), (3, 0), (4, 0), (5, 1), (6, 0), (7, 1), (8, 0), (9, 0), (10, 0), (11, 3)] mixed (by kernel_rfl) (QOk.then QOk.body) (oP rfl (pF ty_fl_30_0) (k:=oV rfl (vB ty_sc_22 .h6) (k:=oP rfl pM (k:=?_))))
    refine oP rfl (P_ixs (spotI (accK (⟨l, r, bu, su⟩ : Led) x) by_) rfl ty_sl_22 rfl rfl (by first | rfl | omega) (by omega)) (k:=oP rfl (pG ty_fl_50_1) (k:=?_))
    refine oV rfl (V_load rfl rfl ty_sc_23 (rd_rc (rds_own .h1) hS rfl)) (k:=oP rfl (pF ty_fl_67_4) (k:=oV rfl (vB ty_sc_23 .h4) (k:=?_)))
    refine oP rfl (P_add rfl rfl rfl) (k:=?_)
    refine oP rfl (P_ixs (spotI (accK (⟨l, r, bu, su⟩ : Led) x) by_) rfl ty_sl_22 rfl rfl (by first | rfl | omega) (by omega)) (k:=oP rfl (pG ty_fl_50_1) (k:=?_))
    refine O_new rfl rfl (W_setRec (sz := 5) (j := 1) (z := addBal x.fee (accAt (accK (⟨l, r, bu, su⟩ : Led) x) (spotI (accK (⟨l, r, bu, su⟩ : Led) x) by_))) rfl rfl rfl rfl ty_sc_23 rfl (hS) rfl (by decide) rfl .h1 (K_new (O_nil ?_)))
    refine St.env (cE 7 rfl (cE 14 rfl (cE 15 rfl .nil))) (qT (rT (lV (vG ty_ag_30 .h6) (k:=?_))))
    refine lO (W_storeAll rfl rfl rfl rfl ty_ag_30 (rfl) (ledV_one _ _ _ _ rfl rfl) .h3 (rfl) (lA (k:=?_)))
    refine lQ (cE 14 rfl (cE 15 rfl .nil)) (R_ret ?_)
    exact R_end (rs2 := _) rfl rfl (.cell rfl (Rds.loadVar ty_ag_30 (Rds.blk .h3) rfl) (.tmp rfl .nil)) (⟨.slice (some ⟨ab, 0, none⟩) an ac, .slice rb rn rcap, by rw [hAp, he]; rfl, rfl⟩) (Weak.trans (Weak.pick (p := [_]) (Weak.pick (p := [_]) (Weak.keep (Weak.nil _)))) (Weak.trans (ownS.to1 hlen (by rw [hAp])) (Weak.keep (ownS.to1 hlen2 (by rw [hAp])))))
   ·skip
    have hB : spotB (accK (⟨l, r, bu, su⟩ : Led) x) by_ = false := by cases h9 : spotB (accK (⟨l, r, bu, su⟩ : Led) x) by_ with | false => rfl | true => exfalso; rw [show placeI (accK (⟨l, r, bu, su⟩ : Led) x) by_ = (spotI (accK (⟨l, r, bu, su⟩ : Led) x) by_ : Int) by unfold placeI; rw [if_pos h9]] at hq; omega
    have hAp : (appL rc ch (⟨l, r, bu, su⟩ : Led) p h by_ x) = ⟨(accK (⟨l, r, bu, su⟩ : Led) x), (relK (⟨l, r, bu, su⟩ : Led) p h x), w64 (bu + x.fee), su⟩ := by unfold appL; rw [if_pos he]; unfold appP; rw [if_neg (by rw [hB]; decide)]
    have hlen : an = (appL rc ch (⟨l, r, bu, su⟩ : Led) p h by_ x).acc.length := by rw [hAp]; exact han
    have hlen2 : rn = (appL rc ch (⟨l, r, bu, su⟩ : Led) p h by_ x).rel.length := by rw [hAp]; exact hrn
    refine rR (lP (pF ty_fl_30_2) (k:=lV (vB ty_sc_23 .h6) (k:=lP (pF ty_fl_67_4) (k:=lV (vB ty_sc_23 .h4) (k:=?_)))))
    refine lP (P_add rfl rfl rfl) (k:=lP (pF ty_fl_30_2) (k:=?_))
    refine lO (W_store rfl rfl rfl rfl ty_sc_23 rfl .h6 (by simp [ledV]) ?_)
    refine lQ (cE 7 rfl (cE 14 rfl (cE 15 rfl .nil))) (rT (lV (vG ty_ag_30 .h6) (k:=?_)))
    refine lO (W_storeAll rfl rfl rfl rfl ty_ag_30 (rfl) (ledV_one _ _ _ _ rfl rfl) .h3 (rfl) (lA (k:=?_)))
    refine lQ (cE 14 rfl (cE 15 rfl .nil)) (R_ret ?_)
    exact R_end (rs2 := _) rfl rfl (.cell rfl (Rds.loadVar ty_ag_30 (Rds.blk .h3) rfl) (.tmp rfl .nil)) (⟨.slice (some ⟨ab, 0, none⟩) an ac, .slice rb rn rcap, by rw [hAp, he]; rfl, rfl⟩) (Weak.trans (Weak.pick (p := [_]) (Weak.pick (p := [_]) (Weak.keep (Weak.nil _)))) (Weak.trans (ownS.to1 hlen (by rw [hAp])) (Weak.keep (ownS.to1 hlen2 (by rw [hAp])))))
end Go.Proofs.YtcngmkjdpoiiaaaGreatDoor

/- A signer: Sign. Printed by gen.py. -/
set_option maxRecDepth 100000
namespace Go.Proofs.YtcngmkjdpoiiaaaGreatDoor
open Go Go.RowKit Go.Proofs
theorem sd_at (a : Int) : ∀ (sd : List Sgd) (i j : Nat) (v : Value), findK a (sdM sd) i = some (j, v) → ∃ s, i ≤ j ∧ sd[j - i]? = some s ∧ s.v = v ∧ sd.find? (fun s => decide (s.a = a)) = some s ∧
  ∀ s' : Sgd, s'.a = a → (sd.set (j - i) s').find? (fun s => decide (s.a = a)) = some s' ∧ ∀ b, b ≠ a → (sd.set (j - i) s').find? (fun s => decide (s.a = b)) = sd.find? (fun s => decide (s.a = b))
 | [], _, _, _, h => by cases h
 | x :: sd, i, j, v, h => by
  unfold sdM at h
  rw [List.map_cons, findK] at h
  split at h
  ·rename_i e
   simp only [Option.some.injEq, Prod.mk.injEq] at h
   obtain ⟨rfl, rfl⟩ := h
   have e : a = x.a := e
   refine ⟨x, Nat.le_refl _, by simp, rfl, by simp [e], fun s' hs => ?_⟩
   rw [Nat.sub_self, List.set_cons_zero]
   refine ⟨by simp [hs], fun b hb => ?_⟩
   have h1 : decide (s'.a = b) = false := by simp [hs, Ne.symm hb]
   have h2 : decide (x.a = b) = false := by simp [← e, Ne.symm hb]
   rw [List.find?_cons, List.find?_cons, h1, h2]
  ·rename_i e
   have e : ¬ a = x.a := e
   obtain ⟨s, h1, h2, h3, h4, h5⟩ := sd_at a sd (i + 1) j v h
   have hj : j - i = (j - (i + 1)) + 1 := by omega
   have hx : decide (x.a = a) = false := by simp [Ne.symm e]
   refine ⟨s, by omega, by rw [hj, List.getElem?_cons_succ]; exact h2, h3, by rw [List.find?_cons, hx]; exact h4, fun s' hs => ?_⟩
   rw [hj, List.set_cons_succ]
   obtain ⟨h6, h7⟩ := h5 s' hs
   refine ⟨by rw [List.find?_cons, hx]; exact h6, fun b hb => ?_⟩
   rw [List.find?_cons, List.find?_cons, h7 b hb]
theorem msgsOf_snoc (rc : List Rcd) (a b : Int) (m : List Int) : msgsOf (rc ++ [(a, m)]) b = msgsOf rc b ++ (if a = b then [m] else []) := by
 unfold msgsOf
 rw [List.filter_append, List.map_append]
 congr 1
 by_cases h : a = b <;> simp [h]
theorem strV_snoc (ms : List (List Int)) (m : List Int) : strV ms ++ [.string (strOfNums m)] = strV (ms ++ [m]) := by simp [strV]
/-- The list of one address is taken out, read, put back as it was, or with one message more. -/
theorem sd_open {rc : List Rcd} {sd : List Sgd} (h : RegOK rc sd) (a : Int) : ∃ (v0 : Value) (REST : HP), lookV false (findK a (sdM sd) 0) (.slice none 0 0) = v0 ∧
  (∀ rs, Weak (fam sdH sd :: rs) (ownS 9 1 v0 (msgsOf rc a).length (strV (msgsOf rc a)) :: REST :: rs)) ∧ (∀ rs, Weak (ownS 9 1 v0 (msgsOf rc a).length (strV (msgsOf rc a)) :: REST :: rs) (fam sdH sd :: rs)) ∧
  (∀ (m : List Int) (v' : Value), IsB m → m.length ≤ 1048576 → ∃ sd', setK a v' (sdM sd) = sdM sd' ∧ RegOK (rc ++ [(a, m)]) sd' ∧ ∀ rs, Weak (ownS 9 1 v' ((msgsOf rc a).length + 1) (strV (msgsOf rc a) ++ [.string (strOfNums m)]) :: REST :: rs) (fam sdH sd' :: rs)) := by
 have hrc : ∀ m : List Int, IsB m → m.length ≤ 1048576 → ∀ x ∈ rc ++ [(a, m)], IsB x.2 ∧ x.2.length ≤ 1048576 := fun m h1 h2 x hx => by
  rcases List.mem_append.1 hx with hx | hx
  ·exact h.1 x hx
  ·simp only [List.mem_singleton] at hx; subst hx; exact ⟨h1, h2⟩
 cases hk : findK a (sdM sd) 0 with
 | none =>
  have hf := findK_map (fun s : Sgd => s.a) (fun s => s.v) a sd 0
  have hk' : findK a (sd.map fun x => (x.a, x.v)) 0 = none := hk
  rw [hk'] at hf
  have hn : sd.find? (fun s => decide (s.a = a)) = none := by
   cases e : sd.find? (fun s => decide (s.a = a)) with
   | none => rfl
   | some y => rw [e] at hf; cases hf
  have hm : msgsOf rc a = [] := by rw [← h.2 a, hn]; rfl
  rw [hm]
  refine ⟨.slice none 0 0, fam sdH sd, rfl, fun rs => Weak.newNil, fun rs => Weak.drop (Weak.refl _), fun m v' h1 h2 => ⟨sd ++ [⟨a, v', [m]⟩], ?_, ⟨hrc m h1 h2, fun b => ?_⟩, fun rs => ?_⟩⟩
  ·unfold setK; rw [hk]; simp [sdM]
  ·rw [msgsOf_snoc, List.find?_append]
   by_cases hb : a = b
   ·subst hb; rw [hn, hm]; simp
   ·have := h.2 b
    have hd : decide (a = b) = false := by simp [hb]
    simp only [List.find?_cons, hd, List.find?_nil, if_neg hb, List.append_nil, Option.or_none]
    exact this
  ·exact Weak.famAdd (f := sdH) (x := ⟨a, v', [m]⟩)
 | some p =>
  obtain ⟨j, v⟩ := p
  obtain ⟨s, _, hi, hv, hfd, hset⟩ := sd_at a sd 0 j v hk
  rw [Nat.sub_zero] at hi hset
  have hlt := (List.getElem?_eq_some_iff.1 hi).1
  have hm : s.ms = msgsOf rc a := by rw [← h.2 a, hfd]; rfl
  refine ⟨v, bundle [fam sdH (sd.take j), fam sdH (sd.drop (j + 1))], rfl, fun rs => ?_, fun rs => ?_, fun m v' h1 h2 => ⟨sd.set j ⟨a, v', s.ms ++ [m]⟩, ?_, ⟨hrc m h1 h2, fun b => ?_⟩, fun rs => ?_⟩⟩
  ·rw [← hm, ← hv]; exact (Weak.famOpen (f := sdH) hi).trans (Weak.keep (Weak.bundle (L := [_, _])))
  ·rw [← hm, ← hv]; exact (Weak.keep (Weak.unbundle (L := [_, _]))).trans (Weak.famShut (f := sdH) hi)
  ·unfold setK; rw [hk]
   show (sdM sd).set j (a, v') = _
   simp [sdM, List.map_set]
  ·rw [msgsOf_snoc]
   obtain ⟨g1, g2⟩ := hset ⟨a, v', s.ms ++ [m]⟩ rfl
   by_cases hb : a = b
   ·subst hb; rw [g1, if_pos rfl, ← hm]; rfl
   ·rw [g2 b (Ne.symm hb), if_neg hb, List.append_nil]; exact h.2 b
  ·have e : ownS 9 1 v' ((msgsOf rc a).length + 1) (strV (msgsOf rc a) ++ [.string (strOfNums m)]) = sdH ⟨a, v', s.ms ++ [m]⟩ := by
    unfold sdH; rw [hm, strV_snoc, List.length_append]; rfl
   rw [e]
   exact (Weak.keep (Weak.unbundle (L := [_, _]))).trans (Weak.famClose (f := sdH) hlt)
theorem set_rc {rc : List Rcd} {x : Rcd} (h : x ∉ rc) : setK x (.agg #[]) (rcM rc) = rcM (rc ++ [x]) := by
 have hk : findK x (rcM rc) 0 = none := findK_none.2 fun y hy e => by
  obtain ⟨z, hz, rfl⟩ := List.mem_map.1 hy
  exact h (by rw [← e]; exact hz)
 unfold setK; rw [hk]; simp [rcM]
theorem msgsOf_le (rc : List Rcd) (a : Int) : (msgsOf rc a).length ≤ rc.length := by
 unfold msgsOf; rw [List.length_map]; exact List.length_filter_le _ _
theorem sign_old {gl : Nat → Obj} (hG : Globs gl) (p : Nat) (sg : List (Int × Nat)) (rc : List Rcd) (i : Nat) (a : Int) (s : Nat) (hi : sg[i]? = some (a, s)) (base : Option Addr) (c : Nat) (xs : List Int) (hb : IsB xs) (hmax : xs.length ≤ 1048576) (hm : (a, xs) ∈ rc) : SpecR (cx gl) 125 [.pointer (some ⟨s, 0, none⟩), .slice base xs.length c] (fun w h => Seen w h base (ints .u8 xs)) [REG p sg rc] (.tuple #[.agg (ints .u8 (sealH a xs)).toArray, .int .i64 0]) [REG p sg rc] := by
 refine Spec.enterX (C := cx gl) Tryz.func125 rfl 86 rfl rfl fun w0 h0 hsep hsub hpre => ?_
 show St (cx gl) _ [(0, .pointer (some ⟨s, 0, none⟩)), (1, .slice base xs.length c)] _ _
 refine St.openP (p := []) (fun ⟨m1, m2, m3, sd⟩ hreg => ?_)
 refine St.unbundle [] (rT ?_)
 refine lO (W_alloc rfl rfl rfl ty_ze_65 fun b4 => lA (k:=?_))
 refine L_nil (qT (rS (rS ?_)))
 refine St.res (rs' := [blk p [.int .i32 0, .int .u32 0, .map (some m1), .map (some m2), .map (some m3)] 91, mapK kU64 m1 (sgM sg), mapK recK m2 (rcM rc), mapK kU64 m3 (sdM sd), fam (sgH p) sg, fam sdH sd, blk b4 (List.replicate 16 (.int .u8 0)) 65]) (Weak.p1 (Weak.p1 (Weak.p1 (Weak.p1 (Weak.p1 (Weak.p1 (Weak.refl _))))))) (rR (lM (k:=?_)))
 refine lP (P_eqNil rfl ty_ptr_220 rfl rfl) (k:=lM (k:=lM (k:=lP pN (k:=lP (pF ty_fl_305_0) (k:=?_)))))
 refine lV (V_load rfl rfl ty_sc_69 (by first | exact (rd_sg .h4 hi).1 | exact (rd_sg .h5 hi).1 | exact (rd_sg .h6 hi).1 | exact (rd_sg .h7 hi).1)) (k:=?_)
 refine lP (P_eqNil rfl ty_ptr_69 rfl rfl) (k:=lP pK (k:=?_))
 refine lQ (cE 0 rfl (cE 1 rfl (cE 4 rfl (cE 5 rfl (cE 18 rfl .nil))))) (kF (k:=R_skip (qT (rS (rT (lM (k:=lP (pL ty_sl_198) (k:=lP pGt (k:=?_)))))))))
 refine E_false (t := 22) rfl (decide_eq_false (by omega)) ?_
 refine lQ (cE 0 rfl (cE 1 rfl (cE 4 rfl (cE 5 rfl (cE 22 rfl .nil))))) (kF (k:=R_skip (qT (rT (lM (k:=lP pN (k:=lP (pF ty_fl_305_0) (k:=?_))))))))
 refine lV (V_load rfl rfl ty_sc_69 (by first | exact (rd_sg .h4 hi).1 | exact (rd_sg .h5 hi).1 | exact (rd_sg .h6 hi).1 | exact (rd_sg .h7 hi).1)) (k:=lA (k:=?_))
 refine lQ (cE 0 rfl (cE 1 rfl (cE 4 rfl (cE 5 rfl (cE 6 rfl .nil))))) (rT (lM (k:=lP pN (k:=lP (pF ty_fl_91_0) (k:=?_)))))
 refine lO (W_callR rfl rfl rfl rfl fn_ca_195 (lock_ok p 91 [.int .u32 0, .map (some m1), .map (some m2), .map (some m3)]) (Split.one (p := [])) (fun _ _ _ _ _ _ _ => trivial) ?_)
 refine St.res (rs' := [blk p [.int .i32 1, .int .u32 0, .map (some m1), .map (some m2), .map (some m3)] 91, mapK kU64 m1 (sgM sg), mapK recK m2 (rcM rc), mapK kU64 m3 (sdM sd), fam (sgH p) sg, fam sdH sd, blk b4 (List.replicate 16 (.int .u8 0)) 65]) (Weak.refl _) ?_
 refine lQ (cE 0 rfl (cE 1 rfl (cE 4 rfl (cE 5 rfl (cE 6 rfl .nil))))) (rT (lM (k:=lP pN (k:=lP (pF ty_fl_91_0) (k:=?_)))))
 refine lO (W_defer rfl rfl rfl ?_)
 refine lQ (cE 0 rfl (cE 1 rfl (cE 4 rfl (cE 5 rfl (cE 6 rfl .nil))))) (rS ?_)
 refine R_open [(0, 0), (1, 0), (2, 0), (3, 1), (4, 0), (5, 1), (6, 0), (7, 2), (8, 3)] mixed (by kernel_rfl) (QOk.then QOk.bodyX) (oP rfl pM (k:=oP rfl pN (k:=oP rfl (pF ty_fl_305_1) (k:=?_))))
 refine oV rfl (V_load rfl rfl ty_sc_26 (by first | exact (rd_sg .h4 hi).2 | exact (rd_sg .h5 hi).2 | exact (rd_sg .h6 hi).2 | exact (rd_sg .h7 hi).2)) (k:=oP rfl pM (k:=?_))
 refine oV rfl (V_str rfl (slB_spec ty_sl_198).1 ty_int_5 ty_str_9 rfl ((Sn.old hpre).rw_)) (k:=?_)
 refine oP rfl (P_buildStruct rfl ty_pl_307 ty_ze_307 rfl rfl (rfl)) (k:=?_)
 refine E_as (t := 41) (v' := .agg [.int .u64 a, .string (strOfNums xs)].toArray) rfl (rfl) ?_
 refine O_keep rfl rfl (W_alloc rfl rfl rfl ty_ze_307 fun b7 => (K_keep (Weak.drop (Weak.refl _)) ?_))
 refine O_new rfl rfl (W_storeAll rfl rfl rfl rfl ty_ag_307 (rfl) (by intro v hv; simp only [List.mem_cons, List.not_mem_nil, or_false] at hv; rcases hv with rfl | rfl <;> rfl) .h0 (rfl) (K_new (O_nil ?_)))
 refine St.env (cE 0 rfl (cE 1 rfl (cE 4 rfl (cE 5 rfl (cE 6 rfl (cE 7 rfl .nil)))))) (qT (rS (rS ?_)))
 refine St.res (rs' := [blk p [.int .i32 1, .int .u32 0, .map (some m1), .map (some m2), .map (some m3)] 91, mapK kU64 m1 (sgM sg), mapK recK m2 (rcM rc), mapK kU64 m3 (sdM sd), fam (sgH p) sg, fam sdH sd, blk b4 (List.replicate 16 (.int .u8 0)) 65, blk b7 [.int .u64 a, .string (strOfNums xs)] 307]) (Weak.p1 (Weak.p1 (Weak.p1 (Weak.p1 (Weak.p1 (Weak.p1 (Weak.p1 (Weak.refl _)))))))) ?_
 refine R_open [(0, 0), (1, 0), (2, 0), (3, 1), (4, 1), (5, 1), (6, 0), (7, 0), (8, 0), (9, 2), (10, 3), (11, 0)] mixed (by kernel_rfl) (QOk.then (QOk.then QOk.bodyX)) (oP rfl pM (k:=oP rfl pN (k:=oP rfl (pF ty_fl_91_2) (k:=?_))))
 refine oV rfl (V_load rfl rfl ty_sc_88 (by first | exact Rd.blk .h0 rfl | exact Rd.blk .h1 rfl | exact Rd.blk .h2 rfl | exact Rd.blk .h3 rfl | exact Rd.blk .h4 rfl | exact Rd.blk .h5 rfl | exact Rd.blk .h6 rfl | exact Rd.blk .h7 rfl)) (k:=oV rfl (vG ty_ag_307 .h7) (k:=?_))
 refine oV rfl (V_lookupK (k := (a, xs)) rfl ty_map_88 (keyRec rec_307) rfl rfl (hb) (rcM_ok hreg.1) .h2 (run_zeroValue_of ty_zv_80)) (k:=?_)
 refine E_as (t := 48) (v' := .tuple #[.agg #[], .bool (decide ((a, xs) ∈ rc))]) rfl (look_rc rc (a, xs)) (oP rfl pM (k:=oP rfl pX (k:=oP rfl pX (k:=?_))))
 refine O_keep rfl rfl (W_alloc rfl rfl rfl ty_ze_80 fun b8 => (K_keep (Weak.drop (Weak.refl _)) ?_))
 refine O_new rfl rfl (W_storeAll rfl rfl rfl rfl ty_ag_80 (rfl) (fun _ h => by cases h) .h0 (rfl) (K_new (oP rfl pA (k:=O_nil ?_))))
 refine St.env (cE 0 rfl (cE 1 rfl (cE 4 rfl (cE 5 rfl (cE 6 rfl (cE 7 rfl (cE 9 rfl .nil))))))) (qT (rS ?_))
 refine St.res (rs' := [blk p [.int .i32 1, .int .u32 0, .map (some m1), .map (some m2), .map (some m3)] 91, mapK kU64 m1 (sgM sg), mapK recK m2 (rcM rc), mapK kU64 m3 (sdM sd), fam (sgH p) sg, fam sdH sd, blk b4 (List.replicate 16 (.int .u8 0)) 65, blk b7 [.int .u64 a, .string (strOfNums xs)] 307]) (Weak.drop (Weak.refl _)) (rR (lM (k:=lP pO (k:=?_))))
 refine E_false (t := 52) rfl (by simp [hm]) ?_
 refine lQ (cE 0 rfl (cE 1 rfl (cE 4 rfl (cE 5 rfl (cE 6 rfl (cE 7 rfl (cE 52 rfl .nil))))))) (kF (k:=R_skip (qT (rT (lM (k:=lP pN (k:=lP (pF ty_fl_305_1) (k:=?_))))))))
 refine lV (V_load rfl rfl ty_sc_26 (by first | exact (rd_sg .h4 hi).2 | exact (rd_sg .h5 hi).2 | exact (rd_sg .h6 hi).2 | exact (rd_sg .h7 hi).2)) (k:=lM (k:=?_))
 refine lO (W_callV rfl rfl rfl rfl fn_ca_197 (seal_ok hG a base c xs (by omega)) ((Sn.old hpre).rw_) ?_)
 refine lO (W_storeAll rfl rfl rfl rfl ty_ag_65 (by rw [ints_length, sealH_length]) (ints_one) .h6 (by rw [ints_length, sealH_length]; rfl) (lA (k:=?_)))
 refine lQ (cE 4 rfl (cE 5 rfl .nil)) (R_ret ?_)
 exact R_endX (rs2 := [REG p sg (rc)]) rfl fn_ca_196 (unlockD_ok p 91 [.int .u32 0, .map (some m1), .map (some m2), .map (some m3)]) (Split.one (p := [])) (fun _ _ _ _ _ _ _ => trivial) rfl (.cell rfl (Rds.loadVar ty_ag_65 (Rds.blk .h6) (by rw [ints_length, sealH_length])) (.tmp rfl .nil)) (⟨rfl, rfl⟩) ((reg_close (rs := [_, _]) hreg).trans (Weak.keep (Weak.nil _)))
theorem sign_new {gl : Nat → Obj} (hG : Globs gl) (p : Nat) (sg : List (Int × Nat)) (rc : List Rcd) (i : Nat) (a : Int) (s : Nat) (hi : sg[i]? = some (a, s)) (base : Option Addr) (c : Nat) (xs : List Int) (hb : IsB xs) (hmax : xs.length ≤ 1048576) (hrc : rc.length ≤ 4398046511104) (hm : (a, xs) ∉ rc) : SpecR (cx gl) 125 [.pointer (some ⟨s, 0, none⟩), .slice base xs.length c] (fun w h => Seen w h base (ints .u8 xs)) [REG p sg rc] (.tuple #[.agg (ints .u8 (sealH a xs)).toArray, .int .i64 0]) [REG p sg (rc ++ [(a, xs)])] := by
 refine Spec.enterX (C := cx gl) Tryz.func125 rfl 86 rfl rfl fun w0 h0 hsep hsub hpre => ?_
 show St (cx gl) _ [(0, .pointer (some ⟨s, 0, none⟩)), (1, .slice base xs.length c)] _ _
 refine St.openP (p := []) (fun ⟨m1, m2, m3, sd⟩ hreg => ?_)
 refine St.unbundle [] (rT ?_)
 refine lO (W_alloc rfl rfl rfl ty_ze_65 fun b4 => lA (k:=?_))
 refine L_nil (qT (rS (rS ?_)))
 refine St.res (rs' := [blk p [.int .i32 0, .int .u32 0, .map (some m1), .map (some m2), .map (some m3)] 91, mapK kU64 m1 (sgM sg), mapK recK m2 (rcM rc), mapK kU64 m3 (sdM sd), fam (sgH p) sg, fam sdH sd, blk b4 (List.replicate 16 (.int .u8 0)) 65]) (Weak.p1 (Weak.p1 (Weak.p1 (Weak.p1 (Weak.p1 (Weak.p1 (Weak.refl _))))))) (rR (lM (k:=?_)))
 refine lP (P_eqNil rfl ty_ptr_220 rfl rfl) (k:=lM (k:=lM (k:=lP pN (k:=lP (pF ty_fl_305_0) (k:=?_)))))
 refine lV (V_load rfl rfl ty_sc_69 (by first | exact (rd_sg .h4 hi).1 | exact (rd_sg .h5 hi).1 | exact (rd_sg .h6 hi).1 | exact (rd_sg .h7 hi).1)) (k:=?_)
 refine lP (P_eqNil rfl ty_ptr_69 rfl rfl) (k:=lP pK (k:=?_))
 refine lQ (cE 0 rfl (cE 1 rfl (cE 4 rfl (cE 5 rfl (cE 18 rfl .nil))))) (kF (k:=R_skip (qT (rS (rT (lM (k:=lP (pL ty_sl_198) (k:=lP pGt (k:=?_)))))))))
 refine E_false (t := 22) rfl (decide_eq_false (by omega)) ?_
 refine lQ (cE 0 rfl (cE 1 rfl (cE 4 rfl (cE 5 rfl (cE 22 rfl .nil))))) (kF (k:=R_skip (qT (rT (lM (k:=lP pN (k:=lP (pF ty_fl_305_0) (k:=?_))))))))
 refine lV (V_load rfl rfl ty_sc_69 (by first | exact (rd_sg .h4 hi).1 | exact (rd_sg .h5 hi).1 | exact (rd_sg .h6 hi).1 | exact (rd_sg .h7 hi).1)) (k:=lA (k:=?_))
 refine lQ (cE 0 rfl (cE 1 rfl (cE 4 rfl (cE 5 rfl (cE 6 rfl .nil))))) (rT (lM (k:=lP pN (k:=lP (pF ty_fl_91_0) (k:=?_)))))
 refine lO (W_callR rfl rfl rfl rfl fn_ca_195 (lock_ok p 91 [.int .u32 0, .map (some m1), .map (some m2), .map (some m3)]) (Split.one (p := [])) (fun _ _ _ _ _ _ _ => trivial) ?_)
 refine St.res (rs' := [blk p [.int .i32 1, .int .u32 0, .map (some m1), .map (some m2), .map (some m3)] 91, mapK kU64 m1 (sgM sg), mapK recK m2 (rcM rc), mapK kU64 m3 (sdM sd), fam (sgH p) sg, fam sdH sd, blk b4 (List.replicate 16 (.int .u8 0)) 65]) (Weak.refl _) ?_
 refine lQ (cE 0 rfl (cE 1 rfl (cE 4 rfl (cE 5 rfl (cE 6 rfl .nil))))) (rT (lM (k:=lP pN (k:=lP (pF ty_fl_91_0) (k:=?_)))))
 refine lO (W_defer rfl rfl rfl ?_)
 refine lQ (cE 0 rfl (cE 1 rfl (cE 4 rfl (cE 5 rfl (cE 6 rfl .nil))))) (rS ?_)
 refine R_open [(0, 0), (1, 0), (2, 0), (3, 1), (4, 0), (5, 1), (6, 0), (7, 2), (8, 3)] mixed (by kernel_rfl) (QOk.then QOk.bodyX) (oP rfl pM (k:=oP rfl pN (k:=oP rfl (pF ty_fl_305_1) (k:=?_))))
 refine oV rfl (V_load rfl rfl ty_sc_26 (by first | exact (rd_sg .h4 hi).2 | exact (rd_sg .h5 hi).2 | exact (rd_sg .h6 hi).2 | exact (rd_sg .h7 hi).2)) (k:=oP rfl pM (k:=?_))
 refine oV rfl (V_str rfl (slB_spec ty_sl_198).1 ty_int_5 ty_str_9 rfl ((Sn.old hpre).rw_)) (k:=?_)
 refine oP rfl (P_buildStruct rfl ty_pl_307 ty_ze_307 rfl rfl (rfl)) (k:=?_)
 refine E_as (t := 41) (v' := .agg [.int .u64 a, .string (strOfNums xs)].toArray) rfl (rfl) ?_
 refine O_keep rfl rfl (W_alloc rfl rfl rfl ty_ze_307 fun b7 => (K_keep (Weak.drop (Weak.refl _)) ?_))
 refine O_new rfl rfl (W_storeAll rfl rfl rfl rfl ty_ag_307 (rfl) (by intro v hv; simp only [List.mem_cons, List.not_mem_nil, or_false] at hv; rcases hv with rfl | rfl <;> rfl) .h0 (rfl) (K_new (O_nil ?_)))
 refine St.env (cE 0 rfl (cE 1 rfl (cE 4 rfl (cE 5 rfl (cE 6 rfl (cE 7 rfl .nil)))))) (qT (rS (rS ?_)))
 refine St.res (rs' := [blk p [.int .i32 1, .int .u32 0, .map (some m1), .map (some m2), .map (some m3)] 91, mapK kU64 m1 (sgM sg), mapK recK m2 (rcM rc), mapK kU64 m3 (sdM sd), fam (sgH p) sg, fam sdH sd, blk b4 (List.replicate 16 (.int .u8 0)) 65, blk b7 [.int .u64 a, .string (strOfNums xs)] 307]) (Weak.p1 (Weak.p1 (Weak.p1 (Weak.p1 (Weak.p1 (Weak.p1 (Weak.p1 (Weak.refl _)))))))) ?_
 refine R_open [(0, 0), (1, 0), (2, 0), (3, 1), (4, 1), (5, 1), (6, 0), (7, 0), (8, 0), (9, 2), (10, 3), (11, 0)] mixed (by kernel_rfl) (QOk.then (QOk.then QOk.bodyX)) (oP rfl pM (k:=oP rfl pN (k:=oP rfl (pF ty_fl_91_2) (k:=?_))))
 refine oV rfl (V_load rfl rfl ty_sc_88 (by first | exact Rd.blk .h0 rfl | exact Rd.blk .h1 rfl | exact Rd.blk .h2 rfl | exact Rd.blk .h3 rfl | exact Rd.blk .h4 rfl | exact Rd.blk .h5 rfl | exact Rd.blk .h6 rfl | exact Rd.blk .h7 rfl)) (k:=oV rfl (vG ty_ag_307 .h7) (k:=?_))
 refine oV rfl (V_lookupK (k := (a, xs)) rfl ty_map_88 (keyRec rec_307) rfl rfl (hb) (rcM_ok hreg.1) .h2 (run_zeroValue_of ty_zv_80)) (k:=?_)
 refine E_as (t := 48) (v' := .tuple #[.agg #[], .bool (decide ((a, xs) ∈ rc))]) rfl (look_rc rc (a, xs)) (oP rfl pM (k:=oP rfl pX (k:=oP rfl pX (k:=?_))))
 refine O_keep rfl rfl (W_alloc rfl rfl rfl ty_ze_80 fun b8 => (K_keep (Weak.drop (Weak.refl _)) ?_))
 refine O_new rfl rfl (W_storeAll rfl rfl rfl rfl ty_ag_80 (rfl) (fun _ h => by cases h) .h0 (rfl) (K_new (oP rfl pA (k:=O_nil ?_))))
 refine St.env (cE 0 rfl (cE 1 rfl (cE 4 rfl (cE 5 rfl (cE 6 rfl (cE 7 rfl (cE 9 rfl .nil))))))) (qT (rS ?_))
 refine St.res (rs' := [blk p [.int .i32 1, .int .u32 0, .map (some m1), .map (some m2), .map (some m3)] 91, mapK kU64 m1 (sgM sg), mapK recK m2 (rcM rc), mapK kU64 m3 (sdM sd), fam (sgH p) sg, fam sdH sd, blk b4 (List.replicate 16 (.int .u8 0)) 65, blk b7 [.int .u64 a, .string (strOfNums xs)] 307]) (Weak.drop (Weak.refl _)) (rR (lM (k:=lP pO (k:=?_))))
 refine E_true (t := 52) rfl (by simp [hm]) ?_
 refine lQ (cE 0 rfl (cE 1 rfl (cE 4 rfl (cE 5 rfl (cE 6 rfl (cE 7 rfl (cE 52 rfl .nil))))))) (kT (k:=rS ?_))
 refine R_open [(0, 0), (1, 0), (2, 0), (3, 1), (4, 1), (5, 0), (6, 3)] mixed (by kernel_rfl) (QOk.then (QOk.then QOk.bodyX)) (oP rfl pM (k:=oP rfl pN (k:=oP rfl (pF ty_fl_91_2) (k:=?_))))
 refine oV rfl (V_load rfl rfl ty_sc_88 (by first | exact Rd.blk .h0 rfl | exact Rd.blk .h1 rfl | exact Rd.blk .h2 rfl | exact Rd.blk .h3 rfl | exact Rd.blk .h4 rfl | exact Rd.blk .h5 rfl | exact Rd.blk .h6 rfl | exact Rd.blk .h7 rfl)) (k:=oV rfl (vG ty_ag_307 .h7) (k:=?_))
 refine oP rfl (P_buildStruct rfl ty_pl_80 ty_ze_80 rfl rfl (rfl)) (k:=?_)
 refine O_new rfl rfl (W_mapSet (k := (a, xs)) rfl rfl ty_map_88 (keyRec rec_307) rfl rfl rfl (hb) (rcM_ok hreg.1) .h2 .h2 (K_new ?_))
 rw [set_rc hm]
 refine O_nil ?_
 refine St.env (cE 0 rfl (cE 1 rfl (cE 4 rfl (cE 5 rfl (cE 6 rfl (cE 7 rfl .nil)))))) (qT ?_)
 obtain ⟨v0, REST, hlk, hw1, hw2, hw3⟩ := sd_open hreg a
 have hml := msgsOf_le rc a
 refine St.res (rs' := [ownS 9 1 v0 (msgsOf rc a).length (strV (msgsOf rc a)), REST, blk p [.int .i32 1, .int .u32 0, .map (some m1), .map (some m2), .map (some m3)] 91, mapK kU64 m1 (sgM sg), mapK recK m2 (rcM (rc ++ [(a, xs)])), mapK kU64 m3 (sdM sd), fam (sgH p) sg, blk b4 (List.replicate 16 (.int .u8 0)) 65, blk b7 [.int .u64 a, .string (strOfNums xs)] 307]) ((Weak.p5 (Weak.refl _)).trans (hw1 _)) ?_
 refine R_openQ [(0, 0), (1, 0), (2, 0), (3, 1), (4, 0), (5, 0), (6, 0), (7, 1), (8, 0), (9, 0), (10, 0), (11, 1), (12, 0), (13, 0), (14, 0), (15, 1), (16, 1), (17, 0), (18, 1), (19, 2), (20, 2), (21, 3)] [REST, blk p [.int .i32 1, .int .u32 0, .map (some m1), .map (some m2), .map (some m3)] 91, mapK kU64 m1 (sgM sg), mapK recK m2 (rcM (rc ++ [(a, xs)])), mapK kU64 m3 (sdM sd), fam (sgH p) sg, blk b4 (List.replicate 16 (.int .u8 0)) 65, blk b7 [.int .u64 a, .string (strOfNums xs)] 307] (Weak.drop (Weak.refl _)) mixed (by kernel_rfl) (QOk.then QOk.bodyX) ?_
 refine O_pureQ rfl rfl rfl rfl (P_move rfl rfl) ?_
 refine O_pureQ rfl rfl rfl rfl (P_nil rfl rfl) ?_
 refine O_pureQ rfl rfl rfl rfl (P_fld0 rfl ty_fl_91_3 rfl) ?_
 refine O_valQ rfl rfl rfl rfl (V_load rfl rfl ty_sc_89 (by first | exact Rd.blk .h0 rfl | exact Rd.blk .h1 rfl | exact Rd.blk .h2 rfl | exact Rd.blk .h3 rfl | exact Rd.blk .h4 rfl | exact Rd.blk .h5 rfl | exact Rd.blk .h6 rfl | exact Rd.blk .h7 rfl)) ?_
 refine O_pureQ rfl rfl rfl rfl (P_move rfl rfl) ?_
 refine O_pureQ rfl rfl rfl rfl (P_nil rfl rfl) ?_
 refine O_pureQ rfl rfl rfl rfl (P_fld0 rfl ty_fl_305_1 rfl) ?_
 refine O_valQ rfl rfl rfl rfl (V_load rfl rfl ty_sc_26 (by first | exact (rd_sg .h4 hi).2 | exact (rd_sg .h5 hi).2 | exact (rd_sg .h6 hi).2 | exact (rd_sg .h7 hi).2)) ?_
 refine O_pureQ rfl rfl rfl rfl (P_move rfl rfl) ?_
 refine O_pureQ rfl rfl rfl rfl (P_nil rfl rfl) ?_
 refine O_pureQ rfl rfl rfl rfl (P_fld0 rfl ty_fl_91_3 rfl) ?_
 refine O_valQ rfl rfl rfl rfl (V_load rfl rfl ty_sc_89 (by first | exact Rd.blk .h0 rfl | exact Rd.blk .h1 rfl | exact Rd.blk .h2 rfl | exact Rd.blk .h3 rfl | exact Rd.blk .h4 rfl | exact Rd.blk .h5 rfl | exact Rd.blk .h6 rfl | exact Rd.blk .h7 rfl)) ?_
 refine O_pureQ rfl rfl rfl rfl (P_move rfl rfl) ?_
 refine O_pureQ rfl rfl rfl rfl (P_nil rfl rfl) ?_
 refine O_pureQ rfl rfl rfl rfl (P_fld0 rfl ty_fl_305_1 rfl) ?_
 refine O_valQ rfl rfl rfl rfl (V_load rfl rfl ty_sc_26 (by first | exact (rd_sg .h4 hi).2 | exact (rd_sg .h5 hi).2 | exact (rd_sg .h6 hi).2 | exact (rd_sg .h7 hi).2)) ?_
 refine O_valQ rfl rfl rfl rfl (V_lookupK rfl ty_map_89 (keyU64 ty_int_26) rfl rfl (trivial) (fun _ _ => trivial) .h4 (run_zeroValue_of ty_zv_309)) ?_
 refine E_as (t := 75) (v' := v0) rfl (hlk) ?_
 refine O_pureQ rfl rfl rfl rfl (P_fld0 rfl ty_fl_307_1 rfl) ?_
 refine O_valQ rfl rfl rfl rfl (V_load rfl rfl ty_sc_9 (Rd.blk .h7 rfl)) ?_
 refine O_keepQ rfl rfl (W_lit (z := .nilIface) ([.string (strOfNums xs)]) rfl rfl rfl ty_sl_309 ty_lz_309 rfl rfl rfl (by decide) (by decide) (by simp [Value.cells]) (rfl) fun b78 => (K_keepQ (Weak.drop (Weak.drop (Weak.refl _))) ?_))
 refine O_keepQ rfl rfl (W_append (p := [_]) rfl rfl rfl ty_sl_309 ty_ap_309 ty_src_309 rfl rfl rfl (Src.slice (sz := 1) (news := [.string (strOfNums xs)]) (Rds.blk .h0) rfl (by intro v hv; simp only [List.mem_singleton] at hv; subst hv; rfl)) (by omega) (by simp only [maxLen]; omega) fun v79 => (K_keepQ (Weak.drop (Weak.drop (Weak.refl _))) ?_))
 refine O_newQ rfl rfl (W_mapSet rfl rfl ty_map_89 (keyU64 ty_int_26) rfl rfl rfl (trivial) (fun _ _ => trivial) .h6 .h6 (K_newQ _ (Weak.refl _) ?_))
 obtain ⟨sd', he, hreg', hw⟩ := hw3 xs v79 hb hmax
 rw [he]
 refine O_nilQ ?_
 refine St.env (cE 0 rfl (cE 1 rfl (cE 4 rfl (cE 5 rfl .nil)))) (qT (rS ?_))
 refine St.res (rs' := [blk p [.int .i32 1, .int .u32 0, .map (some m1), .map (some m2), .map (some m3)] 91, mapK kU64 m1 (sgM sg), mapK recK m2 (rcM (rc ++ [(a, xs)])), mapK kU64 m3 (sdM sd'), fam (sgH p) sg, fam sdH sd', blk b4 (List.replicate 16 (.int .u8 0)) 65, blk b7 [.int .u64 a, .string (strOfNums xs)] 307]) ((Weak.drop (hw _)).trans (Weak.p1 (Weak.p1 (Weak.p1 (Weak.p1 (Weak.p1 (Weak.refl _))))))) (rR (lM (k:=lP pN (k:=lP (pF ty_fl_305_1) (k:=?_)))))
 refine lV (V_load rfl rfl ty_sc_26 (by first | exact (rd_sg .h4 hi).2 | exact (rd_sg .h5 hi).2 | exact (rd_sg .h6 hi).2 | exact (rd_sg .h7 hi).2)) (k:=lM (k:=?_))
 refine lO (W_callV rfl rfl rfl rfl fn_ca_197 (seal_ok hG a base c xs (by omega)) ((Sn.old hpre).rw_) ?_)
 refine lO (W_storeAll rfl rfl rfl rfl ty_ag_65 (by rw [ints_length, sealH_length]) (ints_one) .h6 (by rw [ints_length, sealH_length]; rfl) (lA (k:=?_)))
 refine lQ (cE 4 rfl (cE 5 rfl .nil)) (R_ret ?_)
 exact R_endX (rs2 := [REG p sg (rc ++ [(a, xs)])]) rfl fn_ca_196 (unlockD_ok p 91 [.int .u32 0, .map (some m1), .map (some m2), .map (some m3)]) (Split.one (p := [])) (fun _ _ _ _ _ _ _ => trivial) rfl (.cell rfl (Rds.loadVar ty_ag_65 (Rds.blk .h6) (by rw [ints_length, sealH_length])) (.tmp rfl .nil)) (⟨rfl, rfl⟩) ((reg_close (rs := [_, _]) hreg').trans (Weak.keep (Weak.nil _)))
end Go.Proofs.YtcngmkjdpoiiaaaGreatDoor

/- Registries that no New made; signing once more. Printed by gen.py. -/
set_option maxRecDepth 100000
namespace Go.Proofs.YtcngmkjdpoiiaaaGreatDoor
open Go Go.RowKit Go.Proofs
/-- One record more, if it isn't there yet. -/
def addR (rc : List Rcd) (x : Rcd) : List Rcd := if x ∈ rc then rc else rc ++ [x]
theorem addR_length (rc : List Rcd) (x : Rcd) : (addR rc x).length ≤ rc.length + 1 := by
 unfold addR; split <;> simp
theorem sign_any {gl : Nat → Obj} (hG : Globs gl) (p : Nat) (sg : List (Int × Nat)) (rc : List Rcd) (i : Nat) (a : Int) (s : Nat) (hi : sg[i]? = some (a, s)) (base : Option Addr) (c : Nat) (xs : List Int) (hb : IsB xs) (hmax : xs.length ≤ 1048576) (hrc : rc.length ≤ 4398046511104) : SpecR (cx gl) 125 [.pointer (some ⟨s, 0, none⟩), .slice base xs.length c] (fun w h => Seen w h base (ints .u8 xs)) [REG p sg rc] (.tuple #[.agg (ints .u8 (sealH a xs)).toArray, .int .i64 0]) [REG p sg (addR rc (a, xs))] := by
 unfold addR
 split
 ·exact sign_old hG p sg rc i a s hi base c xs hb hmax ‹_›
 ·exact sign_new hG p sg rc i a s hi base c xs hb hmax hrc ‹_›
end Go.Proofs.YtcngmkjdpoiiaaaGreatDoor

/- The document's registry. Printed by gen.py. -/
set_option maxRecDepth 100000
namespace Go.Proofs.YtcngmkjdpoiiaaaGreatDoor
open Go Go.RowKit Go.Proofs
def recC (rc : List Rcd) : List Value := rc.flatMap fun x => [.int .u64 x.1, .string (strOfNums x.2)]
theorem recC_snoc (rc : List Rcd) (x : Rcd) : recC rc ++ [.int .u64 x.1, .string (strOfNums x.2)] = recC (rc ++ [x]) := by simp [recC]
def tgH (q : Nat) (x : Int × Nat) : HP := blk x.2 [.pointer (some ⟨q, 0, none⟩), .int .u64 x.1] 312
def enOf (tg : List (Int × Nat)) : List Int := tg.map (·.1)
theorem enOf_length (tg : List (Int × Nat)) : (enOf tg).length = tg.length := by simp [enOf]
def RecOK (rc : List Rcd) : Prop := ∀ x ∈ rc, IsB x.2 ∧ x.2.length ≤ 1048576
def refL (q : Nat) (ve vr : Value) (tg : List (Int × Nat)) (rc : List Rcd) : List HP :=
 [blk q [.bool true, ve, vr] 300, ownS 26 1 ve tg.length (ints .u64 (enOf tg)), ownS 315 2 vr rc.length (recC rc), fam (tgH q) tg]
/-- The document's registry. -/
def REF (q : Nat) (tg : List (Int × Nat)) (rc : List Rcd) : HP := ExP (fun x : Value × Value => RecOK rc) fun x => bundle (refL q x.1 x.2 tg rc)
theorem ref_close {q : Nat} {ve vr : Value} {tg : List (Int × Nat)} {rc : List Rcd} {rs : List HP} (h : RecOK rc) : Weak (refL q ve vr tg rc ++ rs) (REF q tg rc :: rs) :=
 Weak.bundle.trans (Weak.toEx (p := fun x : Value × Value => RecOK rc) (s := fun x => bundle (refL q x.1 x.2 tg rc)) (ve, vr) h)
theorem RecOK.snoc {rc : List Rcd} {x : Rcd} (h : RecOK rc) (h1 : IsB x.2) (h2 : x.2.length ≤ 1048576) : RecOK (rc ++ [x]) := fun y hy => by
 rcases List.mem_append.1 hy with hy | hy
 ·exact h y hy
 ·simp only [List.mem_singleton] at hy; subst hy; exact ⟨h1, h2⟩
section
variable {C : Cx} {F : Fx} {rs : List HP}
theorem rd_rec {T b cap n i : Nat} {rc : List Rcd} {x : Rcd} (m : Has rs (ownS T 2 (.slice (some ⟨b, 0, none⟩) n cap) n (recC rc)) (ownS T 2 (.slice (some ⟨b, 0, none⟩) n cap) n (recC rc)) rs) (hi : rc[i]? = some x) : Rd C F rs ⟨b, 0 + i * 2, none⟩ (.int .u64 x.1) ∧ Rd C F rs ⟨b, 0 + i * 2 + 1, none⟩ (.string (strOfNums x.2)) := by
 have h := rows_at (g := fun x : Rcd => [Value.int .u64 x.1, .string (strOfNums x.2)]) (n := 2) (fun _ _ => rfl) hi
 have h0 := h 0 _ rfl
 have h1 := h 1 _ rfl
 rw [Nat.zero_add]
 exact ⟨Rd.own m h0, Rd.own m h1⟩
theorem rd_tg {q i : Nat} {a : Int} {s : Nat} {tg : List (Int × Nat)} (m : Has rs (fam (tgH q) tg) (fam (tgH q) tg) rs) (hi : tg[i]? = some (a, s)) : Rd C F rs ⟨s, 0, none⟩ (.pointer (some ⟨q, 0, none⟩)) ∧ Rd C F rs ⟨s, 1, none⟩ (.int .u64 a) := by
 have h : Sn C F rs (some ⟨s, 0, none⟩) [.pointer (some ⟨q, 0, none⟩), .int .u64 a] := Sn.fam m hi fun rs m => Sn.ofBlk m
 have key : ∀ (j : Nat) (u : Value), [Value.pointer (some ⟨q, 0, none⟩), .int .u64 a][j]? = some u → Rd C F rs ⟨s, j, none⟩ u := fun j u hu w nw => by
  obtain ⟨ad, e, hc⟩ := h.rw_ w nw j u hu
  rw [Option.some.injEq] at e
  subst e
  rwa [add_zero_off, Nat.zero_add] at hc
 exact ⟨key 0 _ rfl, key 1 _ rfl⟩
end
theorem not_mem_of_all {α : Type} {l : List α} {x : α} (h : ∀ j, j < l.length → ∀ y, l[j]? = some y → y ≠ x) : x ∉ l := fun hm => by
 obtain ⟨i, hi, e⟩ := List.mem_iff_getElem.1 hm
 exact h i hi x (by rw [List.getElem?_eq_getElem hi, e]) rfl
theorem rgood_ok {gl : Nat → Obj} (q : Nat) (v1 v2 : Value) (b : Bool) : SpecR (cx gl) 128 [.pointer (some ⟨q, 0, none⟩)] (fun _ _ => True) [blk q [.bool b, v1, v2] 300] (.bool b) [blk q [.bool b, v1, v2] 300] := by
 refine Spec.enter (C := cx gl) Tryz.func128 rfl 11 rfl rfl fun w0 h0 hsep hsub hpre => ?_
 show St (cx gl) _ [(0, .pointer (some ⟨q, 0, none⟩))] _ _
 refine rT (lA (k:=?_))
 refine L_nil (qT (rT (lM (k:=?_))))
 refine lP (P_neNil rfl ty_ptr_103 rfl rfl) (k:=lM (k:=lM (k:=lP pN (k:=lP (pF ty_fl_300_0) (k:=?_)))))
 refine lV (V_load rfl rfl ty_sc_4 (by first | exact Rd.blk .h0 rfl | exact Rd.blk .h1 rfl | exact Rd.blk .h2 rfl | exact Rd.blk .h3 rfl | exact Rd.blk .h4 rfl | exact Rd.blk .h5 rfl | exact Rd.blk .h6 rfl | exact Rd.blk .h7 rfl)) (k:=lP pK (k:=lA (k:=?_)))
 refine lQ (cE 2 rfl .nil) (R_ret ?_)
 exact R_end (rs2 := _) rfl rfl (.tmp rfl .nil) (⟨rfl, rfl⟩) (Weak.refl _)
theorem rnew_ok {gl : Nat → Obj} : Spec (cx gl) 120 [] (fun _ _ => True) [] (fun v rs => ∃ q, v = .pointer (some ⟨q, 0, none⟩) ∧ rs = [REF q [] []]) := by
 refine Spec.enter (C := cx gl) Tryz.func120 rfl 3 rfl rfl fun w0 h0 hsep hsub hpre => ?_
 obtain rfl : h0 = Heap.none := hsep
 show St (cx gl) _ [] _ _
 refine rT (lA (k:=?_))
 refine L_nil (qT (rT ?_))
 refine lP (P_buildStruct rfl ty_pl_300 ty_ze_300 rfl rfl (rfl)) (k:=?_)
 refine E_as (t := 1) (v' := .agg [.bool true, .slice none 0 0, .slice none 0 0].toArray) rfl (rfl) ?_
 refine lO (W_box ([.bool true, .slice none 0 0, .slice none 0 0]) rfl rfl rfl rfl rfl fun b2 => lA (k:=?_))
 refine lQ (cE 0 rfl .nil) (R_ret ?_)
 refine St.res (rs' := [blk b2 [.bool true, .slice none 0 0, .slice none 0 0] 300, ownS 26 1 (.slice none 0 0) 0 (ints .u64 (enOf [])), ownS 315 2 (.slice none 0 0) 0 (recC []), fam (tgH b2) []]) (Weak.keep (Weak.newNil.trans (Weak.keep (Weak.newNil.trans (Weak.keep Weak.famNil))))) ?_
 exact R_end (rs2 := _) rfl rfl (.tmp rfl .nil) (⟨b2, rfl, rfl⟩) (ref_close (rs := []) (fun _ h => by cases h))
theorem raddr_ok {gl : Nat → Obj} (q : Nat) (tg : List (Int × Nat)) (rc : List Rcd) (i : Nat) (a : Int) (s : Nat) (hi : tg[i]? = some (a, s)) : SpecR (cx gl) 151 [.pointer (some ⟨s, 0, none⟩)] (fun _ _ => True) [REF q tg rc] (.int .u64 a) [REF q tg rc] := by
 refine Spec.enter (C := cx gl) Tryz.func151 rfl 9 rfl rfl fun w0 h0 hsep hsub hpre => ?_
 show St (cx gl) _ [(0, .pointer (some ⟨s, 0, none⟩))] _ _
 refine St.openP (p := []) (fun ⟨ve, vr⟩ hok => ?_)
 refine St.unbundle [] ?_
 refine St.ownForm (p := [_]) fun eb ec heb hec => ?_
 dsimp only at heb; subst heb
 refine St.ownForm (p := [_, _]) fun rb rcap hrb hrc_ => ?_
 dsimp only at hrb; subst hrb
 refine St.res (rs' := [blk q [.bool true, .slice eb tg.length ec, .slice rb rc.length rcap] 300, ownS 26 1 (.slice eb tg.length ec) (tg).length (ints .u64 (enOf (tg))), ownS 315 2 (.slice rb rc.length rcap) (rc).length (recC (rc)), fam (tgH q) (tg)]) (Weak.refl _) (rT (lA (k:=?_)))
 refine L_nil (qT (rS (rT (lM (k:=?_)))))
 refine lP (P_eqNil rfl ty_ptr_222 rfl rfl) (k:=?_)
 refine lQ (cE 0 rfl (cE 2 rfl (cE 4 rfl .nil))) (kF (k:=R_skip (qT (rT (lM (k:=lP pN (k:=lP (pF ty_fl_312_1) (k:=?_))))))))
 refine lV (V_load rfl rfl ty_sc_26 ((rd_tg .h3 hi).2)) (k:=lA (k:=?_))
 refine lQ (cE 2 rfl .nil) (R_ret ?_)
 exact R_end (rs2 := [REF q (tg) (rc)]) rfl rfl (.tmp rfl .nil) (⟨rfl, rfl⟩) (ref_close (rs := []) hok)
theorem rknown_ok {gl : Nat → Obj} (q : Nat) (tg : List (Int × Nat)) (rc : List Rcd) (a : Int) (hT : tg.length ≤ 4398046511104) : SpecR (cx gl) 149 [.pointer (some ⟨q, 0, none⟩), .int .u64 a] (fun _ _ => True) [REF q tg rc] (.bool (decide (a ∈ enOf tg))) [REF q tg rc] := by
 refine Spec.enter (C := cx gl) Tryz.func149 rfl 27 rfl rfl fun w0 h0 hsep hsub hpre => ?_
 show St (cx gl) _ [(0, .pointer (some ⟨q, 0, none⟩)), (1, .int .u64 a)] _ _
 refine St.openP (p := []) (fun ⟨ve, vr⟩ hok => ?_)
 refine St.unbundle [] ?_
 refine St.ownForm (p := [_]) fun eb ec heb hec => ?_
 dsimp only at heb; subst heb
 refine St.ownForm (p := [_, _]) fun rb rcap hrb hrc_ => ?_
 dsimp only at hrb; subst hrb
 refine St.res (rs' := [blk q [.bool true, .slice eb tg.length ec, .slice rb rc.length rcap] 300, ownS 26 1 (.slice eb tg.length ec) (tg).length (ints .u64 (enOf (tg))), ownS 315 2 (.slice rb rc.length rcap) (rc).length (recC (rc)), fam (tgH q) (tg)]) (Weak.refl _) (rT (lA (k:=?_)))
 refine L_nil (qT (rS (rT (lM (k:=?_)))))
 refine lO (W_callR rfl rfl rfl rfl fn_ca_128 (rgood_ok q (.slice eb tg.length ec) (.slice rb rc.length rcap) true) (Split.one (p := [])) (fun _ _ _ _ _ _ _ => trivial) ?_)
 refine St.res (rs' := [blk q [.bool true, .slice eb tg.length ec, .slice rb rc.length rcap] 300, ownS 26 1 (.slice eb tg.length ec) (tg).length (ints .u64 (enOf (tg))), ownS 315 2 (.slice rb rc.length rcap) (rc).length (recC (rc)), fam (tgH q) (tg)]) (Weak.refl _) (lP pO (k:=?_))
 refine E_false (t := 8) rfl (rfl) ?_
 refine lQ (cE 0 rfl (cE 1 rfl (cE 4 rfl (cE 8 rfl .nil)))) (kF (k:=R_skip (qT (rS (rT (lA (k:=?_)))))))
 refine lQ (cE 0 rfl (cE 1 rfl (cE 4 rfl (cE 5 rfl .nil)))) (R_block ?_)
 refine R_loopE (G := Nat) (cE 0 rfl (cE 1 rfl (cE 4 rfl .nil))) (fun g => [(5, .int .i64 (g : Int))]) (fun _ => _) (fun g => g ≤ tg.length ∧ ∀ j, j < g → ∀ y, (enOf tg)[j]? = some y → y ≠ a) (fun g => tg.length - g) (0) (by show (0) ≤ tg.length ∧ ∀ j, j < (0) → ∀ y, (enOf tg)[j]? = some y → y ≠ a; exact ⟨Nat.zero_le _, fun j hj => by omega⟩) (by repeat (first | exact .nil | refine .cons rfl ?_ | refine .consE rfl (by first | rfl | (congr 1; omega) | (congr 1; push_cast; omega)) ?_)) (Weak.refl _) ?_
 intro i hinv
 replace hinv : i ≤ tg.length ∧ ∀ j, j < i → ∀ y, (enOf tg)[j]? = some y → y ≠ a := hinv
 show St (cx gl) _ ((5, .int .i64 (i : Int)) :: _) _ _
 obtain ⟨hi, hall⟩ := hinv
 refine rS (rT (lM (k:=lM (k:=lP pN (k:=lP (pF ty_fl_300_1) (k:=?_))))))
 refine lV (V_load rfl rfl ty_sc_297 (by first | exact Rd.blk .h0 rfl | exact Rd.blk .h1 rfl | exact Rd.blk .h2 rfl | exact Rd.blk .h3 rfl | exact Rd.blk .h4 rfl | exact Rd.blk .h5 rfl | exact Rd.blk .h6 rfl | exact Rd.blk .h7 rfl)) (k:=lP (pL ty_sl_297) (k:=lP pLt (k:=?_)))
 refine L_nil (qT ?_)
 refine R_condP rfl (fun hlt0 => ?_) (fun hlt0 => ?_)
 ·skip
  have hlt : i < tg.length := by omega
  have hlt2 : i < (enOf tg).length := by rw [enOf_length]; exact hlt
  refine St.ownSome (p := [_]) (by omega) fun ebb ebc heb2 _ => ?_
  simp only [Value.slice.injEq] at heb2
  obtain ⟨rfl, _, rfl⟩ := heb2
  refine R_skip (qT (rS (R_block (rT (lM (k:=lP pN (k:=lP (pF ty_fl_300_1) (k:=?_))))))))
  refine lV (V_load rfl rfl ty_sc_297 (by first | exact Rd.blk .h0 rfl | exact Rd.blk .h1 rfl | exact Rd.blk .h2 rfl | exact Rd.blk .h3 rfl | exact Rd.blk .h4 rfl | exact Rd.blk .h5 rfl | exact Rd.blk .h6 rfl | exact Rd.blk .h7 rfl)) (k:=lM (k:=?_))
  refine lP (P_ixs (i) rfl ty_sl_297 rfl rfl (by first | rfl | omega) (by omega)) (k:=?_)
  refine L_val rfl rfl rfl (V_load rfl rfl ty_sc_26 (rd_own1 .h1 (by unfold ints; rw [List.getElem?_map, List.getElem?_eq_getElem hlt2]; rfl))) ?_
  refine lM (k:=lP pEq (k:=?_))
  refine L_nil (qT ?_)
  refine R_condP rfl (fun hne => ?_) (fun hne => ?_)
  ·skip
   refine rT (lA (k:=?_))
   refine L_nil (qT (R_ret (Q_block_ret (Q_then_ret (Q_then_ret (Q_block_ret (Q_then_ret ?_)))))))
   exact R_end (rs2 := [REF q (tg) (rc)]) rfl rfl (.tmp rfl .nil) (⟨by show Value.bool _ = Value.bool _; rw [decide_eq_true (show a ∈ enOf tg by rw [← hne]; exact List.getElem_mem hlt2)], rfl⟩) (ref_close (rs := []) hok)
  ·skip
   refine R_skip (Q_block (qT (rR (lM (k:=?_)))))
   first | (refine L_val rfl rfl rfl (OpP.v (P_addN rfl rfl rfl (by simp only [fits]; omega))) ?_) | (refine L_val rfl rfl rfl (OpP.v (P_add rfl rfl rfl)) ?_)
   refine lA (k:=?_)
   refine L_nil ?_
   exact Q_round (i + 1) (by show (i + 1) ≤ tg.length ∧ ∀ j, j < (i + 1) → ∀ y, (enOf tg)[j]? = some y → y ≠ a; exact ⟨by show i + 1 ≤ _; omega, fun j hj y hy => by
     by_cases h : j < i
     ·exact hall j h y hy
     ·obtain rfl : j = i := by (have hj : j < i + 1 := hj); omega
      rw [List.getElem?_eq_getElem (by rw [enOf_length]; omega), Option.some.injEq] at hy
      rw [← hy]; exact hne⟩) (by show tg.length - (i + 1) < tg.length - i; omega) (by repeat (first | exact .nil | refine .cons rfl ?_ | refine .consE rfl (by first | rfl | (congr 1; omega) | (congr 1; push_cast; omega)) ?_)) (Weak.refl _)
 ·skip
  obtain rfl : i = tg.length := by omega
  refine R_exit (Q_then_exit (Q_then_exit (Q_block_eq ?_)))
  refine St.env (cE 4 rfl .nil) (qT (rT (lA (k:=?_))))
  refine L_nil (qT (R_ret ?_))
  exact R_end (rs2 := [REF q (tg) (rc)]) rfl rfl (.tmp rfl .nil) (⟨by show Value.bool _ = Value.bool _; rw [decide_eq_false (not_mem_of_all fun j hj y hy => hall j (by rw [← enOf_length]; exact hj) y hy)], rfl⟩) (ref_close (rs := []) hok)
theorem rhas_ok {gl : Nat → Obj} (q : Nat) (tg : List (Int × Nat)) (rc : List Rcd) (eb rb : Option Addr) (ec rcap : Nat) (hok : RecOK rc) (a : Int) (base : Option Addr) (c : Nat) (xs : List Int) (hb : IsB xs) (hC : rc.length ≤ 4398046511104) : SpecR (cx gl) 198 [.pointer (some ⟨q, 0, none⟩), .int .u64 a, .slice base xs.length c] (fun w h => Seen w h base (ints .u8 xs)) [blk q [.bool true, .slice eb tg.length ec, .slice rb rc.length rcap] 300, ownS 26 1 (.slice eb tg.length ec) (tg).length (ints .u64 (enOf (tg))), ownS 315 2 (.slice rb rc.length rcap) (rc).length (recC (rc)), fam (tgH q) (tg)] (.bool (decide ((a, xs) ∈ rc))) [blk q [.bool true, .slice eb tg.length ec, .slice rb rc.length rcap] 300, ownS 26 1 (.slice eb tg.length ec) (tg).length (ints .u64 (enOf (tg))), ownS 315 2 (.slice rb rc.length rcap) (rc).length (recC (rc)), fam (tgH q) (tg)] := by
 refine Spec.enter (C := cx gl) Tryz.func198 rfl 40 rfl rfl fun w0 h0 hsep hsub hpre => ?_
 show St (cx gl) _ [(0, .pointer (some ⟨q, 0, none⟩)), (1, .int .u64 a), (2, .slice base xs.length c)] _ _
 refine rT (lA (k:=?_))
 refine L_nil (qT (rS (rT (lA (k:=?_)))))
 refine L_nil (qT (R_block ?_))
 refine R_loopE (G := Nat) (cE 0 rfl (cE 1 rfl (cE 2 rfl (cE 6 rfl .nil)))) (fun g => [(7, .int .i64 (g : Int))]) (fun _ => _) (fun g => g ≤ rc.length ∧ ∀ j, j < g → ∀ y, rc[j]? = some y → y ≠ (a, xs)) (fun g => rc.length - g) (0) (by show (0) ≤ rc.length ∧ ∀ j, j < (0) → ∀ y, rc[j]? = some y → y ≠ (a, xs); exact ⟨Nat.zero_le _, fun j hj => by omega⟩) (by repeat (first | exact .nil | refine .cons rfl ?_ | refine .consE rfl (by first | rfl | (congr 1; omega) | (congr 1; push_cast; omega)) ?_)) (Weak.refl _) ?_
 intro i hinv
 replace hinv : i ≤ rc.length ∧ ∀ j, j < i → ∀ y, rc[j]? = some y → y ≠ (a, xs) := hinv
 show St (cx gl) _ ((7, .int .i64 (i : Int)) :: _) _ _
 obtain ⟨hi, hall⟩ := hinv
 refine rS (rT (lM (k:=lM (k:=lP pN (k:=lP (pF ty_fl_300_2) (k:=?_))))))
 refine lV (V_load rfl rfl ty_sc_298 (by first | exact Rd.blk .h0 rfl | exact Rd.blk .h1 rfl | exact Rd.blk .h2 rfl | exact Rd.blk .h3 rfl | exact Rd.blk .h4 rfl | exact Rd.blk .h5 rfl | exact Rd.blk .h6 rfl | exact Rd.blk .h7 rfl)) (k:=lP (pL ty_sl_298) (k:=lP pLt (k:=?_)))
 refine L_nil (qT ?_)
 refine R_condP rfl (fun hlt0 => ?_) (fun hlt0 => ?_)
 ·skip
  have hlt : i < rc.length := by omega
  refine St.ownSome (p := [_, _]) (by omega) fun rbb rbc hrb2 _ => ?_
  simp only [Value.slice.injEq] at hrb2
  obtain ⟨rfl, _, rfl⟩ := hrb2
  refine R_skip (qT (rS (R_block (rS ?_))))
  refine R_open [(0, 0), (1, 0), (2, 0), (3, 1), (4, 0), (5, 0), (6, 0), (7, 1), (8, 0), (9, 0), (10, 0), (11, 0), (12, 0), (13, 0), (14, 1), (15, 0), (16, 0), (17, 0), (18, 1), (19, 0), (20, 1), (21, 0), (22, 0)] mixed (by kernel_rfl) (QOk.then (QOk.block (QOk.then (QOk.then (QOk.block (QOk.then QOk.body)))))) (oP rfl pM (k:=oP rfl pN (k:=oP rfl (pF ty_fl_300_2) (k:=?_))))
  refine oV rfl (V_load rfl rfl ty_sc_298 (by first | exact Rd.blk .h0 rfl | exact Rd.blk .h1 rfl | exact Rd.blk .h2 rfl | exact Rd.blk .h3 rfl | exact Rd.blk .h4 rfl | exact Rd.blk .h5 rfl | exact Rd.blk .h6 rfl | exact Rd.blk .h7 rfl)) (k:=oP rfl pM (k:=?_))
  refine oP rfl (P_ixs (i) rfl ty_sl_298 rfl rfl (by first | rfl | omega) (by omega)) (k:=oP rfl (pG ty_fl_315_0) (k:=?_))
  refine O_val rfl rfl rfl rfl (V_load rfl rfl ty_sc_26 ((rd_rec .h2 (List.getElem?_eq_getElem hlt)).1)) ?_
  refine oP rfl pM (k:=oP rfl pEq (k:=oP rfl pM (k:=?_)))
  refine E_bool (t := 27) rfl (fun hg => ?_) (fun hg => ?_)
  ·skip
   refine oP rfl pM (k:=oP rfl pN (k:=oP rfl (pF ty_fl_300_2) (k:=?_)))
   refine oV rfl (V_load rfl rfl ty_sc_298 (by first | exact Rd.blk .h0 rfl | exact Rd.blk .h1 rfl | exact Rd.blk .h2 rfl | exact Rd.blk .h3 rfl | exact Rd.blk .h4 rfl | exact Rd.blk .h5 rfl | exact Rd.blk .h6 rfl | exact Rd.blk .h7 rfl)) (k:=oP rfl pM (k:=?_))
   refine oP rfl (P_ixs (i) rfl ty_sl_298 rfl rfl (by first | rfl | omega) (by omega)) (k:=oP rfl (pG ty_fl_315_1) (k:=?_))
   refine O_val rfl rfl rfl rfl (V_load rfl rfl ty_sc_9 ((rd_rec .h2 (List.getElem?_eq_getElem hlt)).2)) ?_
   refine oP rfl pM (k:=?_)
   refine oV rfl (V_str rfl (slB_spec ty_sl_198).1 ty_int_5 ty_str_9 rfl ((Sn.old hpre).rw_)) (k:=?_)
   refine oP rfl (P_eqStr rfl rfl rfl (hok _ (List.getElem_mem hlt)).1 hb) (k:=oP rfl pK (k:=O_nil (qT ?_)))
   refine R_condP rfl (fun hm => ?_) (fun hm => ?_)
   ·skip
    refine rT (lA (k:=?_))
    refine L_nil (qT (R_ret (Q_block_ret (Q_then_ret (Q_then_ret (Q_block_ret (Q_then_ret ?_)))))))
    exact R_end (rs2 := _) rfl rfl (.tmp rfl .nil) (⟨by show Value.bool _ = Value.bool _; rw [decide_eq_true (show (a, xs) ∈ rc by rw [show (a, xs) = rc[i] from (Prod.ext (of_decide_eq_true hg) hm).symm]; exact List.getElem_mem hlt)], rfl⟩) (Weak.refl _)
   ·skip
    refine R_skip (Q_block (qT (rR (lM (k:=?_)))))
    first | (refine L_val rfl rfl rfl (OpP.v (P_addN rfl rfl rfl (by simp only [fits]; omega))) ?_) | (refine L_val rfl rfl rfl (OpP.v (P_add rfl rfl rfl)) ?_)
    refine lA (k:=?_)
    refine L_nil ?_
    exact Q_round (i + 1) (by show (i + 1) ≤ rc.length ∧ ∀ j, j < (i + 1) → ∀ y, rc[j]? = some y → y ≠ (a, xs); exact ⟨by show i + 1 ≤ _; omega, fun j hj y hy => by
      by_cases h : j < i
      ·exact hall j h y hy
      ·obtain rfl : j = i := by (have hj : j < i + 1 := hj); omega
       rw [List.getElem?_eq_getElem hlt, Option.some.injEq] at hy
       rw [← hy]; exact fun e => hm (congrArg Prod.snd e)⟩) (by show rc.length - (i + 1) < rc.length - i; omega) (by repeat (first | exact .nil | refine .cons rfl ?_ | refine .consE rfl (by first | rfl | (congr 1; omega) | (congr 1; push_cast; omega)) ?_)) (Weak.refl _)
  ·skip
   refine O_no rfl rfl rfl rfl ?_
   refine O_no rfl rfl rfl rfl ?_
   refine O_no rfl rfl rfl rfl ?_
   refine O_noX rfl rfl rfl rfl ?_
   refine O_no rfl rfl rfl rfl ?_
   refine O_no rfl rfl rfl rfl ?_
   refine O_no rfl rfl rfl rfl ?_
   refine O_noX rfl rfl rfl rfl ?_
   refine O_no rfl rfl rfl rfl ?_
   refine O_noX rfl rfl rfl rfl ?_
   refine O_no rfl rfl rfl rfl (oP rfl pK (k:=O_nil (qT (kF (k:=R_skip (Q_block (qT (rR (lM (k:=?_))))))))))
   first | (refine L_val rfl rfl rfl (OpP.v (P_addN rfl rfl rfl (by simp only [fits]; omega))) ?_) | (refine L_val rfl rfl rfl (OpP.v (P_add rfl rfl rfl)) ?_)
   refine lA (k:=?_)
   refine L_nil ?_
   exact Q_round (i + 1) (by show (i + 1) ≤ rc.length ∧ ∀ j, j < (i + 1) → ∀ y, rc[j]? = some y → y ≠ (a, xs); exact ⟨by show i + 1 ≤ _; omega, fun j hj y hy => by
     by_cases h : j < i
     ·exact hall j h y hy
     ·obtain rfl : j = i := by (have hj : j < i + 1 := hj); omega
      rw [List.getElem?_eq_getElem hlt, Option.some.injEq] at hy
      rw [← hy]; exact fun e => of_decide_eq_false hg (congrArg Prod.fst e)⟩) (by show rc.length - (i + 1) < rc.length - i; omega) (by repeat (first | exact .nil | refine .cons rfl ?_ | refine .consE rfl (by first | rfl | (congr 1; omega) | (congr 1; push_cast; omega)) ?_)) (Weak.refl _)
 ·skip
  obtain rfl : i = rc.length := by omega
  refine R_exit (Q_then_exit (Q_then_exit (Q_block_eq ?_)))
  refine St.env (cE 6 rfl .nil) (qT (rT (lA (k:=?_))))
  refine L_nil (qT (R_ret ?_))
  exact R_end (rs2 := _) rfl rfl (.tmp rfl .nil) (⟨by show Value.bool _ = Value.bool _; rw [decide_eq_false (not_mem_of_all fun j hj y hy => hall j hj y hy)], rfl⟩) (Weak.refl _)
end Go.Proofs.YtcngmkjdpoiiaaaGreatDoor
