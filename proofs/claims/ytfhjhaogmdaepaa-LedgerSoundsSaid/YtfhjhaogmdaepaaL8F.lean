/- sameLedger, sameMembers. Printed by gen.py. -/
import Derived.Test.YtfhjhaogmdaepaaL8D
import Derived.Test.YtfhjhaogmdaepaaEq
set_option linter.unusedVariables false
set_option linter.unusedSimpArgs false
set_option maxRecDepth 100000
namespace Go.Proofs.Ytfhjhaogmdaepaa
open Go Go.RowKit Go.Proofs
theorem acc_kind (x y : Acc) : ∀ (i : Nat) (b : Bool) (u v : Value), ([false, false, false, false, true] : List Bool)[i]? = some b → x.cells[i]? = some u → y.cells[i]? = some v → sk b u v
  | 0, _, _, _, hb, h, h' => by cases hb; cases h; cases h'; exact ⟨_, _, _, rfl, rfl⟩
  | 1, _, _, _, hb, h, h' => by cases hb; cases h; cases h'; exact ⟨_, _, _, rfl, rfl⟩
  | 2, _, _, _, hb, h, h' => by cases hb; cases h; cases h'; exact ⟨_, _, _, rfl, rfl⟩
  | 3, _, _, _, hb, h, h' => by cases hb; cases h; cases h'; exact ⟨_, _, _, rfl, rfl⟩
  | 4, _, _, _, hb, h, h' => by cases hb; cases h; cases h'; exact ⟨_, _, rfl, rfl⟩
  | _ + 5, _, _, _, hb, _, _ => by cases hb
theorem rel_kind (x y : Rel) : ∀ (i : Nat) (b : Bool) (u v : Value), ([false, false, false, false] : List Bool)[i]? = some b → x.cells[i]? = some u → y.cells[i]? = some v → sk b u v
  | 0, _, _, _, hb, h, h' => by cases hb; cases h; cases h'; exact ⟨_, _, _, rfl, rfl⟩
  | 1, _, _, _, hb, h, h' => by cases hb; cases h; cases h'; exact ⟨_, _, _, rfl, rfl⟩
  | 2, _, _, _, hb, h, h' => by cases hb; cases h; cases h'; exact ⟨_, _, _, rfl, rfl⟩
  | 3, _, _, _, hb, h, h' => by cases hb; cases h; cases h'; exact ⟨_, _, _, rfl, rfl⟩
  | _ + 4, _, _, _, hb, _, _ => by cases hb
theorem mem_kind (x y : Mem) : ∀ (i : Nat) (b : Bool) (u v : Value), ([false, false, false] : List Bool)[i]? = some b → x.cells[i]? = some u → y.cells[i]? = some v → sk b u v
  | 0, _, _, _, hb, h, h' => by cases hb; cases h; cases h'; exact ⟨_, _, _, rfl, rfl⟩
  | 1, _, _, _, hb, h, h' => by cases hb; cases h; cases h'; exact ⟨_, _, _, rfl, rfl⟩
  | 2, _, _, _, hb, h, h' => by cases hb; cases h; cases h'; exact ⟨_, _, _, rfl, rfl⟩
  | _ + 3, _, _, _, hb, _, _ => by cases hb
theorem se_acc : seK Try.prog 39 [false, false, false, false, true] = true := by kernel_rfl
theorem se_rel : seK Try.prog 62 [false, false, false, false] = true := by kernel_rfl
theorem se_mem : seK Try.prog 37 [false, false, false] = true := by kernel_rfl
theorem sameL_ok {gl : Nat → Obj} (base base' bas2 bas2' : Option Addr) (c c' c2 c2' : Nat) (l : List Acc) (r : List Rel) (bu su : Int) (hc : l.length ≤ c) (hc' : r.length ≤ c') (hc2 : l.length ≤ c2) (hc2' : r.length ≤ c2') (hm : l.length ≤ 9223372036854775000) (hm' : r.length ≤ 9223372036854775000) : SpecV (cx gl) 16 [.agg (ledV (.slice base l.length c) (.slice base' r.length c') bu su).toArray, .agg (ledV (.slice bas2 l.length c2) (.slice bas2' r.length c2') bu su).toArray] (fun w => Row w base (rc l) ∧ Row w base' (rc r) ∧ Row w bas2 (rc l) ∧ Row w bas2' (rc r)) (.bool true) := by
  refine Spec.enter (C := cx gl) Try.func16 rfl 73 rfl rfl fun w0 h0 hsep hsub hpre => ?_
  obtain rfl : h0 = Heap.none := hsep
  show St (cx gl) _ [(0, .agg (ledV (.slice base l.length c) (.slice base' r.length c') bu su).toArray), (1, .agg (ledV (.slice bas2 l.length c2) (.slice bas2' r.length c2') bu su).toArray)] _ _
  refine R_seq ?_
  refine R_region ?_
  refine L_op rfl (W_box (ledV (.slice base l.length c) (.slice base' r.length c') bu su) rfl rfl rfl rfl rfl fun b2 => ?_)
  refine L_op rfl (W_box (ledV (.slice bas2 l.length c2) (.slice bas2' r.length c2') bu su) rfl rfl rfl rfl rfl fun b3 => ?_)
  refine L_val rfl rfl rfl (OpP.v (P_assign rfl rfl)) ?_
  refine L_nil ?_
  refine St.env (.cons (t := 2) rfl (.cons (t := 3) rfl (.cons (t := 4) rfl .nil))) ?_
  refine Q_then ?_
  refine R_seq ?_
  refine R_seq ?_
  refine R_region ?_
  refine L_val rfl rfl rfl (OpP.v (P_fld0 rfl ty_fl_29_2 rfl)) ?_
  refine L_val rfl rfl rfl (V_load rfl rfl ty_sc_23 (Rd.blk .h1 rfl)) ?_
  refine L_val rfl rfl rfl (OpP.v (P_fld0 rfl ty_fl_29_2 rfl)) ?_
  refine L_val rfl rfl rfl (V_load rfl rfl ty_sc_23 (Rd.blk .h0 rfl)) ?_
  refine L_val rfl rfl rfl (OpP.v (P_neq rfl rfl rfl)) ?_
  refine E_false (t := 11) rfl (by simp) ?_
  refine L_val rfl rfl rfl (OpP.v (P_move rfl rfl)) ?_
  refine L_val rfl rfl rfl (OpP.v (P_fld0 rfl ty_fl_29_3 rfl)) ?_
  refine L_val rfl rfl rfl (V_load rfl rfl ty_sc_23 (Rd.blk .h1 rfl)) ?_
  refine L_val rfl rfl rfl (OpP.v (P_fld0 rfl ty_fl_29_3 rfl)) ?_
  refine L_val rfl rfl rfl (V_load rfl rfl ty_sc_23 (Rd.blk .h0 rfl)) ?_
  refine L_val rfl rfl rfl (OpP.v (P_neq rfl rfl rfl)) ?_
  refine E_false (t := 17) rfl (by simp) ?_
  refine L_val rfl rfl rfl (OpP.v (P_pick rfl rfl rfl)) ?_
  refine L_val rfl rfl rfl (OpP.v (P_move rfl rfl)) ?_
  refine L_val rfl rfl rfl (OpP.v (P_fld0 rfl ty_fl_29_0 rfl)) ?_
  refine L_val rfl rfl rfl (V_load rfl rfl ty_sc_22 (Rd.blk .h1 rfl)) ?_
  refine L_val rfl rfl rfl (OpP.v (P_len rfl ty_sl_22 rfl)) ?_
  refine L_val rfl rfl rfl (OpP.v (P_fld0 rfl ty_fl_29_0 rfl)) ?_
  refine L_val rfl rfl rfl (V_load rfl rfl ty_sc_22 (Rd.blk .h0 rfl)) ?_
  refine L_val rfl rfl rfl (OpP.v (P_len rfl ty_sl_22 rfl)) ?_
  refine L_val rfl rfl rfl (OpP.v (P_neq rfl rfl rfl)) ?_
  refine E_false (t := 26) rfl (by simp) ?_
  refine L_val rfl rfl rfl (OpP.v (P_pick rfl rfl rfl)) ?_
  refine L_val rfl rfl rfl (OpP.v (P_move rfl rfl)) ?_
  refine L_val rfl rfl rfl (OpP.v (P_fld0 rfl ty_fl_29_1 rfl)) ?_
  refine L_val rfl rfl rfl (V_load rfl rfl ty_sc_27 (Rd.blk .h1 rfl)) ?_
  refine L_val rfl rfl rfl (OpP.v (P_len rfl ty_sl_27 rfl)) ?_
  refine L_val rfl rfl rfl (OpP.v (P_fld0 rfl ty_fl_29_1 rfl)) ?_
  refine L_val rfl rfl rfl (V_load rfl rfl ty_sc_27 (Rd.blk .h0 rfl)) ?_
  refine L_val rfl rfl rfl (OpP.v (P_len rfl ty_sl_27 rfl)) ?_
  refine L_val rfl rfl rfl (OpP.v (P_neq rfl rfl rfl)) ?_
  refine E_false (t := 35) rfl (by simp) ?_
  refine L_val rfl rfl rfl (OpP.v (P_pick rfl rfl rfl)) ?_
  refine L_nil ?_
  refine St.env (.cons (t := 2) rfl (.cons (t := 3) rfl (.cons (t := 4) rfl (.cons (t := 36) rfl .nil)))) ?_
  refine Q_then ?_
  refine R_condF rfl ?_
  refine R_skip ?_
  refine Q_then ?_
  refine R_seq ?_
  refine R_seq ?_
  refine R_region ?_
  refine L_val rfl rfl rfl (OpP.v (P_assign rfl rfl)) ?_
  refine L_nil ?_
  refine St.env (.cons (t := 2) rfl (.cons (t := 3) rfl (.cons (t := 4) rfl (.cons (t := 5) rfl .nil)))) ?_
  refine Q_then ?_
  refine R_block ?_
  refine R_loopE (G := Nat) (.cons (t := 2) rfl (.cons (t := 3) rfl (.cons (t := 4) rfl .nil))) (fun g => [(5, .int .i64 (g : Int))]) (fun _ => _) (fun g => g ≤ l.length) (fun g => l.length - g) (0) (Nat.zero_le _) (by repeat (first | exact .nil | refine .cons rfl ?_ | refine .consE rfl (by first | rfl | (congr 1; omega) | (congr 1; push_cast; omega)) ?_)) (Weak.refl _) ?_
  intro i hinv
  replace hinv : i ≤ l.length := hinv
  show St (cx gl) _ ((5, .int .i64 (i : Int)) :: _) _ _
  refine R_seq ?_
  refine R_seq ?_
  refine R_region ?_
  refine L_val rfl rfl rfl (OpP.v (P_move rfl rfl)) ?_
  refine L_val rfl rfl rfl (OpP.v (P_fld0 rfl ty_fl_29_0 rfl)) ?_
  refine L_val rfl rfl rfl (V_load rfl rfl ty_sc_22 (Rd.blk .h1 rfl)) ?_
  refine L_val rfl rfl rfl (OpP.v (P_len rfl ty_sl_22 rfl)) ?_
  refine L_val rfl rfl rfl (OpP.v (P_lss rfl rfl rfl)) ?_
  refine L_nil ?_
  refine Q_then ?_
  refine R_condP rfl (fun hlt => ?_) (fun hlt => ?_)
  · skip
    have hi : i < l.length := by omega
    have hx := accAt_get hi
    obtain ⟨p1, p2, p3, p4⟩ := hpre
    obtain ⟨p1b, p1j, rfl, p1r⟩ := p1.some_ (by rw [rc_length]; show 0 < _ * 5; omega)
    obtain ⟨p3b, p3j, rfl, p3r⟩ := p3.some_ (by rw [rc_length]; show 0 < _ * 5; omega)
    refine R_skip ?_
    refine Q_then ?_
    refine R_seq ?_
    refine R_block ?_
    refine R_seq ?_
    refine R_open [(0, 0), (1, 1), (2, 0), (3, 0), (4, 1), (5, 0), (6, 1), (7, 0), (8, 0), (9, 1), (10, 0)] mixed (by kernel_rfl) (QOk.then (QOk.block (QOk.then (QOk.then (QOk.block (QOk.then QOk.body)))))) ?_
    refine O_pure rfl rfl rfl rfl (P_fld0 rfl ty_fl_29_0 rfl) ?_
    refine O_val rfl rfl rfl rfl (V_load rfl rfl ty_sc_22 (Rd.blk .h1 rfl)) ?_
    refine O_pure rfl rfl rfl rfl (P_move rfl rfl) ?_
    refine O_pure rfl rfl rfl rfl (P_ixs (i) rfl ty_sl_22 rfl rfl (by first | rfl | omega) (by omega)) ?_
    refine O_val rfl rfl rfl rfl (V_loadAgg rfl rfl ty_ag_39 (rds_rc (Rds.row p1r rfl) hx) (rfl)) ?_
    refine O_pure rfl rfl rfl rfl (P_fld0 rfl ty_fl_29_0 rfl) ?_
    refine O_val rfl rfl rfl rfl (V_load rfl rfl ty_sc_22 (Rd.blk .h0 rfl)) ?_
    refine O_pure rfl rfl rfl rfl (P_move rfl rfl) ?_
    refine O_pure rfl rfl rfl rfl (P_ixs (i) rfl ty_sl_22 rfl rfl (by first | rfl | omega) (by omega)) ?_
    refine O_val rfl rfl rfl rfl (V_loadAgg rfl rfl ty_ag_39 (rds_rc (Rds.row p3r rfl) hx) (rfl)) ?_
    refine O_pure rfl rfl rfl rfl (P_neq_structK (b := false) [false, false, false, false, true] rfl se_acc rfl rfl rfl rfl (acc_kind (accAt l i) (accAt l i)) ⟨fun _ => rfl, fun _ => rfl⟩) ?_
    refine E_false (t := 54) rfl (rfl) ?_
    refine O_nil ?_
    refine Q_then ?_
    refine R_condF rfl ?_
    refine R_skip ?_
    refine Q_block ?_
    refine Q_then ?_
    refine R_region ?_
    refine L_val rfl rfl rfl (OpP.v (P_move rfl rfl)) ?_
    first | (refine L_val rfl rfl rfl (OpP.v (P_addN rfl rfl rfl (by simp only [fits]; omega))) ?_) | (refine L_val rfl rfl rfl (OpP.v (P_add rfl rfl rfl)) ?_)
    refine L_val rfl rfl rfl (OpP.v (P_assign rfl rfl)) ?_
    refine L_nil ?_
    exact Q_round (i + 1) (by show i + 1 ≤ l.length; omega) (by show l.length - (i + 1) < l.length - i; omega) (by repeat (first | exact .nil | refine .cons rfl ?_ | refine .consE rfl (by first | rfl | (congr 1; omega) | (congr 1; push_cast; omega)) ?_)) (Weak.refl _)
  · skip
    refine R_exit ?_
    refine Q_then_exit ?_
    refine Q_then_exit ?_
    refine Q_block_eq ?_
    refine St.env (.cons (t := 2) rfl (.cons (t := 3) rfl (.cons (t := 4) rfl .nil))) ?_
    refine Q_then ?_
    refine R_seq ?_
    refine R_seq ?_
    refine R_region ?_
    refine L_val rfl rfl rfl (OpP.v (P_assign rfl rfl)) ?_
    refine L_nil ?_
    refine Q_then ?_
    refine R_block ?_
    refine R_loopE (G := Nat) (.cons (t := 2) rfl (.cons (t := 3) rfl (.cons (t := 4) rfl .nil))) (fun g => [(6, .int .i64 (g : Int))]) (fun _ => _) (fun g => g ≤ r.length) (fun g => r.length - g) (0) (Nat.zero_le _) (by repeat (first | exact .nil | refine .cons rfl ?_ | refine .consE rfl (by first | rfl | (congr 1; omega) | (congr 1; push_cast; omega)) ?_)) (Weak.refl _) ?_
    intro i hinv
    replace hinv : i ≤ r.length := hinv
    show St (cx gl) _ ((6, .int .i64 (i : Int)) :: _) _ _
    refine R_seq ?_
    refine R_seq ?_
    refine R_region ?_
    refine L_val rfl rfl rfl (OpP.v (P_move rfl rfl)) ?_
    refine L_val rfl rfl rfl (OpP.v (P_fld0 rfl ty_fl_29_1 rfl)) ?_
    refine L_val rfl rfl rfl (V_load rfl rfl ty_sc_27 (Rd.blk .h1 rfl)) ?_
    refine L_val rfl rfl rfl (OpP.v (P_len rfl ty_sl_27 rfl)) ?_
    refine L_val rfl rfl rfl (OpP.v (P_lss rfl rfl rfl)) ?_
    refine L_nil ?_
    refine Q_then ?_
    refine R_condP rfl (fun hlt => ?_) (fun hlt => ?_)
    · skip
      have hi : i < r.length := by omega
      have hx := relAt_get hi
      obtain ⟨p1, p2, p3, p4⟩ := hpre
      obtain ⟨p2b, p2j, rfl, p2r⟩ := p2.some_ (by rw [rc_length]; show 0 < _ * 4; omega)
      obtain ⟨p4b, p4j, rfl, p4r⟩ := p4.some_ (by rw [rc_length]; show 0 < _ * 4; omega)
      refine R_skip ?_
      refine Q_then ?_
      refine R_seq ?_
      refine R_block ?_
      refine R_seq ?_
      refine R_open [(0, 0), (1, 1), (2, 0), (3, 0), (4, 1), (5, 0), (6, 1), (7, 0), (8, 0), (9, 1), (10, 0)] mixed (by kernel_rfl) (QOk.then (QOk.block (QOk.then (QOk.then (QOk.block (QOk.then QOk.body)))))) ?_
      refine O_pure rfl rfl rfl rfl (P_fld0 rfl ty_fl_29_1 rfl) ?_
      refine O_val rfl rfl rfl rfl (V_load rfl rfl ty_sc_27 (Rd.blk .h1 rfl)) ?_
      refine O_pure rfl rfl rfl rfl (P_move rfl rfl) ?_
      refine O_pure rfl rfl rfl rfl (P_ixs (i) rfl ty_sl_27 rfl rfl (by first | rfl | omega) (by omega)) ?_
      refine O_val rfl rfl rfl rfl (V_loadAgg rfl rfl ty_ag_62 (rds_rc (Rds.row p2r rfl) hx) (rfl)) ?_
      refine O_pure rfl rfl rfl rfl (P_fld0 rfl ty_fl_29_1 rfl) ?_
      refine O_val rfl rfl rfl rfl (V_load rfl rfl ty_sc_27 (Rd.blk .h0 rfl)) ?_
      refine O_pure rfl rfl rfl rfl (P_move rfl rfl) ?_
      refine O_pure rfl rfl rfl rfl (P_ixs (i) rfl ty_sl_27 rfl rfl (by first | rfl | omega) (by omega)) ?_
      refine O_val rfl rfl rfl rfl (V_loadAgg rfl rfl ty_ag_62 (rds_rc (Rds.row p4r rfl) hx) (rfl)) ?_
      refine O_pure rfl rfl rfl rfl (P_neq_structK (b := false) [false, false, false, false] rfl se_rel rfl rfl rfl rfl (rel_kind (relAt r i) (relAt r i)) ⟨fun _ => rfl, fun _ => rfl⟩) ?_
      refine E_false (t := 72) rfl (rfl) ?_
      refine O_nil ?_
      refine Q_then ?_
      refine R_condF rfl ?_
      refine R_skip ?_
      refine Q_block ?_
      refine Q_then ?_
      refine R_region ?_
      refine L_val rfl rfl rfl (OpP.v (P_move rfl rfl)) ?_
      first | (refine L_val rfl rfl rfl (OpP.v (P_addN rfl rfl rfl (by simp only [fits]; omega))) ?_) | (refine L_val rfl rfl rfl (OpP.v (P_add rfl rfl rfl)) ?_)
      refine L_val rfl rfl rfl (OpP.v (P_assign rfl rfl)) ?_
      refine L_nil ?_
      exact Q_round (i + 1) (by show i + 1 ≤ r.length; omega) (by show r.length - (i + 1) < r.length - i; omega) (by repeat (first | exact .nil | refine .cons rfl ?_ | refine .consE rfl (by first | rfl | (congr 1; omega) | (congr 1; push_cast; omega)) ?_)) (Weak.refl _)
    · skip
      refine R_exit ?_
      refine Q_then_exit ?_
      refine Q_then_exit ?_
      refine Q_block_eq ?_
      refine St.env (.cons (t := 4) rfl .nil) ?_
      refine Q_then ?_
      refine R_seq ?_
      refine R_region ?_
      refine L_val rfl rfl rfl (OpP.v (P_assign rfl rfl)) ?_
      refine L_nil ?_
      refine Q_then ?_
      refine R_ret ?_
      exact R_endV rfl rfl (.tmp rfl .nil) (rfl)
theorem sameM_ok {gl : Nat → Obj} (base bas2 : Option Addr) (c c2 : Nat) (l : List Mem) (hc : l.length ≤ c) (hc2 : l.length ≤ c2) (hm : l.length ≤ 9223372036854775000) : SpecV (cx gl) 18 [.slice base l.length c, .slice bas2 l.length c2] (fun w => Row w base (rc l) ∧ Row w bas2 (rc l)) (.bool true) := by
  refine Spec.enter (C := cx gl) Try.func18 rfl 26 rfl rfl fun w0 h0 hsep hsub hpre => ?_
  obtain rfl : h0 = Heap.none := hsep
  show St (cx gl) _ [(0, .slice base l.length c), (1, .slice bas2 l.length c2)] _ _
  refine R_seq ?_
  refine R_region ?_
  refine L_val rfl rfl rfl (OpP.v (P_assign rfl rfl)) ?_
  refine L_nil ?_
  refine Q_then ?_
  refine R_seq ?_
  refine R_seq ?_
  refine R_region ?_
  refine L_val rfl rfl rfl (OpP.v (P_move rfl rfl)) ?_
  refine L_val rfl rfl rfl (OpP.v (P_len rfl ty_sl_33 rfl)) ?_
  refine L_val rfl rfl rfl (OpP.v (P_move rfl rfl)) ?_
  refine L_val rfl rfl rfl (OpP.v (P_len rfl ty_sl_33 rfl)) ?_
  refine L_val rfl rfl rfl (OpP.v (P_neq rfl rfl rfl)) ?_
  refine E_false (t := 10) rfl (by simp) ?_
  refine L_nil ?_
  refine St.env (.cons (t := 0) rfl (.cons (t := 1) rfl (.cons (t := 4) rfl (.cons (t := 10) rfl .nil)))) ?_
  refine Q_then ?_
  refine R_condF rfl ?_
  refine R_skip ?_
  refine Q_then ?_
  refine R_seq ?_
  refine R_seq ?_
  refine R_region ?_
  refine L_val rfl rfl rfl (OpP.v (P_assign rfl rfl)) ?_
  refine L_nil ?_
  refine St.env (.cons (t := 0) rfl (.cons (t := 1) rfl (.cons (t := 4) rfl (.cons (t := 5) rfl .nil)))) ?_
  refine Q_then ?_
  refine R_block ?_
  refine R_loopE (G := Nat) (.cons (t := 0) rfl (.cons (t := 1) rfl (.cons (t := 4) rfl .nil))) (fun g => [(5, .int .i64 (g : Int))]) (fun _ => _) (fun g => g ≤ l.length) (fun g => l.length - g) (0) (Nat.zero_le _) (by repeat (first | exact .nil | refine .cons rfl ?_ | refine .consE rfl (by first | rfl | (congr 1; omega) | (congr 1; push_cast; omega)) ?_)) (Weak.refl _) ?_
  intro i hinv
  replace hinv : i ≤ l.length := hinv
  show St (cx gl) _ ((5, .int .i64 (i : Int)) :: _) _ _
  refine R_seq ?_
  refine R_seq ?_
  refine R_region ?_
  refine L_val rfl rfl rfl (OpP.v (P_move rfl rfl)) ?_
  refine L_val rfl rfl rfl (OpP.v (P_move rfl rfl)) ?_
  refine L_val rfl rfl rfl (OpP.v (P_len rfl ty_sl_33 rfl)) ?_
  refine L_val rfl rfl rfl (OpP.v (P_lss rfl rfl rfl)) ?_
  refine L_nil ?_
  refine Q_then ?_
  refine R_condP rfl (fun hlt => ?_) (fun hlt => ?_)
  · skip
    have hi : i < l.length := by omega
    obtain ⟨x, hx⟩ : ∃ x, l[i]? = some x := ⟨_, List.getElem?_eq_getElem hi⟩
    obtain ⟨p1, p3⟩ := hpre
    obtain ⟨p1b, p1j, rfl, p1r⟩ := p1.some_ (by rw [rc_length]; show 0 < _ * 3; omega)
    obtain ⟨p3b, p3j, rfl, p3r⟩ := p3.some_ (by rw [rc_length]; show 0 < _ * 3; omega)
    refine R_skip ?_
    refine Q_then ?_
    refine R_seq ?_
    refine R_block ?_
    refine R_seq ?_
    refine R_open [(0, 0), (1, 0), (2, 0), (3, 1), (4, 0), (5, 0), (6, 0), (7, 1), (8, 0)] mixed (by kernel_rfl) (QOk.then (QOk.block (QOk.then (QOk.then (QOk.block (QOk.then QOk.body)))))) ?_
    refine O_pure rfl rfl rfl rfl (P_move rfl rfl) ?_
    refine O_pure rfl rfl rfl rfl (P_move rfl rfl) ?_
    refine O_pure rfl rfl rfl rfl (P_ixs (i) rfl ty_sl_33 rfl rfl (by first | rfl | omega) (by omega)) ?_
    refine O_val rfl rfl rfl rfl (V_loadAgg rfl rfl ty_ag_37 (rds_rc (Rds.row p1r rfl) hx) (rfl)) ?_
    refine O_pure rfl rfl rfl rfl (P_move rfl rfl) ?_
    refine O_pure rfl rfl rfl rfl (P_move rfl rfl) ?_
    refine O_pure rfl rfl rfl rfl (P_ixs (i) rfl ty_sl_33 rfl rfl (by first | rfl | omega) (by omega)) ?_
    refine O_val rfl rfl rfl rfl (V_loadAgg rfl rfl ty_ag_37 (rds_rc (Rds.row p3r rfl) hx) (rfl)) ?_
    refine O_pure rfl rfl rfl rfl (P_neq_structK (b := false) [false, false, false] rfl se_mem rfl rfl rfl rfl (mem_kind (x) (x)) ⟨fun _ => rfl, fun _ => rfl⟩) ?_
    refine E_false (t := 25) rfl (rfl) ?_
    refine O_nil ?_
    refine Q_then ?_
    refine R_condF rfl ?_
    refine R_skip ?_
    refine Q_block ?_
    refine Q_then ?_
    refine R_region ?_
    refine L_val rfl rfl rfl (OpP.v (P_move rfl rfl)) ?_
    first | (refine L_val rfl rfl rfl (OpP.v (P_addN rfl rfl rfl (by simp only [fits]; omega))) ?_) | (refine L_val rfl rfl rfl (OpP.v (P_add rfl rfl rfl)) ?_)
    refine L_val rfl rfl rfl (OpP.v (P_assign rfl rfl)) ?_
    refine L_nil ?_
    exact Q_round (i + 1) (by show i + 1 ≤ l.length; omega) (by show l.length - (i + 1) < l.length - i; omega) (by repeat (first | exact .nil | refine .cons rfl ?_ | refine .consE rfl (by first | rfl | (congr 1; omega) | (congr 1; push_cast; omega)) ?_)) (Weak.refl _)
  · skip
    refine R_exit ?_
    refine Q_then_exit ?_
    refine Q_then_exit ?_
    refine Q_block_eq ?_
    refine St.env (.cons (t := 4) rfl .nil) ?_
    refine Q_then ?_
    refine R_seq ?_
    refine R_region ?_
    refine L_val rfl rfl rfl (OpP.v (P_assign rfl rfl)) ?_
    refine L_nil ?_
    refine Q_then ?_
    refine R_ret ?_
    exact R_endV rfl rfl (.tmp rfl .nil) (rfl)
end Go.Proofs.Ytfhjhaogmdaepaa
