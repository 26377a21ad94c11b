/- Walks: turns. Printed by gen.py. -/
import Derived.Test.YtjhhpagcejgclaaDoorC3
import Derived.Test.YtjhhpagcejgclaaDoorTurn
set_option linter.unusedVariables false
set_option linter.unusedSimpArgs false
set_option maxRecDepth 100000
namespace Go.Proofs.YtjhhpagcejgclaaDoor
open Go Go.RowKit Go.Proofs
theorem nanI_ok {gl : Nat → Obj} (x : Int) : SpecV (cx gl) 54 [.int .i64 x] noPre (.bool false) := by
  refine Spec.enter (C := cx gl) Tryd.func54 rfl 6 rfl rfl fun w0 h0 hsep hsub hpre => ?_
  obtain rfl : h0 = Heap.none := hsep
  show St (cx gl) _ [(0, .int .i64 x)] _ _
  refine R_seq ?_
  refine R_region ?_
  refine L_val rfl rfl rfl (OpP.v (P_assign rfl rfl)) ?_
  refine L_nil ?_
  refine Q_then ?_
  refine R_seq ?_
  refine R_region ?_
  refine L_val rfl rfl rfl (OpP.v (P_move rfl rfl)) ?_
  refine L_val rfl rfl rfl (OpP.v (P_move rfl rfl)) ?_
  refine L_val rfl rfl rfl (OpP.v (P_neq rfl rfl rfl)) ?_
  refine E_false (t := 5) rfl (decide_eq_false (by simp)) ?_
  refine L_val rfl rfl rfl (OpP.v (P_assign rfl rfl)) ?_
  refine L_nil ?_
  refine St.env (.cons (t := 2) rfl .nil) ?_
  refine Q_then ?_
  refine R_ret ?_
  exact R_endV rfl rfl (.tmp rfl .nil) (rfl)
theorem cmpI_ok {gl : Nat → Obj} (x y : Int) : SpecV (cx gl) 39 [.int .i64 x, .int .i64 y] noPre (.int .i64 (cmpI x y)) := by
  refine Spec.enter (C := cx gl) Tryd.func39 rfl 20 rfl rfl fun w0 h0 hsep hsub hpre => ?_
  obtain rfl : h0 = Heap.none := hsep
  show St (cx gl) _ [(0, .int .i64 x), (1, .int .i64 y)] _ _
  refine R_seq ?_
  refine R_region ?_
  refine L_val rfl rfl rfl (OpP.v (P_assign rfl rfl)) ?_
  refine L_nil ?_
  refine Q_then ?_
  refine R_seq ?_
  refine R_region ?_
  refine L_val rfl rfl rfl (OpP.v (P_move rfl rfl)) ?_
  refine L_op rfl (W_callV rfl rfl rfl rfl fn_ca_54 (nanI_ok x) (fun _ _ => trivial) ?_)
  refine E_false (t := 8) rfl (rfl) ?_
  refine L_val rfl rfl rfl (OpP.v (P_assign rfl rfl)) ?_
  refine L_nil ?_
  refine St.env (.cons (t := 0) rfl (.cons (t := 1) rfl (.cons (t := 4) rfl (.cons (t := 5) rfl .nil)))) ?_
  refine Q_then ?_
  refine R_seq ?_
  refine R_region ?_
  refine L_val rfl rfl rfl (OpP.v (P_move rfl rfl)) ?_
  refine L_op rfl (W_callV rfl rfl rfl rfl fn_ca_54 (nanI_ok y) (fun _ _ => trivial) ?_)
  refine E_false (t := 10) rfl (rfl) ?_
  refine L_val rfl rfl rfl (OpP.v (P_assign rfl rfl)) ?_
  refine L_nil ?_
  refine St.env (.cons (t := 0) rfl (.cons (t := 1) rfl (.cons (t := 4) rfl (.cons (t := 5) rfl (.cons (t := 6) rfl .nil))))) ?_
  refine Q_then ?_
  refine R_seq ?_
  refine R_seq ?_
  refine R_region ?_
  refine L_val rfl rfl rfl (OpP.v (P_move rfl rfl)) ?_
  refine L_nil ?_
  refine St.env (.cons (t := 0) rfl (.cons (t := 1) rfl (.cons (t := 4) rfl (.cons (t := 6) rfl (.cons (t := 11) rfl .nil))))) ?_
  refine Q_then ?_
  refine R_condF rfl ?_
  refine R_skip ?_
  refine Q_then ?_
  refine R_seq ?_
  refine R_seq ?_
  refine R_region ?_
  refine L_val rfl rfl rfl (OpP.v (P_move rfl rfl)) ?_
  refine L_nil ?_
  refine St.env (.cons (t := 0) rfl (.cons (t := 1) rfl (.cons (t := 4) rfl (.cons (t := 13) rfl .nil)))) ?_
  refine Q_then ?_
  refine R_condF rfl ?_
  refine R_skip ?_
  refine Q_then ?_
  refine R_seq ?_
  refine R_seq ?_
  refine R_region ?_
  refine L_val rfl rfl rfl (OpP.v (P_move rfl rfl)) ?_
  refine L_val rfl rfl rfl (OpP.v (P_move rfl rfl)) ?_
  refine L_val rfl rfl rfl (OpP.v (P_lss rfl rfl rfl)) ?_
  refine L_nil ?_
  refine St.env (.cons (t := 0) rfl (.cons (t := 1) rfl (.cons (t := 4) rfl (.cons (t := 16) rfl .nil)))) ?_
  refine Q_then ?_
  refine R_condP rfl (fun h1 => ?_) (fun h1 => ?_)
  · skip
    refine R_seq ?_
    refine R_region ?_
    refine L_val rfl rfl rfl (OpP.v (P_assign rfl rfl)) ?_
    refine L_nil ?_
    refine St.env (.cons (t := 0) rfl (.cons (t := 1) rfl (.cons (t := 4) rfl .nil))) ?_
    refine Q_then ?_
    refine R_ret ?_
    refine Q_then_ret ?_
    exact R_endV rfl rfl (.tmp rfl .nil) (by unfold cmpI; rw [if_pos h1]; rfl)
  · skip
    refine R_skip ?_
    refine Q_then ?_
    refine R_seq ?_
    refine R_seq ?_
    refine R_region ?_
    refine L_val rfl rfl rfl (OpP.v (P_move rfl rfl)) ?_
    refine L_val rfl rfl rfl (OpP.v (P_move rfl rfl)) ?_
    refine L_val rfl rfl rfl (OpP.v (P_gtr rfl rfl rfl)) ?_
    refine L_nil ?_
    refine St.env (.cons (t := 4) rfl (.cons (t := 19) rfl .nil)) ?_
    refine Q_then ?_
    refine R_condP rfl (fun h2 => ?_) (fun h2 => ?_)
    · skip
      refine R_seq ?_
      refine R_region ?_
      refine L_val rfl rfl rfl (OpP.v (P_assign rfl rfl)) ?_
      refine L_nil ?_
      refine St.env (.cons (t := 4) rfl .nil) ?_
      refine Q_then ?_
      refine R_ret ?_
      refine Q_then_ret ?_
      exact R_endV rfl rfl (.tmp rfl .nil) (by unfold cmpI; rw [if_neg h1, if_pos h2]; rfl)
    · skip
      refine R_skip ?_
      refine Q_then ?_
      refine R_seq ?_
      refine R_region ?_
      refine L_val rfl rfl rfl (OpP.v (P_assign rfl rfl)) ?_
      refine L_nil ?_
      refine St.env (.cons (t := 4) rfl .nil) ?_
      refine Q_then ?_
      refine R_ret ?_
      exact R_endV rfl rfl (.tmp rfl .nil) (by unfold cmpI; rw [if_neg h1, if_neg h2]; rfl)
theorem nanA_ok {gl : Nat → Obj} (x : Int) : SpecV (cx gl) 55 [.int .u64 x] noPre (.bool false) := by
  refine Spec.enter (C := cx gl) Tryd.func55 rfl 6 rfl rfl fun w0 h0 hsep hsub hpre => ?_
  obtain rfl : h0 = Heap.none := hsep
  show St (cx gl) _ [(0, .int .u64 x)] _ _
  refine R_seq ?_
  refine R_region ?_
  refine L_val rfl rfl rfl (OpP.v (P_assign rfl rfl)) ?_
  refine L_nil ?_
  refine Q_then ?_
  refine R_seq ?_
  refine R_region ?_
  refine L_val rfl rfl rfl (OpP.v (P_move rfl rfl)) ?_
  refine L_val rfl rfl rfl (OpP.v (P_move rfl rfl)) ?_
  refine L_val rfl rfl rfl (OpP.v (P_neq rfl rfl rfl)) ?_
  refine E_false (t := 5) rfl (decide_eq_false (by simp)) ?_
  refine L_val rfl rfl rfl (OpP.v (P_assign rfl rfl)) ?_
  refine L_nil ?_
  refine St.env (.cons (t := 2) rfl .nil) ?_
  refine Q_then ?_
  refine R_ret ?_
  exact R_endV rfl rfl (.tmp rfl .nil) (rfl)
theorem cmpA_ok {gl : Nat → Obj} (x y : Int) : SpecV (cx gl) 40 [.int .u64 x, .int .u64 y] noPre (.int .i64 (cmpI x y)) := by
  refine Spec.enter (C := cx gl) Tryd.func40 rfl 20 rfl rfl fun w0 h0 hsep hsub hpre => ?_
  obtain rfl : h0 = Heap.none := hsep
  show St (cx gl) _ [(0, .int .u64 x), (1, .int .u64 y)] _ _
  refine R_seq ?_
  refine R_region ?_
  refine L_val rfl rfl rfl (OpP.v (P_assign rfl rfl)) ?_
  refine L_nil ?_
  refine Q_then ?_
  refine R_seq ?_
  refine R_region ?_
  refine L_val rfl rfl rfl (OpP.v (P_move rfl rfl)) ?_
  refine L_op rfl (W_callV rfl rfl rfl rfl fn_ca_55 (nanA_ok x) (fun _ _ => trivial) ?_)
  refine E_false (t := 8) rfl (rfl) ?_
  refine L_val rfl rfl rfl (OpP.v (P_assign rfl rfl)) ?_
  refine L_nil ?_
  refine St.env (.cons (t := 0) rfl (.cons (t := 1) rfl (.cons (t := 4) rfl (.cons (t := 5) rfl .nil)))) ?_
  refine Q_then ?_
  refine R_seq ?_
  refine R_region ?_
  refine L_val rfl rfl rfl (OpP.v (P_move rfl rfl)) ?_
  refine L_op rfl (W_callV rfl rfl rfl rfl fn_ca_55 (nanA_ok y) (fun _ _ => trivial) ?_)
  refine E_false (t := 10) rfl (rfl) ?_
  refine L_val rfl rfl rfl (OpP.v (P_assign rfl rfl)) ?_
  refine L_nil ?_
  refine St.env (.cons (t := 0) rfl (.cons (t := 1) rfl (.cons (t := 4) rfl (.cons (t := 5) rfl (.cons (t := 6) rfl .nil))))) ?_
  refine Q_then ?_
  refine R_seq ?_
  refine R_seq ?_
  refine R_region ?_
  refine L_val rfl rfl rfl (OpP.v (P_move rfl rfl)) ?_
  refine L_nil ?_
  refine St.env (.cons (t := 0) rfl (.cons (t := 1) rfl (.cons (t := 4) rfl (.cons (t := 6) rfl (.cons (t := 11) rfl .nil))))) ?_
  refine Q_then ?_
  refine R_condF rfl ?_
  refine R_skip ?_
  refine Q_then ?_
  refine R_seq ?_
  refine R_seq ?_
  refine R_region ?_
  refine L_val rfl rfl rfl (OpP.v (P_move rfl rfl)) ?_
  refine L_nil ?_
  refine St.env (.cons (t := 0) rfl (.cons (t := 1) rfl (.cons (t := 4) rfl (.cons (t := 13) rfl .nil)))) ?_
  refine Q_then ?_
  refine R_condF rfl ?_
  refine R_skip ?_
  refine Q_then ?_
  refine R_seq ?_
  refine R_seq ?_
  refine R_region ?_
  refine L_val rfl rfl rfl (OpP.v (P_move rfl rfl)) ?_
  refine L_val rfl rfl rfl (OpP.v (P_move rfl rfl)) ?_
  refine L_val rfl rfl rfl (OpP.v (P_lss rfl rfl rfl)) ?_
  refine L_nil ?_
  refine St.env (.cons (t := 0) rfl (.cons (t := 1) rfl (.cons (t := 4) rfl (.cons (t := 16) rfl .nil)))) ?_
  refine Q_then ?_
  refine R_condP rfl (fun h1 => ?_) (fun h1 => ?_)
  · skip
    refine R_seq ?_
    refine R_region ?_
    refine L_val rfl rfl rfl (OpP.v (P_assign rfl rfl)) ?_
    refine L_nil ?_
    refine St.env (.cons (t := 0) rfl (.cons (t := 1) rfl (.cons (t := 4) rfl .nil))) ?_
    refine Q_then ?_
    refine R_ret ?_
    refine Q_then_ret ?_
    exact R_endV rfl rfl (.tmp rfl .nil) (by unfold cmpI; rw [if_pos h1]; rfl)
  · skip
    refine R_skip ?_
    refine Q_then ?_
    refine R_seq ?_
    refine R_seq ?_
    refine R_region ?_
    refine L_val rfl rfl rfl (OpP.v (P_move rfl rfl)) ?_
    refine L_val rfl rfl rfl (OpP.v (P_move rfl rfl)) ?_
    refine L_val rfl rfl rfl (OpP.v (P_gtr rfl rfl rfl)) ?_
    refine L_nil ?_
    refine St.env (.cons (t := 4) rfl (.cons (t := 19) rfl .nil)) ?_
    refine Q_then ?_
    refine R_condP rfl (fun h2 => ?_) (fun h2 => ?_)
    · skip
      refine R_seq ?_
      refine R_region ?_
      refine L_val rfl rfl rfl (OpP.v (P_assign rfl rfl)) ?_
      refine L_nil ?_
      refine St.env (.cons (t := 4) rfl .nil) ?_
      refine Q_then ?_
      refine R_ret ?_
      refine Q_then_ret ?_
      exact R_endV rfl rfl (.tmp rfl .nil) (by unfold cmpI; rw [if_neg h1, if_pos h2]; rfl)
    · skip
      refine R_skip ?_
      refine Q_then ?_
      refine R_seq ?_
      refine R_region ?_
      refine L_val rfl rfl rfl (OpP.v (P_assign rfl rfl)) ?_
      refine L_nil ?_
      refine St.env (.cons (t := 4) rfl .nil) ?_
      refine Q_then ?_
      refine R_ret ?_
      exact R_endV rfl rfl (.tmp rfl .nil) (by unfold cmpI; rw [if_neg h1, if_neg h2]; rfl)
theorem or_ok {gl : Nat → Obj} (b : Nat) (x y : Int) : SpecV (cx gl) 38 [.slice (some ⟨b, 0, none⟩) 2 2] (fun w => RowAt w ⟨b, 0, none⟩ [.int .i64 x, .int .i64 y]) (.int .i64 (orI x y)) := by
  refine Spec.enter (C := cx gl) Tryd.func38 rfl 18 rfl rfl fun w0 h0 hsep hsub hpre => ?_
  obtain rfl : h0 = Heap.none := hsep
  show St (cx gl) _ [(0, .slice (some ⟨b, 0, none⟩) 2 2)] _ _
  refine R_seq ?_
  refine R_region ?_
  refine L_val rfl rfl rfl (OpP.v (P_assign rfl rfl)) ?_
  refine L_nil ?_
  refine Q_then ?_
  refine R_seq ?_
  refine R_region ?_
  refine L_val rfl rfl rfl (OpP.v (P_assign rfl rfl)) ?_
  refine L_nil ?_
  refine Q_then ?_
  refine R_seq ?_
  refine R_seq ?_
  refine R_region ?_
  refine L_val rfl rfl rfl (OpP.v (P_move rfl rfl)) ?_
  refine L_val rfl rfl rfl (OpP.v (P_len rfl ty_sl_93 rfl)) ?_
  refine L_val rfl rfl rfl (OpP.v (P_move rfl rfl)) ?_
  refine L_nil ?_
  refine St.env (.cons (t := 2) rfl (.cons (t := 3) rfl (.cons (t := 6) rfl (.cons (t := 7) rfl (.cons (t := 8) rfl .nil))))) ?_
  refine Q_then ?_
  refine R_block ?_
  refine R_loopE (G := Nat) (.cons (t := 2) rfl (.cons (t := 3) rfl (.cons (t := 6) rfl (.cons (t := 7) rfl .nil)))) (fun g => [(8, .int .i64 (g : Int))]) (fun _ => _) (fun g => g ≤ 2 ∧ (0 < g → x = 0) ∧ (1 < g → y = 0)) (fun g => 2 - g) (0) (⟨by omega, by omega, by omega⟩) (by repeat (first | exact .nil | refine .cons rfl ?_ | refine .consE rfl (by first | rfl | (congr 1; omega) | (congr 1; push_cast; omega)) ?_)) (Weak.refl _) ?_
  intro i hinv
  replace hinv : i ≤ 2 ∧ (0 < i → x = 0) ∧ (1 < i → y = 0) := hinv
  show St (cx gl) _ ((8, .int .i64 (i : Int)) :: _) _ _
  obtain ⟨hi, hx, hy⟩ := hinv
  refine R_seq ?_
  refine R_region ?_
  refine L_val rfl rfl rfl (OpP.v (P_lss rfl rfl rfl)) ?_
  refine L_nil ?_
  refine Q_then ?_
  refine R_seq ?_
  refine R_condP rfl (fun hlt => ?_) (fun hlt => ?_)
  · skip
    obtain ⟨v, hv, hv0, hv1⟩ : ∃ v, [Value.int .i64 x, .int .i64 y][i]? = some (.int .i64 v) ∧ (i = 0 → v = x) ∧ (i = 1 → v = y) := by
      match i, hlt with
      | 0, _ => exact ⟨x, rfl, fun _ => rfl, fun h => by cases h⟩
      | 1, _ => exact ⟨y, rfl, fun h => (by cases h), fun _ => rfl⟩
    refine R_skip ?_
    refine Q_then ?_
    refine R_seq ?_
    refine R_block ?_
    refine R_seq ?_
    refine R_region ?_
    refine L_val rfl rfl rfl (OpP.v (P_ixs (i) rfl ty_sl_93 rfl rfl (by first | rfl | omega) (by omega))) ?_
    refine L_val rfl rfl rfl (V_load rfl rfl ty_sc_3 (Rd.row hpre rfl hv)) ?_
    refine L_val rfl rfl rfl (OpP.v (P_assign rfl rfl)) ?_
    refine L_nil ?_
    refine Q_then ?_
    refine R_seq ?_
    refine R_region ?_
    refine L_val rfl rfl rfl (OpP.v (P_move rfl rfl)) ?_
    refine L_val rfl rfl rfl (OpP.v (P_move rfl rfl)) ?_
    refine L_val rfl rfl rfl (OpP.v (P_neq rfl rfl rfl)) ?_
    refine L_nil ?_
    refine Q_then ?_
    refine R_condP rfl (fun hne => ?_) (fun hne => ?_)
    · skip
      refine R_seq ?_
      refine R_region ?_
      refine L_val rfl rfl rfl (OpP.v (P_move rfl rfl)) ?_
      refine L_val rfl rfl rfl (OpP.v (P_assign rfl rfl)) ?_
      refine L_nil ?_
      refine Q_then ?_
      refine R_ret ?_
      refine Q_block_ret ?_
      refine Q_then_ret ?_
      refine Q_then_ret ?_
      refine Q_block_ret ?_
      refine Q_then_ret ?_
      exact R_endV rfl rfl (.tmp rfl .nil) (by have hne : v ≠ 0 := hne; by_cases h0 : i = 0; (rw [hv0 h0] at hne ⊢; unfold orI; rw [if_pos hne]; rfl); (have h1 : i = 1 := by omega); rw [hv1 h1] at hne ⊢; unfold orI; rw [if_neg (by rw [hx (by omega)]; simp)]; rfl)
    · skip
      have hve : v = 0 := Classical.not_not.1 hne
      have hz : i = 0 → x = 0 := fun h => by rw [← hv0 h]; exact hve
      have hz2 : i = 1 → y = 0 := fun h => by rw [← hv1 h]; exact hve
      refine R_skip ?_
      refine Q_block ?_
      refine Q_then ?_
      refine R_region ?_
      first | (refine L_val rfl rfl rfl (OpP.v (P_addN rfl rfl rfl (by simp only [fits]; omega))) ?_) | (refine L_val rfl rfl rfl (OpP.v (P_add rfl rfl rfl)) ?_)
      refine L_val rfl rfl rfl (OpP.v (P_move rfl rfl)) ?_
      refine L_nil ?_
      exact Q_round (i + 1) (⟨by omega, fun h => (by by_cases h0 : i = 0; exact (hz h0); exact hx (by omega)), fun h => (hz2 (by omega))⟩) (by show 2 - (i + 1) < 2 - i; omega) (by repeat (first | exact .nil | refine .cons rfl ?_ | refine .consE rfl (by first | rfl | (congr 1; omega) | (congr 1; push_cast; omega)) ?_)) (Weak.refl _)
  · skip
    refine R_exit ?_
    refine Q_then_exit ?_
    refine Q_then_exit ?_
    refine Q_block_eq ?_
    refine St.env (.cons (t := 2) rfl (.cons (t := 3) rfl .nil)) ?_
    refine Q_then ?_
    refine R_seq ?_
    refine R_region ?_
    refine L_val rfl rfl rfl (OpP.v (P_move rfl rfl)) ?_
    refine L_val rfl rfl rfl (OpP.v (P_assign rfl rfl)) ?_
    refine L_nil ?_
    refine St.env (.cons (t := 2) rfl .nil) ?_
    refine Q_then ?_
    refine R_ret ?_
    exact R_endV rfl rfl (.tmp rfl .nil) (by unfold orI; rw [if_neg (by rw [hx (by omega)]; simp), hy (by omega)]; rfl)
theorem first_ok {gl : Nat → Obj} (a b : Mem) : SpecV (cx gl) 37 [.agg a.cells.toArray, .agg b.cells.toArray] noPre (.int .i64 (firstI a b)) := by
  refine Spec.enter (C := cx gl) Tryd.func37 rfl 17 rfl rfl fun w0 h0 hsep hsub hpre => ?_
  obtain rfl : h0 = Heap.none := hsep
  show St (cx gl) _ [(0, .agg a.cells.toArray), (1, .agg b.cells.toArray)] _ _
  refine R_seq ?_
  refine R_region ?_
  refine L_op rfl (W_box (a.cells) rfl rfl rfl rfl rfl fun b2 => ?_)
  refine L_op rfl (W_box (b.cells) rfl rfl rfl rfl rfl fun b3 => ?_)
  refine L_val rfl rfl rfl (OpP.v (P_assign rfl rfl)) ?_
  refine L_nil ?_
  refine St.env (.cons (t := 2) rfl (.cons (t := 3) rfl (.cons (t := 4) rfl .nil))) ?_
  refine Q_then ?_
  refine R_seq ?_
  refine R_open [(0, 0), (1, 1), (2, 0), (3, 1), (5, 0), (6, 1), (7, 0), (8, 1), (4, 2), (9, 2), (10, 2), (11, 2), (12, 0)] mixed (by kernel_rfl) (QOk.then QOk.body) ?_
  refine O_pure rfl rfl rfl rfl (P_fld0 rfl ty_fl_37_2 rfl) ?_
  refine O_val rfl rfl rfl rfl (V_load rfl rfl ty_sc_2 (Rd.blk .h0 rfl)) ?_
  refine O_pure rfl rfl rfl rfl (P_fld0 rfl ty_fl_37_2 rfl) ?_
  refine O_val rfl rfl rfl rfl (V_load rfl rfl ty_sc_2 (Rd.blk .h1 rfl)) ?_
  refine O_pure rfl rfl rfl rfl (P_fld0 rfl ty_fl_37_0 rfl) ?_
  refine O_val rfl rfl rfl rfl (V_load rfl rfl ty_sc_35 (Rd.blk .h1 rfl)) ?_
  refine O_pure rfl rfl rfl rfl (P_fld0 rfl ty_fl_37_0 rfl) ?_
  refine O_val rfl rfl rfl rfl (V_load rfl rfl ty_sc_35 (Rd.blk .h0 rfl)) ?_
  refine O_keep rfl rfl (W_callV rfl rfl rfl rfl fn_ca_39 (cmpI_ok b.q a.q) (fun _ _ => trivial) (K_keep (Weak.refl _) ?_))
  refine O_keep rfl rfl (W_callV rfl rfl rfl rfl fn_ca_40 (cmpA_ok a.a b.a) (fun _ _ => trivial) (K_keep (Weak.refl _) ?_))
  refine O_keep rfl rfl (W_lit (z := .nilIface) ([.int .i64 (cmpI b.q a.q), .int .i64 (cmpI a.a b.a)]) rfl rfl rfl ty_sl_93 ty_lz_93 rfl rfl rfl (by decide) (by decide) (by simp [Value.cells]) (rfl) fun b15 => (K_keep (Weak.drop (Weak.refl _)) ?_))
  refine O_keep rfl rfl (W_callV rfl rfl rfl rfl fn_ca_38 (or_ok b15 _ _) (Sn.rowAt0 (Sn.ofBlk .h0) (fun _ _ h => h)) (K_keep (Weak.refl _) ?_))
  refine O_pure rfl rfl rfl rfl (P_assign rfl rfl) ?_
  refine O_nil ?_
  refine St.env (.cons (t := 4) rfl .nil) ?_
  refine Q_then ?_
  refine R_ret ?_
  exact R_endV rfl rfl (.tmp rfl .nil) (rfl)
theorem mturn_ok {gl : Nat → Obj} (T : Int) (l : List Mem) (hS : Sane T l) (ub uc : Nat) : SpecR (cx gl) 21 [.agg [.slice (some ⟨ub, 0, none⟩) l.length uc].toArray, .int .i64 T] (fun _ _ => True) [ownS 37 3 (.slice (some ⟨ub, 0, none⟩) l.length uc) (l.length) (memC l)] (.int .u64 (choA T l)) [ownS 37 3 (.slice (some ⟨ub, 0, none⟩) l.length uc) (l.length) (memC (onceL T l))] := by
  refine Spec.enter (C := cx gl) Tryd.func21 rfl 71 rfl rfl fun w0 h0 hsep hsub hpre => ?_
  show St (cx gl) _ [(0, .agg [.slice (some ⟨ub, 0, none⟩) l.length uc].toArray), (1, .int .i64 T)] _ _
  have hms : msK = 1152921504606846975 := rfl
  obtain ⟨ht0, ht1, hpos, hfew, hok, hpw, hbd, hsrt⟩ := hS
  refine R_seq ?_
  refine R_region ?_
  refine L_op rfl (W_box ([.slice (some ⟨ub, 0, none⟩) l.length uc]) rfl rfl rfl rfl rfl fun b2 => ?_)
  refine L_val rfl rfl rfl (OpP.v (P_assign rfl rfl)) ?_
  refine L_nil ?_
  refine St.env (.cons (t := 1) rfl (.cons (t := 2) rfl (.cons (t := 4) rfl .nil))) ?_
  refine Q_then ?_
  refine R_seq ?_
  refine R_region ?_
  refine L_val rfl rfl rfl (OpP.v (P_move rfl rfl)) ?_
  first | (refine L_val rfl rfl rfl (OpP.v (P_mulN rfl rfl rfl (by simp only [fits]; omega))) ?_) | (refine L_val rfl rfl rfl (OpP.v (P_mul rfl rfl rfl)) ?_)
  refine L_val rfl rfl rfl (OpP.v (P_assign rfl rfl)) ?_
  refine L_nil ?_
  refine St.env (.cons (t := 1) rfl (.cons (t := 2) rfl (.cons (t := 4) rfl (.cons (t := 5) rfl .nil)))) ?_
  refine Q_then ?_
  refine R_seq ?_
  refine R_region ?_
  refine L_val rfl rfl rfl (OpP.v (P_assign rfl rfl)) ?_
  refine L_nil ?_
  refine Q_then ?_
  refine R_seq ?_
  refine R_region ?_
  refine L_val rfl rfl rfl (OpP.v (P_assign rfl rfl)) ?_
  refine L_nil ?_
  refine Q_then ?_
  refine R_seq ?_
  refine R_seq ?_
  refine R_region ?_
  refine L_val rfl rfl rfl (OpP.v (P_fld0 rfl ty_fl_24_0 rfl)) ?_
  refine L_val rfl rfl rfl (V_load rfl rfl ty_sc_22 (Rd.blk .h0 rfl)) ?_
  refine L_val rfl rfl rfl (OpP.v (P_len rfl ty_sl_22 rfl)) ?_
  refine L_val rfl rfl rfl (OpP.v (P_move rfl rfl)) ?_
  refine L_nil ?_
  refine St.env (.cons (t := 1) rfl (.cons (t := 2) rfl (.cons (t := 4) rfl (.cons (t := 5) rfl (.cons (t := 6) rfl (.cons (t := 7) rfl (.cons (t := 15) rfl (.cons (t := 16) rfl .nil)))))))) ?_
  refine Q_then ?_
  refine R_block ?_
  refine R_loopE (G := Nat) (.cons (t := 1) rfl (.cons (t := 2) rfl (.cons (t := 4) rfl (.cons (t := 5) rfl (.cons (t := 6) rfl (.cons (t := 15) rfl .nil)))))) (fun g => [(7, .int .i64 ((bestF (bumpL T l) g : Nat) : Int)), (16, .int .i64 (g : Int))]) (fun g => [blk b2 [.slice (some ⟨ub, 0, none⟩) l.length uc] 24, ownS 37 3 (.slice (some ⟨ub, 0, none⟩) l.length uc) (l.length) (memC (bumpN T l g))]) (fun g => g ≤ l.length) (fun g => l.length - g) (0) (Nat.zero_le _) (by repeat (first | exact .nil | refine .cons rfl ?_ | refine .consE rfl (by first | rfl | (congr 1; omega) | (congr 1; push_cast; omega)) ?_)) (by rw [bumpN_zero]; exact Weak.refl _) ?_
  intro i hinv
  replace hinv : i ≤ l.length := hinv
  show St (cx gl) _ ((7, .int .i64 ((bestF (bumpL T l) i : Nat) : Int)) :: (16, .int .i64 (i : Int)) :: _) [blk b2 [.slice (some ⟨ub, 0, none⟩) l.length uc] 24, ownS 37 3 (.slice (some ⟨ub, 0, none⟩) l.length uc) (l.length) (memC (bumpN T l i))] _
  refine R_seq ?_
  refine R_region ?_
  refine L_val rfl rfl rfl (OpP.v (P_lss rfl rfl rfl)) ?_
  refine L_nil ?_
  refine Q_then ?_
  refine R_seq ?_
  refine R_condP rfl (fun hlt => ?_) (fun hlt => ?_)
  · skip
    have hlt' : i < l.length := by omega
    obtain ⟨m, hm⟩ : ∃ m, l[i]? = some m := ⟨_, List.getElem?_eq_getElem hlt'⟩
    have hmm := List.mem_of_getElem? hm
    obtain ⟨⟨ha1, ha2⟩, ⟨hp1, hp2⟩, hq1, hq2⟩ := hok m hmm
    obtain ⟨hb1, hb2⟩ := hbd m hmm
    have hpw1 := hpw m hmm
    have hbn := bumpN_at (T := T) hm
    have hble := bestF_le (bumpL T l) i
    obtain ⟨mb, hmb⟩ : ∃ mb, l[bestF (bumpL T l) i]? = some mb := ⟨_, List.getElem?_eq_getElem (by omega)⟩
    have hold := bumpN_old (T := T) (i := i + 1) hmb (by omega)
    have hnew := bumpN_old (T := T) (i := i + 1) hm (by omega)
    have hqm := bumpL_mAt (T := T) hm
    have hqb := bumpL_mAt (T := T) hmb
    have hnlt : ¬ (bumpM T m).a < (bumpM T mb).a := by
      show ¬ m.a < mb.a
      by_cases e : bestF (bumpL T l) i = i
      · rw [e, hm] at hmb; obtain rfl := Option.some.inj hmb; omega
      · have := hsrt _ _ _ _ (show bestF (bumpL T l) i < i by omega) hmb hm; omega
    refine R_skip ?_
    refine Q_then ?_
    refine R_seq ?_
    refine R_block ?_
    refine R_seq ?_
    refine R_region ?_
    refine L_val rfl rfl rfl (OpP.v (P_move rfl rfl)) ?_
    refine L_val rfl rfl rfl (OpP.v (P_assign rfl rfl)) ?_
    refine L_nil ?_
    refine Q_then ?_
    refine R_seq ?_
    refine R_region ?_
    refine L_val rfl rfl rfl (OpP.v (P_fld0 rfl ty_fl_24_0 rfl)) ?_
    refine L_val rfl rfl rfl (V_load rfl rfl ty_sc_22 (Rd.blk .h0 rfl)) ?_
    refine L_val rfl rfl rfl (OpP.v (P_move rfl rfl)) ?_
    refine L_val rfl rfl rfl (OpP.v (P_ixs (i) rfl ty_sl_22 rfl rfl (by first | rfl | omega) (by omega))) ?_
    refine L_val rfl rfl rfl (OpP.v (P_assign rfl rfl)) ?_
    refine L_nil ?_
    refine Q_then ?_
    refine R_seq ?_
    refine R_open [(0, 0), (1, 0), (2, 0), (3, 0), (4, 1), (5, 0), (6, 0), (7, 0), (8, 1), (9, 0), (10, 0), (11, 0), (12, 0), (13, 0), (14, 0), (15, 3)] mixed (by kernel_rfl) (QOk.then (QOk.block (QOk.then (QOk.then (QOk.block (QOk.then QOk.body)))))) ?_
    refine O_pure rfl rfl rfl rfl (P_move rfl rfl) ?_
    refine O_pure rfl rfl rfl rfl (P_move rfl rfl) ?_
    refine O_pure rfl rfl rfl rfl (P_nil rfl rfl) ?_
    refine O_pure rfl rfl rfl rfl (P_fld rfl ty_fl_37_2 rfl) ?_
    refine O_val rfl rfl rfl rfl (V_load rfl rfl ty_sc_2 (rdo_mem .h1 hbn rfl)) ?_
    refine O_pure rfl rfl rfl rfl (P_move rfl rfl) ?_
    refine O_pure rfl rfl rfl rfl (P_nil rfl rfl) ?_
    refine O_pure rfl rfl rfl rfl (P_fld rfl ty_fl_37_1 rfl) ?_
    refine O_val rfl rfl rfl rfl (V_load rfl rfl ty_sc_34 (rdo_mem .h1 hbn rfl)) ?_
    first | (refine O_pure rfl rfl rfl rfl (P_convN rfl ty_int_34 ty_int_2 rfl (by simp only [fits]; omega)) ?_) | (refine O_pure rfl rfl rfl rfl (P_conv rfl ty_int_34 ty_int_2 rfl) ?_)
    first | (refine O_pure rfl rfl rfl rfl (P_addN rfl rfl rfl (by simp only [fits]; omega)) ?_) | (refine O_pure rfl rfl rfl rfl (P_add rfl rfl rfl) ?_)
    refine O_pure rfl rfl rfl rfl (P_move rfl rfl) ?_
    refine O_pure rfl rfl rfl rfl (P_min2 rfl rfl rfl) ?_
    refine O_pure rfl rfl rfl rfl (P_nil rfl rfl) ?_
    refine O_pure rfl rfl rfl rfl (P_fld rfl ty_fl_37_2 rfl) ?_
    refine O_new rfl rfl (W_storeOwn1 (T := 37) (sz := 3) (n := l.length) (c := uc) (cs := memC (bumpN T l i)) rfl rfl rfl rfl ty_sc_2 rfl .h1 (by rw [memC_length, bumpN_length]; omega) (K_new ?_))
    refine O_nil ?_
    refine Q_then ?_
    refine R_seq ?_
    refine St.res (rs' := [blk b2 [.slice (some ⟨ub, 0, none⟩) l.length uc] 24, ownS 37 3 (.slice (some ⟨ub, 0, none⟩) l.length uc) (l.length) (memC (bumpN T l (i + 1)))]) (by rw [memC_set hbn 2 (by decide) (v := .int .i64 (if 7 * T < m.q + m.p then 7 * T else m.q + m.p)) (y := bumpM T m) rfl, bumpN_step hm]; exact Weak.refl _) ?_
    refine R_open [(0, 0), (1, 0), (2, 0), (3, 1), (4, 0), (5, 1), (6, 0), (7, 0), (8, 1), (9, 2), (10, 0)] mixed (by kernel_rfl) (QOk.then (QOk.block (QOk.then (QOk.then (QOk.block (QOk.then QOk.body)))))) ?_
    refine O_pure rfl rfl rfl rfl (P_move rfl rfl) ?_
    refine O_pure rfl rfl rfl rfl (P_move rfl rfl) ?_
    refine O_pure rfl rfl rfl rfl (P_nil rfl rfl) ?_
    refine O_val rfl rfl rfl rfl (V_loadAgg rfl rfl ty_ag_37 (rdso_mem .h1 hnew) (rfl)) ?_
    refine O_pure rfl rfl rfl rfl (P_fld0 rfl ty_fl_24_0 rfl) ?_
    refine O_val rfl rfl rfl rfl (V_load rfl rfl ty_sc_22 (Rd.blk .h0 rfl)) ?_
    refine O_pure rfl rfl rfl rfl (P_move rfl rfl) ?_
    refine O_pure rfl rfl rfl rfl (P_ixs (bestF (bumpL T l) i) rfl ty_sl_22 rfl rfl (by first | rfl | omega) (by omega)) ?_
    refine O_val rfl rfl rfl rfl (V_loadAgg rfl rfl ty_ag_37 (rdso_mem .h1 hold) (rfl)) ?_
    refine O_keep rfl rfl (W_callFV (fi := []) (ca := []) rfl rfl rfl rfl rfl rfl fn_ca_37 (first_ok (bumpM T m) (bumpM T mb)) (fun _ _ => trivial) (K_keep (Weak.refl _) ?_))
    refine O_pure rfl rfl rfl rfl (P_lss rfl rfl rfl) ?_
    refine O_nil ?_
    refine Q_then ?_
    refine R_condP rfl (fun hf => ?_) (fun hf => ?_)
    · skip
      refine R_region ?_
      refine L_val rfl rfl rfl (OpP.v (P_move rfl rfl)) ?_
      refine L_val rfl rfl rfl (OpP.v (P_assign rfl rfl)) ?_
      refine L_nil ?_
      refine Q_block ?_
      refine Q_then ?_
      refine R_region ?_
      first | (refine L_val rfl rfl rfl (OpP.v (P_addN rfl rfl rfl (by simp only [fits]; omega))) ?_) | (refine L_val rfl rfl rfl (OpP.v (P_add rfl rfl rfl)) ?_)
      refine L_val rfl rfl rfl (OpP.v (P_move rfl rfl)) ?_
      refine L_nil ?_
      have hnext : bestF (bumpL T l) (i + 1) = i := by
        show (if (mAt (bumpL T l) (bestF (bumpL T l) i)).q < (mAt (bumpL T l) i).q then i else bestF (bumpL T l) i) = _
        rw [hqm, hqb, if_pos ((firstI_neg hnlt).1 hf)]
      refine E_as (t := 7) (v' := .int .i64 ((bestF (bumpL T l) (i + 1) : Nat) : Int)) rfl (by rw [hnext]) ?_
      exact Q_round (i + 1) (by show (i + 1) ≤ l.length; omega) (by show l.length - (i + 1) < l.length - i; omega) (by repeat (first | exact .nil | refine .cons rfl ?_ | refine .consE rfl (by first | rfl | (congr 1; omega) | (congr 1; push_cast; omega)) ?_)) (Weak.refl _)
    · skip
      refine R_skip ?_
      refine Q_block ?_
      refine Q_then ?_
      refine R_region ?_
      first | (refine L_val rfl rfl rfl (OpP.v (P_addN rfl rfl rfl (by simp only [fits]; omega))) ?_) | (refine L_val rfl rfl rfl (OpP.v (P_add rfl rfl rfl)) ?_)
      refine L_val rfl rfl rfl (OpP.v (P_move rfl rfl)) ?_
      refine L_nil ?_
      have hnext : bestF (bumpL T l) (i + 1) = bestF (bumpL T l) i := by
        show (if (mAt (bumpL T l) (bestF (bumpL T l) i)).q < (mAt (bumpL T l) i).q then i else bestF (bumpL T l) i) = _
        rw [hqm, hqb, if_neg (fun h => hf ((firstI_neg hnlt).2 h))]
      refine E_as (t := 7) (v' := .int .i64 ((bestF (bumpL T l) (i + 1) : Nat) : Int)) rfl (by rw [hnext]) ?_
      exact Q_round (i + 1) (by show (i + 1) ≤ l.length; omega) (by show l.length - (i + 1) < l.length - i; omega) (by repeat (first | exact .nil | refine .cons rfl ?_ | refine .consE rfl (by first | rfl | (congr 1; omega) | (congr 1; push_cast; omega)) ?_)) (Weak.refl _)
  · skip
    have hin : i = l.length := by omega
    rw [hin]
    obtain ⟨k, hk⟩ : ∃ k, k = chosen T l := ⟨_, rfl⟩
    have hkl : k < l.length := by rw [hk]; exact chosen_lt hpos
    obtain ⟨mc, hmc⟩ : ∃ mc, l[k]? = some mc := ⟨_, List.getElem?_eq_getElem hkl⟩
    have hbc := bumpL_at (T := T) hmc
    have hmm := List.mem_of_getElem? hmc
    obtain ⟨⟨ha1, ha2⟩, ⟨hp1, hp2⟩, hq1, hq2⟩ := hok mc hmm
    obtain ⟨hb1, hb2⟩ := hbd mc hmm
    have hpw1 := hpw mc hmm
    obtain ⟨bq, hbq⟩ : ∃ bq, bq = (bumpM T mc).q := ⟨_, rfl⟩
    have hbq1 : -(7 * T) ≤ bq ∧ bq ≤ 7 * T := by rw [hbq]; simp only [bumpM]; split <;> omega
    have honce : onceL T l = (bumpL T l).set k (payM T (bumpM T mc)) := by unfold onceL; rw [← hk, bumpL_mAt hmc]
    have hchA : choA T l = mc.a := by unfold choA; rw [← hk, bumpL_mAt hmc]; rfl
    rw [show bestF (bumpL T l) l.length = k from hk.symm, bumpN_full]
    refine R_exit ?_
    refine Q_then_exit ?_
    refine Q_then_exit ?_
    refine Q_block_eq ?_
    refine St.env (.cons (t := 1) rfl (.cons (t := 2) rfl (.cons (t := 4) rfl (.cons (t := 5) rfl (.cons (t := 7) rfl .nil))))) ?_
    refine Q_then ?_
    refine R_seq ?_
    refine R_region ?_
    refine L_val rfl rfl rfl (OpP.v (P_fld0 rfl ty_fl_24_0 rfl)) ?_
    refine L_val rfl rfl rfl (V_load rfl rfl ty_sc_22 (Rd.blk .h0 rfl)) ?_
    refine L_val rfl rfl rfl (OpP.v (P_move rfl rfl)) ?_
    refine L_val rfl rfl rfl (OpP.v (P_ixs (k) rfl ty_sl_22 rfl rfl (by first | rfl | omega) (by omega))) ?_
    refine L_val rfl rfl rfl (OpP.v (P_assign rfl rfl)) ?_
    refine L_nil ?_
    refine St.env (.cons (t := 1) rfl (.cons (t := 4) rfl (.cons (t := 5) rfl (.cons (t := 10) rfl .nil)))) ?_
    refine Q_then ?_
    refine R_seq ?_
    refine R_region ?_
    refine L_val rfl rfl rfl (OpP.v (P_move rfl rfl)) ?_
    refine L_val rfl rfl rfl (OpP.v (P_move rfl rfl)) ?_
    refine L_val rfl rfl rfl (OpP.v (P_nil rfl rfl)) ?_
    refine L_val rfl rfl rfl (OpP.v (P_fld rfl ty_fl_37_2 rfl)) ?_
    refine L_val rfl rfl rfl (V_load rfl rfl ty_sc_2 (rdo_mem .h1 hbc rfl)) ?_
    refine E_as (t := 59) (v' := .int .i64 bq) rfl (by rw [hbq]) ?_
    refine L_val rfl rfl rfl (OpP.v (P_move rfl rfl)) ?_
    first | (refine L_val rfl rfl rfl (OpP.v (P_subN rfl rfl rfl (by simp only [fits]; omega))) ?_) | (refine L_val rfl rfl rfl (OpP.v (P_sub rfl rfl rfl)) ?_)
    refine L_val rfl rfl rfl (OpP.v (P_move rfl rfl)) ?_
    refine L_val rfl rfl rfl (OpP.v (P_neg rfl rfl)) ?_
    refine E_as (t := 63) (v' := .int .i64 (-(7 * T))) rfl (by rw [wrap_fits (by simp only [fits]; omega)]) ?_
    refine L_val rfl rfl rfl (OpP.v (P_max2 rfl rfl rfl)) ?_
    refine L_val rfl rfl rfl (OpP.v (P_nil rfl rfl)) ?_
    refine L_val rfl rfl rfl (OpP.v (P_fld rfl ty_fl_37_2 rfl)) ?_
    refine L_op rfl (W_storeOwn1 (T := 37) (sz := 3) (n := l.length) (c := uc) (cs := memC (bumpL T l)) rfl rfl rfl rfl ty_sc_2 rfl .h1 (by rw [memC_length, bumpL_length]; omega) ?_)
    refine St.res (rs' := [blk b2 [.slice (some ⟨ub, 0, none⟩) l.length uc] 24, ownS 37 3 (.slice (some ⟨ub, 0, none⟩) l.length uc) (l.length) (memC (onceL T l))]) (by rw [memC_set hbc 2 (by decide) (v := .int .i64 (if -(7 * T) > bq - T then -(7 * T) else bq - T)) (y := payM T (bumpM T mc)) (by rw [hbq]; rfl), honce]; exact Weak.refl _) ?_
    have hpay : (onceL T l)[k]? = some (payM T (bumpM T mc)) := by rw [honce, List.getElem?_set_self (by rw [bumpL_length]; exact hkl)]
    refine L_nil ?_
    refine St.env (.cons (t := 4) rfl (.cons (t := 10) rfl .nil)) ?_
    refine Q_then ?_
    refine R_seq ?_
    refine R_region ?_
    refine L_val rfl rfl rfl (OpP.v (P_move rfl rfl)) ?_
    refine L_val rfl rfl rfl (OpP.v (P_nil rfl rfl)) ?_
    refine L_val rfl rfl rfl (OpP.v (P_fld rfl ty_fl_37_0 rfl)) ?_
    refine L_val rfl rfl rfl (V_load rfl rfl ty_sc_35 (rdo_mem .h1 hpay rfl)) ?_
    refine L_val rfl rfl rfl (OpP.v (P_assign rfl rfl)) ?_
    refine L_nil ?_
    refine St.env (.cons (t := 4) rfl .nil) ?_
    refine Q_then ?_
    refine R_ret ?_
    exact R_end (rs2 := _) rfl rfl (.tmp rfl .nil) (⟨by rw [hchA]; rfl, rfl⟩) (Weak.drop (Weak.refl _))
end Go.Proofs.YtjhhpagcejgclaaDoor
