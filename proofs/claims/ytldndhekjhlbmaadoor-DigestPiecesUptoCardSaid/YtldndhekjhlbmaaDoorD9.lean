/- Walks: what the laws share, and three laws. Printed by gen.py. -/
import Derived.Test.YtldndhekjhlbmaaDoorD8
import Derived.Test.YtldndhekjhlbmaaDoorEngH
set_option linter.unusedVariables false
set_option linter.unusedSimpArgs false
set_option maxRecDepth 100000
namespace Go.Proofs.YtldndhekjhlbmaaDoor
open Go Go.RowKit Go.Proofs
theorem roomy_ok {gl : Nat → Obj} (base : Option Addr) (c : Nat) (xs : List Int) (hmax : xs.length ≤ 140737488355000) : Spec (cx gl) 14 [.slice base xs.length c] (fun w _ => Row w base (ints .u8 xs)) [] (fun v rs => rs = [ownS 5 1 v (xs.length + 2) (ints .u8 (xs ++ [201, 202]))]) := by
  refine Spec.enter (C := cx gl) Tryd.func14 rfl 9 rfl rfl fun w0 h0 hsep hsub hpre => ?_
  obtain rfl : h0 = Heap.none := hsep
  show St (cx gl) _ [(0, .slice base xs.length c)] _ _
  refine R_seq ?_
  refine R_region ?_
  refine L_val rfl rfl rfl (OpP.v (P_assign rfl rfl)) ?_
  refine L_nil ?_
  refine Q_then ?_
  refine R_seq ?_
  refine R_region ?_
  refine St.res (rs' := [ownS 5 1 (.slice none 0 0) (0) ([])]) (Weak.newNil) ?_
  refine L_val rfl rfl rfl (OpP.v (P_move rfl rfl)) ?_
  refine L_op rfl (W_append (p := []) rfl rfl rfl ty_sl_26 ty_ap_26 ty_src_26 rfl rfl rfl (Src.row (Sn.row hpre rfl).rw_ (by rw [ints_length]; omega) ints_one) (by omega) (by simp only [maxLen]; omega) fun v5 => ?_)
  refine L_val rfl rfl rfl (OpP.v (P_assign rfl rfl)) ?_
  refine L_nil ?_
  refine St.env (.cons (t := 2) rfl (.cons (t := 3) rfl .nil)) ?_
  refine Q_then ?_
  refine R_seq ?_
  refine R_region ?_
  refine L_val rfl rfl rfl (OpP.v (P_move rfl rfl)) ?_
  refine L_op rfl (W_lit (z := .nilIface) (ints .u8 [201, 202]) rfl rfl rfl ty_sl_26 ty_lz_26 rfl rfl rfl (by decide) (by decide) (by simp [Value.cells]) (rfl) fun b7 => ?_)
  refine L_op rfl (W_append (p := [_]) rfl rfl rfl ty_sl_26 ty_ap_26 ty_src_26 rfl rfl rfl (Src.slice (sz := 1) (news := ints .u8 [201, 202]) (Rds.blk .h0) rfl ints_one) (by omega) (by simp only [maxLen]; omega) fun v8 => ?_)
  refine L_val rfl rfl rfl (OpP.v (P_assign rfl rfl)) ?_
  refine L_nil ?_
  refine St.env (.cons (t := 2) rfl .nil) ?_
  refine Q_then ?_
  refine R_ret ?_
  exact R_end (rs2 := _) rfl rfl (.tmp rfl .nil) (rfl) (Weak.drop (ownS.to (by omega) (by simp [ints])))
theorem kept_ok {gl : Nat → Obj} (fb fo fc : Nat) (base : Option Addr) (c : Nat) (xs : List Int) (hfc : xs.length + 2 ≤ fc) (hmax : xs.length ≤ 140737488355000) (hb : IsB xs) : SpecV (cx gl) 19 [.slice (some ⟨fb, fo, none⟩) (xs.length + 2) fc, .slice base xs.length c] (fun w => RowAt w ⟨fb, fo, none⟩ (ints .u8 (xs ++ [201, 202])) ∧ Row w base (ints .u8 xs)) (.bool true) := by
  refine Spec.enter (C := cx gl) Tryd.func19 rfl 37 rfl rfl fun w0 h0 hsep hsub hpre => ?_
  obtain rfl : h0 = Heap.none := hsep
  show St (cx gl) _ [(0, .slice (some ⟨fb, fo, none⟩) (xs.length + 2) fc), (1, .slice base xs.length c)] _ _
  have hfr : ∀ rs, Rw (cx gl) ⟨37, [], w0, Heap.none⟩ rs (some ⟨fb, fo, none⟩) (ints .u8 xs) := fun rs => by
    have h := (Sn.row (C := cx gl) (F := ⟨37, [], w0, Heap.none⟩) (rs := rs) hpre.1.row rfl).take xs.length
    rw [ints_take, List.take_left] at h
    exact h.rw_
  refine R_seq ?_
  refine R_region ?_
  refine L_val rfl rfl rfl (OpP.v (P_assign rfl rfl)) ?_
  refine L_nil ?_
  refine Q_then ?_
  refine R_seq ?_
  refine R_region ?_
  refine L_val rfl rfl rfl (OpP.v (P_move rfl rfl)) ?_
  refine L_val rfl rfl rfl (OpP.v (P_len rfl ty_sl_26 rfl)) ?_
  refine L_val rfl rfl rfl (OpP.v (P_assign rfl rfl)) ?_
  refine L_nil ?_
  refine St.env (.cons (t := 0) rfl (.cons (t := 1) rfl (.cons (t := 4) rfl (.cons (t := 5) rfl .nil)))) ?_
  refine Q_then ?_
  refine R_seq ?_
  refine R_open [(0, 0), (1, 0), (2, 0), (3, 0), (4, 0), (5, 0), (6, 0), (7, 0), (8, 0), (9, 1), (10, 0), (11, 1), (12, 0), (13, 0), (14, 0), (15, 0), (16, 0), (17, 0), (18, 1), (19, 0), (20, 0), (21, 0), (22, 0), (23, 0), (24, 0), (25, 0), (26, 1), (27, 0), (28, 0), (29, 0)] mixed (by kernel_rfl) (QOk.then QOk.body) ?_
  refine O_pure rfl rfl rfl rfl (P_move rfl rfl) ?_
  refine O_pure rfl rfl rfl rfl (P_len rfl ty_sl_26 rfl) ?_
  refine O_pure rfl rfl rfl rfl (P_move rfl rfl) ?_
  first | (refine O_pure rfl rfl rfl rfl (P_addN rfl rfl rfl (by simp only [fits]; omega)) ?_) | (refine O_pure rfl rfl rfl rfl (P_add rfl rfl rfl) ?_)
  refine O_pure rfl rfl rfl rfl (P_eql rfl rfl rfl) ?_
  refine E_true (t := 12) rfl (decide_eq_true (by omega)) ?_
  refine O_pure rfl rfl rfl rfl (P_move rfl rfl) ?_
  refine O_pure rfl rfl rfl rfl (P_move rfl rfl) ?_
  refine O_pure rfl rfl rfl rfl (P_move rfl rfl) ?_
  refine O_pure rfl rfl rfl rfl (P_slice 0 xs.length rfl ty_sl_26 rfl rfl ⟨_, rfl⟩ (by omega) (by omega)) ?_
  refine E_as (t := 16) (v' := .slice (some ⟨fb, fo, none⟩) xs.length fc) rfl (by unfold sliced; rw [if_neg (by omega)]; simp [add_zero_off]) ?_
  refine O_val rfl rfl rfl rfl (V_str rfl (slB_spec ty_sl_26).1 ty_int_5 ty_str_9 rfl (hfr _)) ?_
  refine O_pure rfl rfl rfl rfl (P_move rfl rfl) ?_
  refine O_val rfl rfl rfl rfl (V_str rfl (slB_spec ty_sl_26).1 ty_int_5 ty_str_9 rfl ((Sn.row hpre.2 rfl).rw_)) ?_
  refine O_pure rfl rfl rfl rfl (P_eqStr rfl rfl rfl hb hb) ?_
  refine E_true (t := 20) rfl (decide_eq_true rfl) ?_
  refine O_pure rfl rfl rfl rfl (P_pick rfl rfl rfl) ?_
  refine O_pure rfl rfl rfl rfl (P_move rfl rfl) ?_
  refine O_pure rfl rfl rfl rfl (P_move rfl rfl) ?_
  refine O_pure rfl rfl rfl rfl (P_move rfl rfl) ?_
  refine O_pure rfl rfl rfl rfl (P_ixs (xs.length) rfl ty_sl_26 rfl rfl (by first | rfl | omega) (by omega)) ?_
  refine O_val rfl rfl rfl rfl (V_load rfl rfl ty_sc_5 (Rd.row hpre.1 rfl (kept_at _ _ _ _).1)) ?_
  refine O_pure rfl rfl rfl rfl (P_eql rfl rfl rfl) ?_
  refine E_true (t := 27) rfl (rfl) ?_
  refine O_pure rfl rfl rfl rfl (P_pick rfl rfl rfl) ?_
  refine O_pure rfl rfl rfl rfl (P_move rfl rfl) ?_
  refine O_pure rfl rfl rfl rfl (P_move rfl rfl) ?_
  refine O_pure rfl rfl rfl rfl (P_move rfl rfl) ?_
  first | (refine O_pure rfl rfl rfl rfl (P_addN rfl rfl rfl (by simp only [fits]; omega)) ?_) | (refine O_pure rfl rfl rfl rfl (P_add rfl rfl rfl) ?_)
  refine O_pure rfl rfl rfl rfl (P_ixs (xs.length + 1) rfl ty_sl_26 rfl rfl (by first | rfl | omega) (by omega)) ?_
  refine O_val rfl rfl rfl rfl (V_load rfl rfl ty_sc_5 (Rd.row hpre.1 rfl (kept_at _ _ _ _).2)) ?_
  refine O_pure rfl rfl rfl rfl (P_eql rfl rfl rfl) ?_
  refine E_true (t := 35) rfl (rfl) ?_
  refine O_pure rfl rfl rfl rfl (P_pick rfl rfl rfl) ?_
  refine O_pure rfl rfl rfl rfl (P_assign rfl rfl) ?_
  refine O_nil ?_
  refine St.env (.cons (t := 4) rfl .nil) ?_
  refine Q_then ?_
  refine R_ret ?_
  exact R_endV rfl rfl (.tmp rfl .nil) (rfl)
end Go.Proofs.YtldndhekjhlbmaaDoor
