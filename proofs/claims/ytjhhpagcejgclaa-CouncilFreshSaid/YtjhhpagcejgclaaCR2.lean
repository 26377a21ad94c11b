/- Walks: scale, centre. Printed by gen.py. -/
import Derived.Test.YtjhhpagcejgclaaCDv
import Derived.Test.YtjhhpagcejgclaaCR1
set_option linter.unusedVariables false
set_option linter.unusedSimpArgs false
set_option maxRecDepth 100000
namespace Go.Proofs.Ytjhhpagcejgclaa
open Go Go.RowKit Go.Proofs
theorem scale_ok {gl : Nat → Obj} (T : Int) (l : List Mem) (hpos : 0 < l.length) (hfew : l.length ≤ 64) (hT0 : 0 < T) (hT1 : T ≤ msK) (hb : ∀ m ∈ l, -(7 * msK) ≤ m.q ∧ m.q ≤ 7 * msK) (ub uc : Nat) : SpecR (cx gl) 55 [.slice (some ⟨ub, 0, none⟩) l.length uc, .int .u64 T] (fun _ _ => True) [ownS 48 3 (.slice (some ⟨ub, 0, none⟩) l.length uc) (l.length) (memC (l))] (.tuple #[]) [ownS 48 3 (.slice (some ⟨ub, 0, none⟩) l.length uc) (l.length) (memC (narL T l))] := by
  refine Spec.enter (C := cx gl) Try.func55 rfl 70 rfl rfl fun w0 h0 hsep hsub hpre => ?_
  show St (cx gl) _ [(0, .slice (some ⟨ub, 0, none⟩) l.length uc), (1, .int .u64 T)] _ _
  have hms : msK = 1152921504606846975 := rfl
  obtain ⟨hs1, hs2, hs3⟩ := span_bd hpos hb
  have hspan : spanQ l = hiQ l l.length - loQ l l.length := rfl
  refine R_seq ?_
  refine R_open [(0, 0), (1, 0), (2, 0), (3, 1), (4, 0), (5, 0), (6, 0), (7, 1), (8, 0), (9, 0)] mixed (by kernel_rfl) (QOk.then QOk.body) ?_
  refine O_pure rfl rfl rfl rfl (P_move rfl rfl) ?_
  refine O_pure rfl rfl rfl rfl (P_ixs (0) rfl ty_sl_22 rfl rfl (by first | rfl | omega) (by omega)) ?_
  refine O_pure rfl rfl rfl rfl (P_fld rfl ty_fl_48_2 rfl) ?_
  refine O_val rfl rfl rfl rfl (V_load rfl rfl ty_sc_2 (rdo_mem .h0 (mAt_get hpos) rfl)) ?_
  refine O_pure rfl rfl rfl rfl (P_move rfl rfl) ?_
  refine O_pure rfl rfl rfl rfl (P_ixs (0) rfl ty_sl_22 rfl rfl (by first | rfl | omega) (by omega)) ?_
  refine O_pure rfl rfl rfl rfl (P_fld rfl ty_fl_48_2 rfl) ?_
  refine O_val rfl rfl rfl rfl (V_load rfl rfl ty_sc_2 (rdo_mem .h0 (mAt_get hpos) rfl)) ?_
  refine O_pure rfl rfl rfl rfl (P_assign rfl rfl) ?_
  refine O_pure rfl rfl rfl rfl (P_assign rfl rfl) ?_
  refine O_nil ?_
  refine St.env (.cons (t := 0) rfl (.cons (t := 1) rfl (.cons (t := 4) rfl (.cons (t := 5) rfl .nil)))) ?_
  refine Q_then ?_
  refine R_seq ?_
  refine R_seq ?_
  refine R_region ?_
  refine L_val rfl rfl rfl (OpP.v (P_move rfl rfl)) ?_
  refine L_val rfl rfl rfl (OpP.v (P_len rfl ty_sl_22 rfl)) ?_
  refine L_val rfl rfl rfl (OpP.v (P_move rfl rfl)) ?_
  refine L_nil ?_
  refine Q_then ?_
  refine R_block ?_
  refine R_loopE (G := Nat) (.cons (t := 0) rfl (.cons (t := 1) rfl (.cons (t := 19) rfl (.cons (t := 20) rfl .nil)))) (fun g => [(4, .int .i64 (loQ l g)), (5, .int .i64 (hiQ l g)), (21, .int .i64 (g : Int))]) (fun g => [ownS 48 3 (.slice (some ⟨ub, 0, none⟩) l.length uc) (l.length) (memC (l))]) (fun g => g ≤ l.length) (fun g => l.length - g) (0) (Nat.zero_le _) (by repeat (first | exact .nil | refine .cons rfl ?_ | refine .consE rfl (by first | rfl | (congr 1; omega) | (congr 1; push_cast; omega)) ?_)) (Weak.refl _) ?_
  intro i hinv
  replace hinv : i ≤ l.length := hinv
  show St (cx gl) _ ((4, .int .i64 (loQ l i)) :: (5, .int .i64 (hiQ l i)) :: (21, .int .i64 (i : Int)) :: _) [ownS 48 3 (.slice (some ⟨ub, 0, none⟩) l.length uc) (l.length) (memC (l))] _
  refine R_seq ?_
  refine R_region ?_
  refine L_val rfl rfl rfl (OpP.v (P_lss rfl rfl rfl)) ?_
  refine L_nil ?_
  refine Q_then ?_
  refine R_seq ?_
  refine R_condP rfl (fun hlt => ?_) (fun hlt => ?_)
  · skip
    have hlt' : i < l.length := by omega
    have hm := mAt_get hlt'
    have hbm := hb _ (mAt_mem hlt')
    refine R_skip ?_
    refine Q_then ?_
    refine R_seq ?_
    refine R_block ?_
    refine R_seq ?_
    refine R_region ?_
    refine L_val rfl rfl rfl (OpP.v (P_ixs (i) rfl ty_sl_22 rfl rfl (by first | rfl | omega) (by omega))) ?_
    refine L_val rfl rfl rfl (V_loadAgg rfl rfl ty_ag_48 (rdso_mem .h0 hm) (rfl)) ?_
    refine L_op rfl (W_alloc rfl rfl rfl ty_ze_48 fun b7 => ?_)
    refine L_op rfl (W_storeAll rfl rfl rfl rfl ty_ag_48 (rfl) (Mem.cells_one _) .h0 (rfl) ?_)
    refine L_nil ?_
    refine Q_then ?_
    refine R_open [(0, 0), (1, 0), (2, 1), (3, 0), (4, 0), (5, 0), (6, 1), (7, 0), (8, 0), (9, 0)] mixed (by kernel_rfl) (QOk.block (QOk.then (QOk.then (QOk.block (QOk.then QOk.body))))) ?_
    refine O_pure rfl rfl rfl rfl (P_move rfl rfl) ?_
    refine O_pure rfl rfl rfl rfl (P_fld0 rfl ty_fl_48_2 rfl) ?_
    refine O_val rfl rfl rfl rfl (V_load rfl rfl ty_sc_2 (Rd.blk .h0 rfl)) ?_
    refine O_pure rfl rfl rfl rfl (P_min2 rfl rfl rfl) ?_
    refine E_as (t := 28) (v' := .int .i64 (loQ l (i + 1))) rfl (rfl) ?_
    refine O_pure rfl rfl rfl rfl (P_move rfl rfl) ?_
    refine O_pure rfl rfl rfl rfl (P_fld0 rfl ty_fl_48_2 rfl) ?_
    refine O_val rfl rfl rfl rfl (V_load rfl rfl ty_sc_2 (Rd.blk .h0 rfl)) ?_
    refine O_pure rfl rfl rfl rfl (P_max2 rfl rfl rfl) ?_
    refine E_as (t := 32) (v' := .int .i64 (hiQ l (i + 1))) rfl (rfl) ?_
    refine O_pure rfl rfl rfl rfl (P_assign rfl rfl) ?_
    refine O_pure rfl rfl rfl rfl (P_assign rfl rfl) ?_
    refine O_nil ?_
    refine Q_block ?_
    refine Q_then ?_
    refine R_region ?_
    first | (refine L_val rfl rfl rfl (OpP.v (P_addN rfl rfl rfl (by simp only [fits]; omega))) ?_) | (refine L_val rfl rfl rfl (OpP.v (P_add rfl rfl rfl)) ?_)
    refine L_val rfl rfl rfl (OpP.v (P_move rfl rfl)) ?_
    refine L_nil ?_
    exact Q_round (i + 1) (by omega) (by show l.length - (i + 1) < l.length - i; omega) (by repeat (first | exact .nil | refine .cons rfl ?_ | refine .consE rfl (by first | rfl | (congr 1; omega) | (congr 1; push_cast; omega)) ?_)) (Weak.drop (Weak.refl _))
  · skip
    have hin : i = l.length := by omega
    rw [hin]
    refine R_exit ?_
    refine Q_then_exit ?_
    refine Q_then_exit ?_
    refine Q_block_eq ?_
    refine St.env (.cons (t := 0) rfl (.cons (t := 1) rfl (.cons (t := 4) rfl (.cons (t := 5) rfl .nil)))) ?_
    refine Q_then ?_
    refine R_seq ?_
    refine R_region ?_
    refine L_val rfl rfl rfl (OpP.v (P_move rfl rfl)) ?_
    refine L_val rfl rfl rfl (OpP.v (P_conv rfl ty_int_2 ty_int_32 rfl)) ?_
    refine L_val rfl rfl rfl (OpP.v (P_move rfl rfl)) ?_
    refine L_val rfl rfl rfl (OpP.v (P_conv rfl ty_int_2 ty_int_32 rfl)) ?_
    refine L_val rfl rfl rfl (OpP.v (P_sub rfl rfl rfl)) ?_
    refine E_as (t := 38) (v' := .int .u64 (spanQ l)) rfl (by rw [wrap_span (by omega) (by omega)]; rfl) ?_
    refine L_val rfl rfl rfl (OpP.v (P_assign rfl rfl)) ?_
    refine L_nil ?_
    refine St.env (.cons (t := 0) rfl (.cons (t := 1) rfl (.cons (t := 8) rfl .nil))) ?_
    refine Q_then ?_
    refine R_seq ?_
    refine R_seq ?_
    refine R_region ?_
    refine L_val rfl rfl rfl (OpP.v (P_move rfl rfl)) ?_
    refine L_val rfl rfl rfl (OpP.v (P_move rfl rfl)) ?_
    refine L_val rfl rfl rfl (OpP.v (P_mulN rfl rfl rfl (by simp only [fits]; omega))) ?_
    refine L_val rfl rfl rfl (OpP.v (P_leq rfl rfl rfl)) ?_
    refine L_nil ?_
    refine St.env (.cons (t := 0) rfl (.cons (t := 1) rfl (.cons (t := 8) rfl (.cons (t := 42) rfl .nil)))) ?_
    refine Q_then ?_
    refine R_condP rfl (fun hle => ?_) (fun hle => ?_)
    · skip
      refine R_ret ?_
      refine Q_then_ret ?_
      exact R_end (rs2 := _) rfl rfl (.nil) (⟨rfl, rfl⟩) (Weak.keep_to (fun h hh => by first | (rw [narL, if_pos hle]; exact hh) | (rw [narL, if_neg hle]; exact hh)))
    · skip
      have hgt : 2 * T < spanQ l := by omega
      have hr1 := (ratQ_spec hT0 (l := l) (by omega)).1
      have hr2 := (ratQ_spec hT0 (l := l) (by omega)).2.1
      have hr3 := ratQ_half hT0 (l := l) (by omega)
      have hd0 : 0 ≤ spanQ l / (2 * T) := Int.ediv_nonneg (by omega) (by omega)
      have hd1 : spanQ l / (2 * T) ≤ spanQ l := Int.ediv_le_self _ (by omega)
      refine R_skip ?_
      refine Q_then ?_
      refine R_seq ?_
      refine R_region ?_
      refine L_val rfl rfl rfl (OpP.v (P_move rfl rfl)) ?_
      refine L_val rfl rfl rfl (OpP.v (P_move rfl rfl)) ?_
      refine L_val rfl rfl rfl (OpP.v (P_mulN rfl rfl rfl (by simp only [fits]; omega))) ?_
      refine L_val rfl rfl rfl (OpP.v (P_quo rfl rfl rfl (by omega))) ?_
      refine E_as (t := 46) (v' := .int .u64 (spanQ l / (2 * T))) rfl (by rw [Int.tdiv_eq_ediv_of_nonneg (by omega), wrap_fits (by simp only [fits]; omega)]) ?_
      refine L_val rfl rfl rfl (OpP.v (P_assign rfl rfl)) ?_
      refine L_nil ?_
      refine St.env (.cons (t := 0) rfl (.cons (t := 1) rfl (.cons (t := 8) rfl (.cons (t := 9) rfl .nil)))) ?_
      refine Q_then ?_
      refine R_joinE0 (G := Unit) (.cons (t := 0) rfl .nil) (fun g => [(9, .int .u64 (ratQ T l))]) (fun g => True) ?_ ?_
      · skip
        refine R_seq ?_
        refine R_region ?_
        refine L_val rfl rfl rfl (OpP.v (P_move rfl rfl)) ?_
        refine L_val rfl rfl rfl (OpP.v (P_move rfl rfl)) ?_
        refine L_val rfl rfl rfl (OpP.v (P_mulN rfl rfl rfl (by simp only [fits]; omega))) ?_
        refine L_val rfl rfl rfl (OpP.v (P_rem rfl rfl rfl (by omega))) ?_
        refine E_as (t := 50) (v' := .int .u64 (spanQ l % (2 * T))) rfl (by rw [Int.tmod_eq_emod_of_nonneg (by omega)]) ?_
        refine L_val rfl rfl rfl (OpP.v (P_gtr rfl rfl rfl)) ?_
        refine L_nil ?_
        refine St.env (.cons (t := 0) rfl (.cons (t := 9) rfl (.cons (t := 51) rfl .nil))) ?_
        refine Q_then ?_
        refine R_condP rfl (fun hr => ?_) (fun hr => ?_)
        · skip
          have hr : 0 < spanQ l % (2 * T) := hr
          refine R_region ?_
          refine L_val rfl rfl rfl (OpP.v (P_move rfl rfl)) ?_
          refine L_val rfl rfl rfl (OpP.v (P_addN rfl rfl rfl (by simp only [fits]; omega))) ?_
          refine L_val rfl rfl rfl (OpP.v (P_assign rfl rfl)) ?_
          refine L_nil ?_
          refine St.env (.cons (t := 0) rfl (.cons (t := 9) rfl .nil)) ?_
          refine E_as (t := 9) (v' := .int .u64 (ratQ T l)) rfl (by unfold ratQ; rw [if_neg (by omega)]) ?_
          exact Q_meet () (trivial) (by repeat (first | exact .nil | refine .cons rfl ?_ | refine .consE rfl (by first | rfl | (congr 1; omega) | (congr 1; push_cast; omega)) ?_)) (Weak.refl _)
        · skip
          have hr : ¬ 0 < spanQ l % (2 * T) := hr
          have hrm := Int.emod_nonneg (spanQ l) (show 2 * T ≠ 0 by omega)
          refine R_skip ?_
          refine E_as (t := 9) (v' := .int .u64 (ratQ T l)) rfl (by unfold ratQ; rw [if_pos (by omega)]) ?_
          exact Q_meet () (trivial) (by repeat (first | exact .nil | refine .cons rfl ?_ | refine .consE rfl (by first | rfl | (congr 1; omega) | (congr 1; push_cast; omega)) ?_)) (Weak.refl _)
      · rintro ⟨⟩ hinv
        replace hinv : True := hinv
        show St (cx gl) _ ((9, .int .u64 (ratQ T l)) :: _) _ _
        refine R_seq ?_
        refine R_region ?_
        refine L_val rfl rfl rfl (OpP.v (P_move rfl rfl)) ?_
        refine L_val rfl rfl rfl (OpP.v (P_len rfl ty_sl_22 rfl)) ?_
        refine L_val rfl rfl rfl (OpP.v (P_move rfl rfl)) ?_
        refine L_nil ?_
        refine St.env (.cons (t := 0) rfl (.cons (t := 9) rfl (.cons (t := 55) rfl (.cons (t := 56) rfl .nil)))) ?_
        refine Q_then ?_
        refine R_block ?_
        refine R_loopE (G := Nat) (.cons (t := 0) rfl (.cons (t := 9) rfl (.cons (t := 55) rfl .nil))) (fun g => [(56, .int .i64 (g : Int))]) (fun g => [ownS 48 3 (.slice (some ⟨ub, 0, none⟩) l.length uc) (l.length) (memC (mapN (narM (ratQ T l)) l g))]) (fun g => g ≤ l.length) (fun g => l.length - g) (0) (Nat.zero_le _) (by repeat (first | exact .nil | refine .cons rfl ?_ | refine .consE rfl (by first | rfl | (congr 1; omega) | (congr 1; push_cast; omega)) ?_)) (by rw [mapN_zero]; exact Weak.refl _) ?_
        intro i hinv
        replace hinv : i ≤ l.length := hinv
        show St (cx gl) _ ((56, .int .i64 (i : Int)) :: _) [ownS 48 3 (.slice (some ⟨ub, 0, none⟩) l.length uc) (l.length) (memC (mapN (narM (ratQ T l)) l i))] _
        refine R_seq ?_
        refine R_region ?_
        refine L_val rfl rfl rfl (OpP.v (P_lss rfl rfl rfl)) ?_
        refine L_nil ?_
        refine Q_then ?_
        refine R_seq ?_
        refine R_condP rfl (fun hlt2 => ?_) (fun hlt2 => ?_)
        · skip
          have hlt' : i < l.length := by omega
          have hm := mAt_get hlt'
          have hbm := hb _ (mAt_mem hlt')
          have hbn := mapN_at (f := (narM (ratQ T l))) hm
          have htd := tdiv_bd (r := ratQ T l) hr1 hbm
          refine R_skip ?_
          refine Q_then ?_
          refine R_seq ?_
          refine R_block ?_
          refine R_seq ?_
          refine R_region ?_
          refine L_val rfl rfl rfl (OpP.v (P_move rfl rfl)) ?_
          refine L_val rfl rfl rfl (OpP.v (P_assign rfl rfl)) ?_
          refine L_nil ?_
          refine Q_then ?_
          refine R_region ?_
          refine L_val rfl rfl rfl (OpP.v (P_move rfl rfl)) ?_
          refine L_val rfl rfl rfl (OpP.v (P_move rfl rfl)) ?_
          refine L_val rfl rfl rfl (OpP.v (P_ixs (i) rfl ty_sl_22 rfl rfl (by first | rfl | omega) (by omega))) ?_
          refine L_val rfl rfl rfl (OpP.v (P_fld rfl ty_fl_48_2 rfl)) ?_
          refine L_val rfl rfl rfl (V_load rfl rfl ty_sc_2 (rdo_mem .h0 hbn rfl)) ?_
          refine L_val rfl rfl rfl (OpP.v (P_move rfl rfl)) ?_
          refine L_val rfl rfl rfl (OpP.v (P_convN rfl ty_int_32 ty_int_2 rfl (by simp only [fits]; omega))) ?_
          refine L_val rfl rfl rfl (OpP.v (P_quo rfl rfl rfl (by omega))) ?_
          refine E_as (t := 66) (v' := .int .i64 ((mAt l i).q.tdiv (ratQ T l))) rfl (by rw [wrap_fits (by simp only [fits]; omega)]) ?_
          refine L_val rfl rfl rfl (OpP.v (P_ixs (i) rfl ty_sl_22 rfl rfl (by first | rfl | omega) (by omega))) ?_
          refine L_val rfl rfl rfl (OpP.v (P_fld rfl ty_fl_48_2 rfl)) ?_
          refine L_op rfl (W_storeOwn1 (T := 48) (sz := 3) (n := l.length) (c := uc) (cs := memC (mapN (narM (ratQ T l)) l i)) rfl rfl rfl rfl ty_sc_2 rfl .h0 (by rw [memC_length, mapN_length]; omega) ?_)
          refine St.res (rs' := [ownS 48 3 (.slice (some ⟨ub, 0, none⟩) l.length uc) (l.length) (memC (mapN (narM (ratQ T l)) l (i + 1)))]) (by rw [memC_set hbn 2 (by decide) (v := .int .i64 ((mAt l i).q.tdiv (ratQ T l))) (y := (narM (ratQ T l)) (mAt l i)) rfl, mapN_step hm]; exact Weak.refl _) ?_
          refine L_nil ?_
          refine Q_block ?_
          refine Q_then ?_
          refine R_region ?_
          first | (refine L_val rfl rfl rfl (OpP.v (P_addN rfl rfl rfl (by simp only [fits]; omega))) ?_) | (refine L_val rfl rfl rfl (OpP.v (P_add rfl rfl rfl)) ?_)
          refine L_val rfl rfl rfl (OpP.v (P_move rfl rfl)) ?_
          refine L_nil ?_
          exact Q_round (i + 1) (by omega) (by show l.length - (i + 1) < l.length - i; omega) (by repeat (first | exact .nil | refine .cons rfl ?_ | refine .consE rfl (by first | rfl | (congr 1; omega) | (congr 1; push_cast; omega)) ?_)) (Weak.refl _)
        · skip
          have hin : i = l.length := by omega
          rw [hin, mapN_full]
          refine R_exit ?_
          refine Q_then_exit ?_
          refine Q_then_exit ?_
          refine Q_block_eq ?_
          refine St.env (.nil) ?_
          exact R_end0 (rs2 := _) rfl rfl (.nil) (⟨rfl, rfl⟩) (Weak.keep_to (fun h hh => by first | (rw [narL, if_pos hle]; exact hh) | (rw [narL, if_neg hle]; exact hh)))
set_option maxHeartbeats 4000000 in
theorem centre_ok {gl : Nat → Obj} (l : List Mem) (hpos : 0 < l.length) (hfew : l.length ≤ 64) (hb : ∀ m ∈ l, -(7 * msK) ≤ m.q ∧ m.q ≤ 7 * msK) (hsp : ∀ x ∈ l, ∀ y ∈ l, x.q - y.q ≤ 2 * msK) (ub uc : Nat) : SpecR (cx gl) 56 [.slice (some ⟨ub, 0, none⟩) l.length uc] (fun _ _ => True) [ownS 48 3 (.slice (some ⟨ub, 0, none⟩) l.length uc) (l.length) (memC (l))] (.tuple #[]) [ownS 48 3 (.slice (some ⟨ub, 0, none⟩) l.length uc) (l.length) (memC (cenL l))] := by
  refine Spec.enter (C := cx gl) Try.func56 rfl 88 rfl rfl fun w0 h0 hsep hsub hpre => ?_
  show St (cx gl) _ [(0, .slice (some ⟨ub, 0, none⟩) l.length uc)] _ _
  have hms : msK = 1152921504606846975 := rfl
  refine R_seq ?_
  refine R_region ?_
  refine L_val rfl rfl rfl (OpP.v (P_assign rfl rfl)) ?_
  refine L_val rfl rfl rfl (OpP.v (P_assign rfl rfl)) ?_
  refine L_nil ?_
  refine Q_then ?_
  refine R_seq ?_
  refine R_seq ?_
  refine R_region ?_
  refine L_val rfl rfl rfl (OpP.v (P_move rfl rfl)) ?_
  refine L_val rfl rfl rfl (OpP.v (P_len rfl ty_sl_22 rfl)) ?_
  refine L_val rfl rfl rfl (OpP.v (P_move rfl rfl)) ?_
  refine L_nil ?_
  refine Q_then ?_
  refine R_block ?_
  refine R_loopE (G := Nat) (.cons (t := 0) rfl (.cons (t := 14) rfl (.cons (t := 15) rfl .nil))) (fun g => [(2, .int .u64 (hiW (sumQ (l.take (g))))), (3, .int .u64 (loW (sumQ (l.take (g))))), (16, .int .i64 (g : Int))]) (fun g => [ownS 48 3 (.slice (some ⟨ub, 0, none⟩) l.length uc) (l.length) (memC (l))]) (fun g => g ≤ l.length) (fun g => l.length - g) (0) (Nat.zero_le _) (by repeat (first | exact .nil | refine .cons rfl ?_ | refine .consE rfl (by first | rfl | (congr 1; omega) | (congr 1; push_cast; omega)) ?_)) (Weak.refl _) ?_
  intro i hinv
  replace hinv : i ≤ l.length := hinv
  show St (cx gl) _ ((2, .int .u64 (hiW (sumQ (l.take (i))))) :: (3, .int .u64 (loW (sumQ (l.take (i))))) :: (16, .int .i64 (i : Int)) :: _) [ownS 48 3 (.slice (some ⟨ub, 0, none⟩) l.length uc) (l.length) (memC (l))] _
  refine R_seq ?_
  refine R_region ?_
  refine L_val rfl rfl rfl (OpP.v (P_lss rfl rfl rfl)) ?_
  refine L_nil ?_
  refine Q_then ?_
  refine R_seq ?_
  refine R_condP rfl (fun hlt => ?_) (fun hlt => ?_)
  · skip
    have hlt' : i < l.length := by omega
    have hm := mAt_get hlt'
    have hbm := hb _ (mAt_mem hlt')
    have hsn := sumQ_snoc hm
    have hl1 := loW_bd (sumQ (l.take (i)))
    have hh1 := hiW_bd (sumQ (l.take (i)))
    have hcb := carry_bd (sumQ (l.take (i))) (mAt l i).q
    have hw1 : 0 ≤ IntKind.u64.wrap (mAt l i).q := by rw [wrap_e]; omega
    have hw2 : 0 ≤ IntKind.u64.wrap (shrI .i64 (mAt l i).q 63) := by rw [wrap_e]; omega
    refine R_skip ?_
    refine Q_then ?_
    refine R_seq ?_
    refine R_block ?_
    refine R_seq ?_
    refine R_region ?_
    refine L_val rfl rfl rfl (OpP.v (P_ixs (i) rfl ty_sl_22 rfl rfl (by first | rfl | omega) (by omega))) ?_
    refine L_val rfl rfl rfl (V_loadAgg rfl rfl ty_ag_48 (rdso_mem .h0 hm) (rfl)) ?_
    refine L_op rfl (W_alloc rfl rfl rfl ty_ze_48 fun b5 => ?_)
    refine L_op rfl (W_storeAll rfl rfl rfl rfl ty_ag_48 (rfl) (Mem.cells_one _) .h0 (rfl) ?_)
    refine L_nil ?_
    refine Q_then ?_
    refine R_seq ?_
    refine R_region ?_
    refine L_val rfl rfl rfl (OpP.v (P_assign rfl rfl)) ?_
    refine L_nil ?_
    refine Q_then ?_
    refine R_seq ?_
    refine R_region ?_
    refine L_val rfl rfl rfl (OpP.v (P_move rfl rfl)) ?_
    refine L_val rfl rfl rfl (OpP.v (P_fld0 rfl ty_fl_48_2 rfl)) ?_
    refine L_val rfl rfl rfl (V_load rfl rfl ty_sc_2 (Rd.blk .h0 rfl)) ?_
    refine L_val rfl rfl rfl (OpP.v (P_conv rfl ty_int_2 ty_int_32 rfl)) ?_
    refine L_op rfl (W_val rfl rfl (OpP.v (P_ext rfl rfl (fun w => add64_run (loW (sumQ (l.take (i)))) (IntKind.u64.wrap (mAt l i).q) 0 (by omega) hw1 (by omega) (by omega) w))) ?_)
    refine L_val rfl rfl rfl (OpP.v (P_move rfl rfl)) ?_
    refine L_val rfl rfl rfl (OpP.v (P_extract rfl rfl rfl)) ?_
    refine E_as (t := 26) (v' := .int .u64 (loW (sumQ (l.take (i + 1))))) rfl (by rw [hsn, lo_step]) ?_
    refine L_val rfl rfl rfl (OpP.v (P_extract rfl rfl rfl)) ?_
    refine L_val rfl rfl rfl (OpP.v (P_assign rfl rfl)) ?_
    refine L_val rfl rfl rfl (OpP.v (P_assign rfl rfl)) ?_
    refine L_nil ?_
    refine Q_then ?_
    refine R_region ?_
    refine L_val rfl rfl rfl (OpP.v (P_move rfl rfl)) ?_
    refine L_val rfl rfl rfl (OpP.v (P_fld0 rfl ty_fl_48_2 rfl)) ?_
    refine L_val rfl rfl rfl (V_load rfl rfl ty_sc_2 (Rd.blk .h0 rfl)) ?_
    refine L_val rfl rfl rfl (OpP.v (P_shr rfl rfl rfl (by omega))) ?_
    refine L_val rfl rfl rfl (OpP.v (P_conv rfl ty_int_2 ty_int_32 rfl)) ?_
    refine L_val rfl rfl rfl (OpP.v (P_move rfl rfl)) ?_
    refine L_op rfl (W_val rfl rfl (OpP.v (P_ext rfl rfl (fun w => add64_run (hiW (sumQ (l.take (i)))) (IntKind.u64.wrap (shrI .i64 (mAt l i).q 63)) ((loW (sumQ (l.take (i))) + IntKind.u64.wrap (mAt l i).q + 0) / 18446744073709551616) (by omega) hw2 hcb.1 hcb.2 w))) ?_)
    refine L_val rfl rfl rfl (OpP.v (P_move rfl rfl)) ?_
    refine L_val rfl rfl rfl (OpP.v (P_extract rfl rfl rfl)) ?_
    refine E_as (t := 36) (v' := .int .u64 (hiW (sumQ (l.take (i + 1))))) rfl (by rw [hsn, hi_step (by omega) (by omega)]) ?_
    refine L_val rfl rfl rfl (OpP.v (P_extract rfl rfl rfl)) ?_
    refine L_val rfl rfl rfl (OpP.v (P_assign rfl rfl)) ?_
    refine L_nil ?_
    refine St.env (.cons (t := 0) rfl (.cons (t := 2) rfl (.cons (t := 3) rfl (.cons (t := 5) rfl (.cons (t := 6) rfl (.cons (t := 14) rfl (.cons (t := 15) rfl (.cons (t := 16) rfl (.cons (t := 17) rfl (.cons (t := 18) rfl (.cons (t := 19) rfl (.cons (t := 20) rfl (.cons (t := 21) rfl (.cons (t := 22) rfl (.cons (t := 23) rfl (.cons (t := 24) rfl (.cons (t := 25) rfl (.cons (t := 26) rfl (.cons (t := 27) rfl (.cons (t := 28) rfl (.cons (t := 29) rfl (.cons (t := 30) rfl (.cons (t := 31) rfl (.cons (t := 32) rfl (.cons (t := 33) rfl (.cons (t := 34) rfl (.cons (t := 35) rfl (.cons (t := 36) rfl .nil)))))))))))))))))))))))))))) ?_
    refine Q_block ?_
    refine Q_then ?_
    refine R_region ?_
    first | (refine L_val rfl rfl rfl (OpP.v (P_addN rfl rfl rfl (by simp only [fits]; omega))) ?_) | (refine L_val rfl rfl rfl (OpP.v (P_add rfl rfl rfl)) ?_)
    refine L_val rfl rfl rfl (OpP.v (P_move rfl rfl)) ?_
    refine L_nil ?_
    exact Q_round (i + 1) (by omega) (by show l.length - (i + 1) < l.length - i; omega) (by repeat (first | exact .nil | refine .cons rfl ?_ | refine .consE rfl (by first | rfl | (congr 1; omega) | (congr 1; push_cast; omega)) ?_)) (Weak.drop (Weak.refl _))
  · skip
    have hin : i = l.length := by omega
    rw [hin, List.take_length]
    obtain ⟨hsa, hsb⟩ := sumQ_bd hfew hb l.length
    rw [List.take_length] at hsa hsb
    obtain ⟨hsc, hsd⟩ := sumQ_abs hb
    have hl1 := loW_bd (sumQ l)
    have hh1 := hiW_bd (sumQ l)
    refine R_exit ?_
    refine Q_then_exit ?_
    refine Q_then_exit ?_
    refine Q_block_eq ?_
    refine St.env (.cons (t := 0) rfl (.cons (t := 2) rfl (.cons (t := 3) rfl .nil))) ?_
    refine Q_then ?_
    refine R_seq ?_
    refine R_region ?_
    refine L_val rfl rfl rfl (OpP.v (P_move rfl rfl)) ?_
    refine L_val rfl rfl rfl (OpP.v (P_len rfl ty_sl_22 rfl)) ?_
    refine L_val rfl rfl rfl (OpP.v (P_convN rfl ty_int_3 ty_int_32 rfl (by simp only [fits]; omega))) ?_
    refine L_val rfl rfl rfl (OpP.v (P_assign rfl rfl)) ?_
    refine L_nil ?_
    refine St.env (.cons (t := 0) rfl (.cons (t := 2) rfl (.cons (t := 3) rfl (.cons (t := 7) rfl .nil)))) ?_
    refine Q_then ?_
    refine R_seq ?_
    refine R_region ?_
    refine L_val rfl rfl rfl (OpP.v (P_move rfl rfl)) ?_
    refine L_val rfl rfl rfl (OpP.v (P_conv rfl ty_int_32 ty_int_2 rfl)) ?_
    refine L_val rfl rfl rfl (OpP.v (P_lss rfl rfl rfl)) ?_
    refine E_as (t := 44) (v' := .bool (decide (sumQ l < 0))) rfl (by rw [below_eq hsa hsb]) ?_
    refine L_val rfl rfl rfl (OpP.v (P_assign rfl rfl)) ?_
    refine L_nil ?_
    refine St.env (.cons (t := 0) rfl (.cons (t := 2) rfl (.cons (t := 3) rfl (.cons (t := 7) rfl (.cons (t := 8) rfl .nil))))) ?_
    refine Q_then ?_
    refine R_joinE0 (G := Int) (.cons (t := 0) rfl (.cons (t := 7) rfl (.cons (t := 8) rfl .nil))) (fun g => [(2, .int .u64 (hiW g)), (3, .int .u64 (loW g))]) (fun g => (sumQ l < 0 → g = -sumQ l) ∧ (¬ sumQ l < 0 → g = sumQ l)) ?_ ?_
    · skip
      refine R_seq ?_
      refine R_region ?_
      refine L_val rfl rfl rfl (OpP.v (P_move rfl rfl)) ?_
      refine L_nil ?_
      refine Q_then ?_
      refine R_condP rfl (fun hneg => ?_) (fun hneg => ?_)
      · skip
        refine R_seq ?_
        refine R_region ?_
        refine L_val rfl rfl rfl (OpP.v (P_assign rfl rfl)) ?_
        refine L_nil ?_
        refine St.env (.cons (t := 0) rfl (.cons (t := 2) rfl (.cons (t := 3) rfl (.cons (t := 7) rfl (.cons (t := 8) rfl (.cons (t := 9) rfl .nil)))))) ?_
        refine Q_then ?_
        refine R_seq ?_
        refine R_region ?_
        refine L_val rfl rfl rfl (OpP.v (P_move rfl rfl)) ?_
        refine L_op rfl (W_val rfl rfl (OpP.v (P_ext rfl rfl (fun w => sub64_run (loW (sumQ l)) 0 (by omega) (by omega) (by omega) (by omega) w))) ?_)
        refine L_val rfl rfl rfl (OpP.v (P_move rfl rfl)) ?_
        refine L_val rfl rfl rfl (OpP.v (P_extract rfl rfl rfl)) ?_
        refine E_as (t := 49) (v' := .int .u64 (loW (-sumQ l))) rfl (by rw [lo_neg]) ?_
        refine L_val rfl rfl rfl (OpP.v (P_extract rfl rfl rfl)) ?_
        obtain ⟨bo, hbo⟩ : ∃ x : Int, x = if 0 < loW (sumQ l) + 0 then 1 else 0 := ⟨_, rfl⟩
        have hbo0 : 0 ≤ bo ∧ bo ≤ 1 := by rw [hbo]; split <;> omega
        refine E_as (t := 50) (v' := .int .u64 bo) rfl (by rw [hbo]) ?_
        refine L_val rfl rfl rfl (OpP.v (P_assign rfl rfl)) ?_
        refine L_val rfl rfl rfl (OpP.v (P_assign rfl rfl)) ?_
        refine L_nil ?_
        refine St.env (.cons (t := 0) rfl (.cons (t := 2) rfl (.cons (t := 3) rfl (.cons (t := 7) rfl (.cons (t := 8) rfl (.cons (t := 9) rfl .nil)))))) ?_
        refine Q_then ?_
        refine R_region ?_
        refine L_val rfl rfl rfl (OpP.v (P_move rfl rfl)) ?_
        refine L_val rfl rfl rfl (OpP.v (P_move rfl rfl)) ?_
        refine L_op rfl (W_val rfl rfl (OpP.v (P_ext rfl rfl (fun w => sub64_run (hiW (sumQ l)) bo (by omega) (by omega) hbo0.1 hbo0.2 w))) ?_)
        refine L_val rfl rfl rfl (OpP.v (P_move rfl rfl)) ?_
        refine L_val rfl rfl rfl (OpP.v (P_extract rfl rfl rfl)) ?_
        refine E_as (t := 55) (v' := .int .u64 (hiW (-sumQ l))) rfl (by rw [hbo, hi_neg]) ?_
        refine L_val rfl rfl rfl (OpP.v (P_extract rfl rfl rfl)) ?_
        refine L_val rfl rfl rfl (OpP.v (P_assign rfl rfl)) ?_
        refine L_nil ?_
        refine St.env (.cons (t := 0) rfl (.cons (t := 2) rfl (.cons (t := 3) rfl (.cons (t := 7) rfl (.cons (t := 8) rfl .nil))))) ?_
        exact Q_meet (-sumQ l) (⟨fun _ => rfl, fun h => absurd hneg h⟩) (by repeat (first | exact .nil | refine .cons rfl ?_ | refine .consE rfl (by first | rfl | (congr 1; omega) | (congr 1; push_cast; omega)) ?_)) (Weak.refl _)
      · skip
        refine R_skip ?_
        exact Q_meet (sumQ l) (⟨fun h => absurd h hneg, fun _ => rfl⟩) (by repeat (first | exact .nil | refine .cons rfl ?_ | refine .consE rfl (by first | rfl | (congr 1; omega) | (congr 1; push_cast; omega)) ?_)) (Weak.refl _)
    · intro b hinv
      replace hinv : (sumQ l < 0 → b = -sumQ l) ∧ (¬ sumQ l < 0 → b = sumQ l) := hinv
      show St (cx gl) _ ((2, .int .u64 (hiW b)) :: (3, .int .u64 (loW b)) :: _) _ _
      obtain ⟨hba, hbb⟩ := hinv
      have hb0 : 0 ≤ b := by rcases Int.lt_or_le (sumQ l) 0 with h | h; (rw [hba h]; omega); (rw [hbb (by omega)]; exact h)
      have hb1 : b ≤ l.length * 8070450532247928825 := by rcases Int.lt_or_le (sumQ l) 0 with h | h; (rw [hba h]; omega); (rw [hbb (by omega)]; exact hsd)
      have hb2 := words (b := b) hb0 (by omega)
      have hl3 := loW_bd b
      have hh3 := hiW_bd b
      have hh4 := hi_small hb0 hb1 (by omega) (by omega)
      have hdv0 : 0 ≤ b / (l.length : Int) := Int.ediv_nonneg hb0 (by omega)
      have hdv1 : b / (l.length : Int) ≤ 8070450532247928825 := by have h9 := Int.ediv_le_ediv (c := (l.length : Int)) (by omega) hb1; rwa [Int.mul_ediv_cancel_left _ (by omega)] at h9
      have hrm0 := Int.emod_nonneg b (show (l.length : Int) ≠ 0 by omega)
      refine R_seq ?_
      refine R_region ?_
      refine L_val rfl rfl rfl (OpP.v (P_move rfl rfl)) ?_
      refine L_val rfl rfl rfl (OpP.v (P_move rfl rfl)) ?_
      refine L_val rfl rfl rfl (OpP.v (P_move rfl rfl)) ?_
      refine L_op rfl (W_callV rfl rfl rfl rfl fn_ca_68 (div64_ok (hiW b) (loW b) (l.length : Int) (by omega) (by omega) (by omega) (by omega) (by omega) (by omega)) (fun _ _ => trivial) ?_)
      refine L_val rfl rfl rfl (OpP.v (P_move rfl rfl)) ?_
      refine L_val rfl rfl rfl (OpP.v (P_extract rfl rfl rfl)) ?_
      refine E_as (t := 62) (v' := .int .u64 (b / (l.length : Int))) rfl (by rw [hb2]) ?_
      refine L_val rfl rfl rfl (OpP.v (P_extract rfl rfl rfl)) ?_
      refine E_as (t := 63) (v' := .int .u64 (b % (l.length : Int))) rfl (by rw [hb2]) ?_
      refine L_val rfl rfl rfl (OpP.v (P_assign rfl rfl)) ?_
      refine L_val rfl rfl rfl (OpP.v (P_assign rfl rfl)) ?_
      refine L_nil ?_
      refine St.env (.cons (t := 0) rfl (.cons (t := 8) rfl (.cons (t := 10) rfl (.cons (t := 11) rfl .nil)))) ?_
      refine Q_then ?_
      refine R_seq ?_
      refine R_region ?_
      refine L_val rfl rfl rfl (OpP.v (P_move rfl rfl)) ?_
      refine L_val rfl rfl rfl (OpP.v (P_convN rfl ty_int_32 ty_int_2 rfl (by simp only [fits]; omega))) ?_
      refine L_val rfl rfl rfl (OpP.v (P_assign rfl rfl)) ?_
      refine L_nil ?_
      refine St.env (.cons (t := 0) rfl (.cons (t := 8) rfl (.cons (t := 11) rfl (.cons (t := 12) rfl .nil)))) ?_
      refine Q_then ?_
      refine R_joinE0 (G := Unit) (.cons (t := 0) rfl .nil) (fun g => [(12, .int .i64 (meanQ l))]) (fun g => True) ?_ ?_
      · skip
        refine R_seq ?_
        refine R_region ?_
        refine L_val rfl rfl rfl (OpP.v (P_move rfl rfl)) ?_
        refine L_nil ?_
        refine St.env (.cons (t := 0) rfl (.cons (t := 11) rfl (.cons (t := 12) rfl (.cons (t := 66) rfl .nil)))) ?_
        refine Q_then ?_
        refine R_condP rfl (fun hneg2 => ?_) (fun hneg2 => ?_)
        · skip
          refine R_seq ?_
          refine R_region ?_
          refine L_val rfl rfl rfl (OpP.v (P_move rfl rfl)) ?_
          refine L_val rfl rfl rfl (OpP.v (P_neg rfl rfl)) ?_
          refine E_as (t := 68) (v' := .int .i64 (-(b / (l.length : Int)))) rfl (by rw [wrap_fits (by simp only [fits]; omega)]) ?_
          refine L_val rfl rfl rfl (OpP.v (P_assign rfl rfl)) ?_
          refine L_nil ?_
          refine St.env (.cons (t := 0) rfl (.cons (t := 11) rfl (.cons (t := 12) rfl .nil))) ?_
          refine Q_then ?_
          refine R_seq ?_
          refine R_region ?_
          refine L_val rfl rfl rfl (OpP.v (P_move rfl rfl)) ?_
          refine L_val rfl rfl rfl (OpP.v (P_gtr rfl rfl rfl)) ?_
          refine L_nil ?_
          refine St.env (.cons (t := 0) rfl (.cons (t := 12) rfl (.cons (t := 70) rfl .nil))) ?_
          refine Q_then ?_
          refine R_condP rfl (fun hrp => ?_) (fun hrp => ?_)
          · skip
            refine R_region ?_
            refine L_val rfl rfl rfl (OpP.v (P_move rfl rfl)) ?_
            refine L_val rfl rfl rfl (OpP.v (P_subN rfl rfl rfl (by simp only [fits]; omega))) ?_
            refine L_val rfl rfl rfl (OpP.v (P_assign rfl rfl)) ?_
            refine L_nil ?_
            refine St.env (.cons (t := 0) rfl (.cons (t := 12) rfl .nil)) ?_
            refine E_as (t := 12) (v' := .int .i64 (meanQ l)) rfl (by rw [mean_neg hpos (hba hneg2), if_pos hrp]) ?_
            exact Q_meet () (trivial) (by repeat (first | exact .nil | refine .cons rfl ?_ | refine .consE rfl (by first | rfl | (congr 1; omega) | (congr 1; push_cast; omega)) ?_)) (Weak.refl _)
          · skip
            refine R_skip ?_
            refine E_as (t := 12) (v' := .int .i64 (meanQ l)) rfl (by rw [mean_neg hpos (hba hneg2), if_neg hrp]) ?_
            exact Q_meet () (trivial) (by repeat (first | exact .nil | refine .cons rfl ?_ | refine .consE rfl (by first | rfl | (congr 1; omega) | (congr 1; push_cast; omega)) ?_)) (Weak.refl _)
        · skip
          refine R_skip ?_
          refine E_as (t := 12) (v' := .int .i64 (meanQ l)) rfl (by rw [mean_pos (hbb hneg2)]) ?_
          exact Q_meet () (trivial) (by repeat (first | exact .nil | refine .cons rfl ?_ | refine .consE rfl (by first | rfl | (congr 1; omega) | (congr 1; push_cast; omega)) ?_)) (Weak.refl _)
      · rintro ⟨⟩ hinv
        replace hinv : True := hinv
        show St (cx gl) _ ((12, .int .i64 (meanQ l)) :: _) _ _
        refine R_seq ?_
        refine R_region ?_
        refine L_val rfl rfl rfl (OpP.v (P_move rfl rfl)) ?_
        refine L_val rfl rfl rfl (OpP.v (P_len rfl ty_sl_22 rfl)) ?_
        refine L_val rfl rfl rfl (OpP.v (P_move rfl rfl)) ?_
        refine L_nil ?_
        refine St.env (.cons (t := 0) rfl (.cons (t := 12) rfl (.cons (t := 74) rfl (.cons (t := 75) rfl .nil)))) ?_
        refine Q_then ?_
        refine R_block ?_
        refine R_loopE (G := Nat) (.cons (t := 0) rfl (.cons (t := 12) rfl (.cons (t := 74) rfl .nil))) (fun g => [(75, .int .i64 (g : Int))]) (fun g => [ownS 48 3 (.slice (some ⟨ub, 0, none⟩) l.length uc) (l.length) (memC (mapN (cenM (meanQ l)) l g))]) (fun g => g ≤ l.length) (fun g => l.length - g) (0) (Nat.zero_le _) (by repeat (first | exact .nil | refine .cons rfl ?_ | refine .consE rfl (by first | rfl | (congr 1; omega) | (congr 1; push_cast; omega)) ?_)) (by rw [mapN_zero]; exact Weak.refl _) ?_
        intro i hinv
        replace hinv : i ≤ l.length := hinv
        show St (cx gl) _ ((75, .int .i64 (i : Int)) :: _) [ownS 48 3 (.slice (some ⟨ub, 0, none⟩) l.length uc) (l.length) (memC (mapN (cenM (meanQ l)) l i))] _
        refine R_seq ?_
        refine R_region ?_
        refine L_val rfl rfl rfl (OpP.v (P_lss rfl rfl rfl)) ?_
        refine L_nil ?_
        refine Q_then ?_
        refine R_seq ?_
        refine R_condP rfl (fun hlt2 => ?_) (fun hlt2 => ?_)
        · skip
          have hlt' : i < l.length := by omega
          have hm := mAt_get hlt'
          have hbm := hb _ (mAt_mem hlt')
          have hbn := mapN_at (f := (cenM (meanQ l))) hm
          have hmn := mean_span hpos hsp _ (mAt_mem hlt')
          refine R_skip ?_
          refine Q_then ?_
          refine R_seq ?_
          refine R_block ?_
          refine R_seq ?_
          refine R_region ?_
          refine L_val rfl rfl rfl (OpP.v (P_move rfl rfl)) ?_
          refine L_val rfl rfl rfl (OpP.v (P_assign rfl rfl)) ?_
          refine L_nil ?_
          refine Q_then ?_
          refine R_region ?_
          refine L_val rfl rfl rfl (OpP.v (P_move rfl rfl)) ?_
          refine L_val rfl rfl rfl (OpP.v (P_move rfl rfl)) ?_
          refine L_val rfl rfl rfl (OpP.v (P_ixs (i) rfl ty_sl_22 rfl rfl (by first | rfl | omega) (by omega))) ?_
          refine L_val rfl rfl rfl (OpP.v (P_fld rfl ty_fl_48_2 rfl)) ?_
          refine L_val rfl rfl rfl (V_load rfl rfl ty_sc_2 (rdo_mem .h0 hbn rfl)) ?_
          refine L_val rfl rfl rfl (OpP.v (P_move rfl rfl)) ?_
          refine L_val rfl rfl rfl (OpP.v (P_subN rfl rfl rfl (by simp only [fits]; omega))) ?_
          refine L_val rfl rfl rfl (OpP.v (P_ixs (i) rfl ty_sl_22 rfl rfl (by first | rfl | omega) (by omega))) ?_
          refine L_val rfl rfl rfl (OpP.v (P_fld rfl ty_fl_48_2 rfl)) ?_
          refine L_op rfl (W_storeOwn1 (T := 48) (sz := 3) (n := l.length) (c := uc) (cs := memC (mapN (cenM (meanQ l)) l i)) rfl rfl rfl rfl ty_sc_2 rfl .h0 (by rw [memC_length, mapN_length]; omega) ?_)
          refine St.res (rs' := [ownS 48 3 (.slice (some ⟨ub, 0, none⟩) l.length uc) (l.length) (memC (mapN (cenM (meanQ l)) l (i + 1)))]) (by rw [memC_set hbn 2 (by decide) (v := .int .i64 ((mAt l i).q - meanQ l)) (y := (cenM (meanQ l)) (mAt l i)) rfl, mapN_step hm]; exact Weak.refl _) ?_
          refine L_nil ?_
          refine Q_block ?_
          refine Q_then ?_
          refine R_region ?_
          first | (refine L_val rfl rfl rfl (OpP.v (P_addN rfl rfl rfl (by simp only [fits]; omega))) ?_) | (refine L_val rfl rfl rfl (OpP.v (P_add rfl rfl rfl)) ?_)
          refine L_val rfl rfl rfl (OpP.v (P_move rfl rfl)) ?_
          refine L_nil ?_
          exact Q_round (i + 1) (by omega) (by show l.length - (i + 1) < l.length - i; omega) (by repeat (first | exact .nil | refine .cons rfl ?_ | refine .consE rfl (by first | rfl | (congr 1; omega) | (congr 1; push_cast; omega)) ?_)) (Weak.refl _)
        · skip
          have hin : i = l.length := by omega
          rw [hin, mapN_full]
          refine R_exit ?_
          refine Q_then_exit ?_
          refine Q_then_exit ?_
          refine Q_block_eq ?_
          refine St.env (.nil) ?_
          exact R_end0 (rs2 := _) rfl rfl (.nil) (⟨rfl, rfl⟩) (Weak.refl _)
end Go.Proofs.Ytjhhpagcejgclaa
