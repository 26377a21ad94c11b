/- Walks: the reference's narrowed, floor, centred. Printed by gen.py. -/
import Derived.Test.YtjhhpagcejgclaaCPw
import Derived.Test.YtjhhpagcejgclaaRenew
set_option linter.unusedVariables false
set_option linter.unusedSimpArgs false
set_option maxRecDepth 100000
namespace Go.Proofs.Ytjhhpagcejgclaa
open Go Go.RowKit Go.Proofs
theorem narrowed_ok {gl : Nat → Obj} (T : Int) (l : List Mem) (hpos : 0 < l.length) (hfew : l.length ≤ 64) (hT0 : 0 < T) (hT1 : T ≤ msK) (hb : ∀ m ∈ l, -(7 * msK) ≤ m.q ∧ m.q ≤ 7 * msK) (ub uc : Nat) : SpecR (cx gl) 57 [.slice (some ⟨ub, 0, none⟩) l.length uc, .int .u64 T] (fun _ _ => True) [ownS 48 3 (.slice (some ⟨ub, 0, none⟩) l.length uc) (l.length) (memC (l))] (.tuple #[]) [ownS 48 3 (.slice (some ⟨ub, 0, none⟩) l.length uc) (l.length) (memC (narL T l))] := by
  refine Spec.enter (C := cx gl) Try.func57 rfl 92 rfl rfl fun w0 h0 hsep hsub hpre => ?_
  show St (cx gl) _ [(0, .slice (some ⟨ub, 0, none⟩) l.length uc), (1, .int .u64 T)] _ _
  have hms : msK = 1152921504606846975 := rfl
  obtain ⟨hs1, hs2, hs3⟩ := span_bd hpos hb
  have hspan : spanQ l = hiQ l l.length - loQ l l.length := rfl
  refine R_seq ?_
  refine R_region ?_
  refine L_val rfl rfl rfl (OpP.v (P_move rfl rfl)) ?_
  refine L_val rfl rfl rfl (OpP.v (P_ixs (0) rfl ty_sl_22 rfl rfl (by first | rfl | omega) (by omega))) ?_
  refine L_val rfl rfl rfl (OpP.v (P_fld rfl ty_fl_48_2 rfl)) ?_
  refine L_val rfl rfl rfl (V_load rfl rfl ty_sc_2 (rdo_mem .h0 (mAt_get hpos) rfl)) ?_
  refine L_val rfl rfl rfl (OpP.v (P_assign rfl rfl)) ?_
  refine L_nil ?_
  refine St.env (.cons (t := 0) rfl (.cons (t := 1) rfl (.cons (t := 4) rfl .nil))) ?_
  refine Q_then ?_
  refine R_seq ?_
  refine R_region ?_
  refine L_val rfl rfl rfl (OpP.v (P_move rfl rfl)) ?_
  refine L_val rfl rfl rfl (OpP.v (P_ixs (0) rfl ty_sl_22 rfl rfl (by first | rfl | omega) (by omega))) ?_
  refine L_val rfl rfl rfl (OpP.v (P_fld rfl ty_fl_48_2 rfl)) ?_
  refine L_val rfl rfl rfl (V_load rfl rfl ty_sc_2 (rdo_mem .h0 (mAt_get hpos) rfl)) ?_
  refine L_val rfl rfl rfl (OpP.v (P_assign rfl rfl)) ?_
  refine L_nil ?_
  refine St.env (.cons (t := 0) rfl (.cons (t := 1) rfl (.cons (t := 4) rfl (.cons (t := 5) rfl .nil)))) ?_
  refine Q_then ?_
  refine R_seq ?_
  refine R_seq ?_
  refine R_region ?_
  refine L_val rfl rfl rfl (OpP.v (P_assign rfl rfl)) ?_
  refine L_nil ?_
  refine Q_then ?_
  refine R_block ?_
  refine R_loopE (G := Nat) (.cons (t := 0) rfl (.cons (t := 1) rfl .nil)) (fun g => [(4, .int .i64 (hiQ l g)), (5, .int .i64 (loQ l g)), (6, .int .i64 (g : Int))]) (fun _ => _) (fun g => g ≤ l.length) (fun g => l.length - g) (0) (Nat.zero_le _) (by repeat (first | exact .nil | refine .cons rfl ?_ | refine .consE rfl (by first | rfl | (congr 1; omega) | (congr 1; push_cast; omega)) ?_)) (Weak.refl _) ?_
  intro i hinv
  replace hinv : i ≤ l.length := hinv
  show St (cx gl) _ ((4, .int .i64 (hiQ l i)) :: (5, .int .i64 (loQ l i)) :: (6, .int .i64 (i : Int)) :: _) _ _
  refine R_seq ?_
  refine R_seq ?_
  refine R_region ?_
  refine L_val rfl rfl rfl (OpP.v (P_move rfl rfl)) ?_
  refine L_val rfl rfl rfl (OpP.v (P_move rfl rfl)) ?_
  refine L_val rfl rfl rfl (OpP.v (P_len rfl ty_sl_22 rfl)) ?_
  refine L_val rfl rfl rfl (OpP.v (P_lss rfl rfl rfl)) ?_
  refine L_nil ?_
  refine Q_then ?_
  refine R_condP rfl (fun hlt => ?_) (fun hlt => ?_)
  · skip
    have hlt' : i < l.length := by omega
    have hm := mAt_get hlt'
    have hbm := hb _ (mAt_mem hlt')
    refine R_skip ?_
    refine Q_then ?_
    refine R_seq ?_
    refine R_block ?_
    refine R_seq ?_
    refine R_region ?_
    refine L_val rfl rfl rfl (OpP.v (P_move rfl rfl)) ?_
    refine L_val rfl rfl rfl (OpP.v (P_move rfl rfl)) ?_
    refine L_val rfl rfl rfl (OpP.v (P_move rfl rfl)) ?_
    refine L_val rfl rfl rfl (OpP.v (P_ixs (i) rfl ty_sl_22 rfl rfl (by first | rfl | omega) (by omega))) ?_
    refine L_val rfl rfl rfl (OpP.v (P_fld rfl ty_fl_48_2 rfl)) ?_
    refine L_val rfl rfl rfl (V_load rfl rfl ty_sc_2 (rdo_mem .h0 hm rfl)) ?_
    refine L_val rfl rfl rfl (OpP.v (P_max2 rfl rfl rfl)) ?_
    refine E_as (t := 31) (v' := .int .i64 (hiQ l (i + 1))) rfl (rfl) ?_
    refine L_val rfl rfl rfl (OpP.v (P_assign rfl rfl)) ?_
    refine L_nil ?_
    refine Q_then ?_
    refine R_region ?_
    refine L_val rfl rfl rfl (OpP.v (P_move rfl rfl)) ?_
    refine L_val rfl rfl rfl (OpP.v (P_move rfl rfl)) ?_
    refine L_val rfl rfl rfl (OpP.v (P_move rfl rfl)) ?_
    refine L_val rfl rfl rfl (OpP.v (P_ixs (i) rfl ty_sl_22 rfl rfl (by first | rfl | omega) (by omega))) ?_
    refine L_val rfl rfl rfl (OpP.v (P_fld rfl ty_fl_48_2 rfl)) ?_
    refine L_val rfl rfl rfl (V_load rfl rfl ty_sc_2 (rdo_mem .h0 hm rfl)) ?_
    refine L_val rfl rfl rfl (OpP.v (P_min2 rfl rfl rfl)) ?_
    refine E_as (t := 38) (v' := .int .i64 (loQ l (i + 1))) rfl (rfl) ?_
    refine L_val rfl rfl rfl (OpP.v (P_assign rfl rfl)) ?_
    refine L_nil ?_
    refine Q_block ?_
    refine Q_then ?_
    refine R_region ?_
    refine L_val rfl rfl rfl (OpP.v (P_move rfl rfl)) ?_
    first | (refine L_val rfl rfl rfl (OpP.v (P_addN rfl rfl rfl (by simp only [fits]; omega))) ?_) | (refine L_val rfl rfl rfl (OpP.v (P_add rfl rfl rfl)) ?_)
    refine L_val rfl rfl rfl (OpP.v (P_assign rfl rfl)) ?_
    refine L_nil ?_
    exact Q_round (i + 1) (by omega) (by show l.length - (i + 1) < l.length - i; omega) (by repeat (first | exact .nil | refine .cons rfl ?_ | refine .consE rfl (by first | rfl | (congr 1; omega) | (congr 1; push_cast; omega)) ?_)) (Weak.refl _)
  · skip
    have hin : i = l.length := by omega
    rw [hin]
    refine R_exit ?_
    refine Q_then_exit ?_
    refine Q_then_exit ?_
    refine Q_block_eq ?_
    refine St.env (.cons (t := 0) rfl (.cons (t := 1) rfl (.cons (t := 4) rfl (.cons (t := 5) rfl .nil)))) ?_
    refine Q_then ?_
    refine R_seq ?_
    refine R_region ?_
    refine L_val rfl rfl rfl (OpP.v (P_move rfl rfl)) ?_
    refine L_val rfl rfl rfl (OpP.v (P_conv rfl ty_int_2 ty_int_32 rfl)) ?_
    refine L_val rfl rfl rfl (OpP.v (P_move rfl rfl)) ?_
    refine L_val rfl rfl rfl (OpP.v (P_conv rfl ty_int_2 ty_int_32 rfl)) ?_
    refine L_val rfl rfl rfl (OpP.v (P_sub rfl rfl rfl)) ?_
    refine E_as (t := 43) (v' := .int .u64 (spanQ l)) rfl (by rw [wrap_span (by omega) (by omega)]; rfl) ?_
    refine L_val rfl rfl rfl (OpP.v (P_assign rfl rfl)) ?_
    refine L_nil ?_
    refine St.env (.cons (t := 0) rfl (.cons (t := 1) rfl (.cons (t := 7) rfl .nil))) ?_
    refine Q_then ?_
    refine R_seq ?_
    refine R_seq ?_
    refine R_region ?_
    refine L_val rfl rfl rfl (OpP.v (P_move rfl rfl)) ?_
    refine L_val rfl rfl rfl (OpP.v (P_move rfl rfl)) ?_
    refine L_val rfl rfl rfl (OpP.v (P_mulN rfl rfl rfl (by simp only [fits]; omega))) ?_
    refine L_val rfl rfl rfl (OpP.v (P_leq rfl rfl rfl)) ?_
    refine L_nil ?_
    refine St.env (.cons (t := 0) rfl (.cons (t := 1) rfl (.cons (t := 7) rfl (.cons (t := 47) rfl .nil)))) ?_
    refine Q_then ?_
    refine R_condP rfl (fun hle => ?_) (fun hle => ?_)
    · skip
      refine R_ret ?_
      refine Q_then_ret ?_
      exact R_end (rs2 := _) rfl rfl (.nil) (⟨rfl, rfl⟩) (Weak.keep_to (fun h hh => by first | (rw [narL, if_pos hle]; exact hh) | (rw [narL, if_neg hle]; exact hh)))
    · skip
      have hgt : 2 * T < spanQ l := by omega
      have hr1 := (ratQ_spec hT0 (l := l) (by omega)).1
      have hr2 := (ratQ_spec hT0 (l := l) (by omega)).2.1
      have hd0 : 0 ≤ spanQ l / (2 * T) := Int.ediv_nonneg (by omega) (by omega)
      have hd1 : spanQ l / (2 * T) ≤ spanQ l := Int.ediv_le_self _ (by omega)
      refine R_skip ?_
      refine Q_then ?_
      refine R_seq ?_
      refine R_region ?_
      refine L_val rfl rfl rfl (OpP.v (P_move rfl rfl)) ?_
      refine L_val rfl rfl rfl (OpP.v (P_move rfl rfl)) ?_
      refine L_val rfl rfl rfl (OpP.v (P_mulN rfl rfl rfl (by simp only [fits]; omega))) ?_
      refine L_val rfl rfl rfl (OpP.v (P_quo rfl rfl rfl (by omega))) ?_
      refine E_as (t := 51) (v' := .int .u64 (spanQ l / (2 * T))) rfl (by rw [Int.tdiv_eq_ediv_of_nonneg (by omega), wrap_fits (by simp only [fits]; omega)]) ?_
      refine L_val rfl rfl rfl (OpP.v (P_assign rfl rfl)) ?_
      refine L_nil ?_
      refine St.env (.cons (t := 0) rfl (.cons (t := 1) rfl (.cons (t := 7) rfl (.cons (t := 8) rfl .nil)))) ?_
      refine Q_then ?_
      refine R_joinE0 (G := Unit) (.cons (t := 0) rfl .nil) (fun g => [(8, .int .u64 (ratQ T l))]) (fun g => True) ?_ ?_
      · skip
        refine R_seq ?_
        refine R_region ?_
        refine L_val rfl rfl rfl (OpP.v (P_move rfl rfl)) ?_
        refine L_val rfl rfl rfl (OpP.v (P_move rfl rfl)) ?_
        refine L_val rfl rfl rfl (OpP.v (P_mulN rfl rfl rfl (by simp only [fits]; omega))) ?_
        refine L_val rfl rfl rfl (OpP.v (P_rem rfl rfl rfl (by omega))) ?_
        refine E_as (t := 55) (v' := .int .u64 (spanQ l % (2 * T))) rfl (by rw [Int.tmod_eq_emod_of_nonneg (by omega)]) ?_
        refine L_val rfl rfl rfl (OpP.v (P_neq rfl rfl rfl)) ?_
        refine L_nil ?_
        refine St.env (.cons (t := 0) rfl (.cons (t := 8) rfl (.cons (t := 56) rfl .nil))) ?_
        refine Q_then ?_
        refine R_condP rfl (fun hr => ?_) (fun hr => ?_)
        · skip
          refine R_region ?_
          refine L_val rfl rfl rfl (OpP.v (P_move rfl rfl)) ?_
          refine L_val rfl rfl rfl (OpP.v (P_addN rfl rfl rfl (by simp only [fits]; omega))) ?_
          refine L_val rfl rfl rfl (OpP.v (P_assign rfl rfl)) ?_
          refine L_nil ?_
          refine St.env (.cons (t := 0) rfl (.cons (t := 8) rfl .nil)) ?_
          refine E_as (t := 8) (v' := .int .u64 (ratQ T l)) rfl (by unfold ratQ; rw [if_neg hr]) ?_
          exact Q_meet () (trivial) (by repeat (first | exact .nil | refine .cons rfl ?_ | refine .consE rfl (by first | rfl | (congr 1; omega) | (congr 1; push_cast; omega)) ?_)) (Weak.refl _)
        · skip
          refine R_skip ?_
          refine E_as (t := 8) (v' := .int .u64 (ratQ T l)) rfl (by unfold ratQ; rw [if_pos (Classical.not_not.1 hr)]) ?_
          exact Q_meet () (trivial) (by repeat (first | exact .nil | refine .cons rfl ?_ | refine .consE rfl (by first | rfl | (congr 1; omega) | (congr 1; push_cast; omega)) ?_)) (Weak.refl _)
      · rintro ⟨⟩ hinv
        replace hinv : True := hinv
        show St (cx gl) _ ((8, .int .u64 (ratQ T l)) :: _) _ _
        refine R_seq ?_
        refine R_region ?_
        refine L_val rfl rfl rfl (OpP.v (P_assign rfl rfl)) ?_
        refine L_nil ?_
        refine Q_then ?_
        refine R_block ?_
        refine R_loopE (G := Nat) (.cons (t := 0) rfl (.cons (t := 8) rfl .nil)) (fun g => [(9, .int .i64 (g : Int))]) (fun g => [ownS 48 3 (.slice (some ⟨ub, 0, none⟩) l.length uc) (l.length) (memC (mapN (narM (ratQ T l)) l g))]) (fun g => g ≤ l.length) (fun g => l.length - g) (0) (Nat.zero_le _) (by repeat (first | exact .nil | refine .cons rfl ?_ | refine .consE rfl (by first | rfl | (congr 1; omega) | (congr 1; push_cast; omega)) ?_)) (by rw [mapN_zero]; exact Weak.refl _) ?_
        intro i hinv
        replace hinv : i ≤ l.length := hinv
        show St (cx gl) _ ((9, .int .i64 (i : Int)) :: _) [ownS 48 3 (.slice (some ⟨ub, 0, none⟩) l.length uc) (l.length) (memC (mapN (narM (ratQ T l)) l i))] _
        refine R_seq ?_
        refine R_seq ?_
        refine R_region ?_
        refine L_val rfl rfl rfl (OpP.v (P_move rfl rfl)) ?_
        refine L_val rfl rfl rfl (OpP.v (P_move rfl rfl)) ?_
        refine L_val rfl rfl rfl (OpP.v (P_len rfl ty_sl_22 rfl)) ?_
        refine L_val rfl rfl rfl (OpP.v (P_lss rfl rfl rfl)) ?_
        refine L_nil ?_
        refine Q_then ?_
        refine R_condP rfl (fun hlt2 => ?_) (fun hlt2 => ?_)
        · skip
          have hlt' : i < l.length := by omega
          have hm := mAt_get hlt'
          have hbm := hb _ (mAt_mem hlt')
          have hbn := mapN_at (f := (narM (ratQ T l))) hm
          refine R_skip ?_
          refine Q_then ?_
          refine R_seq ?_
          refine R_block ?_
          refine R_seq ?_
          refine R_region ?_
          refine L_val rfl rfl rfl (OpP.v (P_move rfl rfl)) ?_
          refine L_val rfl rfl rfl (OpP.v (P_move rfl rfl)) ?_
          refine L_val rfl rfl rfl (OpP.v (P_ixs (i) rfl ty_sl_22 rfl rfl (by first | rfl | omega) (by omega))) ?_
          refine L_val rfl rfl rfl (OpP.v (P_fld rfl ty_fl_48_2 rfl)) ?_
          refine L_val rfl rfl rfl (V_load rfl rfl ty_sc_2 (rdo_mem .h0 hbn rfl)) ?_
          refine L_val rfl rfl rfl (OpP.v (P_assign rfl rfl)) ?_
          refine L_nil ?_
          refine Q_then ?_
          refine R_seq ?_
          refine R_region ?_
          refine L_val rfl rfl rfl (OpP.v (P_move rfl rfl)) ?_
          refine L_val rfl rfl rfl (OpP.v (P_lss rfl rfl rfl)) ?_
          refine L_nil ?_
          refine Q_then ?_
          refine R_condP rfl (fun hneg => ?_) (fun hneg => ?_)
          · skip
            have hneg : (mAt l i).q < 0 := hneg
            have hx0 : 0 ≤ -(mAt l i).q / ratQ T l := Int.ediv_nonneg (by omega) (by omega)
            have hx1 : -(mAt l i).q / ratQ T l ≤ -(mAt l i).q := Int.ediv_le_self _ (by omega)
            refine R_region ?_
            refine L_val rfl rfl rfl (OpP.v (P_move rfl rfl)) ?_
            refine L_val rfl rfl rfl (OpP.v (P_move rfl rfl)) ?_
            refine L_val rfl rfl rfl (OpP.v (P_move rfl rfl)) ?_
            refine L_val rfl rfl rfl (OpP.v (P_neg rfl rfl)) ?_
            refine E_as (t := 75) (v' := .int .i64 (-(mAt l i).q)) rfl (by rw [wrap_fits (by simp only [fits]; omega)]) ?_
            refine L_val rfl rfl rfl (OpP.v (P_convN rfl ty_int_2 ty_int_32 rfl (by simp only [fits]; omega))) ?_
            refine L_val rfl rfl rfl (OpP.v (P_move rfl rfl)) ?_
            refine L_val rfl rfl rfl (OpP.v (P_quo rfl rfl rfl (by omega))) ?_
            refine E_as (t := 78) (v' := .int .u64 (-(mAt l i).q / ratQ T l)) rfl (by rw [Int.tdiv_eq_ediv_of_nonneg (by omega), wrap_fits (by simp only [fits]; omega)]) ?_
            refine L_val rfl rfl rfl (OpP.v (P_convN rfl ty_int_32 ty_int_2 rfl (by simp only [fits]; omega))) ?_
            refine L_val rfl rfl rfl (OpP.v (P_neg rfl rfl)) ?_
            refine E_as (t := 80) (v' := .int .i64 ((mAt l i).q.tdiv (ratQ T l))) rfl (by rw [wrap_fits (by simp only [fits]; omega), tdiv_neg_eq hneg]) ?_
            refine L_val rfl rfl rfl (OpP.v (P_ixs (i) rfl ty_sl_22 rfl rfl (by first | rfl | omega) (by omega))) ?_
            refine L_val rfl rfl rfl (OpP.v (P_fld rfl ty_fl_48_2 rfl)) ?_
            refine L_op rfl (W_storeOwn1 (T := 48) (sz := 3) (n := l.length) (c := uc) (cs := memC (mapN (narM (ratQ T l)) l i)) rfl rfl rfl rfl ty_sc_2 rfl .h0 (by rw [memC_length, mapN_length]; omega) ?_)
            refine St.res (rs' := [ownS 48 3 (.slice (some ⟨ub, 0, none⟩) l.length uc) (l.length) (memC (mapN (narM (ratQ T l)) l (i + 1)))]) (by rw [memC_set hbn 2 (by decide) (v := .int .i64 ((mAt l i).q.tdiv (ratQ T l))) (y := (narM (ratQ T l)) (mAt l i)) rfl, mapN_step hm]; exact Weak.refl _) ?_
            refine L_nil ?_
            refine Q_block ?_
            refine Q_then ?_
            refine R_region ?_
            refine L_val rfl rfl rfl (OpP.v (P_move rfl rfl)) ?_
            first | (refine L_val rfl rfl rfl (OpP.v (P_addN rfl rfl rfl (by simp only [fits]; omega))) ?_) | (refine L_val rfl rfl rfl (OpP.v (P_add rfl rfl rfl)) ?_)
            refine L_val rfl rfl rfl (OpP.v (P_assign rfl rfl)) ?_
            refine L_nil ?_
            exact Q_round (i + 1) (by omega) (by show l.length - (i + 1) < l.length - i; omega) (by repeat (first | exact .nil | refine .cons rfl ?_ | refine .consE rfl (by first | rfl | (congr 1; omega) | (congr 1; push_cast; omega)) ?_)) (Weak.refl _)
          · skip
            have hneg : ¬ (mAt l i).q < 0 := hneg
            have hx0 : 0 ≤ (mAt l i).q / ratQ T l := Int.ediv_nonneg (by omega) (by omega)
            have hx1 : (mAt l i).q / ratQ T l ≤ (mAt l i).q := Int.ediv_le_self _ (by omega)
            refine R_region ?_
            refine L_val rfl rfl rfl (OpP.v (P_move rfl rfl)) ?_
            refine L_val rfl rfl rfl (OpP.v (P_move rfl rfl)) ?_
            refine L_val rfl rfl rfl (OpP.v (P_move rfl rfl)) ?_
            refine L_val rfl rfl rfl (OpP.v (P_convN rfl ty_int_2 ty_int_32 rfl (by simp only [fits]; omega))) ?_
            refine L_val rfl rfl rfl (OpP.v (P_move rfl rfl)) ?_
            refine L_val rfl rfl rfl (OpP.v (P_quo rfl rfl rfl (by omega))) ?_
            refine E_as (t := 88) (v' := .int .u64 ((mAt l i).q / ratQ T l)) rfl (by rw [Int.tdiv_eq_ediv_of_nonneg (by omega), wrap_fits (by simp only [fits]; omega)]) ?_
            refine L_val rfl rfl rfl (OpP.v (P_convN rfl ty_int_32 ty_int_2 rfl (by simp only [fits]; omega))) ?_
            refine E_as (t := 89) (v' := .int .i64 ((mAt l i).q.tdiv (ratQ T l))) rfl (by rw [Int.tdiv_eq_ediv_of_nonneg (by omega)]) ?_
            refine L_val rfl rfl rfl (OpP.v (P_ixs (i) rfl ty_sl_22 rfl rfl (by first | rfl | omega) (by omega))) ?_
            refine L_val rfl rfl rfl (OpP.v (P_fld rfl ty_fl_48_2 rfl)) ?_
            refine L_op rfl (W_storeOwn1 (T := 48) (sz := 3) (n := l.length) (c := uc) (cs := memC (mapN (narM (ratQ T l)) l i)) rfl rfl rfl rfl ty_sc_2 rfl .h0 (by rw [memC_length, mapN_length]; omega) ?_)
            refine St.res (rs' := [ownS 48 3 (.slice (some ⟨ub, 0, none⟩) l.length uc) (l.length) (memC (mapN (narM (ratQ T l)) l (i + 1)))]) (by rw [memC_set hbn 2 (by decide) (v := .int .i64 ((mAt l i).q.tdiv (ratQ T l))) (y := (narM (ratQ T l)) (mAt l i)) rfl, mapN_step hm]; exact Weak.refl _) ?_
            refine L_nil ?_
            refine Q_block ?_
            refine Q_then ?_
            refine R_region ?_
            refine L_val rfl rfl rfl (OpP.v (P_move rfl rfl)) ?_
            first | (refine L_val rfl rfl rfl (OpP.v (P_addN rfl rfl rfl (by simp only [fits]; omega))) ?_) | (refine L_val rfl rfl rfl (OpP.v (P_add rfl rfl rfl)) ?_)
            refine L_val rfl rfl rfl (OpP.v (P_assign rfl rfl)) ?_
            refine L_nil ?_
            exact Q_round (i + 1) (by omega) (by show l.length - (i + 1) < l.length - i; omega) (by repeat (first | exact .nil | refine .cons rfl ?_ | refine .consE rfl (by first | rfl | (congr 1; omega) | (congr 1; push_cast; omega)) ?_)) (Weak.refl _)
        · skip
          have hin : i = l.length := by omega
          rw [hin, mapN_full]
          refine R_exit ?_
          refine Q_then_exit ?_
          refine Q_then_exit ?_
          refine Q_block_eq ?_
          refine St.env (.nil) ?_
          exact R_end0 (rs2 := _) rfl rfl (.nil) (⟨rfl, rfl⟩) (Weak.keep_to (fun h hh => by first | (rw [narL, if_pos hle]; exact hh) | (rw [narL, if_neg hle]; exact hh)))
theorem floor_ok {gl : Nat → Obj} (p n : Int) (hp : -(7 * msK) ≤ p ∧ p ≤ 7 * msK) (hn : 0 < n) (hn2 : n ≤ 64) : SpecV (cx gl) 69 [.int .i64 p, .int .i64 n] noPre (.tuple #[.int .i64 (p / n), .int .i64 (p % n)]) := by
  refine Spec.enter (C := cx gl) Try.func69 rfl 23 rfl rfl fun w0 h0 hsep hsub hpre => ?_
  obtain rfl : h0 = Heap.none := hsep
  show St (cx gl) _ [(0, .int .i64 p), (1, .int .i64 n)] _ _
  have hms : msK = 1152921504606846975 := rfl
  obtain ⟨hf1, hf2⟩ := floor_eq (p := p) hn
  have htd := tdiv_bd (r := n) (by omega) hp
  have htm : -n < p.tmod n ∧ p.tmod n < n := by have h1 := Int.tmod_lt_of_pos p hn; have h2 := Int.tmod_lt_of_pos (-p) hn; rw [Int.neg_tmod] at h2; omega
  refine R_seq ?_
  refine R_region ?_
  refine L_val rfl rfl rfl (OpP.v (P_assign rfl rfl)) ?_
  refine L_val rfl rfl rfl (OpP.v (P_assign rfl rfl)) ?_
  refine L_nil ?_
  refine Q_then ?_
  refine R_seq ?_
  refine R_region ?_
  refine L_val rfl rfl rfl (OpP.v (P_move rfl rfl)) ?_
  refine L_val rfl rfl rfl (OpP.v (P_move rfl rfl)) ?_
  refine L_val rfl rfl rfl (OpP.v (P_quo rfl rfl rfl (by omega))) ?_
  refine E_as (t := 10) (v' := .int .i64 (p.tdiv n)) rfl (by rw [wrap_fits (by simp only [fits]; omega)]) ?_
  refine L_val rfl rfl rfl (OpP.v (P_assign rfl rfl)) ?_
  refine L_nil ?_
  refine St.env (.cons (t := 0) rfl (.cons (t := 1) rfl (.cons (t := 4) rfl (.cons (t := 5) rfl (.cons (t := 6) rfl .nil))))) ?_
  refine Q_then ?_
  refine R_seq ?_
  refine R_region ?_
  refine L_val rfl rfl rfl (OpP.v (P_move rfl rfl)) ?_
  refine L_val rfl rfl rfl (OpP.v (P_move rfl rfl)) ?_
  refine L_val rfl rfl rfl (OpP.v (P_rem rfl rfl rfl (by omega))) ?_
  refine L_val rfl rfl rfl (OpP.v (P_assign rfl rfl)) ?_
  refine L_nil ?_
  refine St.env (.cons (t := 1) rfl (.cons (t := 4) rfl (.cons (t := 5) rfl (.cons (t := 6) rfl (.cons (t := 7) rfl .nil))))) ?_
  refine Q_then ?_
  refine R_seq ?_
  refine R_seq ?_
  refine R_region ?_
  refine L_val rfl rfl rfl (OpP.v (P_move rfl rfl)) ?_
  refine L_val rfl rfl rfl (OpP.v (P_lss rfl rfl rfl)) ?_
  refine L_nil ?_
  refine St.env (.cons (t := 1) rfl (.cons (t := 4) rfl (.cons (t := 5) rfl (.cons (t := 6) rfl (.cons (t := 7) rfl (.cons (t := 15) rfl .nil)))))) ?_
  refine Q_then ?_
  refine R_condP rfl (fun hr => ?_) (fun hr => ?_)
  · skip
    have hr : p.tmod n < 0 := hr
    refine R_seq ?_
    refine R_region ?_
    refine L_val rfl rfl rfl (OpP.v (P_move rfl rfl)) ?_
    refine L_val rfl rfl rfl (OpP.v (P_subN rfl rfl rfl (by simp only [fits]; omega))) ?_
    refine L_val rfl rfl rfl (OpP.v (P_assign rfl rfl)) ?_
    refine L_nil ?_
    refine St.env (.cons (t := 1) rfl (.cons (t := 4) rfl (.cons (t := 5) rfl (.cons (t := 6) rfl (.cons (t := 7) rfl .nil))))) ?_
    refine Q_then ?_
    refine R_region ?_
    refine L_val rfl rfl rfl (OpP.v (P_move rfl rfl)) ?_
    refine L_val rfl rfl rfl (OpP.v (P_move rfl rfl)) ?_
    refine L_val rfl rfl rfl (OpP.v (P_addN rfl rfl rfl (by simp only [fits]; omega))) ?_
    refine L_val rfl rfl rfl (OpP.v (P_assign rfl rfl)) ?_
    refine L_nil ?_
    refine St.env (.cons (t := 4) rfl (.cons (t := 5) rfl (.cons (t := 6) rfl (.cons (t := 7) rfl .nil)))) ?_
    refine Q_then ?_
    refine R_seq ?_
    refine R_region ?_
    refine L_val rfl rfl rfl (OpP.v (P_move rfl rfl)) ?_
    refine L_val rfl rfl rfl (OpP.v (P_move rfl rfl)) ?_
    refine L_val rfl rfl rfl (OpP.v (P_assign rfl rfl)) ?_
    refine L_val rfl rfl rfl (OpP.v (P_assign rfl rfl)) ?_
    refine L_nil ?_
    refine St.env (.cons (t := 4) rfl (.cons (t := 5) rfl .nil)) ?_
    refine Q_then ?_
    refine R_ret ?_
    exact R_endV rfl rfl (.tmp rfl (.tmp rfl .nil)) (by rw [hf1, hf2]; first | (rw [if_pos hr, if_pos hr]; rfl) | (rw [if_neg hr, if_neg hr]; rfl))
  · skip
    have hr : ¬ p.tmod n < 0 := hr
    refine R_skip ?_
    refine Q_then ?_
    refine R_seq ?_
    refine R_region ?_
    refine L_val rfl rfl rfl (OpP.v (P_move rfl rfl)) ?_
    refine L_val rfl rfl rfl (OpP.v (P_move rfl rfl)) ?_
    refine L_val rfl rfl rfl (OpP.v (P_assign rfl rfl)) ?_
    refine L_val rfl rfl rfl (OpP.v (P_assign rfl rfl)) ?_
    refine L_nil ?_
    refine St.env (.cons (t := 4) rfl (.cons (t := 5) rfl .nil)) ?_
    refine Q_then ?_
    refine R_ret ?_
    exact R_endV rfl rfl (.tmp rfl (.tmp rfl .nil)) (by rw [hf1, hf2]; first | (rw [if_pos hr, if_pos hr]; rfl) | (rw [if_neg hr, if_neg hr]; rfl))
theorem centred_ok {gl : Nat → Obj} (l : List Mem) (hpos : 0 < l.length) (hfew : l.length ≤ 64) (hb : ∀ m ∈ l, -(7 * msK) ≤ m.q ∧ m.q ≤ 7 * msK) (hsp : ∀ x ∈ l, ∀ y ∈ l, x.q - y.q ≤ 2 * msK) (ub uc : Nat) : SpecR (cx gl) 58 [.slice (some ⟨ub, 0, none⟩) l.length uc] (fun _ _ => True) [ownS 48 3 (.slice (some ⟨ub, 0, none⟩) l.length uc) (l.length) (memC (l))] (.tuple #[]) [ownS 48 3 (.slice (some ⟨ub, 0, none⟩) l.length uc) (l.length) (memC (cenL l))] := by
  refine Spec.enter (C := cx gl) Try.func58 rfl 55 rfl rfl fun w0 h0 hsep hsub hpre => ?_
  show St (cx gl) _ [(0, .slice (some ⟨ub, 0, none⟩) l.length uc)] _ _
  have hms : msK = 1152921504606846975 := rfl
  refine R_seq ?_
  refine R_region ?_
  refine L_val rfl rfl rfl (OpP.v (P_move rfl rfl)) ?_
  refine L_val rfl rfl rfl (OpP.v (P_len rfl ty_sl_22 rfl)) ?_
  refine L_val rfl rfl rfl (OpP.v (P_assign rfl rfl)) ?_
  refine L_nil ?_
  refine St.env (.cons (t := 0) rfl (.cons (t := 2) rfl .nil)) ?_
  refine Q_then ?_
  refine R_seq ?_
  refine R_region ?_
  refine L_val rfl rfl rfl (OpP.v (P_assign rfl rfl)) ?_
  refine L_nil ?_
  refine Q_then ?_
  refine R_seq ?_
  refine R_region ?_
  refine L_val rfl rfl rfl (OpP.v (P_assign rfl rfl)) ?_
  refine L_nil ?_
  refine Q_then ?_
  refine R_seq ?_
  refine R_seq ?_
  refine R_region ?_
  refine L_val rfl rfl rfl (OpP.v (P_assign rfl rfl)) ?_
  refine L_nil ?_
  refine Q_then ?_
  refine R_block ?_
  refine R_loopE (G := Nat) (.cons (t := 0) rfl (.cons (t := 2) rfl .nil)) (fun g => [(3, .int .i64 (flA (l.length : Int) (l.take (g)))), (4, .int .i64 (flR (l.length : Int) (l.take (g)))), (5, .int .i64 (g : Int))]) (fun _ => _) (fun g => g ≤ l.length) (fun g => l.length - g) (0) (Nat.zero_le _) (by repeat (first | exact .nil | refine .cons rfl ?_ | refine .consE rfl (by first | rfl | (congr 1; omega) | (congr 1; push_cast; omega)) ?_)) (Weak.refl _) ?_
  intro i hinv
  replace hinv : i ≤ l.length := hinv
  show St (cx gl) _ ((3, .int .i64 (flA (l.length : Int) (l.take (i)))) :: (4, .int .i64 (flR (l.length : Int) (l.take (i)))) :: (5, .int .i64 (i : Int)) :: _) _ _
  refine R_seq ?_
  refine R_seq ?_
  refine R_region ?_
  refine L_val rfl rfl rfl (OpP.v (P_move rfl rfl)) ?_
  refine L_val rfl rfl rfl (OpP.v (P_move rfl rfl)) ?_
  refine L_val rfl rfl rfl (OpP.v (P_len rfl ty_sl_22 rfl)) ?_
  refine L_val rfl rfl rfl (OpP.v (P_lss rfl rfl rfl)) ?_
  refine L_nil ?_
  refine Q_then ?_
  refine R_condP rfl (fun hlt => ?_) (fun hlt => ?_)
  · skip
    have hlt' : i < l.length := by omega
    have hm := mAt_get hlt'
    have hbm := hb _ (mAt_mem hlt')
    obtain ⟨hfa, hfr⟩ := flA_snoc (n := (l.length : Int)) hm
    have hb2 := flA_b hpos hb hfew (i + 1) (by omega)
    refine R_skip ?_
    refine Q_then ?_
    refine R_seq ?_
    refine R_block ?_
    refine R_seq ?_
    refine R_region ?_
    refine L_val rfl rfl rfl (OpP.v (P_move rfl rfl)) ?_
    refine L_val rfl rfl rfl (OpP.v (P_move rfl rfl)) ?_
    refine L_val rfl rfl rfl (OpP.v (P_ixs (i) rfl ty_sl_22 rfl rfl (by first | rfl | omega) (by omega))) ?_
    refine L_val rfl rfl rfl (OpP.v (P_fld rfl ty_fl_48_2 rfl)) ?_
    refine L_val rfl rfl rfl (V_load rfl rfl ty_sc_2 (rdo_mem .h0 hm rfl)) ?_
    refine L_val rfl rfl rfl (OpP.v (P_move rfl rfl)) ?_
    refine L_op rfl (W_callV rfl rfl rfl rfl fn_ca_69 (floor_ok (mAt l i).q (l.length : Int) hbm (by omega) (by omega)) (fun _ _ => trivial) ?_)
    refine L_val rfl rfl rfl (OpP.v (P_move rfl rfl)) ?_
    refine L_val rfl rfl rfl (OpP.v (P_extract rfl rfl rfl)) ?_
    refine L_val rfl rfl rfl (OpP.v (P_extract rfl rfl rfl)) ?_
    refine L_val rfl rfl rfl (OpP.v (P_assign rfl rfl)) ?_
    refine L_val rfl rfl rfl (OpP.v (P_assign rfl rfl)) ?_
    refine L_nil ?_
    refine Q_then ?_
    refine R_seq ?_
    refine R_region ?_
    refine L_val rfl rfl rfl (OpP.v (P_move rfl rfl)) ?_
    refine L_val rfl rfl rfl (OpP.v (P_move rfl rfl)) ?_
    refine L_val rfl rfl rfl (OpP.v (P_addN rfl rfl rfl (by simp only [fits]; omega))) ?_
    refine E_as (t := 29) (v' := .int .i64 (flA (l.length : Int) (l.take (i + 1)))) rfl (by rw [hfa]) ?_
    refine L_val rfl rfl rfl (OpP.v (P_assign rfl rfl)) ?_
    refine L_nil ?_
    refine Q_then ?_
    refine R_region ?_
    refine L_val rfl rfl rfl (OpP.v (P_move rfl rfl)) ?_
    refine L_val rfl rfl rfl (OpP.v (P_move rfl rfl)) ?_
    refine L_val rfl rfl rfl (OpP.v (P_addN rfl rfl rfl (by simp only [fits]; omega))) ?_
    refine E_as (t := 32) (v' := .int .i64 (flR (l.length : Int) (l.take (i + 1)))) rfl (by rw [hfr]) ?_
    refine L_val rfl rfl rfl (OpP.v (P_assign rfl rfl)) ?_
    refine L_nil ?_
    refine Q_block ?_
    refine Q_then ?_
    refine R_region ?_
    refine L_val rfl rfl rfl (OpP.v (P_move rfl rfl)) ?_
    first | (refine L_val rfl rfl rfl (OpP.v (P_addN rfl rfl rfl (by simp only [fits]; omega))) ?_) | (refine L_val rfl rfl rfl (OpP.v (P_add rfl rfl rfl)) ?_)
    refine L_val rfl rfl rfl (OpP.v (P_assign rfl rfl)) ?_
    refine L_nil ?_
    exact Q_round (i + 1) (by omega) (by show l.length - (i + 1) < l.length - i; omega) (by repeat (first | exact .nil | refine .cons rfl ?_ | refine .consE rfl (by first | rfl | (congr 1; omega) | (congr 1; push_cast; omega)) ?_)) (Weak.refl _)
  · skip
    have hin : i = l.length := by omega
    rw [hin, List.take_length]
    have hb3 := flA_b hpos hb hfew l.length (by omega)
    rw [List.take_length] at hb3
    have hfm := fl_mean hpos
    have hd0 : 0 ≤ flR (l.length : Int) l / (l.length : Int) := Int.ediv_nonneg (by omega) (by omega)
    have hd1 : flR (l.length : Int) l / (l.length : Int) ≤ flR (l.length : Int) l := Int.ediv_le_self _ (by omega)
    refine R_exit ?_
    refine Q_then_exit ?_
    refine Q_then_exit ?_
    refine Q_block_eq ?_
    refine St.env (.cons (t := 0) rfl (.cons (t := 2) rfl (.cons (t := 3) rfl (.cons (t := 4) rfl .nil)))) ?_
    refine Q_then ?_
    refine R_seq ?_
    refine R_region ?_
    refine L_val rfl rfl rfl (OpP.v (P_move rfl rfl)) ?_
    refine L_val rfl rfl rfl (OpP.v (P_move rfl rfl)) ?_
    refine L_val rfl rfl rfl (OpP.v (P_move rfl rfl)) ?_
    refine L_val rfl rfl rfl (OpP.v (P_quo rfl rfl rfl (by omega))) ?_
    refine E_as (t := 36) (v' := .int .i64 (flR (l.length : Int) l / (l.length : Int))) rfl (by rw [Int.tdiv_eq_ediv_of_nonneg (by omega), wrap_fits (by simp only [fits]; omega)]) ?_
    refine L_val rfl rfl rfl (OpP.v (P_addN rfl rfl rfl (by simp only [fits]; omega))) ?_
    refine E_as (t := 37) (v' := .int .i64 (meanQ l)) rfl (by rw [← hfm]) ?_
    refine L_val rfl rfl rfl (OpP.v (P_assign rfl rfl)) ?_
    refine L_nil ?_
    refine St.env (.cons (t := 0) rfl (.cons (t := 3) rfl .nil)) ?_
    refine Q_then ?_
    refine R_seq ?_
    refine R_region ?_
    refine L_val rfl rfl rfl (OpP.v (P_assign rfl rfl)) ?_
    refine L_nil ?_
    refine Q_then ?_
    refine R_block ?_
    refine R_loopE (G := Nat) (.cons (t := 0) rfl (.cons (t := 3) rfl .nil)) (fun g => [(8, .int .i64 (g : Int))]) (fun g => [ownS 48 3 (.slice (some ⟨ub, 0, none⟩) l.length uc) (l.length) (memC (mapN (cenM (meanQ l)) l g))]) (fun g => g ≤ l.length) (fun g => l.length - g) (0) (Nat.zero_le _) (by repeat (first | exact .nil | refine .cons rfl ?_ | refine .consE rfl (by first | rfl | (congr 1; omega) | (congr 1; push_cast; omega)) ?_)) (by rw [mapN_zero]; exact Weak.refl _) ?_
    intro i hinv
    replace hinv : i ≤ l.length := hinv
    show St (cx gl) _ ((8, .int .i64 (i : Int)) :: _) [ownS 48 3 (.slice (some ⟨ub, 0, none⟩) l.length uc) (l.length) (memC (mapN (cenM (meanQ l)) l i))] _
    refine R_seq ?_
    refine R_seq ?_
    refine R_region ?_
    refine L_val rfl rfl rfl (OpP.v (P_move rfl rfl)) ?_
    refine L_val rfl rfl rfl (OpP.v (P_move rfl rfl)) ?_
    refine L_val rfl rfl rfl (OpP.v (P_len rfl ty_sl_22 rfl)) ?_
    refine L_val rfl rfl rfl (OpP.v (P_lss rfl rfl rfl)) ?_
    refine L_nil ?_
    refine Q_then ?_
    refine R_condP rfl (fun hlt2 => ?_) (fun hlt2 => ?_)
    · skip
      have hlt' : i < l.length := by omega
      have hm := mAt_get hlt'
      have hbm := hb _ (mAt_mem hlt')
      have hbn := mapN_at (f := (cenM (meanQ l))) hm
      have hmn := mean_span hpos hsp _ (mAt_mem hlt')
      refine R_skip ?_
      refine Q_then ?_
      refine R_seq ?_
      refine R_block ?_
      refine R_region ?_
      refine L_val rfl rfl rfl (OpP.v (P_move rfl rfl)) ?_
      refine L_val rfl rfl rfl (OpP.v (P_move rfl rfl)) ?_
      refine L_val rfl rfl rfl (OpP.v (P_move rfl rfl)) ?_
      refine L_val rfl rfl rfl (OpP.v (P_move rfl rfl)) ?_
      refine L_val rfl rfl rfl (OpP.v (P_ixs (i) rfl ty_sl_22 rfl rfl (by first | rfl | omega) (by omega))) ?_
      refine L_val rfl rfl rfl (OpP.v (P_fld rfl ty_fl_48_2 rfl)) ?_
      refine L_val rfl rfl rfl (V_load rfl rfl ty_sc_2 (rdo_mem .h0 hbn rfl)) ?_
      refine L_val rfl rfl rfl (OpP.v (P_move rfl rfl)) ?_
      refine L_val rfl rfl rfl (OpP.v (P_subN rfl rfl rfl (by simp only [fits]; omega))) ?_
      refine L_val rfl rfl rfl (OpP.v (P_ixs (i) rfl ty_sl_22 rfl rfl (by first | rfl | omega) (by omega))) ?_
      refine L_val rfl rfl rfl (OpP.v (P_fld rfl ty_fl_48_2 rfl)) ?_
      refine L_op rfl (W_storeOwn1 (T := 48) (sz := 3) (n := l.length) (c := uc) (cs := memC (mapN (cenM (meanQ l)) l i)) rfl rfl rfl rfl ty_sc_2 rfl .h0 (by rw [memC_length, mapN_length]; omega) ?_)
      refine St.res (rs' := [ownS 48 3 (.slice (some ⟨ub, 0, none⟩) l.length uc) (l.length) (memC (mapN (cenM (meanQ l)) l (i + 1)))]) (by rw [memC_set hbn 2 (by decide) (v := .int .i64 ((mAt l i).q - meanQ l)) (y := (cenM (meanQ l)) (mAt l i)) rfl, mapN_step hm]; exact Weak.refl _) ?_
      refine L_nil ?_
      refine Q_block ?_
      refine Q_then ?_
      refine R_region ?_
      refine L_val rfl rfl rfl (OpP.v (P_move rfl rfl)) ?_
      first | (refine L_val rfl rfl rfl (OpP.v (P_addN rfl rfl rfl (by simp only [fits]; omega))) ?_) | (refine L_val rfl rfl rfl (OpP.v (P_add rfl rfl rfl)) ?_)
      refine L_val rfl rfl rfl (OpP.v (P_assign rfl rfl)) ?_
      refine L_nil ?_
      exact Q_round (i + 1) (by omega) (by show l.length - (i + 1) < l.length - i; omega) (by repeat (first | exact .nil | refine .cons rfl ?_ | refine .consE rfl (by first | rfl | (congr 1; omega) | (congr 1; push_cast; omega)) ?_)) (Weak.refl _)
    · skip
      have hin : i = l.length := by omega
      rw [hin, mapN_full]
      refine R_exit ?_
      refine Q_then_exit ?_
      refine Q_then_exit ?_
      refine Q_block_eq ?_
      refine St.env (.nil) ?_
      exact R_end0 (rs2 := _) rfl rfl (.nil) (⟨rfl, rfl⟩) (Weak.refl _)
end Go.Proofs.Ytjhhpagcejgclaa
