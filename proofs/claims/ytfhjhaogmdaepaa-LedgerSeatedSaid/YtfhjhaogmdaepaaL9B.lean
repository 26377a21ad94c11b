/- The reference: New, Sound, Seats. Printed by gen.py. -/
import Derived.Test.YtfhjhaogmdaepaaL9A
set_option linter.unusedVariables false
set_option linter.unusedSimpArgs false
set_option maxRecDepth 100000
namespace Go.Proofs.Ytfhjhaogmdaepaa
open Go Go.RowKit Go.Proofs
def mkT (n : Nat) (T : List Nat) : List Value := (List.range n).map fun i => .bool (isIn' T i)
theorem mkT_len (n : Nat) (T : List Nat) : (mkT n T).length = n := by unfold mkT; rw [List.length_map, List.length_range]
theorem mkT_at {n : Nat} {T : List Nat} {i : Nat} (h : i < n) : (mkT n T)[i]? = some (.bool (isIn' T i)) := by
  unfold mkT; rw [List.getElem?_map, List.getElem?_range h]; rfl
theorem mkT_set {n : Nat} {T : List Nat} {b : Nat} (h : b < n) : (mkT n T).set b (.bool true) = mkT n (T ++ [b]) := by
  apply List.ext_getElem?
  intro i
  rw [List.getElem?_set, mkT_len]
  by_cases hi : i < n
  · rw [mkT_at hi, mkT_at hi]
    by_cases e : b = i
    · subst e; rw [if_pos rfl, if_pos hi]; unfold isIn'; rw [decide_eq_true (by simp)]
    · rw [if_neg e]; unfold isIn'; congr 2; rw [decide_eq_decide, List.mem_append, List.mem_singleton]
      exact ⟨fun h => .inl h, fun h => h.elim id fun h => absurd h.symm e⟩
  · have h1 : (mkT n T)[i]? = none := List.getElem?_eq_none (by rw [mkT_len]; omega)
    have h2 : (mkT n (T ++ [b]))[i]? = none := List.getElem?_eq_none (by rw [mkT_len]; omega)
    rw [h1, h2]; split <;> first | rfl | (exfalso; omega) | (rw [if_neg (by omega)])
theorem mkT_zero (n : Nat) : madeL [Value.bool false] (n * 1) = mkT n [] := by
  rw [Nat.mul_one, show [Value.bool false] = List.replicate 1 (Value.bool false) from rfl, madeL_rep 1 n _ (by omega)]
  apply List.ext_getElem?
  intro i
  rw [List.getElem?_replicate]
  by_cases hi : i < n
  · rw [mkT_at hi, if_pos hi]; rfl
  · rw [if_neg hi, List.getElem?_eq_none (by rw [mkT_len]; omega)]
theorem rb_yes {mb : Int} {l : List Acc} {T : List Nat} {j : Nat} {x : Acc} (hx : x = accAt l j) (h1 : isIn' T j = false) (hs : sits mb x = true) (h : rbest mb l T j < 0 ∨ (accAt l (rbest mb l T j).toNat).bond < x.bond) : rbest mb l T (j + 1) = (j : Int) := by
  subst hx; rw [rbest, if_pos ⟨of_decide_eq_false h1, hs, h⟩]
theorem rb_in {mb : Int} {l : List Acc} {T : List Nat} {j : Nat} (h1 : isIn' T j = true) : rbest mb l T (j + 1) = rbest mb l T j := by
  rw [rbest, if_neg fun h => h.1 (of_decide_eq_true h1)]
theorem rb_not {mb : Int} {l : List Acc} {T : List Nat} {j : Nat} {x : Acc} (hx : x = accAt l j) (hs : sits mb x = false) : rbest mb l T (j + 1) = rbest mb l T j := by
  subst hx; rw [rbest, if_neg fun h => by rw [hs] at h; cases h.2.1]
theorem rb_less {mb : Int} {l : List Acc} {T : List Nat} {j : Nat} {x : Acc} (hx : x = accAt l j) (h : ¬ (rbest mb l T j < 0 ∨ (accAt l (rbest mb l T j).toNat).bond < x.bond)) : rbest mb l T (j + 1) = rbest mb l T j := by
  subst hx; rw [rbest, if_neg fun h9 => h h9.2.2]
theorem rb_get {mb : Int} {l : List Acc} {T : List Nat} {j : Nat} (h : ¬ rbest mb l T j < 0) : ∃ b : Nat, rbest mb l T j = b ∧ b < j := by
  rcases rbest_spec mb l T j with ⟨h1, _⟩ | ⟨b, h1, h2⟩
  · omega
  · exact ⟨b, h1, h2.lt⟩
def soF (l : List Acc) (T : List Nat) (i : Nat) : List Mem := ((List.range i).filter (isIn' T)).map fun i => memA (accAt l i)
theorem soF_yes {l : List Acc} {T : List Nat} {i : Nat} (h : isIn' T i = true) : soF l T (i + 1) = soF l T i ++ [memA (accAt l i)] := by
  unfold soF; rw [List.range_succ, List.filter_append, List.map_append]; congr 1
  rw [List.filter_cons, if_pos h]; rfl
theorem soF_no {l : List Acc} {T : List Nat} {i : Nat} (h : isIn' T i = false) : soF l T (i + 1) = soF l T i := by
  unfold soF; rw [List.range_succ, List.filter_append, List.map_append]
  rw [show List.filter (isIn' T) [i] = [] by rw [List.filter_cons, if_neg (by rw [h]; decide)]; rfl]; simp
theorem soF_len (l : List Acc) (T : List Nat) (i : Nat) : (soF l T i).length ≤ i := by
  unfold soF; rw [List.length_map]; have := List.length_filter_le (isIn' T) (List.range i); rw [List.length_range] at this; exact this
theorem rnew_ok {gl : Nat → Obj} (base : Option Addr) (c : Nat) (l : List Acc) (hc : l.length ≤ c)(hm : l.length ≤ 3518437208883)(hok : ∀ x ∈ l, x.ok) : Spec (cx gl) 7 [.slice base l.length c] (fun w _ => Row w base (rc l)) [] (fun v rs => ∃ u, v = .tuple #[.agg (ledV u (.slice none 0 0) 0 (newL8 l).sup).toArray, .int .i64 (newE l)] ∧ rs = [ownS 39 5 (u) ((newL8 l).acc.length) (rc ((newL8 l).acc))]) := by
  refine Spec.enter (C := cx gl) Try.func7 rfl 25 rfl rfl fun w0 h0 hsep hsub hpre => ?_
  obtain rfl : h0 = Heap.none := hsep
  show St (cx gl) _ [(0, .slice base l.length c)] _ _
  have hms : MS = 1152921504606846975 := rfl
  refine R_seq ?_
  refine R_region ?_
  refine L_op rfl (W_alloc rfl rfl rfl ty_ze_29 fun b2 => ?_)
  refine L_val rfl rfl rfl (OpP.v (P_assign rfl rfl)) ?_
  refine L_nil ?_
  refine Q_then ?_
  refine R_seq ?_
  refine R_region ?_
  refine L_val rfl rfl rfl (OpP.v (P_move rfl rfl)) ?_
  refine L_op rfl (W_callV rfl rfl rfl rfl fn_ca_22 (racc_ok base c l hc hm) (fun w nw => (Sn.row hpre rfl).rw_ w nw) ?_)
  refine L_val rfl rfl rfl (OpP.v (P_assign rfl rfl)) ?_
  refine L_nil ?_
  refine St.env (.cons (t := 0) rfl (.cons (t := 2) rfl (.cons (t := 3) rfl (.cons (t := 4) rfl .nil)))) ?_
  refine Q_then ?_
  refine R_seq ?_
  refine R_seq ?_
  refine R_region ?_
  refine L_val rfl rfl rfl (OpP.v (P_move rfl rfl)) ?_
  refine L_val rfl rfl rfl (OpP.v (P_neq rfl rfl rfl)) ?_
  refine L_nil ?_
  refine St.env (.cons (t := 0) rfl (.cons (t := 2) rfl (.cons (t := 3) rfl (.cons (t := 4) rfl (.cons (t := 9) rfl .nil))))) ?_
  refine Q_then ?_
  refine R_condP rfl (fun he => ?_) (fun he => ?_)
  · skip
    have h9e : newE l = raccE l := by unfold newE raccE; unfold raccE at he; split; rfl; rename_i hb; rw [if_neg hb] at he; rw [if_pos he]
    have h9 : newE l ≠ 0 := by rw [h9e]; exact he
    refine R_seq ?_
    refine R_region ?_
    refine L_val rfl rfl rfl (OpP.v (P_buildStruct rfl ty_pl_29 ty_ze_29 rfl rfl (rfl))) ?_
    refine L_val rfl rfl rfl (OpP.v (P_move rfl rfl)) ?_
    refine L_op rfl (W_storeAll rfl rfl rfl rfl ty_ag_29 (rfl) (ledV_one _ _ _ _ rfl rfl) .h0 (rfl) ?_)
    refine L_val rfl rfl rfl (OpP.v (P_assign rfl rfl)) ?_
    refine L_nil ?_
    refine St.env (.cons (t := 0) rfl (.cons (t := 2) rfl (.cons (t := 3) rfl .nil))) ?_
    refine Q_then ?_
    refine R_ret ?_
    refine Q_then_ret ?_
    exact R_end (rs2 := [ownS 39 5 (.slice none 0 0) ((newL8 l).acc.length) (rc ((newL8 l).acc))]) rfl rfl (.cell rfl (Rds.loadVar ty_ag_29 (Rds.blk .h0) rfl) (.tmp rfl .nil)) (⟨.slice none 0 0, by rw [(newL8_bad' h9).2]; rw [h9e]; rfl, rfl⟩) (Weak.trans (Weak.newNil (T := 39) (sz := 5)) (Weak.keep_to (fun h hh => by rw [(newL8_bad' h9).1]; exact hh)))
  · skip
    have he : raccE l = 0 := Classical.not_not.1 he
    have hbig : ¬ 65536 < l.length := fun hb => by unfold raccE at he; rw [if_pos hb] at he; cases he
    unfold raccE at he
    rw [if_neg hbig] at he
    have hts := totC_spec (r := []) (bu := 0) hok (fun x hx => absurd hx (by simp)) (Int.le_refl 0)
    rw [show sumR [] = 0 from rfl, Int.zero_add, Int.add_zero] at hts
    refine R_skip ?_
    refine Q_then ?_
    refine R_seq ?_
    refine R_region ?_
    refine L_op rfl (W_alloc rfl rfl rfl ty_ze_29 fun b5 => ?_)
    refine L_nil ?_
    refine St.env (.cons (t := 0) rfl (.cons (t := 2) rfl (.cons (t := 3) rfl (.cons (t := 5) rfl .nil)))) ?_
    refine Q_then ?_
    refine R_seq ?_
    refine St.res (Weak.newNil (T := 39) (sz := 5)) ?_
    refine R_region ?_
    refine L_val rfl rfl rfl (OpP.v (P_fld0 rfl ty_fl_29_0 rfl)) ?_
    refine L_val rfl rfl rfl (V_load rfl rfl ty_sc_22 (Rd.blk .h1 rfl)) ?_
    refine L_val rfl rfl rfl (OpP.v (P_move rfl rfl)) ?_
    refine L_op rfl (W_append (p := []) rfl rfl rfl ty_sl_22 ty_ap_22 ty_src_22 rfl rfl rfl (Src.row (sz := 5) (Sn.row hpre rfl).rw_ (rc_length l) (rc_one l)) (by omega) (by simp only [maxLen]; omega) fun v15 => ?_)
    refine St.res (rs' := [ownS 39 5 (v15) (l.length) (rc (l)), blk b5 (ledV (.slice none 0 0) (.slice none 0 0) 0 0) 29, blk b2 (ledV (.slice none 0 0) (.slice none 0 0) 0 0) 29]) (ownS.to1 (by omega) rfl) ?_
    refine St.ownForm (p := []) fun ub uc huv huc => ?_
    subst huv
    refine L_val rfl rfl rfl (OpP.v (P_fld0 rfl ty_fl_29_0 rfl)) ?_
    refine L_op rfl (W_store rfl rfl rfl rfl ty_sc_22 rfl .h1 (by first | decide | (simp [ints]; done) | (simp [ints]; omega)) ?_)
    refine St.res (rs' := [ownS 39 5 (.slice ub l.length uc) (l.length) (rc (l)), blk b5 (ledV (.slice ub l.length uc) (.slice none 0 0) 0 0) 29, blk b2 (ledV (.slice none 0 0) (.slice none 0 0) 0 0) 29]) (Weak.refl _) ?_
    refine L_nil ?_
    refine St.env (.cons (t := 2) rfl (.cons (t := 3) rfl (.cons (t := 5) rfl .nil))) ?_
    refine Q_then ?_
    refine R_seq ?_
    refine R_region ?_
    refine L_val rfl rfl rfl (V_loadAgg rfl rfl ty_ag_29 (Rds.blk .h1) (rfl)) ?_
    refine L_op rfl (W_callV rfl rfl rfl rfl fn_ca_23 (rsum_ok ub uc l huc hm hok none 0 [] (Nat.le_refl _) (by decide) (fun x hx => absurd hx (by simp)) 0 0 ⟨by decide, by decide⟩) (fun w nw => ⟨(Sn.own .h0 rfl).rw_ w nw, Row.nil⟩) ?_)
    refine L_val rfl rfl rfl (OpP.v (P_fld0 rfl ty_fl_29_3 rfl)) ?_
    refine L_op rfl (W_store rfl rfl rfl rfl ty_sc_23 rfl .h1 (by simp [ledV]) ?_)
    refine St.res (rs' := [ownS 39 5 (.slice ub l.length uc) (l.length) (rc (l)), blk b5 (ledV (.slice ub l.length uc) (.slice none 0 0) 0 (totC l [] 0)) 29, blk b2 (ledV (.slice none 0 0) (.slice none 0 0) 0 0) 29]) (Weak.refl _) ?_
    refine L_nil ?_
    refine St.env (.cons (t := 2) rfl (.cons (t := 3) rfl (.cons (t := 5) rfl .nil))) ?_
    refine Q_then ?_
    refine R_seq ?_
    refine R_seq ?_
    refine R_region ?_
    refine L_val rfl rfl rfl (OpP.v (P_fld0 rfl ty_fl_29_3 rfl)) ?_
    refine L_val rfl rfl rfl (V_load rfl rfl ty_sc_23 (Rd.blk .h1 rfl)) ?_
    refine L_val rfl rfl rfl (OpP.v (P_gtr rfl rfl rfl)) ?_
    refine L_nil ?_
    refine St.env (.cons (t := 2) rfl (.cons (t := 3) rfl (.cons (t := 5) rfl (.cons (t := 22) rfl .nil)))) ?_
    refine Q_then ?_
    refine R_condP rfl (fun hs => ?_) (fun hs => ?_)
    · skip
      have hs2 : MS < sumA l := by rw [hms] at hts ⊢; omega
      have h9 : newE l ≠ 0 := by rw [newE_sum hbig he hs2]; decide
      refine R_seq ?_
      refine R_region ?_
      refine L_val rfl rfl rfl (OpP.v (P_buildStruct rfl ty_pl_29 ty_ze_29 rfl rfl (rfl))) ?_
      refine L_op rfl (W_storeAll rfl rfl rfl rfl ty_ag_29 (rfl) (ledV_one _ _ _ _ rfl rfl) .h2 (rfl) ?_)
      refine L_val rfl rfl rfl (OpP.v (P_assign rfl rfl)) ?_
      refine L_nil ?_
      refine St.env (.cons (t := 2) rfl (.cons (t := 3) rfl (.cons (t := 5) rfl .nil))) ?_
      refine Q_then ?_
      refine R_ret ?_
      refine Q_then_ret ?_
      exact R_end (rs2 := [ownS 39 5 (.slice none 0 0) ((newL8 l).acc.length) (rc ((newL8 l).acc))]) rfl rfl (.cell rfl (Rds.loadVar ty_ag_29 (Rds.blk .h2) rfl) (.tmp rfl .nil)) (⟨.slice none 0 0, by rw [(newL8_bad' h9).2]; rw [newE_sum hbig he hs2]; rfl, rfl⟩) (Weak.trans (Weak.newNil (T := 39) (sz := 5)) (Weak.keep_to (fun h hh => by rw [(newL8_bad' h9).1]; exact hh)))
    · skip
      have hs2 : ¬ MS < sumA l := by rw [hms] at hts ⊢; omega
      have h9 : newE l = 0 := newE_fine hbig he hs2
      have htt : totC l [] 0 = sumA l := hts.2 (by rw [hms]; omega)
      refine R_skip ?_
      refine Q_then ?_
      refine R_seq ?_
      refine R_region ?_
      refine L_val rfl rfl rfl (V_loadAgg rfl rfl ty_ag_29 (Rds.blk .h1) (rfl)) ?_
      refine L_op rfl (W_storeAll rfl rfl rfl rfl ty_ag_29 (rfl) (ledV_one _ _ _ _ rfl rfl) .h2 (rfl) ?_)
      refine L_val rfl rfl rfl (OpP.v (P_assign rfl rfl)) ?_
      refine L_nil ?_
      refine St.env (.cons (t := 2) rfl (.cons (t := 3) rfl .nil)) ?_
      refine Q_then ?_
      refine R_ret ?_
      exact R_end (rs2 := [ownS 39 5 (.slice ub l.length uc) ((newL8 l).acc.length) (rc ((newL8 l).acc))]) rfl rfl (.cell rfl (Rds.loadVar ty_ag_29 (Rds.blk .h2) rfl) (.tmp rfl .nil)) (⟨_, by rw [newL8_fine h9, h9, htt]; rfl, rfl⟩) (by rw [newL8_fine h9]; exact Weak.keep (Weak.nil _))
theorem rsound_ok {gl : Nat → Obj} (base : Option Addr) (c : Nat) (l : List Acc) (hc : l.length ≤ c)(hm : l.length ≤ 3518437208883)(hok : ∀ x ∈ l, x.ok)(base' : Option Addr) (c' : Nat) (r : List Rel) (hc' : r.length ≤ c') (hok' : ∀ x ∈ r, x.ok) (bu su : Int) (hbu : u64 bu) : SpecV (cx gl) 14 [.agg (ledV (.slice base l.length c) (.slice base' r.length c') bu su).toArray] (fun w => Row w base (rc l) ∧ Row w base' (rc r)) (.int .i64 (lsoundE ⟨l, r, bu, su⟩)) := by
  refine Spec.enter (C := cx gl) Try.func14 rfl 35 rfl rfl fun w0 h0 hsep hsub hpre => ?_
  obtain rfl : h0 = Heap.none := hsep
  show St (cx gl) _ [(0, .agg (ledV (.slice base l.length c) (.slice base' r.length c') bu su).toArray)] _ _
  have hms : MS = 1152921504606846975 := rfl
  refine R_seq ?_
  refine R_region ?_
  refine L_op rfl (W_box (ledV (.slice base l.length c) (.slice base' r.length c') bu su) rfl rfl rfl rfl rfl fun b1 => ?_)
  refine L_val rfl rfl rfl (OpP.v (P_assign rfl rfl)) ?_
  refine L_nil ?_
  refine St.env (.cons (t := 1) rfl (.cons (t := 2) rfl .nil)) ?_
  refine Q_then ?_
  refine R_seq ?_
  refine R_seq ?_
  refine R_region ?_
  refine L_val rfl rfl rfl (OpP.v (P_fld0 rfl ty_fl_29_0 rfl)) ?_
  refine L_val rfl rfl rfl (V_load rfl rfl ty_sc_22 (Rd.blk .h0 rfl)) ?_
  refine L_val rfl rfl rfl (OpP.v (P_len rfl ty_sl_22 rfl)) ?_
  refine L_val rfl rfl rfl (OpP.v (P_gtr rfl rfl rfl)) ?_
  refine E_bool (t := 7) rfl (fun hA => ?_) (fun hA => ?_)
  · skip
    have hA := of_decide_eq_true hA
    refine L_val rfl rfl rfl (OpP.v (P_move rfl rfl)) ?_
    refine L_no rfl rfl rfl ?_
    refine L_no rfl rfl rfl ?_
    refine L_no rfl rfl rfl ?_
    refine L_no rfl rfl rfl ?_
    refine L_val rfl rfl rfl (OpP.v (P_pick rfl rfl rfl)) ?_
    refine L_nil ?_
    refine St.env (.cons (t := 1) rfl (.cons (t := 2) rfl (.cons (t := 13) rfl .nil))) ?_
    refine Q_then ?_
    refine R_condT rfl ?_
    refine R_seq ?_
    refine R_region ?_
    refine L_val rfl rfl rfl (OpP.v (P_assign rfl rfl)) ?_
    refine L_nil ?_
    refine St.env (.cons (t := 1) rfl (.cons (t := 2) rfl .nil)) ?_
    refine Q_then ?_
    refine R_ret ?_
    refine Q_then_ret ?_
    exact R_endV rfl rfl (.tmp rfl .nil) (by rw [show lsoundE ⟨l, r, bu, su⟩ = 86 from lsoundE_big (by show 65536 < l.length ∨ 65536 < r.length; omega)]; rfl)
  · skip
    have hA := of_decide_eq_false hA
    have hA : ¬ 65536 < l.length := by omega
    refine L_val rfl rfl rfl (OpP.v (P_move rfl rfl)) ?_
    refine L_val rfl rfl rfl (OpP.v (P_fld0 rfl ty_fl_29_1 rfl)) ?_
    refine L_val rfl rfl rfl (V_load rfl rfl ty_sc_27 (Rd.blk .h0 rfl)) ?_
    refine L_val rfl rfl rfl (OpP.v (P_len rfl ty_sl_27 rfl)) ?_
    refine L_val rfl rfl rfl (OpP.v (P_gtr rfl rfl rfl)) ?_
    refine L_val rfl rfl rfl (OpP.v (P_pick rfl rfl rfl)) ?_
    refine L_nil ?_
    refine St.env (.cons (t := 1) rfl (.cons (t := 2) rfl (.cons (t := 13) rfl .nil))) ?_
    refine Q_then ?_
    refine R_condP rfl (fun hB => ?_) (fun hB => ?_)
    · skip
      refine R_seq ?_
      refine R_region ?_
      refine L_val rfl rfl rfl (OpP.v (P_assign rfl rfl)) ?_
      refine L_nil ?_
      refine St.env (.cons (t := 1) rfl (.cons (t := 2) rfl .nil)) ?_
      refine Q_then ?_
      refine R_ret ?_
      refine Q_then_ret ?_
      exact R_endV rfl rfl (.tmp rfl .nil) (by rw [show lsoundE ⟨l, r, bu, su⟩ = 86 from lsoundE_big (by show 65536 < l.length ∨ 65536 < r.length; omega)]; rfl)
    · skip
      have hB : ¬ 65536 < r.length := by omega
      refine R_skip ?_
      refine Q_then ?_
      refine R_seq ?_
      refine R_region ?_
      refine L_val rfl rfl rfl (OpP.v (P_fld0 rfl ty_fl_29_0 rfl)) ?_
      refine L_val rfl rfl rfl (V_load rfl rfl ty_sc_22 (Rd.blk .h0 rfl)) ?_
      refine L_op rfl (W_callV rfl rfl rfl rfl fn_ca_22 (racc_ok base c l hc hm) (fun w nw => (Sn.row hpre.1 rfl).rw_ w nw) ?_)
      refine E_as (t := 16) (v' := .int .i64 (accE l)) rfl (by unfold raccE; rw [if_neg hA]) ?_
      refine L_val rfl rfl rfl (OpP.v (P_assign rfl rfl)) ?_
      refine L_nil ?_
      refine St.env (.cons (t := 1) rfl (.cons (t := 2) rfl (.cons (t := 3) rfl .nil))) ?_
      refine Q_then ?_
      refine R_seq ?_
      refine R_seq ?_
      refine R_region ?_
      refine L_val rfl rfl rfl (OpP.v (P_move rfl rfl)) ?_
      refine L_val rfl rfl rfl (OpP.v (P_neq rfl rfl rfl)) ?_
      refine L_nil ?_
      refine St.env (.cons (t := 1) rfl (.cons (t := 2) rfl (.cons (t := 3) rfl (.cons (t := 18) rfl .nil)))) ?_
      refine Q_then ?_
      refine R_condP rfl (fun he => ?_) (fun he => ?_)
      · skip
        refine R_seq ?_
        refine R_region ?_
        refine L_val rfl rfl rfl (OpP.v (P_move rfl rfl)) ?_
        refine L_val rfl rfl rfl (OpP.v (P_assign rfl rfl)) ?_
        refine L_nil ?_
        refine St.env (.cons (t := 1) rfl (.cons (t := 2) rfl (.cons (t := 3) rfl .nil))) ?_
        refine Q_then ?_
        refine R_ret ?_
        refine Q_then_ret ?_
        exact R_endV rfl rfl (.tmp rfl .nil) (by rw [show lsoundE ⟨l, r, bu, su⟩ = accE l from lsoundE_acc hA hB he]; rfl)
      · skip
        have he : accE l = 0 := Classical.not_not.1 he
        refine R_skip ?_
        refine Q_then ?_
        refine R_seq ?_
        refine R_region ?_
        refine L_val rfl rfl rfl (V_loadAgg rfl rfl ty_ag_29 (Rds.blk .h0) (rfl)) ?_
        refine L_op rfl (W_callV rfl rfl rfl rfl fn_ca_36 (rrows_ok base c l hc hm base' c' r hc' (by omega) hok' bu su) (fun w nw => ⟨(Sn.row hpre.1 rfl).rw_ w nw, (Sn.row hpre.2 rfl).rw_ w nw⟩) ?_)
        refine L_val rfl rfl rfl (OpP.v (P_assign rfl rfl)) ?_
        refine L_nil ?_
        refine St.env (.cons (t := 1) rfl (.cons (t := 2) rfl (.cons (t := 3) rfl .nil))) ?_
        refine Q_then ?_
        refine R_seq ?_
        refine R_seq ?_
        refine R_region ?_
        refine L_val rfl rfl rfl (OpP.v (P_move rfl rfl)) ?_
        refine L_val rfl rfl rfl (OpP.v (P_neq rfl rfl rfl)) ?_
        refine L_nil ?_
        refine St.env (.cons (t := 1) rfl (.cons (t := 2) rfl (.cons (t := 3) rfl (.cons (t := 23) rfl .nil)))) ?_
        refine Q_then ?_
        refine R_condP rfl (fun hr => ?_) (fun hr => ?_)
        · skip
          refine R_seq ?_
          refine R_region ?_
          refine L_val rfl rfl rfl (OpP.v (P_move rfl rfl)) ?_
          refine L_val rfl rfl rfl (OpP.v (P_assign rfl rfl)) ?_
          refine L_nil ?_
          refine St.env (.cons (t := 1) rfl (.cons (t := 2) rfl .nil)) ?_
          refine Q_then ?_
          refine R_ret ?_
          refine Q_then_ret ?_
          exact R_endV rfl rfl (.tmp rfl .nil) (by rw [show lsoundE ⟨l, r, bu, su⟩ = relE l r from lsoundE_rel hA hB he rfl hr]; rfl)
        · skip
          have hr : relE l r = 0 := Classical.not_not.1 hr
          have hts := totC_spec hok hok' hbu.1
          refine R_skip ?_
          refine Q_then ?_
          refine R_seq ?_
          refine R_seq ?_
          refine R_open [(0, 0), (1, 1), (2, 0), (3, 0), (4, 1), (6, 0), (7, 1), (5, 2), (8, 0), (9, 0)] mixed (by kernel_rfl) (QOk.then (QOk.then QOk.body)) ?_
          refine O_pure rfl rfl rfl rfl (P_fld0 rfl ty_fl_29_3 rfl) ?_
          refine O_val rfl rfl rfl rfl (V_load rfl rfl ty_sc_23 (Rd.blk .h0 rfl)) ?_
          refine O_pure rfl rfl rfl rfl (P_gtr rfl rfl rfl) ?_
          refine E_bool (t := 27) rfl (fun q1 => ?_) (fun q1 => ?_)
          · skip
            have q1 := of_decide_eq_true q1
            refine O_pure rfl rfl rfl rfl (P_move rfl rfl) ?_
            refine O_noX rfl rfl rfl rfl ?_
            refine O_no rfl rfl rfl rfl ?_
            refine O_noX rfl rfl rfl rfl ?_
            refine O_no2 rfl rfl rfl rfl ?_
            refine O_no rfl rfl rfl rfl ?_
            refine O_pure rfl rfl rfl rfl (P_pick rfl rfl rfl) ?_
            refine O_nil ?_
            refine St.env (.cons (t := 2) rfl (.cons (t := 34) rfl .nil)) ?_
            refine Q_then ?_
            refine R_condT rfl ?_
            refine R_seq ?_
            refine R_region ?_
            refine L_val rfl rfl rfl (OpP.v (P_assign rfl rfl)) ?_
            refine L_nil ?_
            refine St.env (.cons (t := 2) rfl .nil) ?_
            refine Q_then ?_
            refine R_ret ?_
            refine Q_then_ret ?_
            exact R_endV rfl rfl (.tmp rfl .nil) (by rw [show lsoundE ⟨l, r, bu, su⟩ = 87 from lsoundE_sum hA hB he hr (by show MS < su ∨ bu + sumA l + sumR r ≠ su; rw [hms] at hts ⊢; omega)]; rfl)
          · skip
            have q1 := of_decide_eq_false q1
            refine O_pure rfl rfl rfl rfl (P_move rfl rfl) ?_
            refine O_val rfl rfl rfl rfl (V_loadAgg rfl rfl ty_ag_29 (Rds.blk .h0) (rfl)) ?_
            refine O_pure rfl rfl rfl rfl (P_fld0 rfl ty_fl_29_3 rfl) ?_
            refine O_val rfl rfl rfl rfl (V_load rfl rfl ty_sc_23 (Rd.blk .h0 rfl)) ?_
            refine O_keep rfl rfl (W_callV rfl rfl rfl rfl fn_ca_23 (rsum_ok base c l hc hm hok base' c' r hc' (by omega) hok' bu su hbu) (fun w nw => ⟨(Sn.row hpre.1 rfl).rw_ w nw, (Sn.row hpre.2 rfl).rw_ w nw⟩) (K_keep (Weak.refl _) ?_))
            refine O_pure rfl rfl rfl rfl (P_neq rfl rfl rfl) ?_
            refine O_pure rfl rfl rfl rfl (P_pick rfl rfl rfl) ?_
            refine O_nil ?_
            refine St.env (.cons (t := 2) rfl (.cons (t := 34) rfl .nil)) ?_
            refine Q_then ?_
            refine R_condP rfl (fun q2 => ?_) (fun q2 => ?_)
            · skip
              refine R_seq ?_
              refine R_region ?_
              refine L_val rfl rfl rfl (OpP.v (P_assign rfl rfl)) ?_
              refine L_nil ?_
              refine St.env (.cons (t := 2) rfl .nil) ?_
              refine Q_then ?_
              refine R_ret ?_
              refine Q_then_ret ?_
              exact R_endV rfl rfl (.tmp rfl .nil) (by rw [show lsoundE ⟨l, r, bu, su⟩ = 87 from lsoundE_sum hA hB he hr (by show MS < su ∨ bu + sumA l + sumR r ≠ su; rw [hms] at hts ⊢; omega)]; rfl)
            · skip
              refine R_skip ?_
              refine Q_then ?_
              refine R_seq ?_
              refine R_region ?_
              refine L_val rfl rfl rfl (OpP.v (P_assign rfl rfl)) ?_
              refine L_nil ?_
              refine St.env (.cons (t := 2) rfl .nil) ?_
              refine Q_then ?_
              refine R_ret ?_
              exact R_endV rfl rfl (.tmp rfl .nil) (by rw [show lsoundE ⟨l, r, bu, su⟩ = 0 from lsoundE_fine hA hB he hr (by show ¬ MS < su; rw [hms]; omega) (by show bu + sumA l + sumR r = su; rw [hms] at hts; omega)]; rfl)
theorem rseats_ok {gl : Nat → Obj} (base : Option Addr) (c : Nat) (l : List Acc) (hc : l.length ≤ c) (hm : l.length ≤ 65536) (r : Value) (hr : r.oneCell' = true) (bu su : Int) (p : Par) : Spec (cx gl) 19 [.agg (ledV (.slice base l.length c) r bu su).toArray, .agg p.cells.toArray] (fun w _ => Row w base (rc l)) [] (fun v rs => ∃ (b : Option Addr) (c : Nat), v = .slice b (refSeats p.mb p.seats l).length c ∧ rs = [ownS 37 3 (.slice b (refSeats p.mb p.seats l).length c) ((refSeats p.mb p.seats l).length) (rc ((refSeats p.mb p.seats l)))]) := by
  refine Spec.enter (C := cx gl) Try.func19 rfl 109 rfl rfl fun w0 h0 hsep hsub hpre => ?_
  obtain rfl : h0 = Heap.none := hsep
  show St (cx gl) _ [(0, .agg (ledV (.slice base l.length c) r bu su).toArray), (1, .agg p.cells.toArray)] _ _
  refine R_seq ?_
  refine R_region ?_
  refine L_op rfl (W_box (ledV (.slice base l.length c) r bu su) rfl rfl rfl rfl rfl fun b2 => ?_)
  refine L_op rfl (W_box (p.cells) rfl rfl rfl rfl rfl fun b3 => ?_)
  refine L_val rfl rfl rfl (OpP.v (P_assign rfl rfl)) ?_
  refine L_nil ?_
  refine St.env (.cons (t := 2) rfl (.cons (t := 3) rfl (.cons (t := 4) rfl .nil))) ?_
  refine Q_then ?_
  refine R_seq ?_
  refine R_region ?_
  refine L_val rfl rfl rfl (OpP.v (P_assign rfl rfl)) ?_
  refine L_nil ?_
  refine Q_then ?_
  refine R_seq ?_
  refine R_region ?_
  refine L_val rfl rfl rfl (OpP.v (P_fld0 rfl ty_fl_29_0 rfl)) ?_
  refine L_val rfl rfl rfl (V_load rfl rfl ty_sc_22 (Rd.blk .h1 rfl)) ?_
  refine L_val rfl rfl rfl (OpP.v (P_len rfl ty_sl_22 rfl)) ?_
  refine L_op rfl (W_make (n := l.length) rfl rfl rfl ty_sl_68 ty_ze_4 rfl rfl (by omega) (by omega) fun b15 => ?_)
  rw [mkT_zero]
  refine L_val rfl rfl rfl (OpP.v (P_assign rfl rfl)) ?_
  refine L_nil ?_
  refine St.env (.cons (t := 2) rfl (.cons (t := 3) rfl (.cons (t := 4) rfl (.cons (t := 5) rfl (.cons (t := 6) rfl .nil))))) ?_
  refine Q_then ?_
  refine R_seq ?_
  refine R_seq ?_
  refine R_region ?_
  refine L_val rfl rfl rfl (OpP.v (P_assign rfl rfl)) ?_
  refine L_nil ?_
  refine Q_then ?_
  refine R_block ?_
  refine R_loopE (G := Nat) (.cons (t := 2) rfl (.cons (t := 3) rfl (.cons (t := 4) rfl (.cons (t := 5) rfl (.cons (t := 6) rfl .nil))))) (fun g => [(7, .int .i64 (g : Int))]) (fun g => [blk b15 (mkT l.length (takeT p.mb l g)) 4, blk b3 p.cells 25, blk b2 (ledV (.slice base l.length c) r bu su) 29]) (fun g => g ≤ min p.seats.toNat 64) (fun g => 64 - g) (0) (Nat.zero_le _) (by repeat (first | exact .nil | refine .cons rfl ?_ | refine .consE rfl (by first | rfl | (congr 1; omega) | (congr 1; push_cast; omega)) ?_)) (Weak.refl _) ?_
  intro k hinv
  replace hinv : k ≤ min p.seats.toNat 64 := hinv
  show St (cx gl) _ ((7, .int .i64 (k : Int)) :: _) [blk b15 (mkT l.length (takeT p.mb l k)) 4, blk b3 p.cells 25, blk b2 (ledV (.slice base l.length c) r bu su) 29] _
  refine R_seq ?_
  refine R_seq ?_
  refine R_region ?_
  refine L_val rfl rfl rfl (OpP.v (P_move rfl rfl)) ?_
  refine L_val rfl rfl rfl (OpP.v (P_fld0 rfl ty_fl_25_1 rfl)) ?_
  refine L_val rfl rfl rfl (V_load rfl rfl ty_sc_3 (Rd.blk .h1 rfl)) ?_
  refine L_val rfl rfl rfl (OpP.v (P_lss rfl rfl rfl)) ?_
  refine E_bool (t := 19) rfl (fun q1 => ?_) (fun q1 => ?_)
  · skip
    have q1 := of_decide_eq_true q1
    refine L_val rfl rfl rfl (OpP.v (P_move rfl rfl)) ?_
    refine L_val rfl rfl rfl (OpP.v (P_move rfl rfl)) ?_
    refine L_val rfl rfl rfl (OpP.v (P_lss rfl rfl rfl)) ?_
    refine L_val rfl rfl rfl (OpP.v (P_pick rfl rfl rfl)) ?_
    refine L_nil ?_
    refine Q_then ?_
    refine R_condP rfl (fun q2 => ?_) (fun q2 => ?_)
    · skip
      have hk0 : k ≤ min p.seats.toNat 64 := hinv
      obtain ⟨T, hT⟩ : ∃ T, T = takeT p.mb l k := ⟨_, rfl⟩
      rw [← hT]
      refine R_skip ?_
      refine Q_then ?_
      refine R_seq ?_
      refine R_block ?_
      refine R_seq ?_
      refine R_region ?_
      refine L_val rfl rfl rfl (OpP.v (P_assign rfl rfl)) ?_
      refine L_nil ?_
      refine Q_then ?_
      refine R_seq ?_
      refine R_seq ?_
      refine R_region ?_
      refine L_val rfl rfl rfl (OpP.v (P_assign rfl rfl)) ?_
      refine L_nil ?_
      refine Q_then ?_
      refine R_block ?_
      refine R_loopE (G := Nat) (.cons (t := 2) rfl (.cons (t := 3) rfl (.cons (t := 4) rfl (.cons (t := 5) rfl (.cons (t := 6) rfl (.cons (t := 7) rfl (.cons (t := 16) rfl (.cons (t := 17) rfl (.cons (t := 18) rfl (.cons (t := 19) rfl (.cons (t := 20) rfl (.cons (t := 21) rfl (.cons (t := 22) rfl (.cons (t := 23) rfl .nil)))))))))))))) (fun g => [(8, .int .i64 (rbest p.mb l T g)), (9, .int .i64 (g : Int))]) (fun _ => _) (fun g => g ≤ l.length) (fun g => l.length - g) (0) (Nat.zero_le _) (by repeat (first | exact .nil | refine .cons rfl ?_ | refine .consE rfl (by first | rfl | (congr 1; omega) | (congr 1; push_cast; omega)) ?_)) (Weak.refl _) ?_
      intro j hinv
      replace hinv : j ≤ l.length := hinv
      show St (cx gl) _ ((8, .int .i64 (rbest p.mb l T j)) :: (9, .int .i64 (j : Int)) :: _) _ _
      refine R_seq ?_
      refine R_seq ?_
      refine R_region ?_
      refine L_val rfl rfl rfl (OpP.v (P_move rfl rfl)) ?_
      refine L_val rfl rfl rfl (OpP.v (P_fld0 rfl ty_fl_29_0 rfl)) ?_
      refine L_val rfl rfl rfl (V_load rfl rfl ty_sc_22 (Rd.blk .h2 rfl)) ?_
      refine L_val rfl rfl rfl (OpP.v (P_len rfl ty_sl_22 rfl)) ?_
      refine L_val rfl rfl rfl (OpP.v (P_lss rfl rfl rfl)) ?_
      refine L_nil ?_
      refine Q_then ?_
      refine R_condP rfl (fun hlt => ?_) (fun hlt => ?_)
      · skip
        have hj : j < l.length := by omega
        have hx0 := accAt_get (l := l) (i := j) (by omega)
        obtain ⟨x, ex⟩ : ∃ x, x = accAt l j := ⟨_, rfl⟩
        have hx : l[j]? = some x := by rw [ex]; exact hx0
        obtain ⟨pb, pj, rfl, hrow⟩ := hpre.some_ (by rw [rc_length]; show 0 < _ * 5; omega)
        refine R_skip ?_
        refine Q_then ?_
        refine R_seq ?_
        refine R_block ?_
        refine R_seq ?_
        refine R_region ?_
        refine L_val rfl rfl rfl (OpP.v (P_fld0 rfl ty_fl_29_0 rfl)) ?_
        refine L_val rfl rfl rfl (V_load rfl rfl ty_sc_22 (Rd.blk .h2 rfl)) ?_
        refine L_val rfl rfl rfl (OpP.v (P_move rfl rfl)) ?_
        refine L_val rfl rfl rfl (OpP.v (P_ixs (j) rfl ty_sl_22 rfl rfl (by first | rfl | omega) (by omega))) ?_
        refine L_val rfl rfl rfl (V_loadAgg rfl rfl ty_ag_39 (rds_rc (Rds.row hrow rfl) hx) (rfl)) ?_
        refine L_op rfl (W_alloc rfl rfl rfl ty_ze_39 fun b10 => ?_)
        refine L_op rfl (W_storeAll rfl rfl rfl rfl ty_ag_39 (rfl) (Rec.one x) .h0 (rfl) ?_)
        refine L_nil ?_
        refine Q_then ?_
        refine R_seq ?_
        refine R_open [(0, 0), (1, 0), (2, 0), (3, 1), (4, 0), (5, 0), (6, 0), (7, 1), (8, 0), (9, 0), (10, 0), (11, 0), (12, 1), (13, 0), (14, 1), (15, 0), (16, 0), (17, 0), (18, 0), (19, 1), (20, 0), (21, 0), (22, 0), (23, 0), (24, 0), (25, 0), (26, 0), (27, 1), (28, 0), (29, 1), (30, 0), (31, 0), (32, 0), (33, 1), (34, 0), (35, 0), (36, 0)] mixed (by kernel_rfl) (QOk.then (QOk.block (QOk.then (QOk.then (QOk.block (QOk.then (QOk.block (QOk.then (QOk.then (QOk.block (QOk.then QOk.body))))))))))) ?_
        refine O_pure rfl rfl rfl rfl (P_move rfl rfl) ?_
        refine O_pure rfl rfl rfl rfl (P_move rfl rfl) ?_
        refine O_pure rfl rfl rfl rfl (P_ixs (j) rfl ty_sl_68 rfl rfl (by first | rfl | omega) (by omega)) ?_
        refine O_val rfl rfl rfl rfl (V_load rfl rfl ty_sc_4 (rd_blk1 .h1 (mkT_at hj))) ?_
        refine O_pure rfl rfl rfl rfl (P_not rfl rfl) ?_
        refine E_bool (t := 42) rfl (fun w1 => ?_) (fun w1 => ?_)
        · skip
          have w1 : isIn' T j = false := by simpa using w1
          refine O_pure rfl rfl rfl rfl (P_move rfl rfl) ?_
          refine O_pure rfl rfl rfl rfl (P_fld0 rfl ty_fl_39_4 rfl) ?_
          refine O_val rfl rfl rfl rfl (V_load rfl rfl ty_sc_4 (Rd.blk .h0 rfl)) ?_
          refine O_pure rfl rfl rfl rfl (P_not rfl rfl) ?_
          refine E_bool (t := 46) rfl (fun w2 => ?_) (fun w2 => ?_)
          · skip
            refine O_pure rfl rfl rfl rfl (P_pick rfl rfl rfl) ?_
            refine O_pure rfl rfl rfl rfl (P_move rfl rfl) ?_
            refine O_pure rfl rfl rfl rfl (P_fld0 rfl ty_fl_39_2 rfl) ?_
            refine O_val rfl rfl rfl rfl (V_load rfl rfl ty_sc_23 (Rd.blk .h0 rfl)) ?_
            refine O_pure rfl rfl rfl rfl (P_fld0 rfl ty_fl_25_0 rfl) ?_
            refine O_val rfl rfl rfl rfl (V_load rfl rfl ty_sc_23 (Rd.blk .h2 rfl)) ?_
            refine O_pure rfl rfl rfl rfl (P_geq rfl rfl rfl) ?_
            refine E_bool (t := 53) rfl (fun w3 => ?_) (fun w3 => ?_)
            · skip
              have w3 := of_decide_eq_true w3
              refine O_pure rfl rfl rfl rfl (P_pick rfl rfl rfl) ?_
              refine O_pure rfl rfl rfl rfl (P_move rfl rfl) ?_
              refine O_pure rfl rfl rfl rfl (P_fld0 rfl ty_fl_39_2 rfl) ?_
              refine O_val rfl rfl rfl rfl (V_load rfl rfl ty_sc_23 (Rd.blk .h0 rfl)) ?_
              refine O_pure rfl rfl rfl rfl (P_geq rfl rfl rfl) ?_
              refine E_bool (t := 58) rfl (fun w4 => ?_) (fun w4 => ?_)
              · skip
                have w4 := of_decide_eq_true w4
                have hsit : sits p.mb x = true := by unfold sits; rw [w2, decide_eq_true w3, decide_eq_true w4]; rfl
                refine O_pure rfl rfl rfl rfl (P_pick rfl rfl rfl) ?_
                refine O_pure rfl rfl rfl rfl (P_move rfl rfl) ?_
                refine O_pure rfl rfl rfl rfl (P_move rfl rfl) ?_
                refine O_pure rfl rfl rfl rfl (P_lss rfl rfl rfl) ?_
                refine E_bool (t := 62) rfl (fun w5 => ?_) (fun w5 => ?_)
                · skip
                  have w5 := of_decide_eq_true w5
                  have hst : rbest p.mb l T (j + 1) = (j : Int) := rb_yes ex w1 hsit (.inl w5)
                  refine O_pure rfl rfl rfl rfl (P_move rfl rfl) ?_
                  refine O_no rfl rfl rfl rfl ?_
                  refine O_noX rfl rfl rfl rfl ?_
                  refine O_no rfl rfl rfl rfl ?_
                  refine O_noX rfl rfl rfl rfl ?_
                  refine O_no rfl rfl rfl rfl ?_
                  refine O_no rfl rfl rfl rfl ?_
                  refine O_no rfl rfl rfl rfl ?_
                  refine O_noX rfl rfl rfl rfl ?_
                  refine O_no rfl rfl rfl rfl ?_
                  refine O_pure rfl rfl rfl rfl (P_pick rfl rfl rfl) ?_
                  refine O_pure rfl rfl rfl rfl (P_pick rfl rfl rfl) ?_
                  refine O_nil ?_
                  refine Q_then ?_
                  refine R_condT rfl ?_
                  refine R_region ?_
                  refine L_val rfl rfl rfl (OpP.v (P_move rfl rfl)) ?_
                  refine L_val rfl rfl rfl (OpP.v (P_assign rfl rfl)) ?_
                  refine L_nil ?_
                  refine Q_block ?_
                  refine Q_then ?_
                  refine E_as (t := 8) (v' := .int .i64 (rbest p.mb l T (j + 1))) rfl (by rw [hst]) ?_
                  refine R_region ?_
                  refine L_val rfl rfl rfl (OpP.v (P_move rfl rfl)) ?_
                  first | (refine L_val rfl rfl rfl (OpP.v (P_addN rfl rfl rfl (by simp only [fits]; omega))) ?_) | (refine L_val rfl rfl rfl (OpP.v (P_add rfl rfl rfl)) ?_)
                  refine L_val rfl rfl rfl (OpP.v (P_assign rfl rfl)) ?_
                  refine L_nil ?_
                  exact Q_round (j + 1) (by show j + 1 ≤ l.length; omega) (by show l.length - (j + 1) < l.length - j; omega) (by repeat (first | exact .nil | refine .cons rfl ?_ | refine .consE rfl (by first | rfl | (congr 1; omega) | (congr 1; push_cast; omega)) ?_)) (Weak.drop (Weak.refl _))
                · skip
                  have w5 := of_decide_eq_false w5
                  obtain ⟨bN, hbN, hbj⟩ := rb_get w5
                  have hbx := accAt_get (l := l) (i := bN) (by omega)
                  refine O_pure rfl rfl rfl rfl (P_move rfl rfl) ?_
                  refine O_pure rfl rfl rfl rfl (P_fld0 rfl ty_fl_39_2 rfl) ?_
                  refine O_val rfl rfl rfl rfl (V_load rfl rfl ty_sc_23 (Rd.blk .h0 rfl)) ?_
                  refine O_pure rfl rfl rfl rfl (P_fld0 rfl ty_fl_29_0 rfl) ?_
                  refine O_val rfl rfl rfl rfl (V_load rfl rfl ty_sc_22 (Rd.blk .h3 rfl)) ?_
                  refine O_pure rfl rfl rfl rfl (P_move rfl rfl) ?_
                  refine E_as (t := 68) (v' := .int .i64 (bN : Int)) rfl (by rw [hbN]) ?_
                  refine O_pure rfl rfl rfl rfl (P_ixs (bN) rfl ty_sl_22 rfl rfl (by first | rfl | omega) (by omega)) ?_
                  refine O_pure rfl rfl rfl rfl (P_fld rfl ty_fl_39_2 rfl) ?_
                  refine O_val rfl rfl rfl rfl (V_load rfl rfl ty_sc_23 (rd_rc (Rds.row hrow rfl) hbx rfl)) ?_
                  refine O_pure rfl rfl rfl rfl (P_gtr rfl rfl rfl) ?_
                  refine O_pure rfl rfl rfl rfl (P_pick rfl rfl rfl) ?_
                  refine O_pure rfl rfl rfl rfl (P_pick rfl rfl rfl) ?_
                  refine O_nil ?_
                  refine Q_then ?_
                  refine R_condP rfl (fun w6 => ?_) (fun w6 => ?_)
                  · skip
                    have hst : rbest p.mb l T (j + 1) = (j : Int) := rb_yes ex w1 hsit (.inr (by rw [hbN]; exact w6))
                    refine R_region ?_
                    refine L_val rfl rfl rfl (OpP.v (P_move rfl rfl)) ?_
                    refine L_val rfl rfl rfl (OpP.v (P_assign rfl rfl)) ?_
                    refine L_nil ?_
                    refine Q_block ?_
                    refine Q_then ?_
                    refine E_as (t := 8) (v' := .int .i64 (rbest p.mb l T (j + 1))) rfl (by rw [hst]) ?_
                    refine R_region ?_
                    refine L_val rfl rfl rfl (OpP.v (P_move rfl rfl)) ?_
                    first | (refine L_val rfl rfl rfl (OpP.v (P_addN rfl rfl rfl (by simp only [fits]; omega))) ?_) | (refine L_val rfl rfl rfl (OpP.v (P_add rfl rfl rfl)) ?_)
                    refine L_val rfl rfl rfl (OpP.v (P_assign rfl rfl)) ?_
                    refine L_nil ?_
                    exact Q_round (j + 1) (by show j + 1 ≤ l.length; omega) (by show l.length - (j + 1) < l.length - j; omega) (by repeat (first | exact .nil | refine .cons rfl ?_ | refine .consE rfl (by first | rfl | (congr 1; omega) | (congr 1; push_cast; omega)) ?_)) (Weak.drop (Weak.refl _))
                  · skip
                    have hst : rbest p.mb l T (j + 1) = rbest p.mb l T j := rb_less ex (fun h9 => h9.elim w5 fun h9 => by rw [hbN] at h9; exact w6 h9)
                    refine R_skip ?_
                    refine Q_block ?_
                    refine Q_then ?_
                    refine E_as (t := 8) (v' := .int .i64 (rbest p.mb l T (j + 1))) rfl (by rw [hst]) ?_
                    refine R_region ?_
                    refine L_val rfl rfl rfl (OpP.v (P_move rfl rfl)) ?_
                    first | (refine L_val rfl rfl rfl (OpP.v (P_addN rfl rfl rfl (by simp only [fits]; omega))) ?_) | (refine L_val rfl rfl rfl (OpP.v (P_add rfl rfl rfl)) ?_)
                    refine L_val rfl rfl rfl (OpP.v (P_assign rfl rfl)) ?_
                    refine L_nil ?_
                    exact Q_round (j + 1) (by show j + 1 ≤ l.length; omega) (by show l.length - (j + 1) < l.length - j; omega) (by repeat (first | exact .nil | refine .cons rfl ?_ | refine .consE rfl (by first | rfl | (congr 1; omega) | (congr 1; push_cast; omega)) ?_)) (Weak.drop (Weak.refl _))
              · skip
                have w4 := of_decide_eq_false w4
                have hst : rbest p.mb l T (j + 1) = rbest p.mb l T j := rb_not ex (by unfold sits; rw [decide_eq_false (p := 1 ≤ x.bond) w4, Bool.and_false, Bool.and_false])
                refine O_pure rfl rfl rfl rfl (P_pick rfl rfl rfl) ?_
                refine O_pure rfl rfl rfl rfl (P_move rfl rfl) ?_
                refine O_no rfl rfl rfl rfl ?_
                refine O_no rfl rfl rfl rfl ?_
                refine O_no rfl rfl rfl rfl ?_
                refine O_no rfl rfl rfl rfl ?_
                refine O_noX rfl rfl rfl rfl ?_
                refine O_no rfl rfl rfl rfl ?_
                refine O_noX rfl rfl rfl rfl ?_
                refine O_no rfl rfl rfl rfl ?_
                refine O_no rfl rfl rfl rfl ?_
                refine O_no rfl rfl rfl rfl ?_
                refine O_noX rfl rfl rfl rfl ?_
                refine O_no rfl rfl rfl rfl ?_
                refine O_no rfl rfl rfl rfl ?_
                refine O_pure rfl rfl rfl rfl (P_pick rfl rfl rfl) ?_
                refine O_nil ?_
                refine Q_then ?_
                refine R_condF rfl ?_
                refine R_skip ?_
                refine Q_block ?_
                refine Q_then ?_
                refine E_as (t := 8) (v' := .int .i64 (rbest p.mb l T (j + 1))) rfl (by rw [hst]) ?_
                refine R_region ?_
                refine L_val rfl rfl rfl (OpP.v (P_move rfl rfl)) ?_
                first | (refine L_val rfl rfl rfl (OpP.v (P_addN rfl rfl rfl (by simp only [fits]; omega))) ?_) | (refine L_val rfl rfl rfl (OpP.v (P_add rfl rfl rfl)) ?_)
                refine L_val rfl rfl rfl (OpP.v (P_assign rfl rfl)) ?_
                refine L_nil ?_
                exact Q_round (j + 1) (by show j + 1 ≤ l.length; omega) (by show l.length - (j + 1) < l.length - j; omega) (by repeat (first | exact .nil | refine .cons rfl ?_ | refine .consE rfl (by first | rfl | (congr 1; omega) | (congr 1; push_cast; omega)) ?_)) (Weak.drop (Weak.refl _))
            · skip
              have w3 := of_decide_eq_false w3
              have hst : rbest p.mb l T (j + 1) = rbest p.mb l T j := rb_not ex (by unfold sits; rw [decide_eq_false (p := p.mb ≤ x.bond) w3, Bool.false_and, Bool.and_false])
              refine O_pure rfl rfl rfl rfl (P_pick rfl rfl rfl) ?_
              refine O_pure rfl rfl rfl rfl (P_move rfl rfl) ?_
              refine O_no rfl rfl rfl rfl ?_
              refine O_noX rfl rfl rfl rfl ?_
              refine O_no rfl rfl rfl rfl ?_
              refine O_pure rfl rfl rfl rfl (P_pick rfl rfl rfl) ?_
              refine O_pure rfl rfl rfl rfl (P_move rfl rfl) ?_
              refine O_no rfl rfl rfl rfl ?_
              refine O_no rfl rfl rfl rfl ?_
              refine O_no rfl rfl rfl rfl ?_
              refine O_no rfl rfl rfl rfl ?_
              refine O_noX rfl rfl rfl rfl ?_
              refine O_no rfl rfl rfl rfl ?_
              refine O_noX rfl rfl rfl rfl ?_
              refine O_no rfl rfl rfl rfl ?_
              refine O_no rfl rfl rfl rfl ?_
              refine O_no rfl rfl rfl rfl ?_
              refine O_noX rfl rfl rfl rfl ?_
              refine O_no rfl rfl rfl rfl ?_
              refine O_no rfl rfl rfl rfl ?_
              refine O_pure rfl rfl rfl rfl (P_pick rfl rfl rfl) ?_
              refine O_nil ?_
              refine Q_then ?_
              refine R_condF rfl ?_
              refine R_skip ?_
              refine Q_block ?_
              refine Q_then ?_
              refine E_as (t := 8) (v' := .int .i64 (rbest p.mb l T (j + 1))) rfl (by rw [hst]) ?_
              refine R_region ?_
              refine L_val rfl rfl rfl (OpP.v (P_move rfl rfl)) ?_
              first | (refine L_val rfl rfl rfl (OpP.v (P_addN rfl rfl rfl (by simp only [fits]; omega))) ?_) | (refine L_val rfl rfl rfl (OpP.v (P_add rfl rfl rfl)) ?_)
              refine L_val rfl rfl rfl (OpP.v (P_assign rfl rfl)) ?_
              refine L_nil ?_
              exact Q_round (j + 1) (by show j + 1 ≤ l.length; omega) (by show l.length - (j + 1) < l.length - j; omega) (by repeat (first | exact .nil | refine .cons rfl ?_ | refine .consE rfl (by first | rfl | (congr 1; omega) | (congr 1; push_cast; omega)) ?_)) (Weak.drop (Weak.refl _))
          · skip
            have hst : rbest p.mb l T (j + 1) = rbest p.mb l T j := rb_not ex (by unfold sits; rw [w2, Bool.false_and])
            refine O_pure rfl rfl rfl rfl (P_pick rfl rfl rfl) ?_
            refine O_pure rfl rfl rfl rfl (P_move rfl rfl) ?_
            refine O_no rfl rfl rfl rfl ?_
            refine O_noX rfl rfl rfl rfl ?_
            refine O_no rfl rfl rfl rfl ?_
            refine O_noX rfl rfl rfl rfl ?_
            refine O_no rfl rfl rfl rfl ?_
            refine O_pure rfl rfl rfl rfl (P_pick rfl rfl rfl) ?_
            refine O_pure rfl rfl rfl rfl (P_move rfl rfl) ?_
            refine O_no rfl rfl rfl rfl ?_
            refine O_noX rfl rfl rfl rfl ?_
            refine O_no rfl rfl rfl rfl ?_
            refine O_pure rfl rfl rfl rfl (P_pick rfl rfl rfl) ?_
            refine O_pure rfl rfl rfl rfl (P_move rfl rfl) ?_
            refine O_no rfl rfl rfl rfl ?_
            refine O_no rfl rfl rfl rfl ?_
            refine O_no rfl rfl rfl rfl ?_
            refine O_no rfl rfl rfl rfl ?_
            refine O_noX rfl rfl rfl rfl ?_
            refine O_no rfl rfl rfl rfl ?_
            refine O_noX rfl rfl rfl rfl ?_
            refine O_no rfl rfl rfl rfl ?_
            refine O_no rfl rfl rfl rfl ?_
            refine O_no rfl rfl rfl rfl ?_
            refine O_noX rfl rfl rfl rfl ?_
            refine O_no rfl rfl rfl rfl ?_
            refine O_no rfl rfl rfl rfl ?_
            refine O_pure rfl rfl rfl rfl (P_pick rfl rfl rfl) ?_
            refine O_nil ?_
            refine Q_then ?_
            refine R_condF rfl ?_
            refine R_skip ?_
            refine Q_block ?_
            refine Q_then ?_
            refine E_as (t := 8) (v' := .int .i64 (rbest p.mb l T (j + 1))) rfl (by rw [hst]) ?_
            refine R_region ?_
            refine L_val rfl rfl rfl (OpP.v (P_move rfl rfl)) ?_
            first | (refine L_val rfl rfl rfl (OpP.v (P_addN rfl rfl rfl (by simp only [fits]; omega))) ?_) | (refine L_val rfl rfl rfl (OpP.v (P_add rfl rfl rfl)) ?_)
            refine L_val rfl rfl rfl (OpP.v (P_assign rfl rfl)) ?_
            refine L_nil ?_
            exact Q_round (j + 1) (by show j + 1 ≤ l.length; omega) (by show l.length - (j + 1) < l.length - j; omega) (by repeat (first | exact .nil | refine .cons rfl ?_ | refine .consE rfl (by first | rfl | (congr 1; omega) | (congr 1; push_cast; omega)) ?_)) (Weak.drop (Weak.refl _))
        · skip
          have w1 : isIn' T j = true := by simpa using w1
          have hst : rbest p.mb l T (j + 1) = rbest p.mb l T j := rb_in w1
          refine O_pure rfl rfl rfl rfl (P_move rfl rfl) ?_
          refine O_no rfl rfl rfl rfl ?_
          refine O_noX rfl rfl rfl rfl ?_
          refine O_no rfl rfl rfl rfl ?_
          refine O_pure rfl rfl rfl rfl (P_pick rfl rfl rfl) ?_
          refine O_pure rfl rfl rfl rfl (P_move rfl rfl) ?_
          refine O_no rfl rfl rfl rfl ?_
          refine O_noX rfl rfl rfl rfl ?_
          refine O_no rfl rfl rfl rfl ?_
          refine O_noX rfl rfl rfl rfl ?_
          refine O_no rfl rfl rfl rfl ?_
          refine O_pure rfl rfl rfl rfl (P_pick rfl rfl rfl) ?_
          refine O_pure rfl rfl rfl rfl (P_move rfl rfl) ?_
          refine O_no rfl rfl rfl rfl ?_
          refine O_noX rfl rfl rfl rfl ?_
          refine O_no rfl rfl rfl rfl ?_
          refine O_pure rfl rfl rfl rfl (P_pick rfl rfl rfl) ?_
          refine O_pure rfl rfl rfl rfl (P_move rfl rfl) ?_
          refine O_no rfl rfl rfl rfl ?_
          refine O_no rfl rfl rfl rfl ?_
          refine O_no rfl rfl rfl rfl ?_
          refine O_no rfl rfl rfl rfl ?_
          refine O_noX rfl rfl rfl rfl ?_
          refine O_no rfl rfl rfl rfl ?_
          refine O_noX rfl rfl rfl rfl ?_
          refine O_no rfl rfl rfl rfl ?_
          refine O_no rfl rfl rfl rfl ?_
          refine O_no rfl rfl rfl rfl ?_
          refine O_noX rfl rfl rfl rfl ?_
          refine O_no rfl rfl rfl rfl ?_
          refine O_no rfl rfl rfl rfl ?_
          refine O_pure rfl rfl rfl rfl (P_pick rfl rfl rfl) ?_
          refine O_nil ?_
          refine Q_then ?_
          refine R_condF rfl ?_
          refine R_skip ?_
          refine Q_block ?_
          refine Q_then ?_
          refine E_as (t := 8) (v' := .int .i64 (rbest p.mb l T (j + 1))) rfl (by rw [hst]) ?_
          refine R_region ?_
          refine L_val rfl rfl rfl (OpP.v (P_move rfl rfl)) ?_
          first | (refine L_val rfl rfl rfl (OpP.v (P_addN rfl rfl rfl (by simp only [fits]; omega))) ?_) | (refine L_val rfl rfl rfl (OpP.v (P_add rfl rfl rfl)) ?_)
          refine L_val rfl rfl rfl (OpP.v (P_assign rfl rfl)) ?_
          refine L_nil ?_
          exact Q_round (j + 1) (by show j + 1 ≤ l.length; omega) (by show l.length - (j + 1) < l.length - j; omega) (by repeat (first | exact .nil | refine .cons rfl ?_ | refine .consE rfl (by first | rfl | (congr 1; omega) | (congr 1; push_cast; omega)) ?_)) (Weak.drop (Weak.refl _))
      · skip
        have hj0 : j ≤ l.length := hinv
        have hjn : j = l.length := by omega
        rw [hjn]
        refine R_exit ?_
        refine Q_then_exit ?_
        refine Q_then_exit ?_
        refine Q_block_eq ?_
        refine Q_then ?_
        refine R_seq ?_
        refine R_seq ?_
        refine R_region ?_
        refine L_val rfl rfl rfl (OpP.v (P_move rfl rfl)) ?_
        refine L_val rfl rfl rfl (OpP.v (P_lss rfl rfl rfl)) ?_
        refine L_nil ?_
        refine Q_then ?_
        refine R_condP rfl (fun q9 => ?_) (fun q9 => ?_)
        · skip
          rw [hT] at q9 ⊢
          have hkk : takeT p.mb l k = takeT p.mb l (min p.seats.toNat 64) := by have h9 := takeT_stop q9 (min p.seats.toNat 64 - k); rw [show k + (min p.seats.toNat 64 - k) = min p.seats.toNat 64 by omega] at h9; exact h9.symm
          rw [hkk]
          refine R_exit ?_
          refine Q_then_exit ?_
          refine Q_block_ne rfl ?_
          refine Q_then_exit ?_
          refine Q_then_exit ?_
          refine Q_block_eq ?_
          refine St.env (.cons (t := 2) rfl (.cons (t := 4) rfl (.cons (t := 5) rfl (.cons (t := 6) rfl .nil)))) ?_
          refine Q_then ?_
          refine R_seq ?_
          refine R_seq ?_
          refine R_region ?_
          refine L_val rfl rfl rfl (OpP.v (P_assign rfl rfl)) ?_
          refine L_nil ?_
          refine Q_then ?_
          refine R_block ?_
          refine R_loopE (G := Nat × Value) (.cons (t := 2) rfl (.cons (t := 4) rfl (.cons (t := 6) rfl .nil))) (fun g => [(5, g.2), (11, .int .i64 (g.1 : Int))]) (fun g => [ownS 37 3 (g.2) ((soF l (takeT p.mb l (min p.seats.toNat 64)) g.1).length) (rc (soF l (takeT p.mb l (min p.seats.toNat 64)) g.1)), blk b15 (mkT l.length (takeT p.mb l (min p.seats.toNat 64))) 4, blk b3 p.cells 25, blk b2 (ledV (.slice base l.length c) r bu su) 29]) (fun g => g.1 ≤ l.length) (fun g => l.length - g.1) (0, .slice none 0 0) (Nat.zero_le _) (by repeat (first | exact .nil | refine .cons rfl ?_ | refine .consE rfl (by first | rfl | (congr 1; omega) | (congr 1; push_cast; omega)) ?_)) (Weak.newNil) ?_
          rintro ⟨i, v⟩ hinv
          replace hinv : i ≤ l.length := hinv
          show St (cx gl) _ ((5, v) :: (11, .int .i64 (i : Int)) :: _) [ownS 37 3 (v) ((soF l (takeT p.mb l (min p.seats.toNat 64)) i).length) (rc (soF l (takeT p.mb l (min p.seats.toNat 64)) i)), blk b15 (mkT l.length (takeT p.mb l (min p.seats.toNat 64))) 4, blk b3 p.cells 25, blk b2 (ledV (.slice base l.length c) r bu su) 29] _
          refine R_seq ?_
          refine R_seq ?_
          refine R_region ?_
          refine L_val rfl rfl rfl (OpP.v (P_move rfl rfl)) ?_
          refine L_val rfl rfl rfl (OpP.v (P_fld0 rfl ty_fl_29_0 rfl)) ?_
          refine L_val rfl rfl rfl (V_load rfl rfl ty_sc_22 (Rd.blk .h3 rfl)) ?_
          refine L_val rfl rfl rfl (OpP.v (P_len rfl ty_sl_22 rfl)) ?_
          refine L_val rfl rfl rfl (OpP.v (P_lss rfl rfl rfl)) ?_
          refine L_nil ?_
          refine Q_then ?_
          refine R_condP rfl (fun hlt => ?_) (fun hlt => ?_)
          · skip
            have hi : i ≤ l.length := hinv
            have hil : i < l.length := by omega
            have hx0 := accAt_get (l := l) (i := i) (by omega)
            obtain ⟨x, ex⟩ : ∃ x, x = accAt l i := ⟨_, rfl⟩
            have hx : l[i]? = some x := by rw [ex]; exact hx0
            obtain ⟨pb, pj, rfl, hrow⟩ := hpre.some_ (by rw [rc_length]; show 0 < _ * 5; omega)
            have hso := soF_len l (takeT p.mb l (min p.seats.toNat 64)) i
            refine R_skip ?_
            refine Q_then ?_
            refine R_seq ?_
            refine R_block ?_
            refine R_seq ?_
            refine R_region ?_
            refine L_val rfl rfl rfl (OpP.v (P_move rfl rfl)) ?_
            refine L_val rfl rfl rfl (OpP.v (P_move rfl rfl)) ?_
            refine L_val rfl rfl rfl (OpP.v (P_ixs (i) rfl ty_sl_68 rfl rfl (by first | rfl | omega) (by omega))) ?_
            refine L_val rfl rfl rfl (V_load rfl rfl ty_sc_4 (rd_blk1 .h1 (mkT_at hil))) ?_
            refine L_nil ?_
            refine Q_then ?_
            refine R_cond rfl (fun hb => ?_) (fun hb => ?_)
            · skip
              refine R_open [(0, 0), (1, 0), (2, 1), (3, 0), (4, 0), (5, 0), (6, 1), (7, 0), (8, 1), (9, 0), (10, 0), (11, 0), (12, 1), (13, 0), (14, 2), (15, 3), (16, 0)] mixed (by kernel_rfl) (QOk.block (QOk.then (QOk.then (QOk.block (QOk.then QOk.body))))) ?_
              refine O_pure rfl rfl rfl rfl (P_move rfl rfl) ?_
              refine O_pure rfl rfl rfl rfl (P_fld0 rfl ty_fl_29_0 rfl) ?_
              refine O_val rfl rfl rfl rfl (V_load rfl rfl ty_sc_22 (Rd.blk .h3 rfl)) ?_
              refine O_pure rfl rfl rfl rfl (P_move rfl rfl) ?_
              refine O_pure rfl rfl rfl rfl (P_ixs (i) rfl ty_sl_22 rfl rfl (by first | rfl | omega) (by omega)) ?_
              refine O_pure rfl rfl rfl rfl (P_fld rfl ty_fl_39_0 rfl) ?_
              refine O_val rfl rfl rfl rfl (V_load rfl rfl ty_sc_35 (rd_rc (Rds.row hrow rfl) hx rfl)) ?_
              refine O_pure rfl rfl rfl rfl (P_fld0 rfl ty_fl_29_0 rfl) ?_
              refine O_val rfl rfl rfl rfl (V_load rfl rfl ty_sc_22 (Rd.blk .h3 rfl)) ?_
              refine O_pure rfl rfl rfl rfl (P_move rfl rfl) ?_
              refine O_pure rfl rfl rfl rfl (P_ixs (i) rfl ty_sl_22 rfl rfl (by first | rfl | omega) (by omega)) ?_
              refine O_pure rfl rfl rfl rfl (P_fld rfl ty_fl_39_2 rfl) ?_
              refine O_val rfl rfl rfl rfl (V_load rfl rfl ty_sc_23 (rd_rc (Rds.row hrow rfl) hx rfl)) ?_
              refine O_pure rfl rfl rfl rfl (P_buildStruct rfl ty_pl_37 ty_ze_37 rfl rfl (rfl)) ?_
              refine E_as (t := 105) (v' := .agg (memA (accAt l i)).cells.toArray) rfl (by rw [← ex]; rfl) ?_
              refine O_keep rfl rfl (W_lit (z := .nilIface) ((memA (accAt l i)).cells) rfl rfl rfl ty_sl_33 ty_lz_33 rfl rfl rfl (by decide) (by decide) (by intro v hv; simp only [List.mem_singleton] at hv; subst hv; rfl) (rfl) fun b106 => (K_keep (Weak.drop (Weak.refl _)) ?_))
              refine O_new rfl rfl (W_append (p := [_]) rfl rfl rfl ty_sl_33 ty_ap_33 ty_src_33 rfl rfl rfl (Src.slice (sz := 3) (m := 1) (news := (memA (accAt l i)).cells) (Rds.blk .h0) rfl (Mem.cells_one _)) (by omega) (by simp only [maxLen]; omega) fun v107 => (K_new ?_))
              refine O_pure rfl rfl rfl rfl (P_assign rfl rfl) ?_
              refine O_nil ?_
              refine Q_block ?_
              refine Q_then ?_
              refine R_region ?_
              refine L_val rfl rfl rfl (OpP.v (P_move rfl rfl)) ?_
              first | (refine L_val rfl rfl rfl (OpP.v (P_addN rfl rfl rfl (by simp only [fits]; omega))) ?_) | (refine L_val rfl rfl rfl (OpP.v (P_add rfl rfl rfl)) ?_)
              refine L_val rfl rfl rfl (OpP.v (P_assign rfl rfl)) ?_
              refine L_nil ?_
              exact Q_round (i + 1, v107) (by show i + 1 ≤ l.length; omega) (by show l.length - (i + 1) < l.length - i; omega) (by repeat (first | exact .nil | refine .cons rfl ?_ | refine .consE rfl (by first | rfl | (congr 1; omega) | (congr 1; push_cast; omega)) ?_)) (Weak.drop (by rw [soF_yes hb, List.length_append, rc_append]; exact Weak.refl _))
            · skip
              refine R_skip ?_
              refine Q_block ?_
              refine Q_then ?_
              refine R_region ?_
              refine L_val rfl rfl rfl (OpP.v (P_move rfl rfl)) ?_
              first | (refine L_val rfl rfl rfl (OpP.v (P_addN rfl rfl rfl (by simp only [fits]; omega))) ?_) | (refine L_val rfl rfl rfl (OpP.v (P_add rfl rfl rfl)) ?_)
              refine L_val rfl rfl rfl (OpP.v (P_assign rfl rfl)) ?_
              refine L_nil ?_
              exact Q_round (i + 1, v) (by show i + 1 ≤ l.length; omega) (by show l.length - (i + 1) < l.length - i; omega) (by repeat (first | exact .nil | refine .cons rfl ?_ | refine .consE rfl (by first | rfl | (congr 1; omega) | (congr 1; push_cast; omega)) ?_)) (by rw [soF_no hb]; exact Weak.refl _)
          · skip
            have hi : i ≤ l.length := hinv
            have hin : i = l.length := by omega
            rw [hin]
            refine St.ownForm (p := []) fun ub uc huv huc => ?_
            subst huv
            refine R_exit ?_
            refine Q_then_exit ?_
            refine Q_then_exit ?_
            refine Q_block_eq ?_
            refine St.env (.cons (t := 4) rfl (.cons (t := 5) rfl .nil)) ?_
            refine Q_then ?_
            refine R_seq ?_
            refine R_region ?_
            refine L_val rfl rfl rfl (OpP.v (P_move rfl rfl)) ?_
            refine L_val rfl rfl rfl (OpP.v (P_assign rfl rfl)) ?_
            refine L_nil ?_
            refine St.env (.cons (t := 4) rfl .nil) ?_
            refine Q_then ?_
            refine R_ret ?_
            exact R_end (rs2 := _) rfl rfl (.tmp rfl .nil) (⟨ub, uc, rfl, rfl⟩) (Weak.keep (Weak.nil _))
        · skip
          obtain ⟨bN, hbN, hbl⟩ := rb_get q9
          refine R_skip ?_
          refine Q_then ?_
          refine R_region ?_
          refine L_val rfl rfl rfl (OpP.v (P_move rfl rfl)) ?_
          refine L_val rfl rfl rfl (OpP.v (P_move rfl rfl)) ?_
          refine E_as (t := 79) (v' := .int .i64 (bN : Int)) rfl (by rw [hbN]) ?_
          refine L_val rfl rfl rfl (OpP.v (P_ixs (bN) rfl ty_sl_68 rfl rfl (by first | rfl | omega) (by omega))) ?_
          refine L_op rfl (W_store rfl rfl rfl rfl ty_sc_4 rfl .h0 (by rw [mkT_len]; omega) ?_)
          refine L_nil ?_
          refine Q_block ?_
          refine Q_then ?_
          refine R_region ?_
          refine L_val rfl rfl rfl (OpP.v (P_move rfl rfl)) ?_
          first | (refine L_val rfl rfl rfl (OpP.v (P_addN rfl rfl rfl (by simp only [fits]; omega))) ?_) | (refine L_val rfl rfl rfl (OpP.v (P_add rfl rfl rfl)) ?_)
          refine L_val rfl rfl rfl (OpP.v (P_assign rfl rfl)) ?_
          refine L_nil ?_
          exact Q_round (k + 1) (by show k + 1 ≤ min p.seats.toNat 64; omega) (by show 64 - (k + 1) < 64 - k; omega) (by repeat (first | exact .nil | refine .cons rfl ?_ | refine .consE rfl (by first | rfl | (congr 1; omega) | (congr 1; push_cast; omega)) ?_)) (by rw [Nat.zero_add, Nat.mul_one, mkT_set hbl]; show Weak _ [blk b15 (mkT l.length (roundT p.mb l (takeT p.mb l k))) _, _, _]; rw [← hT]; unfold roundT; rw [if_neg q9, hbN]; exact Weak.refl _)
    · skip
      have hk0 : k ≤ min p.seats.toNat 64 := hinv
      have hkk : takeT p.mb l k = takeT p.mb l (min p.seats.toNat 64) := by congr 1; omega
      rw [hkk]
      refine R_exit ?_
      refine Q_then_exit ?_
      refine Q_then_exit ?_
      refine Q_block_eq ?_
      refine St.env (.cons (t := 2) rfl (.cons (t := 4) rfl (.cons (t := 5) rfl (.cons (t := 6) rfl .nil)))) ?_
      refine Q_then ?_
      refine R_seq ?_
      refine R_seq ?_
      refine R_region ?_
      refine L_val rfl rfl rfl (OpP.v (P_assign rfl rfl)) ?_
      refine L_nil ?_
      refine Q_then ?_
      refine R_block ?_
      refine R_loopE (G := Nat × Value) (.cons (t := 2) rfl (.cons (t := 4) rfl (.cons (t := 6) rfl .nil))) (fun g => [(5, g.2), (11, .int .i64 (g.1 : Int))]) (fun g => [ownS 37 3 (g.2) ((soF l (takeT p.mb l (min p.seats.toNat 64)) g.1).length) (rc (soF l (takeT p.mb l (min p.seats.toNat 64)) g.1)), blk b15 (mkT l.length (takeT p.mb l (min p.seats.toNat 64))) 4, blk b3 p.cells 25, blk b2 (ledV (.slice base l.length c) r bu su) 29]) (fun g => g.1 ≤ l.length) (fun g => l.length - g.1) (0, .slice none 0 0) (Nat.zero_le _) (by repeat (first | exact .nil | refine .cons rfl ?_ | refine .consE rfl (by first | rfl | (congr 1; omega) | (congr 1; push_cast; omega)) ?_)) (Weak.newNil) ?_
      rintro ⟨i, v⟩ hinv
      replace hinv : i ≤ l.length := hinv
      show St (cx gl) _ ((5, v) :: (11, .int .i64 (i : Int)) :: _) [ownS 37 3 (v) ((soF l (takeT p.mb l (min p.seats.toNat 64)) i).length) (rc (soF l (takeT p.mb l (min p.seats.toNat 64)) i)), blk b15 (mkT l.length (takeT p.mb l (min p.seats.toNat 64))) 4, blk b3 p.cells 25, blk b2 (ledV (.slice base l.length c) r bu su) 29] _
      refine R_seq ?_
      refine R_seq ?_
      refine R_region ?_
      refine L_val rfl rfl rfl (OpP.v (P_move rfl rfl)) ?_
      refine L_val rfl rfl rfl (OpP.v (P_fld0 rfl ty_fl_29_0 rfl)) ?_
      refine L_val rfl rfl rfl (V_load rfl rfl ty_sc_22 (Rd.blk .h3 rfl)) ?_
      refine L_val rfl rfl rfl (OpP.v (P_len rfl ty_sl_22 rfl)) ?_
      refine L_val rfl rfl rfl (OpP.v (P_lss rfl rfl rfl)) ?_
      refine L_nil ?_
      refine Q_then ?_
      refine R_condP rfl (fun hlt => ?_) (fun hlt => ?_)
      · skip
        have hi : i ≤ l.length := hinv
        have hil : i < l.length := by omega
        have hx0 := accAt_get (l := l) (i := i) (by omega)
        obtain ⟨x, ex⟩ : ∃ x, x = accAt l i := ⟨_, rfl⟩
        have hx : l[i]? = some x := by rw [ex]; exact hx0
        obtain ⟨pb, pj, rfl, hrow⟩ := hpre.some_ (by rw [rc_length]; show 0 < _ * 5; omega)
        have hso := soF_len l (takeT p.mb l (min p.seats.toNat 64)) i
        refine R_skip ?_
        refine Q_then ?_
        refine R_seq ?_
        refine R_block ?_
        refine R_seq ?_
        refine R_region ?_
        refine L_val rfl rfl rfl (OpP.v (P_move rfl rfl)) ?_
        refine L_val rfl rfl rfl (OpP.v (P_move rfl rfl)) ?_
        refine L_val rfl rfl rfl (OpP.v (P_ixs (i) rfl ty_sl_68 rfl rfl (by first | rfl | omega) (by omega))) ?_
        refine L_val rfl rfl rfl (V_load rfl rfl ty_sc_4 (rd_blk1 .h1 (mkT_at hil))) ?_
        refine L_nil ?_
        refine Q_then ?_
        refine R_cond rfl (fun hb => ?_) (fun hb => ?_)
        · skip
          refine R_open [(0, 0), (1, 0), (2, 1), (3, 0), (4, 0), (5, 0), (6, 1), (7, 0), (8, 1), (9, 0), (10, 0), (11, 0), (12, 1), (13, 0), (14, 2), (15, 3), (16, 0)] mixed (by kernel_rfl) (QOk.block (QOk.then (QOk.then (QOk.block (QOk.then QOk.body))))) ?_
          refine O_pure rfl rfl rfl rfl (P_move rfl rfl) ?_
          refine O_pure rfl rfl rfl rfl (P_fld0 rfl ty_fl_29_0 rfl) ?_
          refine O_val rfl rfl rfl rfl (V_load rfl rfl ty_sc_22 (Rd.blk .h3 rfl)) ?_
          refine O_pure rfl rfl rfl rfl (P_move rfl rfl) ?_
          refine O_pure rfl rfl rfl rfl (P_ixs (i) rfl ty_sl_22 rfl rfl (by first | rfl | omega) (by omega)) ?_
          refine O_pure rfl rfl rfl rfl (P_fld rfl ty_fl_39_0 rfl) ?_
          refine O_val rfl rfl rfl rfl (V_load rfl rfl ty_sc_35 (rd_rc (Rds.row hrow rfl) hx rfl)) ?_
          refine O_pure rfl rfl rfl rfl (P_fld0 rfl ty_fl_29_0 rfl) ?_
          refine O_val rfl rfl rfl rfl (V_load rfl rfl ty_sc_22 (Rd.blk .h3 rfl)) ?_
          refine O_pure rfl rfl rfl rfl (P_move rfl rfl) ?_
          refine O_pure rfl rfl rfl rfl (P_ixs (i) rfl ty_sl_22 rfl rfl (by first | rfl | omega) (by omega)) ?_
          refine O_pure rfl rfl rfl rfl (P_fld rfl ty_fl_39_2 rfl) ?_
          refine O_val rfl rfl rfl rfl (V_load rfl rfl ty_sc_23 (rd_rc (Rds.row hrow rfl) hx rfl)) ?_
          refine O_pure rfl rfl rfl rfl (P_buildStruct rfl ty_pl_37 ty_ze_37 rfl rfl (rfl)) ?_
          refine E_as (t := 105) (v' := .agg (memA (accAt l i)).cells.toArray) rfl (by rw [← ex]; rfl) ?_
          refine O_keep rfl rfl (W_lit (z := .nilIface) ((memA (accAt l i)).cells) rfl rfl rfl ty_sl_33 ty_lz_33 rfl rfl rfl (by decide) (by decide) (by intro v hv; simp only [List.mem_singleton] at hv; subst hv; rfl) (rfl) fun b106 => (K_keep (Weak.drop (Weak.refl _)) ?_))
          refine O_new rfl rfl (W_append (p := [_]) rfl rfl rfl ty_sl_33 ty_ap_33 ty_src_33 rfl rfl rfl (Src.slice (sz := 3) (m := 1) (news := (memA (accAt l i)).cells) (Rds.blk .h0) rfl (Mem.cells_one _)) (by omega) (by simp only [maxLen]; omega) fun v107 => (K_new ?_))
          refine O_pure rfl rfl rfl rfl (P_assign rfl rfl) ?_
          refine O_nil ?_
          refine Q_block ?_
          refine Q_then ?_
          refine R_region ?_
          refine L_val rfl rfl rfl (OpP.v (P_move rfl rfl)) ?_
          first | (refine L_val rfl rfl rfl (OpP.v (P_addN rfl rfl rfl (by simp only [fits]; omega))) ?_) | (refine L_val rfl rfl rfl (OpP.v (P_add rfl rfl rfl)) ?_)
          refine L_val rfl rfl rfl (OpP.v (P_assign rfl rfl)) ?_
          refine L_nil ?_
          exact Q_round (i + 1, v107) (by show i + 1 ≤ l.length; omega) (by show l.length - (i + 1) < l.length - i; omega) (by repeat (first | exact .nil | refine .cons rfl ?_ | refine .consE rfl (by first | rfl | (congr 1; omega) | (congr 1; push_cast; omega)) ?_)) (Weak.drop (by rw [soF_yes hb, List.length_append, rc_append]; exact Weak.refl _))
        · skip
          refine R_skip ?_
          refine Q_block ?_
          refine Q_then ?_
          refine R_region ?_
          refine L_val rfl rfl rfl (OpP.v (P_move rfl rfl)) ?_
          first | (refine L_val rfl rfl rfl (OpP.v (P_addN rfl rfl rfl (by simp only [fits]; omega))) ?_) | (refine L_val rfl rfl rfl (OpP.v (P_add rfl rfl rfl)) ?_)
          refine L_val rfl rfl rfl (OpP.v (P_assign rfl rfl)) ?_
          refine L_nil ?_
          exact Q_round (i + 1, v) (by show i + 1 ≤ l.length; omega) (by show l.length - (i + 1) < l.length - i; omega) (by repeat (first | exact .nil | refine .cons rfl ?_ | refine .consE rfl (by first | rfl | (congr 1; omega) | (congr 1; push_cast; omega)) ?_)) (by rw [soF_no hb]; exact Weak.refl _)
      · skip
        have hi : i ≤ l.length := hinv
        have hin : i = l.length := by omega
        rw [hin]
        refine St.ownForm (p := []) fun ub uc huv huc => ?_
        subst huv
        refine R_exit ?_
        refine Q_then_exit ?_
        refine Q_then_exit ?_
        refine Q_block_eq ?_
        refine St.env (.cons (t := 4) rfl (.cons (t := 5) rfl .nil)) ?_
        refine Q_then ?_
        refine R_seq ?_
        refine R_region ?_
        refine L_val rfl rfl rfl (OpP.v (P_move rfl rfl)) ?_
        refine L_val rfl rfl rfl (OpP.v (P_assign rfl rfl)) ?_
        refine L_nil ?_
        refine St.env (.cons (t := 4) rfl .nil) ?_
        refine Q_then ?_
        refine R_ret ?_
        exact R_end (rs2 := _) rfl rfl (.tmp rfl .nil) (⟨ub, uc, rfl, rfl⟩) (Weak.keep (Weak.nil _))
  · skip
    have q1 := of_decide_eq_false q1
    have hk0 : k ≤ min p.seats.toNat 64 := hinv
    have hkk : takeT p.mb l k = takeT p.mb l (min p.seats.toNat 64) := by congr 1; omega
    rw [hkk]
    refine L_val rfl rfl rfl (OpP.v (P_move rfl rfl)) ?_
    refine L_no rfl rfl rfl ?_
    refine L_no rfl rfl rfl ?_
    refine L_val rfl rfl rfl (OpP.v (P_pick rfl rfl rfl)) ?_
    refine L_nil ?_
    refine Q_then ?_
    refine R_condF rfl ?_
    refine R_exit ?_
    refine Q_then_exit ?_
    refine Q_then_exit ?_
    refine Q_block_eq ?_
    refine St.env (.cons (t := 2) rfl (.cons (t := 4) rfl (.cons (t := 5) rfl (.cons (t := 6) rfl .nil)))) ?_
    refine Q_then ?_
    refine R_seq ?_
    refine R_seq ?_
    refine R_region ?_
    refine L_val rfl rfl rfl (OpP.v (P_assign rfl rfl)) ?_
    refine L_nil ?_
    refine Q_then ?_
    refine R_block ?_
    refine R_loopE (G := Nat × Value) (.cons (t := 2) rfl (.cons (t := 4) rfl (.cons (t := 6) rfl .nil))) (fun g => [(5, g.2), (11, .int .i64 (g.1 : Int))]) (fun g => [ownS 37 3 (g.2) ((soF l (takeT p.mb l (min p.seats.toNat 64)) g.1).length) (rc (soF l (takeT p.mb l (min p.seats.toNat 64)) g.1)), blk b15 (mkT l.length (takeT p.mb l (min p.seats.toNat 64))) 4, blk b3 p.cells 25, blk b2 (ledV (.slice base l.length c) r bu su) 29]) (fun g => g.1 ≤ l.length) (fun g => l.length - g.1) (0, .slice none 0 0) (Nat.zero_le _) (by repeat (first | exact .nil | refine .cons rfl ?_ | refine .consE rfl (by first | rfl | (congr 1; omega) | (congr 1; push_cast; omega)) ?_)) (Weak.newNil) ?_
    rintro ⟨i, v⟩ hinv
    replace hinv : i ≤ l.length := hinv
    show St (cx gl) _ ((5, v) :: (11, .int .i64 (i : Int)) :: _) [ownS 37 3 (v) ((soF l (takeT p.mb l (min p.seats.toNat 64)) i).length) (rc (soF l (takeT p.mb l (min p.seats.toNat 64)) i)), blk b15 (mkT l.length (takeT p.mb l (min p.seats.toNat 64))) 4, blk b3 p.cells 25, blk b2 (ledV (.slice base l.length c) r bu su) 29] _
    refine R_seq ?_
    refine R_seq ?_
    refine R_region ?_
    refine L_val rfl rfl rfl (OpP.v (P_move rfl rfl)) ?_
    refine L_val rfl rfl rfl (OpP.v (P_fld0 rfl ty_fl_29_0 rfl)) ?_
    refine L_val rfl rfl rfl (V_load rfl rfl ty_sc_22 (Rd.blk .h3 rfl)) ?_
    refine L_val rfl rfl rfl (OpP.v (P_len rfl ty_sl_22 rfl)) ?_
    refine L_val rfl rfl rfl (OpP.v (P_lss rfl rfl rfl)) ?_
    refine L_nil ?_
    refine Q_then ?_
    refine R_condP rfl (fun hlt => ?_) (fun hlt => ?_)
    · skip
      have hi : i ≤ l.length := hinv
      have hil : i < l.length := by omega
      have hx0 := accAt_get (l := l) (i := i) (by omega)
      obtain ⟨x, ex⟩ : ∃ x, x = accAt l i := ⟨_, rfl⟩
      have hx : l[i]? = some x := by rw [ex]; exact hx0
      obtain ⟨pb, pj, rfl, hrow⟩ := hpre.some_ (by rw [rc_length]; show 0 < _ * 5; omega)
      have hso := soF_len l (takeT p.mb l (min p.seats.toNat 64)) i
      refine R_skip ?_
      refine Q_then ?_
      refine R_seq ?_
      refine R_block ?_
      refine R_seq ?_
      refine R_region ?_
      refine L_val rfl rfl rfl (OpP.v (P_move rfl rfl)) ?_
      refine L_val rfl rfl rfl (OpP.v (P_move rfl rfl)) ?_
      refine L_val rfl rfl rfl (OpP.v (P_ixs (i) rfl ty_sl_68 rfl rfl (by first | rfl | omega) (by omega))) ?_
      refine L_val rfl rfl rfl (V_load rfl rfl ty_sc_4 (rd_blk1 .h1 (mkT_at hil))) ?_
      refine L_nil ?_
      refine Q_then ?_
      refine R_cond rfl (fun hb => ?_) (fun hb => ?_)
      · skip
        refine R_open [(0, 0), (1, 0), (2, 1), (3, 0), (4, 0), (5, 0), (6, 1), (7, 0), (8, 1), (9, 0), (10, 0), (11, 0), (12, 1), (13, 0), (14, 2), (15, 3), (16, 0)] mixed (by kernel_rfl) (QOk.block (QOk.then (QOk.then (QOk.block (QOk.then QOk.body))))) ?_
        refine O_pure rfl rfl rfl rfl (P_move rfl rfl) ?_
        refine O_pure rfl rfl rfl rfl (P_fld0 rfl ty_fl_29_0 rfl) ?_
        refine O_val rfl rfl rfl rfl (V_load rfl rfl ty_sc_22 (Rd.blk .h3 rfl)) ?_
        refine O_pure rfl rfl rfl rfl (P_move rfl rfl) ?_
        refine O_pure rfl rfl rfl rfl (P_ixs (i) rfl ty_sl_22 rfl rfl (by first | rfl | omega) (by omega)) ?_
        refine O_pure rfl rfl rfl rfl (P_fld rfl ty_fl_39_0 rfl) ?_
        refine O_val rfl rfl rfl rfl (V_load rfl rfl ty_sc_35 (rd_rc (Rds.row hrow rfl) hx rfl)) ?_
        refine O_pure rfl rfl rfl rfl (P_fld0 rfl ty_fl_29_0 rfl) ?_
        refine O_val rfl rfl rfl rfl (V_load rfl rfl ty_sc_22 (Rd.blk .h3 rfl)) ?_
        refine O_pure rfl rfl rfl rfl (P_move rfl rfl) ?_
        refine O_pure rfl rfl rfl rfl (P_ixs (i) rfl ty_sl_22 rfl rfl (by first | rfl | omega) (by omega)) ?_
        refine O_pure rfl rfl rfl rfl (P_fld rfl ty_fl_39_2 rfl) ?_
        refine O_val rfl rfl rfl rfl (V_load rfl rfl ty_sc_23 (rd_rc (Rds.row hrow rfl) hx rfl)) ?_
        refine O_pure rfl rfl rfl rfl (P_buildStruct rfl ty_pl_37 ty_ze_37 rfl rfl (rfl)) ?_
        refine E_as (t := 105) (v' := .agg (memA (accAt l i)).cells.toArray) rfl (by rw [← ex]; rfl) ?_
        refine O_keep rfl rfl (W_lit (z := .nilIface) ((memA (accAt l i)).cells) rfl rfl rfl ty_sl_33 ty_lz_33 rfl rfl rfl (by decide) (by decide) (by intro v hv; simp only [List.mem_singleton] at hv; subst hv; rfl) (rfl) fun b106 => (K_keep (Weak.drop (Weak.refl _)) ?_))
        refine O_new rfl rfl (W_append (p := [_]) rfl rfl rfl ty_sl_33 ty_ap_33 ty_src_33 rfl rfl rfl (Src.slice (sz := 3) (m := 1) (news := (memA (accAt l i)).cells) (Rds.blk .h0) rfl (Mem.cells_one _)) (by omega) (by simp only [maxLen]; omega) fun v107 => (K_new ?_))
        refine O_pure rfl rfl rfl rfl (P_assign rfl rfl) ?_
        refine O_nil ?_
        refine Q_block ?_
        refine Q_then ?_
        refine R_region ?_
        refine L_val rfl rfl rfl (OpP.v (P_move rfl rfl)) ?_
        first | (refine L_val rfl rfl rfl (OpP.v (P_addN rfl rfl rfl (by simp only [fits]; omega))) ?_) | (refine L_val rfl rfl rfl (OpP.v (P_add rfl rfl rfl)) ?_)
        refine L_val rfl rfl rfl (OpP.v (P_assign rfl rfl)) ?_
        refine L_nil ?_
        exact Q_round (i + 1, v107) (by show i + 1 ≤ l.length; omega) (by show l.length - (i + 1) < l.length - i; omega) (by repeat (first | exact .nil | refine .cons rfl ?_ | refine .consE rfl (by first | rfl | (congr 1; omega) | (congr 1; push_cast; omega)) ?_)) (Weak.drop (by rw [soF_yes hb, List.length_append, rc_append]; exact Weak.refl _))
      · skip
        refine R_skip ?_
        refine Q_block ?_
        refine Q_then ?_
        refine R_region ?_
        refine L_val rfl rfl rfl (OpP.v (P_move rfl rfl)) ?_
        first | (refine L_val rfl rfl rfl (OpP.v (P_addN rfl rfl rfl (by simp only [fits]; omega))) ?_) | (refine L_val rfl rfl rfl (OpP.v (P_add rfl rfl rfl)) ?_)
        refine L_val rfl rfl rfl (OpP.v (P_assign rfl rfl)) ?_
        refine L_nil ?_
        exact Q_round (i + 1, v) (by show i + 1 ≤ l.length; omega) (by show l.length - (i + 1) < l.length - i; omega) (by repeat (first | exact .nil | refine .cons rfl ?_ | refine .consE rfl (by first | rfl | (congr 1; omega) | (congr 1; push_cast; omega)) ?_)) (by rw [soF_no hb]; exact Weak.refl _)
    · skip
      have hi : i ≤ l.length := hinv
      have hin : i = l.length := by omega
      rw [hin]
      refine St.ownForm (p := []) fun ub uc huv huc => ?_
      subst huv
      refine R_exit ?_
      refine Q_then_exit ?_
      refine Q_then_exit ?_
      refine Q_block_eq ?_
      refine St.env (.cons (t := 4) rfl (.cons (t := 5) rfl .nil)) ?_
      refine Q_then ?_
      refine R_seq ?_
      refine R_region ?_
      refine L_val rfl rfl rfl (OpP.v (P_move rfl rfl)) ?_
      refine L_val rfl rfl rfl (OpP.v (P_assign rfl rfl)) ?_
      refine L_nil ?_
      refine St.env (.cons (t := 4) rfl .nil) ?_
      refine Q_then ?_
      refine R_ret ?_
      exact R_end (rs2 := _) rfl rfl (.tmp rfl .nil) (⟨ub, uc, rfl, rfl⟩) (Weak.keep (Weak.nil _))
end Go.Proofs.Ytfhjhaogmdaepaa
