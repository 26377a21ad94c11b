/- Walks: Path and Verify. Printed by gen.py. -/
import Derived.Test.YtldndhekjhlbmaaDoorD16
import Derived.Test.YtldndhekjhlbmaaDoorD13
set_option linter.unusedVariables false
set_option linter.unusedSimpArgs false
set_option maxRecDepth 100000
namespace Go.Proofs.YtldndhekjhlbmaaDoor
open Go Go.RowKit Go.Proofs
theorem leafH_length (x : List Int) : (leafH x).length = 32 := sha_length _
theorem pathE_big {total index : Int} {hs : List (List Int)} {item : List Int} (h : 1048576 < item.length) : pathE total index hs item = 4 := by unfold pathE; rw [if_pos h]
theorem pathE_out {total index : Int} {hs : List (List Int)} {item : List Int} (h : ¬ 1048576 < item.length) (hf : fitsB total index hs.length = false) : pathE total index hs item = 20 := by unfold pathE; rw [if_neg h, hf]; rfl
theorem pathE_in {total index : Int} {hs : List (List Int)} {item : List Int} (h : ¬ 1048576 < item.length) (hf : fitsB total index hs.length = true) : pathE total index hs item = 0 := by unfold pathE; rw [if_neg h, if_pos hf]
theorem pathV_zero {total index : Int} {hs : List (List Int)} {item : List Int} {e : Int} (h : pathE total index hs item = e) (he : e ≠ 0) : pathV total index hs item = .tuple #[.agg (ints .u8 (List.replicate 32 0)).toArray, .int .i64 e] := by
  unfold pathV pathD; rw [h, if_neg he]
theorem pathV_fine {n i : Nat} {hs : List (List Int)} {item : List Int} (h : pathE (n : Int) (i : Int) hs item = 0) : pathV (n : Int) (i : Int) hs item = .tuple #[.agg (ints .u8 (sha (2 :: (numB (n : Int) ++ leadH n i hs (leafH item))))).toArray, .int .i64 0] := by
  unfold pathV pathD; rw [h, if_pos rfl]; rfl
theorem rev_at {ds : List Bool} {k : Nat} {d : Bool} (h : ds.reverse[k]? = some d) : ds[ds.length - 1 - k]? = some d := by
  have hk := (List.getElem?_eq_some_iff.1 h).1
  rw [List.length_reverse] at hk
  rwa [List.getElem?_reverse hk] at h
theorem path_ok {gl : Nat → Obj} (hG : Globs gl) (total index : Int) (base : Option Addr) (c : Nat) (hs : List (List Int)) (ib : Option Addr) (ic : Nat) (item : List Int) (hh : ∀ h ∈ hs, h.length = 32) (hc : hs.length ≤ c) (hm : hs.length ≤ 70368744177664) (hic : item.length ≤ ic) : SpecV (cx gl) 28 [.agg [.int .i64 total, .int .i64 index, .slice base hs.length c].toArray, .slice ib item.length ic] (fun w => Row w base (flat .u8 hs) ∧ Row w ib (ints .u8 item)) (pathV total index hs item) := by
  refine Spec.enter (C := cx gl) Tryd.func28 rfl 76 rfl rfl fun w0 h0 hsep hsub hpre => ?_
  obtain rfl : h0 = Heap.none := hsep
  show St (cx gl) _ [(0, .agg [.int .i64 total, .int .i64 index, .slice base hs.length c].toArray), (1, .slice ib item.length ic)] _ _
  refine R_seq ?_
  refine R_region ?_
  refine L_op rfl (W_box ([.int .i64 total, .int .i64 index, .slice base hs.length c]) rfl rfl rfl rfl rfl fun b2 => ?_)
  refine L_op rfl (W_alloc rfl rfl rfl ty_ze_23 fun b4 => ?_)
  refine L_val rfl rfl rfl (OpP.v (P_assign rfl rfl)) ?_
  refine L_nil ?_
  refine St.env (.cons (t := 1) rfl (.cons (t := 2) rfl (.cons (t := 4) rfl (.cons (t := 5) rfl .nil)))) ?_
  refine Q_then ?_
  refine R_seq ?_
  refine R_seq ?_
  refine R_region ?_
  refine L_val rfl rfl rfl (OpP.v (P_move rfl rfl)) ?_
  refine L_val rfl rfl rfl (OpP.v (P_len rfl ty_sl_26 rfl)) ?_
  refine L_val rfl rfl rfl (OpP.v (P_gtr rfl rfl rfl)) ?_
  refine L_nil ?_
  refine St.env (.cons (t := 1) rfl (.cons (t := 2) rfl (.cons (t := 4) rfl (.cons (t := 5) rfl (.cons (t := 12) rfl .nil))))) ?_
  refine Q_then ?_
  refine R_condP rfl (fun hbig => ?_) (fun hbig => ?_)
  · skip
    refine R_seq ?_
    refine R_region ?_
    refine L_val rfl rfl rfl (OpP.v (P_buildArrR rfl ty_ar_23 ty_ze_23 rfl rfl rfl (by decide) (by simp [Value.oneCell']))) ?_
    refine E_as (t := 13) (v' := .agg (ints .u8 (List.replicate 32 0)).toArray) rfl rfl ?_
    refine L_op rfl (W_storeAll rfl rfl rfl rfl ty_ag_23 (rfl) (ints_one) .h0 (rfl) ?_)
    refine L_val rfl rfl rfl (OpP.v (P_assign rfl rfl)) ?_
    refine L_nil ?_
    refine St.env (.cons (t := 1) rfl (.cons (t := 2) rfl (.cons (t := 4) rfl (.cons (t := 5) rfl .nil)))) ?_
    refine Q_then ?_
    refine R_ret ?_
    refine Q_then_ret ?_
    exact R_endV rfl rfl (.cell rfl (Rds.loadVar ty_ag_23 (Rds.blk .h0) rfl) (.tmp rfl .nil)) ((pathV_zero (pathE_big (by omega)) (by decide)).symm)
  · skip
    refine R_skip ?_
    refine Q_then ?_
    refine R_seq ?_
    refine R_seq ?_
    refine R_region ?_
    refine L_val rfl rfl rfl (OpP.v (P_fld0 rfl ty_fl_57_0 rfl)) ?_
    refine L_val rfl rfl rfl (V_load rfl rfl ty_sc_3 (by first | exact Rd.blk .h0 rfl | exact Rd.blk .h1 rfl | exact Rd.blk .h2 rfl | exact Rd.blk .h3 rfl | exact Rd.blk .h4 rfl | exact Rd.blk .h5 rfl | exact Rd.blk .h6 rfl | exact Rd.blk .h7 rfl)) ?_
    refine L_val rfl rfl rfl (OpP.v (P_lss rfl rfl rfl)) ?_
    refine E_bool (t := 16) rfl (fun h1 => ?_) (fun h1 => ?_)
    · skip
      refine L_val rfl rfl rfl (OpP.v (P_move rfl rfl)) ?_
      refine L_no rfl rfl rfl ?_
      refine L_no rfl rfl rfl ?_
      refine L_no rfl rfl rfl ?_
      refine L_val rfl rfl rfl (OpP.v (P_pick rfl rfl rfl)) ?_
      refine L_val rfl rfl rfl (OpP.v (P_move rfl rfl)) ?_
      refine L_no rfl rfl rfl ?_
      refine L_no rfl rfl rfl ?_
      refine L_no rfl rfl rfl ?_
      refine L_val rfl rfl rfl (OpP.v (P_pick rfl rfl rfl)) ?_
      refine L_val rfl rfl rfl (OpP.v (P_move rfl rfl)) ?_
      refine L_no rfl rfl rfl ?_
      refine L_no rfl rfl rfl ?_
      refine L_no rfl rfl rfl ?_
      refine L_no rfl rfl rfl ?_
      refine L_no rfl rfl rfl ?_
      refine L_val rfl rfl rfl (OpP.v (P_pick rfl rfl rfl)) ?_
      refine L_nil ?_
      refine St.env (.cons (t := 1) rfl (.cons (t := 2) rfl (.cons (t := 4) rfl (.cons (t := 5) rfl (.cons (t := 33) rfl .nil))))) ?_
      refine Q_then ?_
      refine R_condT rfl ?_
      refine R_seq ?_
      refine R_region ?_
      refine L_val rfl rfl rfl (OpP.v (P_buildArrR rfl ty_ar_23 ty_ze_23 rfl rfl rfl (by decide) (by simp [Value.oneCell']))) ?_
      refine E_as (t := 34) (v' := .agg (ints .u8 (List.replicate 32 0)).toArray) rfl rfl ?_
      refine L_op rfl (W_storeAll rfl rfl rfl rfl ty_ag_23 (rfl) (ints_one) .h0 (rfl) ?_)
      refine L_val rfl rfl rfl (OpP.v (P_assign rfl rfl)) ?_
      refine L_nil ?_
      refine St.env (.cons (t := 1) rfl (.cons (t := 2) rfl (.cons (t := 4) rfl (.cons (t := 5) rfl .nil)))) ?_
      refine Q_then ?_
      refine R_ret ?_
      refine Q_then_ret ?_
      exact R_endV rfl rfl (.cell rfl (Rds.loadVar ty_ag_23 (Rds.blk .h0) rfl) (.tmp rfl .nil)) ((pathV_zero (pathE_out (by omega) (fitsB_out fun hh => by have := of_decide_eq_true h1; omega)) (by decide)).symm)
    · skip
      refine L_val rfl rfl rfl (OpP.v (P_move rfl rfl)) ?_
      refine L_val rfl rfl rfl (OpP.v (P_fld0 rfl ty_fl_57_0 rfl)) ?_
      refine L_val rfl rfl rfl (V_load rfl rfl ty_sc_3 (by first | exact Rd.blk .h0 rfl | exact Rd.blk .h1 rfl | exact Rd.blk .h2 rfl | exact Rd.blk .h3 rfl | exact Rd.blk .h4 rfl | exact Rd.blk .h5 rfl | exact Rd.blk .h6 rfl | exact Rd.blk .h7 rfl)) ?_
      refine L_val rfl rfl rfl (OpP.v (P_gtr rfl rfl rfl)) ?_
      refine E_bool (t := 20) rfl (fun h2 => ?_) (fun h2 => ?_)
      · skip
        refine L_val rfl rfl rfl (OpP.v (P_pick rfl rfl rfl)) ?_
        refine L_val rfl rfl rfl (OpP.v (P_move rfl rfl)) ?_
        refine L_no rfl rfl rfl ?_
        refine L_no rfl rfl rfl ?_
        refine L_no rfl rfl rfl ?_
        refine L_val rfl rfl rfl (OpP.v (P_pick rfl rfl rfl)) ?_
        refine L_val rfl rfl rfl (OpP.v (P_move rfl rfl)) ?_
        refine L_no rfl rfl rfl ?_
        refine L_no rfl rfl rfl ?_
        refine L_no rfl rfl rfl ?_
        refine L_no rfl rfl rfl ?_
        refine L_no rfl rfl rfl ?_
        refine L_val rfl rfl rfl (OpP.v (P_pick rfl rfl rfl)) ?_
        refine L_nil ?_
        refine St.env (.cons (t := 1) rfl (.cons (t := 2) rfl (.cons (t := 4) rfl (.cons (t := 5) rfl (.cons (t := 33) rfl .nil))))) ?_
        refine Q_then ?_
        refine R_condT rfl ?_
        refine R_seq ?_
        refine R_region ?_
        refine L_val rfl rfl rfl (OpP.v (P_buildArrR rfl ty_ar_23 ty_ze_23 rfl rfl rfl (by decide) (by simp [Value.oneCell']))) ?_
        refine E_as (t := 34) (v' := .agg (ints .u8 (List.replicate 32 0)).toArray) rfl rfl ?_
        refine L_op rfl (W_storeAll rfl rfl rfl rfl ty_ag_23 (rfl) (ints_one) .h0 (rfl) ?_)
        refine L_val rfl rfl rfl (OpP.v (P_assign rfl rfl)) ?_
        refine L_nil ?_
        refine St.env (.cons (t := 1) rfl (.cons (t := 2) rfl (.cons (t := 4) rfl (.cons (t := 5) rfl .nil)))) ?_
        refine Q_then ?_
        refine R_ret ?_
        refine Q_then_ret ?_
        exact R_endV rfl rfl (.cell rfl (Rds.loadVar ty_ag_23 (Rds.blk .h0) rfl) (.tmp rfl .nil)) ((pathV_zero (pathE_out (by omega) (fitsB_out fun hh => by have := of_decide_eq_true h2; omega)) (by decide)).symm)
      · skip
        refine L_val rfl rfl rfl (OpP.v (P_pick rfl rfl rfl)) ?_
        refine L_val rfl rfl rfl (OpP.v (P_move rfl rfl)) ?_
        refine L_val rfl rfl rfl (OpP.v (P_fld0 rfl ty_fl_57_1 rfl)) ?_
        refine L_val rfl rfl rfl (V_load rfl rfl ty_sc_3 (by first | exact Rd.blk .h0 rfl | exact Rd.blk .h1 rfl | exact Rd.blk .h2 rfl | exact Rd.blk .h3 rfl | exact Rd.blk .h4 rfl | exact Rd.blk .h5 rfl | exact Rd.blk .h6 rfl | exact Rd.blk .h7 rfl)) ?_
        refine L_val rfl rfl rfl (OpP.v (P_lss rfl rfl rfl)) ?_
        refine E_bool (t := 25) rfl (fun h3 => ?_) (fun h3 => ?_)
        · skip
          refine L_val rfl rfl rfl (OpP.v (P_pick rfl rfl rfl)) ?_
          refine L_val rfl rfl rfl (OpP.v (P_move rfl rfl)) ?_
          refine L_no rfl rfl rfl ?_
          refine L_no rfl rfl rfl ?_
          refine L_no rfl rfl rfl ?_
          refine L_no rfl rfl rfl ?_
          refine L_no rfl rfl rfl ?_
          refine L_val rfl rfl rfl (OpP.v (P_pick rfl rfl rfl)) ?_
          refine L_nil ?_
          refine St.env (.cons (t := 1) rfl (.cons (t := 2) rfl (.cons (t := 4) rfl (.cons (t := 5) rfl (.cons (t := 33) rfl .nil))))) ?_
          refine Q_then ?_
          refine R_condT rfl ?_
          refine R_seq ?_
          refine R_region ?_
          refine L_val rfl rfl rfl (OpP.v (P_buildArrR rfl ty_ar_23 ty_ze_23 rfl rfl rfl (by decide) (by simp [Value.oneCell']))) ?_
          refine E_as (t := 34) (v' := .agg (ints .u8 (List.replicate 32 0)).toArray) rfl rfl ?_
          refine L_op rfl (W_storeAll rfl rfl rfl rfl ty_ag_23 (rfl) (ints_one) .h0 (rfl) ?_)
          refine L_val rfl rfl rfl (OpP.v (P_assign rfl rfl)) ?_
          refine L_nil ?_
          refine St.env (.cons (t := 1) rfl (.cons (t := 2) rfl (.cons (t := 4) rfl (.cons (t := 5) rfl .nil)))) ?_
          refine Q_then ?_
          refine R_ret ?_
          refine Q_then_ret ?_
          exact R_endV rfl rfl (.cell rfl (Rds.loadVar ty_ag_23 (Rds.blk .h0) rfl) (.tmp rfl .nil)) ((pathV_zero (pathE_out (by omega) (fitsB_out fun hh => by have := of_decide_eq_true h3; omega)) (by decide)).symm)
        · skip
          refine L_val rfl rfl rfl (OpP.v (P_pick rfl rfl rfl)) ?_
          refine L_val rfl rfl rfl (OpP.v (P_move rfl rfl)) ?_
          refine L_val rfl rfl rfl (OpP.v (P_fld0 rfl ty_fl_57_1 rfl)) ?_
          refine L_val rfl rfl rfl (V_load rfl rfl ty_sc_3 (by first | exact Rd.blk .h0 rfl | exact Rd.blk .h1 rfl | exact Rd.blk .h2 rfl | exact Rd.blk .h3 rfl | exact Rd.blk .h4 rfl | exact Rd.blk .h5 rfl | exact Rd.blk .h6 rfl | exact Rd.blk .h7 rfl)) ?_
          refine L_val rfl rfl rfl (OpP.v (P_fld0 rfl ty_fl_57_0 rfl)) ?_
          refine L_val rfl rfl rfl (V_load rfl rfl ty_sc_3 (by first | exact Rd.blk .h0 rfl | exact Rd.blk .h1 rfl | exact Rd.blk .h2 rfl | exact Rd.blk .h3 rfl | exact Rd.blk .h4 rfl | exact Rd.blk .h5 rfl | exact Rd.blk .h6 rfl | exact Rd.blk .h7 rfl)) ?_
          refine L_val rfl rfl rfl (OpP.v (P_geq rfl rfl rfl)) ?_
          refine E_bool (t := 32) rfl (fun h4 => ?_) (fun h4 => ?_)
          · skip
            refine L_val rfl rfl rfl (OpP.v (P_pick rfl rfl rfl)) ?_
            refine L_nil ?_
            refine St.env (.cons (t := 1) rfl (.cons (t := 2) rfl (.cons (t := 4) rfl (.cons (t := 5) rfl (.cons (t := 33) rfl .nil))))) ?_
            refine Q_then ?_
            refine R_condT rfl ?_
            refine R_seq ?_
            refine R_region ?_
            refine L_val rfl rfl rfl (OpP.v (P_buildArrR rfl ty_ar_23 ty_ze_23 rfl rfl rfl (by decide) (by simp [Value.oneCell']))) ?_
            refine E_as (t := 34) (v' := .agg (ints .u8 (List.replicate 32 0)).toArray) rfl rfl ?_
            refine L_op rfl (W_storeAll rfl rfl rfl rfl ty_ag_23 (rfl) (ints_one) .h0 (rfl) ?_)
            refine L_val rfl rfl rfl (OpP.v (P_assign rfl rfl)) ?_
            refine L_nil ?_
            refine St.env (.cons (t := 1) rfl (.cons (t := 2) rfl (.cons (t := 4) rfl (.cons (t := 5) rfl .nil)))) ?_
            refine Q_then ?_
            refine R_ret ?_
            refine Q_then_ret ?_
            exact R_endV rfl rfl (.cell rfl (Rds.loadVar ty_ag_23 (Rds.blk .h0) rfl) (.tmp rfl .nil)) ((pathV_zero (pathE_out (by omega) (fitsB_out fun hh => by have := of_decide_eq_true h4; omega)) (by decide)).symm)
          · skip
            obtain ⟨n, i, rfl, rfl, hn1, hn2, hin⟩ := inB_of (total := total) (index := index) ⟨by have := of_decide_eq_false h1; omega, by have := of_decide_eq_false h2; omega, by have := of_decide_eq_false h3; omega, by have := of_decide_eq_false h4; omega⟩
            refine L_val rfl rfl rfl (OpP.v (P_pick rfl rfl rfl)) ?_
            refine L_nil ?_
            refine St.env (.cons (t := 1) rfl (.cons (t := 2) rfl (.cons (t := 4) rfl (.cons (t := 5) rfl (.cons (t := 33) rfl .nil))))) ?_
            refine Q_then ?_
            refine R_condF rfl ?_
            refine R_skip ?_
            refine Q_then ?_
            refine R_seq ?_
            refine R_region ?_
            refine L_val rfl rfl rfl (OpP.v (P_fld0 rfl ty_fl_57_0 rfl)) ?_
            refine L_val rfl rfl rfl (V_load rfl rfl ty_sc_3 (by first | exact Rd.blk .h0 rfl | exact Rd.blk .h1 rfl | exact Rd.blk .h2 rfl | exact Rd.blk .h3 rfl | exact Rd.blk .h4 rfl | exact Rd.blk .h5 rfl | exact Rd.blk .h6 rfl | exact Rd.blk .h7 rfl)) ?_
            refine L_val rfl rfl rfl (OpP.v (P_fld0 rfl ty_fl_57_1 rfl)) ?_
            refine L_val rfl rfl rfl (V_load rfl rfl ty_sc_3 (by first | exact Rd.blk .h0 rfl | exact Rd.blk .h1 rfl | exact Rd.blk .h2 rfl | exact Rd.blk .h3 rfl | exact Rd.blk .h4 rfl | exact Rd.blk .h5 rfl | exact Rd.blk .h6 rfl | exact Rd.blk .h7 rfl)) ?_
            refine L_op rfl (W_call rfl rfl rfl rfl fn_ca_53 (turns_ok n i hn2 (by omega)) (Split.nil _) (fun _ _ _ _ _ _ _ => trivial) fun v39 rs1 (e1 : rs1 = _) => ?_)
            subst e1
            refine St.res (rs' := [ownS 4 1 v39 (turnsH n i).length (bools (turnsH n i)), blk b4 (List.replicate 32 (.int .u8 0)) 23, blk b2 [.int .i64 (n : Int), .int .i64 (i : Int), .slice base hs.length c] 57]) (Weak.refl _) ?_
            refine L_val rfl rfl rfl (OpP.v (P_assign rfl rfl)) ?_
            refine L_nil ?_
            refine St.env (.cons (t := 1) rfl (.cons (t := 2) rfl (.cons (t := 4) rfl (.cons (t := 5) rfl (.cons (t := 6) rfl .nil))))) ?_
            refine Q_then ?_
            refine R_seq ?_
            refine R_seq ?_
            refine R_region ?_
            refine L_val rfl rfl rfl (OpP.v (P_move rfl rfl)) ?_
            refine L_val rfl rfl rfl (V_lenOwn .h0 rfl ty_sl_86 rfl) ?_
            refine L_val rfl rfl rfl (OpP.v (P_fld0 rfl ty_fl_57_2 rfl)) ?_
            refine L_val rfl rfl rfl (V_load rfl rfl ty_sc_55 (Rd.blk .h2 rfl)) ?_
            refine L_val rfl rfl rfl (OpP.v (P_len rfl ty_sl_55 rfl)) ?_
            refine L_val rfl rfl rfl (OpP.v (P_neq rfl rfl rfl)) ?_
            refine L_nil ?_
            refine St.env (.cons (t := 1) rfl (.cons (t := 2) rfl (.cons (t := 4) rfl (.cons (t := 5) rfl (.cons (t := 6) rfl (.cons (t := 45) rfl .nil)))))) ?_
            refine Q_then ?_
            refine R_condP rfl (fun hl => ?_) (fun hl => ?_)
            · skip
              refine R_seq ?_
              refine R_region ?_
              refine L_val rfl rfl rfl (OpP.v (P_buildArrR rfl ty_ar_23 ty_ze_23 rfl rfl rfl (by decide) (by simp [Value.oneCell']))) ?_
              refine E_as (t := 46) (v' := .agg (ints .u8 (List.replicate 32 0)).toArray) rfl rfl ?_
              refine L_op rfl (W_storeAll rfl rfl rfl rfl ty_ag_23 (rfl) (ints_one) .h1 (rfl) ?_)
              refine L_val rfl rfl rfl (OpP.v (P_assign rfl rfl)) ?_
              refine L_nil ?_
              refine St.env (.cons (t := 1) rfl (.cons (t := 2) rfl (.cons (t := 4) rfl (.cons (t := 5) rfl (.cons (t := 6) rfl .nil))))) ?_
              refine Q_then ?_
              refine R_ret ?_
              refine Q_then_ret ?_
              exact R_endV rfl rfl (.cell rfl (Rds.loadVar ty_ag_23 (Rds.blk .h1) rfl) (.tmp rfl .nil)) ((pathV_zero (pathE_out (by omega) (by rw [fitsB_in hn1 hn2 hin]; exact decide_eq_false (by omega))) (by decide)).symm)
            · skip
              refine R_skip ?_
              refine Q_then ?_
              refine R_seq ?_
              refine R_region ?_
              refine L_val rfl rfl rfl (OpP.v (P_move rfl rfl)) ?_
              refine L_op rfl (W_callV rfl rfl rfl rfl fn_ca_16 (leaf_ok hG ib ic item hic) ((Sn.row hpre.2 rfl).rw_) ?_)
              refine L_op rfl (W_alloc rfl rfl rfl ty_ze_23 fun b7 => ?_)
              refine L_op rfl (W_storeAll rfl rfl rfl rfl ty_ag_23 (by rw [ints_length]; exact sha_length _) (ints_one) .h0 (by rw [ints_length]; exact sha_length _) ?_)
              refine L_nil ?_
              refine St.env (.cons (t := 2) rfl (.cons (t := 4) rfl (.cons (t := 5) rfl (.cons (t := 6) rfl (.cons (t := 7) rfl .nil))))) ?_
              refine Q_then ?_
              refine R_seq ?_
              refine R_seq ?_
              refine R_region ?_
              refine L_val rfl rfl rfl (OpP.v (P_fld0 rfl ty_fl_57_2 rfl)) ?_
              refine L_val rfl rfl rfl (V_load rfl rfl ty_sc_55 (Rd.blk .h3 rfl)) ?_
              refine L_val rfl rfl rfl (OpP.v (P_len rfl ty_sl_55 rfl)) ?_
              refine L_val rfl rfl rfl (OpP.v (P_move rfl rfl)) ?_
              refine L_nil ?_
              refine St.env (.cons (t := 2) rfl (.cons (t := 4) rfl (.cons (t := 5) rfl (.cons (t := 6) rfl (.cons (t := 7) rfl (.cons (t := 50) rfl (.cons (t := 51) rfl (.cons (t := 52) rfl .nil)))))))) ?_
              refine Q_then ?_
              refine R_block ?_
              refine R_loop (G := Nat) (fun k => [(2, .pointer (some ⟨b2, 0, none⟩)), (4, .pointer (some ⟨b4, 0, none⟩)), (5, .int .i64 0), (6, v39), (7, .pointer (some ⟨b7, 0, none⟩)), (50, .slice base hs.length c), (51, .int .i64 (hs.length : Int)), (52, .int .i64 (k : Int))]) (fun k => [blk b7 (ints .u8 (climb (leafH item) (hs.take k) ((turnsH n i).reverse.take k))) 23, ownS 4 1 v39 (turnsH n i).length (bools (turnsH n i)), blk b4 (List.replicate 32 (.int .u8 0)) 23, blk b2 [.int .i64 (n : Int), .int .i64 (i : Int), .slice base hs.length c] 57]) (fun k => k ≤ hs.length) (fun k => hs.length - k) (0) (by omega) (by repeat (first | exact .nil | refine .cons rfl ?_)) (by rw [List.take_zero, List.take_zero]; exact Weak.refl _) ?_
              intro k hk
              refine R_seq ?_
              refine R_region ?_
              refine L_val rfl rfl rfl (OpP.v (P_lss rfl rfl rfl)) ?_
              refine L_nil ?_
              refine Q_then ?_
              refine R_seq ?_
              refine R_condP rfl (fun hlt => ?_) (fun hlt => ?_)
              · skip
                obtain ⟨a, hax⟩ : ∃ a, hs[k]? = some a := ⟨_, List.getElem?_eq_getElem (by omega)⟩
                have hal : a.length = 32 := hh a (List.mem_of_getElem? hax)
                obtain ⟨d, hdx⟩ : ∃ d, (turnsH n i).reverse[k]? = some d := ⟨_, List.getElem?_eq_getElem (by rw [List.length_reverse]; omega)⟩
                have htx := rev_at hdx
                obtain ⟨pb, pj, rfl, hrow⟩ := hpre.1.some_ (by rw [flat_length hh]; omega)
                refine St.ownSome (p := [_]) (by omega) fun wb wcap hwv hwc => ?_
                subst hwv
                refine R_skip ?_
                refine Q_then ?_
                refine R_seq ?_
                refine R_block ?_
                refine R_seq ?_
                refine R_region ?_
                refine L_val rfl rfl rfl (OpP.v (P_move rfl rfl)) ?_
                refine L_val rfl rfl rfl (OpP.v (P_ixs (k) rfl ty_sl_55 rfl rfl (by first | rfl | omega) (by omega))) ?_
                refine L_val rfl rfl rfl (V_loadAgg rfl rfl ty_ag_23 ((Rds.row hrow rfl).part (k * 32) fun j v hv => flat_at hh hax j v hv) (by rw [ints_length, hal])) ?_
                refine L_op rfl (W_alloc rfl rfl rfl ty_ze_23 fun b9 => ?_)
                refine L_val rfl rfl rfl (OpP.v (P_assign rfl rfl)) ?_
                refine L_op rfl (W_storeAll rfl rfl rfl rfl ty_ag_23 (by rw [ints_length, hal]) (ints_one) .h0 (by rw [ints_length, hal]; rfl) ?_)
                refine L_nil ?_
                refine Q_then ?_
                refine R_seq ?_
                refine R_region ?_
                refine L_val rfl rfl rfl (OpP.v (P_move rfl rfl)) ?_
                refine L_val rfl rfl rfl (OpP.v (P_move rfl rfl)) ?_
                refine L_val rfl rfl rfl (V_lenOwn .h2 rfl ty_sl_86 rfl) ?_
                first | (refine L_val rfl rfl rfl (OpP.v (P_subN rfl rfl rfl (by simp only [fits]; omega))) ?_) | (refine L_val rfl rfl rfl (OpP.v (P_sub rfl rfl rfl)) ?_)
                refine L_val rfl rfl rfl (OpP.v (P_move rfl rfl)) ?_
                first | (refine L_val rfl rfl rfl (OpP.v (P_subN rfl rfl rfl (by simp only [fits]; omega))) ?_) | (refine L_val rfl rfl rfl (OpP.v (P_sub rfl rfl rfl)) ?_)
                refine L_val rfl rfl rfl (OpP.v (P_ixs ((turnsH n i).length - 1 - k) rfl ty_sl_86 rfl rfl (by first | rfl | omega) (by omega))) ?_
                refine L_val rfl rfl rfl (V_load rfl rfl ty_sc_4 (by rw [Nat.zero_add, Nat.mul_one]; exact Rd.own .h2 (bools_at htx))) ?_
                refine L_nil ?_
                refine Q_then ?_
                refine R_cond rfl (fun hd => ?_) (fun hd => ?_)
                · skip
                  refine R_region ?_
                  refine L_val rfl rfl rfl (V_loadAgg rfl rfl ty_ag_23 (Rds.blk .h0) (by rw [ints_length, hal])) ?_
                  refine L_val rfl rfl rfl (V_loadAgg rfl rfl ty_ag_23 (Rds.blk .h1) (by rw [ints_length, climb_length (leafH_length _) _ _])) ?_
                  refine L_op rfl (W_callV rfl rfl rfl rfl fn_ca_12 (inner_ok hG a (climb (leafH item) (hs.take k) ((turnsH n i).reverse.take k)) hal (climb_length (leafH_length _) _ _)) (fun _ _ => trivial) ?_)
                  refine L_op rfl (W_storeAll rfl rfl rfl rfl ty_ag_23 (by rw [ints_length, sha_length]) (ints_one) .h1 (by rw [ints_length, sha_length, ints_length, climb_length (leafH_length _) _ _]) ?_)
                  refine L_nil ?_
                  refine Q_block ?_
                  refine Q_then ?_
                  refine R_region ?_
                  first | (refine L_val rfl rfl rfl (OpP.v (P_addN rfl rfl rfl (by simp only [fits]; omega))) ?_) | (refine L_val rfl rfl rfl (OpP.v (P_add rfl rfl rfl)) ?_)
                  refine L_val rfl rfl rfl (OpP.v (P_move rfl rfl)) ?_
                  refine L_nil ?_
                  refine E_nat (t := 52) (n := k + 1) rfl (by omega) ?_
                  exact Q_round (k + 1) (by omega) (by omega) (by repeat (first | exact .nil | refine .cons rfl ?_)) (Weak.drop (by rw [climb_take _ _ _ _ a d hax hdx, stepH, if_pos hd]; exact Weak.refl _))
                · skip
                  refine R_region ?_
                  refine L_val rfl rfl rfl (V_loadAgg rfl rfl ty_ag_23 (Rds.blk .h1) (by rw [ints_length, climb_length (leafH_length _) _ _])) ?_
                  refine L_val rfl rfl rfl (V_loadAgg rfl rfl ty_ag_23 (Rds.blk .h0) (by rw [ints_length, hal])) ?_
                  refine L_op rfl (W_callV rfl rfl rfl rfl fn_ca_12 (inner_ok hG (climb (leafH item) (hs.take k) ((turnsH n i).reverse.take k)) a (climb_length (leafH_length _) _ _) hal) (fun _ _ => trivial) ?_)
                  refine L_op rfl (W_storeAll rfl rfl rfl rfl ty_ag_23 (by rw [ints_length, sha_length]) (ints_one) .h1 (by rw [ints_length, sha_length, ints_length, climb_length (leafH_length _) _ _]) ?_)
                  refine L_nil ?_
                  refine Q_block ?_
                  refine Q_then ?_
                  refine R_region ?_
                  first | (refine L_val rfl rfl rfl (OpP.v (P_addN rfl rfl rfl (by simp only [fits]; omega))) ?_) | (refine L_val rfl rfl rfl (OpP.v (P_add rfl rfl rfl)) ?_)
                  refine L_val rfl rfl rfl (OpP.v (P_move rfl rfl)) ?_
                  refine L_nil ?_
                  refine E_nat (t := 52) (n := k + 1) rfl (by omega) ?_
                  exact Q_round (k + 1) (by omega) (by omega) (by repeat (first | exact .nil | refine .cons rfl ?_)) (Weak.drop (by rw [climb_take _ _ _ _ a d hax hdx, stepH, if_neg (by rw [hd]; decide)]; exact Weak.refl _))
              · skip
                obtain rfl : k = hs.length := by omega
                rw [List.take_length, List.take_of_length_le (l := (turnsH n i).reverse) (by rw [List.length_reverse]; omega)]
                refine R_exit ?_
                refine Q_then_exit ?_
                refine Q_then_exit ?_
                refine Q_block_eq ?_
                refine St.env (.cons (t := 2) rfl (.cons (t := 4) rfl (.cons (t := 5) rfl (.cons (t := 7) rfl .nil)))) ?_
                refine Q_then ?_
                refine R_seq ?_
                refine R_region ?_
                refine L_val rfl rfl rfl (OpP.v (P_fld0 rfl ty_fl_57_0 rfl)) ?_
                refine L_val rfl rfl rfl (V_load rfl rfl ty_sc_3 (Rd.blk .h3 rfl)) ?_
                refine L_val rfl rfl rfl (V_loadAgg rfl rfl ty_ag_23 (Rds.blk .h0) (by rw [ints_length, climb_length (leafH_length _) _ _])) ?_
                refine L_op rfl (W_callV rfl rfl rfl rfl fn_ca_46 (under_ok hG (n : Int) (climb (leafH item) hs (turnsH n i).reverse) (climb_length (leafH_length _) _ _)) (fun _ _ => trivial) ?_)
                refine L_op rfl (W_storeAll rfl rfl rfl rfl ty_ag_23 (by rw [ints_length, sha_length]) (ints_one) .h2 (by rw [ints_length, sha_length]; rfl) ?_)
                refine L_val rfl rfl rfl (OpP.v (P_assign rfl rfl)) ?_
                refine L_nil ?_
                refine St.env (.cons (t := 4) rfl (.cons (t := 5) rfl .nil)) ?_
                refine Q_then ?_
                refine R_ret ?_
                exact R_endV rfl rfl (.cell rfl (Rds.loadVar ty_ag_23 (Rds.blk .h2) (by rw [ints_length, sha_length])) (.tmp rfl .nil)) ((pathV_fine (pathE_in (by omega) (by rw [fitsB_in hn1 hn2 hin]; exact decide_eq_true (by omega)))).symm)
theorem rsum_okN {gl : Nat → Obj} (hG : GlobsR gl) (base : Option Addr) (c : Nat) {xs : List Int} {n : Nat} (hl : xs.length = n) (hc : n ≤ c) (hmax : n ≤ 9223372036854775000) : SpecV (cx gl) 17 [.slice base n c] (fun w => Row w base (ints .u8 xs)) (.agg (ints .u8 (sha xs)).toArray) := by
  subst hl; exact rsum_ok hG base c xs hc hmax
theorem rpath_ok {gl : Nat → Obj} (hG : GlobsR gl) (total index : Int) (base : Option Addr) (c : Nat) (hs : List (List Int)) (ib : Option Addr) (ic : Nat) (item : List Int) (hh : ∀ h ∈ hs, h.length = 32) (hc : hs.length ≤ c) (hm : hs.length ≤ 70368744177664) (hic : item.length ≤ ic) : SpecV (cx gl) 30 [.agg [.int .i64 total, .int .i64 index, .slice base hs.length c].toArray, .slice ib item.length ic] (fun w => Row w base (flat .u8 hs) ∧ Row w ib (ints .u8 item)) (pathV total index hs item) := by
  refine Spec.enter (C := cx gl) Tryd.func30 rfl 35 rfl rfl fun w0 h0 hsep hsub hpre => ?_
  obtain rfl : h0 = Heap.none := hsep
  show St (cx gl) _ [(0, .agg [.int .i64 total, .int .i64 index, .slice base hs.length c].toArray), (1, .slice ib item.length ic)] _ _
  refine R_seq ?_
  refine R_region ?_
  refine L_op rfl (W_box ([.int .i64 total, .int .i64 index, .slice base hs.length c]) rfl rfl rfl rfl rfl fun b2 => ?_)
  refine L_op rfl (W_alloc rfl rfl rfl ty_ze_23 fun b4 => ?_)
  refine L_val rfl rfl rfl (OpP.v (P_assign rfl rfl)) ?_
  refine L_nil ?_
  refine St.env (.cons (t := 1) rfl (.cons (t := 2) rfl (.cons (t := 4) rfl (.cons (t := 5) rfl .nil)))) ?_
  refine Q_then ?_
  refine R_seq ?_
  refine R_seq ?_
  refine R_region ?_
  refine L_val rfl rfl rfl (OpP.v (P_move rfl rfl)) ?_
  refine L_val rfl rfl rfl (OpP.v (P_len rfl ty_sl_26 rfl)) ?_
  refine L_val rfl rfl rfl (OpP.v (P_gtr rfl rfl rfl)) ?_
  refine L_nil ?_
  refine St.env (.cons (t := 1) rfl (.cons (t := 2) rfl (.cons (t := 4) rfl (.cons (t := 5) rfl (.cons (t := 12) rfl .nil))))) ?_
  refine Q_then ?_
  refine R_condP rfl (fun hbig => ?_) (fun hbig => ?_)
  · skip
    refine R_seq ?_
    refine R_region ?_
    refine L_val rfl rfl rfl (OpP.v (P_buildArrR rfl ty_ar_23 ty_ze_23 rfl rfl rfl (by decide) (by simp [Value.oneCell']))) ?_
    refine E_as (t := 13) (v' := .agg (ints .u8 (List.replicate 32 0)).toArray) rfl rfl ?_
    refine L_op rfl (W_storeAll rfl rfl rfl rfl ty_ag_23 (rfl) (ints_one) .h0 (rfl) ?_)
    refine L_val rfl rfl rfl (OpP.v (P_assign rfl rfl)) ?_
    refine L_nil ?_
    refine St.env (.cons (t := 1) rfl (.cons (t := 2) rfl (.cons (t := 4) rfl (.cons (t := 5) rfl .nil)))) ?_
    refine Q_then ?_
    refine R_ret ?_
    refine Q_then_ret ?_
    exact R_endV rfl rfl (.cell rfl (Rds.loadVar ty_ag_23 (Rds.blk .h0) rfl) (.tmp rfl .nil)) ((pathV_zero (pathE_big (by omega)) (by decide)).symm)
  · skip
    refine R_skip ?_
    refine Q_then ?_
    refine R_seq ?_
    refine R_region ?_
    refine L_val rfl rfl rfl (V_loadAgg rfl rfl ty_ag_57 (Rds.blk .h1) (rfl)) ?_
    refine L_op rfl (W_callV rfl rfl rfl rfl fn_ca_35 (fits_ok total index base hs.length c hm) (fun _ _ => trivial) ?_)
    refine E_bool (t := 15) rfl (fun hF => ?_) (fun hF => ?_)
    · skip
      obtain ⟨n, i, rfl, rfl, hn1, hn2, hin, hlen⟩ := fitsB_true hF
      have htl : (2 :: (numB (n : Int) ++ leadH n i hs (leafH item))).length = 41 := by rw [List.length_cons, List.length_append, numB_length, leadH_length (leafH_length _)]
      refine L_val rfl rfl rfl (OpP.v (P_assign rfl rfl)) ?_
      refine L_nil ?_
      refine St.env (.cons (t := 1) rfl (.cons (t := 2) rfl (.cons (t := 4) rfl (.cons (t := 5) rfl (.cons (t := 6) rfl .nil))))) ?_
      refine Q_then ?_
      refine R_seq ?_
      refine R_seq ?_
      refine R_region ?_
      refine L_val rfl rfl rfl (OpP.v (P_move rfl rfl)) ?_
      refine L_val rfl rfl rfl (OpP.v (P_not rfl rfl)) ?_
      refine L_nil ?_
      refine St.env (.cons (t := 1) rfl (.cons (t := 2) rfl (.cons (t := 4) rfl (.cons (t := 5) rfl (.cons (t := 17) rfl .nil))))) ?_
      refine Q_then ?_
      refine R_condF rfl ?_
      refine R_skip ?_
      refine Q_then ?_
      refine R_seq ?_
      refine R_region ?_
      refine L_val rfl rfl rfl (OpP.v (P_move rfl rfl)) ?_
      refine L_op rfl (W_callV rfl rfl rfl rfl fn_ca_18 (rleaf_ok hG ib ic item (by omega)) ((Sn.row hpre.2 rfl).rw_) ?_)
      refine L_op rfl (W_alloc rfl rfl rfl ty_ze_23 fun b7 => ?_)
      refine L_op rfl (W_storeAll rfl rfl rfl rfl ty_ag_23 (by rw [ints_length]; exact sha_length _) (ints_one) .h0 (by rw [ints_length]; exact sha_length _) ?_)
      refine L_nil ?_
      refine St.env (.cons (t := 2) rfl (.cons (t := 4) rfl (.cons (t := 5) rfl (.cons (t := 7) rfl .nil)))) ?_
      refine Q_then ?_
      refine R_seq ?_
      refine R_region ?_
      refine L_val rfl rfl rfl (OpP.v (P_fld0 rfl ty_fl_57_0 rfl)) ?_
      refine L_val rfl rfl rfl (V_load rfl rfl ty_sc_3 (Rd.blk .h2 rfl)) ?_
      refine L_val rfl rfl rfl (OpP.v (P_fld0 rfl ty_fl_57_1 rfl)) ?_
      refine L_val rfl rfl rfl (V_load rfl rfl ty_sc_3 (Rd.blk .h2 rfl)) ?_
      refine L_val rfl rfl rfl (OpP.v (P_fld0 rfl ty_fl_57_2 rfl)) ?_
      refine L_val rfl rfl rfl (V_load rfl rfl ty_sc_55 (Rd.blk .h2 rfl)) ?_
      refine L_val rfl rfl rfl (V_loadAgg rfl rfl ty_ag_23 (Rds.blk .h0) (by rw [ints_length]; exact sha_length _)) ?_
      refine L_op rfl (W_callV rfl rfl rfl rfl fn_ca_54 (up_ok hG (n + 1) (by omega) n i base c hs (leafH item) (by omega) hn1 hin hlen hh hc (sha_length _)) ((Sn.row hpre.1 rfl).rw_) ?_)
      refine L_op rfl (W_alloc rfl rfl rfl ty_ze_23 fun b8 => ?_)
      refine L_op rfl (W_storeAll rfl rfl rfl rfl ty_ag_23 (by rw [ints_length, leadH_length (leafH_length _)]) (ints_one) .h0 (by rw [ints_length, leadH_length (leafH_length _)]; rfl) ?_)
      refine L_nil ?_
      refine St.env (.cons (t := 2) rfl (.cons (t := 4) rfl (.cons (t := 5) rfl (.cons (t := 8) rfl .nil)))) ?_
      refine Q_then ?_
      refine R_seq ?_
      refine R_region ?_
      refine L_val rfl rfl rfl (OpP.v (P_fld0 rfl ty_fl_57_0 rfl)) ?_
      refine L_val rfl rfl rfl (V_load rfl rfl ty_sc_3 (Rd.blk .h3 rfl)) ?_
      refine L_val rfl rfl rfl (V_loadAgg rfl rfl ty_ag_23 (Rds.blk .h0) (by rw [ints_length, leadH_length (leafH_length _)])) ?_
      refine L_op rfl (W_call rfl rfl rfl rfl fn_ca_50 (rootText_ok (n : Int) (leadH n i hs (leafH item)) (leadH_length (leafH_length _))) (Split.nil _) (fun _ _ _ _ _ _ _ => trivial) fun v32 rs1 (e1 : rs1 = _) => ?_)
      subst e1
      refine St.openOwn (p := []) (by omega) fun tb tcap junk htc htl2 htv => ?_
      subst htv
      refine St.res (rs' := [blk tb (ints .u8 (2 :: (numB (n : Int) ++ leadH n i hs (leafH item))) ++ junk) 5, blk b8 (ints .u8 (leadH n i hs (leafH item))) 23, blk b7 (ints .u8 (leafH item)) 23, blk b4 (List.replicate 32 (.int .u8 0)) 23, blk b2 [.int .i64 (n : Int), .int .i64 (i : Int), .slice base hs.length c] 57]) (Weak.refl _) ?_
      refine L_op rfl (W_callV rfl rfl rfl rfl fn_ca_17 (rsum_okN hG (some ⟨tb, 0, none⟩) tcap htl (by omega) (by decide)) (fun w nw => (Sn.ofBlkAt .h0 fun i v h => app_at i v h).rw_ w nw) ?_)
      refine L_op rfl (W_alloc rfl rfl rfl ty_ze_23 fun b9 => ?_)
      refine L_op rfl (W_storeAll rfl rfl rfl rfl ty_ag_23 (by rw [ints_length, sha_length]) (ints_one) .h0 (by rw [ints_length, sha_length]; rfl) ?_)
      refine L_nil ?_
      refine St.env (.cons (t := 4) rfl (.cons (t := 5) rfl (.cons (t := 9) rfl .nil))) ?_
      refine Q_then ?_
      refine R_seq ?_
      refine R_region ?_
      refine L_val rfl rfl rfl (V_loadAgg rfl rfl ty_ag_23 (Rds.blk .h0) (by rw [ints_length, sha_length])) ?_
      refine L_op rfl (W_storeAll rfl rfl rfl rfl ty_ag_23 (by rw [ints_length, sha_length]) (ints_one) .h4 (by rw [ints_length, sha_length]; rfl) ?_)
      refine L_val rfl rfl rfl (OpP.v (P_assign rfl rfl)) ?_
      refine L_nil ?_
      refine St.env (.cons (t := 4) rfl (.cons (t := 5) rfl .nil)) ?_
      refine Q_then ?_
      refine R_ret ?_
      exact R_endV rfl rfl (.cell rfl (Rds.loadVar ty_ag_23 (Rds.blk .h4) (by rw [ints_length, sha_length])) (.tmp rfl .nil)) ((pathV_fine (pathE_in (by omega) hF)).symm)
    · skip
      refine L_val rfl rfl rfl (OpP.v (P_assign rfl rfl)) ?_
      refine L_nil ?_
      refine St.env (.cons (t := 1) rfl (.cons (t := 2) rfl (.cons (t := 4) rfl (.cons (t := 5) rfl (.cons (t := 6) rfl .nil))))) ?_
      refine Q_then ?_
      refine R_seq ?_
      refine R_seq ?_
      refine R_region ?_
      refine L_val rfl rfl rfl (OpP.v (P_move rfl rfl)) ?_
      refine L_val rfl rfl rfl (OpP.v (P_not rfl rfl)) ?_
      refine L_nil ?_
      refine St.env (.cons (t := 1) rfl (.cons (t := 2) rfl (.cons (t := 4) rfl (.cons (t := 5) rfl (.cons (t := 17) rfl .nil))))) ?_
      refine Q_then ?_
      refine R_condT rfl ?_
      refine R_seq ?_
      refine R_region ?_
      refine L_val rfl rfl rfl (OpP.v (P_buildArrR rfl ty_ar_23 ty_ze_23 rfl rfl rfl (by decide) (by simp [Value.oneCell']))) ?_
      refine E_as (t := 18) (v' := .agg (ints .u8 (List.replicate 32 0)).toArray) rfl rfl ?_
      refine L_op rfl (W_storeAll rfl rfl rfl rfl ty_ag_23 (rfl) (ints_one) .h0 (rfl) ?_)
      refine L_val rfl rfl rfl (OpP.v (P_assign rfl rfl)) ?_
      refine L_nil ?_
      refine St.env (.cons (t := 1) rfl (.cons (t := 2) rfl (.cons (t := 4) rfl (.cons (t := 5) rfl .nil)))) ?_
      refine Q_then ?_
      refine R_ret ?_
      refine Q_then_ret ?_
      exact R_endV rfl rfl (.cell rfl (Rds.loadVar ty_ag_23 (Rds.blk .h0) rfl) (.tmp rfl .nil)) ((pathV_zero (pathE_out (by omega) hF) (by decide)).symm)
theorem verify_ok {gl : Nat → Obj} (hG : Globs gl) (root : List Int) (hroot : root.length = 32) (total index : Int) (base : Option Addr) (c : Nat) (hs : List (List Int)) (ib : Option Addr) (ic : Nat) (item : List Int) (hh : ∀ h ∈ hs, h.length = 32) (hc : hs.length ≤ c) (hm : hs.length ≤ 70368744177664) (hic : item.length ≤ ic) : SpecV (cx gl) 29 [.agg (ints .u8 (root)).toArray, .agg [.int .i64 total, .int .i64 index, .slice base hs.length c].toArray, .slice ib item.length ic] (fun w => Row w base (flat .u8 hs) ∧ Row w ib (ints .u8 item)) (.int .i64 (verE root total index hs item)) := by
  refine Spec.enter (C := cx gl) Tryd.func29 rfl 23 rfl rfl fun w0 h0 hsep hsub hpre => ?_
  obtain rfl : h0 = Heap.none := hsep
  show St (cx gl) _ [(0, .agg (ints .u8 (root)).toArray), (1, .agg [.int .i64 total, .int .i64 index, .slice base hs.length c].toArray), (2, .slice ib item.length ic)] _ _
  refine R_seq ?_
  refine R_region ?_
  refine L_op rfl (W_box (ints .u8 root) rfl rfl rfl rfl rfl fun b3 => ?_)
  refine L_op rfl (W_box ([.int .i64 total, .int .i64 index, .slice base hs.length c]) rfl rfl rfl rfl rfl fun b4 => ?_)
  refine L_val rfl rfl rfl (OpP.v (P_assign rfl rfl)) ?_
  refine L_nil ?_
  refine St.env (.cons (t := 2) rfl (.cons (t := 3) rfl (.cons (t := 4) rfl (.cons (t := 6) rfl .nil)))) ?_
  refine Q_then ?_
  refine R_seq ?_
  refine R_region ?_
  refine L_val rfl rfl rfl (V_loadAgg rfl rfl ty_ag_57 (Rds.blk .h0) (rfl)) ?_
  refine L_val rfl rfl rfl (OpP.v (P_move rfl rfl)) ?_
  refine L_op rfl (W_callV rfl rfl rfl rfl fn_ca_28 (path_ok hG total index base c hs ib ic item hh hc hm hic) (fun w nw => ⟨(Sn.row hpre.1 rfl).rw_ w nw, (Sn.row hpre.2 rfl).rw_ w nw⟩) ?_)
  refine L_val rfl rfl rfl (OpP.v (P_move rfl rfl)) ?_
  refine L_val rfl rfl rfl (OpP.v (P_extract rfl rfl rfl)) ?_
  refine L_val rfl rfl rfl (OpP.v (P_extract rfl rfl rfl)) ?_
  refine L_op rfl (W_alloc rfl rfl rfl ty_ze_23 fun b7 => ?_)
  refine L_op rfl (W_storeAll rfl rfl rfl rfl ty_ag_23 (by rw [ints_length, pathD_length]) (ints_one) .h0 (by rw [ints_length, pathD_length]; rfl) ?_)
  refine L_val rfl rfl rfl (OpP.v (P_assign rfl rfl)) ?_
  refine L_nil ?_
  refine St.env (.cons (t := 3) rfl (.cons (t := 6) rfl (.cons (t := 7) rfl (.cons (t := 8) rfl .nil)))) ?_
  refine Q_then ?_
  refine R_seq ?_
  refine R_seq ?_
  refine R_region ?_
  refine L_val rfl rfl rfl (OpP.v (P_move rfl rfl)) ?_
  refine L_val rfl rfl rfl (OpP.v (P_eql rfl rfl rfl)) ?_
  refine E_bool (t := 16) rfl (fun he => ?_) (fun he => ?_)
  · skip
    refine L_val rfl rfl rfl (OpP.v (P_move rfl rfl)) ?_
    refine L_val rfl rfl rfl (V_loadAgg rfl rfl ty_ag_23 (Rds.blk .h0) (by rw [ints_length, pathD_length])) ?_
    refine L_val rfl rfl rfl (V_loadAgg rfl rfl ty_ag_23 (Rds.blk .h2) (by rw [ints_length, hroot])) ?_
    refine L_val rfl rfl rfl (OpP.v (P_neArr rfl rfl rfl ty_un_23 ty_int_5 ty_sc_5 ty_eg_23 (pathD_length _ _ _ _) (hroot))) ?_
    refine E_bool (t := 20) rfl (fun hr => ?_) (fun hr => ?_)
    · skip
      refine L_val rfl rfl rfl (OpP.v (P_pick rfl rfl rfl)) ?_
      refine L_nil ?_
      refine St.env (.cons (t := 6) rfl (.cons (t := 8) rfl (.cons (t := 21) rfl .nil))) ?_
      refine Q_then ?_
      refine R_condT rfl ?_
      refine R_seq ?_
      refine R_region ?_
      refine L_val rfl rfl rfl (OpP.v (P_assign rfl rfl)) ?_
      refine L_nil ?_
      refine St.env (.cons (t := 6) rfl (.cons (t := 8) rfl .nil)) ?_
      refine Q_then ?_
      refine R_ret ?_
      refine Q_then_ret ?_
      exact R_endV rfl rfl (.tmp rfl .nil) (by unfold verE; rw [if_pos (of_decide_eq_true he), if_neg (of_decide_eq_true hr)]; rfl)
    · skip
      refine L_val rfl rfl rfl (OpP.v (P_pick rfl rfl rfl)) ?_
      refine L_nil ?_
      refine St.env (.cons (t := 6) rfl (.cons (t := 8) rfl (.cons (t := 21) rfl .nil))) ?_
      refine Q_then ?_
      refine R_condF rfl ?_
      refine R_skip ?_
      refine Q_then ?_
      refine R_seq ?_
      refine R_region ?_
      refine L_val rfl rfl rfl (OpP.v (P_move rfl rfl)) ?_
      refine L_val rfl rfl rfl (OpP.v (P_assign rfl rfl)) ?_
      refine L_nil ?_
      refine St.env (.cons (t := 6) rfl .nil) ?_
      refine Q_then ?_
      refine R_ret ?_
      exact R_endV rfl rfl (.tmp rfl .nil) (by unfold verE; rw [if_pos (of_decide_eq_true he), if_pos (Classical.not_not.1 (of_decide_eq_false hr)), of_decide_eq_true he]; rfl)
  · skip
    refine L_val rfl rfl rfl (OpP.v (P_move rfl rfl)) ?_
    refine L_no rfl rfl rfl ?_
    refine L_no rfl rfl rfl ?_
    refine L_no rfl rfl rfl ?_
    refine L_val rfl rfl rfl (OpP.v (P_pick rfl rfl rfl)) ?_
    refine L_nil ?_
    refine St.env (.cons (t := 6) rfl (.cons (t := 8) rfl (.cons (t := 21) rfl .nil))) ?_
    refine Q_then ?_
    refine R_condF rfl ?_
    refine R_skip ?_
    refine Q_then ?_
    refine R_seq ?_
    refine R_region ?_
    refine L_val rfl rfl rfl (OpP.v (P_move rfl rfl)) ?_
    refine L_val rfl rfl rfl (OpP.v (P_assign rfl rfl)) ?_
    refine L_nil ?_
    refine St.env (.cons (t := 6) rfl .nil) ?_
    refine Q_then ?_
    refine R_ret ?_
    exact R_endV rfl rfl (.tmp rfl .nil) (by unfold verE; rw [if_neg (of_decide_eq_false he)]; rfl)
theorem rverify_ok {gl : Nat → Obj} (hG : GlobsR gl) (root : List Int) (hroot : root.length = 32) (total index : Int) (base : Option Addr) (c : Nat) (hs : List (List Int)) (ib : Option Addr) (ic : Nat) (item : List Int) (hh : ∀ h ∈ hs, h.length = 32) (hc : hs.length ≤ c) (hm : hs.length ≤ 70368744177664) (hic : item.length ≤ ic) : SpecV (cx gl) 31 [.agg (ints .u8 (root)).toArray, .agg [.int .i64 total, .int .i64 index, .slice base hs.length c].toArray, .slice ib item.length ic] (fun w => Row w base (flat .u8 hs) ∧ Row w ib (ints .u8 item)) (.int .i64 (verE root total index hs item)) := by
  refine Spec.enter (C := cx gl) Tryd.func31 rfl 21 rfl rfl fun w0 h0 hsep hsub hpre => ?_
  obtain rfl : h0 = Heap.none := hsep
  show St (cx gl) _ [(0, .agg (ints .u8 (root)).toArray), (1, .agg [.int .i64 total, .int .i64 index, .slice base hs.length c].toArray), (2, .slice ib item.length ic)] _ _
  refine R_seq ?_
  refine R_region ?_
  refine L_op rfl (W_box (ints .u8 root) rfl rfl rfl rfl rfl fun b3 => ?_)
  refine L_op rfl (W_box ([.int .i64 total, .int .i64 index, .slice base hs.length c]) rfl rfl rfl rfl rfl fun b4 => ?_)
  refine L_val rfl rfl rfl (OpP.v (P_assign rfl rfl)) ?_
  refine L_nil ?_
  refine St.env (.cons (t := 2) rfl (.cons (t := 3) rfl (.cons (t := 4) rfl (.cons (t := 6) rfl .nil)))) ?_
  refine Q_then ?_
  refine R_seq ?_
  refine R_region ?_
  refine L_val rfl rfl rfl (V_loadAgg rfl rfl ty_ag_57 (Rds.blk .h0) (rfl)) ?_
  refine L_val rfl rfl rfl (OpP.v (P_move rfl rfl)) ?_
  refine L_op rfl (W_callV rfl rfl rfl rfl fn_ca_30 (rpath_ok hG total index base c hs ib ic item hh hc hm hic) (fun w nw => ⟨(Sn.row hpre.1 rfl).rw_ w nw, (Sn.row hpre.2 rfl).rw_ w nw⟩) ?_)
  refine L_val rfl rfl rfl (OpP.v (P_move rfl rfl)) ?_
  refine L_val rfl rfl rfl (OpP.v (P_extract rfl rfl rfl)) ?_
  refine L_val rfl rfl rfl (OpP.v (P_extract rfl rfl rfl)) ?_
  refine L_op rfl (W_alloc rfl rfl rfl ty_ze_23 fun b7 => ?_)
  refine L_op rfl (W_storeAll rfl rfl rfl rfl ty_ag_23 (by rw [ints_length, pathD_length]) (ints_one) .h0 (by rw [ints_length, pathD_length]; rfl) ?_)
  refine L_val rfl rfl rfl (OpP.v (P_assign rfl rfl)) ?_
  refine L_nil ?_
  refine St.env (.cons (t := 3) rfl (.cons (t := 6) rfl (.cons (t := 7) rfl (.cons (t := 8) rfl .nil)))) ?_
  refine Q_then ?_
  refine R_seq ?_
  refine R_seq ?_
  refine R_region ?_
  refine L_val rfl rfl rfl (OpP.v (P_move rfl rfl)) ?_
  refine L_val rfl rfl rfl (OpP.v (P_neq rfl rfl rfl)) ?_
  refine L_nil ?_
  refine St.env (.cons (t := 3) rfl (.cons (t := 6) rfl (.cons (t := 7) rfl (.cons (t := 8) rfl (.cons (t := 16) rfl .nil))))) ?_
  refine Q_then ?_
  refine R_condP rfl (fun he => ?_) (fun he => ?_)
  · skip
    refine R_seq ?_
    refine R_region ?_
    refine L_val rfl rfl rfl (OpP.v (P_move rfl rfl)) ?_
    refine L_val rfl rfl rfl (OpP.v (P_assign rfl rfl)) ?_
    refine L_nil ?_
    refine St.env (.cons (t := 3) rfl (.cons (t := 6) rfl (.cons (t := 7) rfl .nil))) ?_
    refine Q_then ?_
    refine R_ret ?_
    refine Q_then_ret ?_
    exact R_endV rfl rfl (.tmp rfl .nil) (by unfold verE; rw [if_neg he]; rfl)
  · skip
    refine R_skip ?_
    refine Q_then ?_
    refine R_seq ?_
    refine R_seq ?_
    refine R_region ?_
    refine L_val rfl rfl rfl (V_loadAgg rfl rfl ty_ag_23 (Rds.blk .h0) (by rw [ints_length, pathD_length])) ?_
    refine L_val rfl rfl rfl (V_loadAgg rfl rfl ty_ag_23 (Rds.blk .h2) (by rw [ints_length, hroot])) ?_
    refine L_val rfl rfl rfl (OpP.v (P_neArr rfl rfl rfl ty_un_23 ty_int_5 ty_sc_5 ty_eg_23 (pathD_length _ _ _ _) (hroot))) ?_
    refine L_nil ?_
    refine St.env (.cons (t := 6) rfl (.cons (t := 20) rfl .nil)) ?_
    refine Q_then ?_
    refine R_condP rfl (fun hr => ?_) (fun hr => ?_)
    · skip
      refine R_seq ?_
      refine R_region ?_
      refine L_val rfl rfl rfl (OpP.v (P_assign rfl rfl)) ?_
      refine L_nil ?_
      refine St.env (.cons (t := 6) rfl .nil) ?_
      refine Q_then ?_
      refine R_ret ?_
      refine Q_then_ret ?_
      exact R_endV rfl rfl (.tmp rfl .nil) (by unfold verE; rw [if_pos (Classical.not_not.1 he), if_neg hr]; rfl)
    · skip
      refine R_skip ?_
      refine Q_then ?_
      refine R_seq ?_
      refine R_region ?_
      refine L_val rfl rfl rfl (OpP.v (P_assign rfl rfl)) ?_
      refine L_nil ?_
      refine St.env (.cons (t := 6) rfl .nil) ?_
      refine Q_then ?_
      refine R_ret ?_
      exact R_endV rfl rfl (.tmp rfl .nil) (by unfold verE; rw [if_pos (Classical.not_not.1 he), if_pos (Classical.not_not.1 hr)]; rfl)
theorem same_ok {gl : Nat → Obj} (total index : Int) (b1 : Option Addr) (c1 : Nat) (b2' : Option Addr) (c2 : Nat) (hs : List (List Int)) (hh : ∀ h ∈ hs, h.length = 32) (hm : hs.length ≤ 70368744177664) : SpecV (cx gl) 32 [.agg [.int .i64 total, .int .i64 index, .slice b1 hs.length c1].toArray, .agg [.int .i64 total, .int .i64 index, .slice b2' hs.length c2].toArray] (fun w => Row w b1 (flat .u8 hs) ∧ Row w b2' (flat .u8 hs)) (.bool true) := by
  refine Spec.enter (C := cx gl) Tryd.func32 rfl 45 rfl rfl fun w0 h0 hsep hsub hpre => ?_
  obtain rfl : h0 = Heap.none := hsep
  show St (cx gl) _ [(0, .agg [.int .i64 total, .int .i64 index, .slice b1 hs.length c1].toArray), (1, .agg [.int .i64 total, .int .i64 index, .slice b2' hs.length c2].toArray)] _ _
  refine R_seq ?_
  refine R_region ?_
  refine L_op rfl (W_box ([.int .i64 total, .int .i64 index, .slice b1 hs.length c1]) rfl rfl rfl rfl rfl fun b2 => ?_)
  refine L_op rfl (W_box ([.int .i64 total, .int .i64 index, .slice b2' hs.length c2]) rfl rfl rfl rfl rfl fun b3 => ?_)
  refine L_val rfl rfl rfl (OpP.v (P_assign rfl rfl)) ?_
  refine L_nil ?_
  refine St.env (.cons (t := 2) rfl (.cons (t := 3) rfl (.cons (t := 4) rfl .nil))) ?_
  refine Q_then ?_
  refine R_seq ?_
  refine R_seq ?_
  refine R_region ?_
  refine L_val rfl rfl rfl (OpP.v (P_fld0 rfl ty_fl_57_0 rfl)) ?_
  refine L_val rfl rfl rfl (V_load rfl rfl ty_sc_3 (Rd.blk .h1 rfl)) ?_
  refine L_val rfl rfl rfl (OpP.v (P_fld0 rfl ty_fl_57_0 rfl)) ?_
  refine L_val rfl rfl rfl (V_load rfl rfl ty_sc_3 (Rd.blk .h0 rfl)) ?_
  refine L_val rfl rfl rfl (OpP.v (P_neq rfl rfl rfl)) ?_
  refine E_false (t := 10) rfl (decide_eq_false (by simp)) ?_
  refine L_val rfl rfl rfl (OpP.v (P_move rfl rfl)) ?_
  refine L_val rfl rfl rfl (OpP.v (P_fld0 rfl ty_fl_57_1 rfl)) ?_
  refine L_val rfl rfl rfl (V_load rfl rfl ty_sc_3 (Rd.blk .h1 rfl)) ?_
  refine L_val rfl rfl rfl (OpP.v (P_fld0 rfl ty_fl_57_1 rfl)) ?_
  refine L_val rfl rfl rfl (V_load rfl rfl ty_sc_3 (Rd.blk .h0 rfl)) ?_
  refine L_val rfl rfl rfl (OpP.v (P_neq rfl rfl rfl)) ?_
  refine E_false (t := 16) rfl (decide_eq_false (by simp)) ?_
  refine L_val rfl rfl rfl (OpP.v (P_pick rfl rfl rfl)) ?_
  refine L_val rfl rfl rfl (OpP.v (P_move rfl rfl)) ?_
  refine L_val rfl rfl rfl (OpP.v (P_fld0 rfl ty_fl_57_2 rfl)) ?_
  refine L_val rfl rfl rfl (V_load rfl rfl ty_sc_55 (Rd.blk .h1 rfl)) ?_
  refine L_val rfl rfl rfl (OpP.v (P_len rfl ty_sl_55 rfl)) ?_
  refine L_val rfl rfl rfl (OpP.v (P_fld0 rfl ty_fl_57_2 rfl)) ?_
  refine L_val rfl rfl rfl (V_load rfl rfl ty_sc_55 (Rd.blk .h0 rfl)) ?_
  refine L_val rfl rfl rfl (OpP.v (P_len rfl ty_sl_55 rfl)) ?_
  refine L_val rfl rfl rfl (OpP.v (P_neq rfl rfl rfl)) ?_
  refine E_false (t := 25) rfl (decide_eq_false (by simp)) ?_
  refine L_val rfl rfl rfl (OpP.v (P_pick rfl rfl rfl)) ?_
  refine L_nil ?_
  refine St.env (.cons (t := 2) rfl (.cons (t := 3) rfl (.cons (t := 4) rfl (.cons (t := 26) rfl .nil)))) ?_
  refine Q_then ?_
  refine R_condF rfl ?_
  refine R_skip ?_
  refine Q_then ?_
  refine R_seq ?_
  refine R_seq ?_
  refine R_region ?_
  refine L_val rfl rfl rfl (OpP.v (P_assign rfl rfl)) ?_
  refine L_nil ?_
  refine St.env (.cons (t := 2) rfl (.cons (t := 3) rfl (.cons (t := 4) rfl (.cons (t := 5) rfl .nil)))) ?_
  refine Q_then ?_
  refine R_block ?_
  refine R_loop (G := Nat) (fun k => [(2, .pointer (some ⟨b2, 0, none⟩)), (3, .pointer (some ⟨b3, 0, none⟩)), (4, .bool false), (5, .int .i64 (k : Int))]) (fun k => [blk b3 [.int .i64 total, .int .i64 index, .slice b2' hs.length c2] 57, blk b2 [.int .i64 total, .int .i64 index, .slice b1 hs.length c1] 57]) (fun k => k ≤ hs.length) (fun k => hs.length - k) (0) (by omega) (by repeat (first | exact .nil | refine .cons rfl ?_)) (Weak.refl _) ?_
  intro k hk
  refine R_seq ?_
  refine R_seq ?_
  refine R_region ?_
  refine L_val rfl rfl rfl (OpP.v (P_move rfl rfl)) ?_
  refine L_val rfl rfl rfl (OpP.v (P_fld0 rfl ty_fl_57_2 rfl)) ?_
  refine L_val rfl rfl rfl (V_load rfl rfl ty_sc_55 (Rd.blk .h1 rfl)) ?_
  refine L_val rfl rfl rfl (OpP.v (P_len rfl ty_sl_55 rfl)) ?_
  refine L_val rfl rfl rfl (OpP.v (P_lss rfl rfl rfl)) ?_
  refine L_nil ?_
  refine Q_then ?_
  refine R_condP rfl (fun hlt => ?_) (fun hlt => ?_)
  · skip
    obtain ⟨a, hax⟩ : ∃ a, hs[k]? = some a := ⟨_, List.getElem?_eq_getElem (by omega)⟩
    have hal : a.length = 32 := hh a (List.mem_of_getElem? hax)
    obtain ⟨pa, ja, rfl, hrowa⟩ := hpre.1.some_ (by rw [flat_length hh]; omega)
    obtain ⟨pb, jb, rfl, hrowb⟩ := hpre.2.some_ (by rw [flat_length hh]; omega)
    refine R_skip ?_
    refine Q_then ?_
    refine R_seq ?_
    refine R_block ?_
    refine R_seq ?_
    refine R_open [(0, 0), (1, 1), (2, 0), (3, 0), (4, 1), (5, 0), (6, 1), (7, 0), (8, 0), (9, 1), (10, 0)] mixed (by kernel_rfl) (QOk.then (QOk.block (QOk.then (QOk.then (QOk.block (QOk.then QOk.body)))))) ?_
    refine O_pure rfl rfl rfl rfl (P_fld0 rfl ty_fl_57_2 rfl) ?_
    refine O_val rfl rfl rfl rfl (V_load rfl rfl ty_sc_55 (Rd.blk .h1 rfl)) ?_
    refine O_pure rfl rfl rfl rfl (P_move rfl rfl) ?_
    refine O_pure rfl rfl rfl rfl (P_ixs (k) rfl ty_sl_55 rfl rfl (by first | rfl | omega) (by omega)) ?_
    refine O_val rfl rfl rfl rfl (V_loadAgg rfl rfl ty_ag_23 ((Rds.row hrowa rfl).part (k * 32) fun j v hv => flat_at hh hax j v hv) (by rw [ints_length, hal])) ?_
    refine O_pure rfl rfl rfl rfl (P_fld0 rfl ty_fl_57_2 rfl) ?_
    refine O_val rfl rfl rfl rfl (V_load rfl rfl ty_sc_55 (Rd.blk .h0 rfl)) ?_
    refine O_pure rfl rfl rfl rfl (P_move rfl rfl) ?_
    refine O_pure rfl rfl rfl rfl (P_ixs (k) rfl ty_sl_55 rfl rfl (by first | rfl | omega) (by omega)) ?_
    refine O_val rfl rfl rfl rfl (V_loadAgg rfl rfl ty_ag_23 ((Rds.row hrowb rfl).part (k * 32) fun j v hv => flat_at hh hax j v hv) (by rw [ints_length, hal])) ?_
    refine O_pure rfl rfl rfl rfl (P_neArr rfl rfl rfl ty_un_23 ty_int_5 ty_sc_5 ty_eg_23 (hal) (hal)) ?_
    refine E_false (t := 44) rfl (decide_eq_false (by simp)) ?_
    refine O_nil ?_
    refine Q_then ?_
    refine R_condF rfl ?_
    refine R_skip ?_
    refine Q_block ?_
    refine Q_then ?_
    refine R_region ?_
    refine L_val rfl rfl rfl (OpP.v (P_move rfl rfl)) ?_
    first | (refine L_val rfl rfl rfl (OpP.v (P_addN rfl rfl rfl (by simp only [fits]; omega))) ?_) | (refine L_val rfl rfl rfl (OpP.v (P_add rfl rfl rfl)) ?_)
    refine L_val rfl rfl rfl (OpP.v (P_assign rfl rfl)) ?_
    refine L_nil ?_
    refine E_nat (t := 5) (n := k + 1) rfl (by omega) ?_
    exact Q_round (k + 1) (by omega) (by omega) (by repeat (first | exact .nil | refine .cons rfl ?_)) (Weak.refl _)
  · skip
    refine R_exit ?_
    refine Q_then_exit ?_
    refine Q_then_exit ?_
    refine Q_block_eq ?_
    refine St.env (.cons (t := 4) rfl .nil) ?_
    refine Q_then ?_
    refine R_seq ?_
    refine R_region ?_
    refine L_val rfl rfl rfl (OpP.v (P_assign rfl rfl)) ?_
    refine L_nil ?_
    refine Q_then ?_
    refine R_ret ?_
    exact R_endV rfl rfl (.tmp rfl .nil) (rfl)
end Go.Proofs.YtldndhekjhlbmaaDoor
