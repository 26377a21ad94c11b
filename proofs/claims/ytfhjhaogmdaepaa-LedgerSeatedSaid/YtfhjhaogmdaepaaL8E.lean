/- alive. Printed by gen.py. -/
import Derived.Test.YtfhjhaogmdaepaaL8D
set_option linter.unusedVariables false
set_option linter.unusedSimpArgs false
set_option maxRecDepth 100000
namespace Go.Proofs.Ytfhjhaogmdaepaa
open Go Go.RowKit Go.Proofs
def al8 : List Acc := [⟨1, 100, 0, 0, false⟩, ⟨2, 0, 50, 7, false⟩]
def par8 : Par := ⟨10, 2, 0, 0, 0, 0, 0, 0, 0, 0, 0, 0⟩
theorem al8_e : newE al8 = 0 := by decide
theorem al8_new : newL8 al8 = ⟨al8, [], 0, 150⟩ := newL8_fine al8_e
theorem al8_fine : AccFine al8 := accFine_of (by decide)
theorem al8_ok : ∀ x ∈ al8, x.ok := by
  intro x hx
  simp only [al8, List.mem_cons, List.not_mem_nil, or_false] at hx
  rcases hx with rfl | rfl <;> exact ⟨⟨by decide, by decide⟩, ⟨by decide, by decide⟩, ⟨by decide, by decide⟩, ⟨by decide, by decide⟩⟩
theorem al8_cand : candM 10 al8 = [⟨2, 50, 0⟩] := by rfl
theorem al8_seats : SeatsOf 10 2 al8 [⟨2, 50, 0⟩] := by
  refine ⟨List.pairwise_singleton _ _, fun x hx => by rw [al8_cand]; exact hx, by rw [al8_cand]; rfl, fun x _ y hy hn => ?_⟩
  rw [al8_cand] at hy; exact absurd hy hn
theorem al8_find : findV al8 2 = .tuple #[.agg (⟨2, 0, 50, 7, false⟩ : Acc).cells.toArray, .int .i64 0] := by
  have h : idxG (isAc 2) al8 = 1 := by decide
  have h2 : ¬ (idxG (isAc 2) al8 < 0 ∨ (2 : Int) = 0) := by rw [h]; decide
  unfold findV findX findE
  rw [if_neg h2, if_neg h2, h]; rfl
theorem alive8 {gl : Nat → Obj} : SpecV (cx gl) 5 [] noPre (.bool true) := by
  refine Spec.enter (C := cx gl) Try.func5 rfl 62 rfl rfl fun w0 h0 hsep hsub hpre => ?_
  obtain rfl : h0 = Heap.none := hsep
  show St (cx gl) _ [] _ _
  refine R_seq ?_
  refine R_region ?_
  refine L_val rfl rfl rfl (OpP.v (P_assign rfl rfl)) ?_
  refine L_nil ?_
  refine Q_then ?_
  refine R_seq ?_
  refine R_region ?_
  refine L_val rfl rfl rfl (OpP.v (P_buildStruct rfl ty_pl_39 ty_ze_39 rfl rfl (rfl))) ?_
  refine L_val rfl rfl rfl (OpP.v (P_buildStruct rfl ty_pl_39 ty_ze_39 rfl rfl (rfl))) ?_
  refine L_op rfl (W_lit (z := .nilIface) (rc al8) rfl rfl rfl ty_sl_22 ty_lz_22 rfl rfl rfl (by decide) (by decide) (by intro v hv; simp only [List.mem_cons, List.not_mem_nil, or_false] at hv; rcases hv with rfl | rfl <;> rfl) (rfl) fun b9 => ?_)
  refine L_op rfl (W_call rfl rfl rfl rfl fn_ca_6 (lnew_ok (some ⟨b9, 0, none⟩) 2 al8 (Nat.le_refl 2) (by decide) al8_ok) (Split.nil _) (fun w a b _ hb dj m => (Sn.ofBlk .h0).rw_ w ⟨_, hb, m.le (Heap.le_join_right dj)⟩) fun v10 rs1 ⟨u, z1, z2⟩ => ?_)
  rw [al8_new] at z1 z2
  subst z1; subst z2
  refine St.ownForm (p := []) fun ub uc huv huc => ?_
  subst huv
  refine St.res (rs' := [ownS 39 5 (.slice ub 2 uc) (2) (rc al8), blk b9 (rc al8) 39]) (Weak.refl _) ?_
  refine E_as (t := 10) (v' := .tuple #[.agg (ledV (.slice ub 2 uc) (.slice none 0 0) 0 150).toArray, .int .i64 0]) rfl (by rw [al8_e]; rfl) ?_
  refine L_val rfl rfl rfl (OpP.v (P_move rfl rfl)) ?_
  refine L_val rfl rfl rfl (OpP.v (P_extract rfl rfl rfl)) ?_
  refine L_val rfl rfl rfl (OpP.v (P_extract rfl rfl rfl)) ?_
  refine L_op rfl (W_alloc rfl rfl rfl ty_ze_29 fun b1 => ?_)
  refine L_op rfl (W_storeAll rfl rfl rfl rfl ty_ag_29 (rfl) (ledV_one _ _ _ _ rfl rfl) .h0 (rfl) ?_)
  refine L_val rfl rfl rfl (OpP.v (P_assign rfl rfl)) ?_
  refine L_nil ?_
  refine St.env (.cons (t := 0) rfl (.cons (t := 1) rfl (.cons (t := 2) rfl .nil))) ?_
  refine Q_then ?_
  refine R_seq ?_
  refine R_region ?_
  refine L_val rfl rfl rfl (V_loadAgg rfl rfl ty_ag_29 (Rds.blk .h0) (rfl)) ?_
  refine L_val rfl rfl rfl (OpP.v (P_buildStruct rfl ty_pl_25 ty_ze_25 rfl rfl (rfl))) ?_
  refine L_op rfl (W_call rfl rfl rfl rfl fn_ca_8 (seats_ok ub uc al8 huc (by decide) al8_fine (.slice none 0 0) rfl 0 150 par8) (Split.nil _) (fun w a b _ hb dj m => (Sn.own .h1 rfl).rw_ w ⟨_, hb, m.le (Heap.le_join_right dj)⟩) fun v15 rs1 ⟨R, sb0, sc, z1, hR, z2⟩ => ?_)
  obtain rfl := hR.uniq al8_seats
  subst z1; subst z2
  refine St.ownSome (p := []) (by decide) fun sb sc' hsv hsc => ?_
  obtain rfl : sb0 = some ⟨sb, 0, none⟩ := by simp only [Value.slice.injEq] at hsv; exact hsv.1
  refine St.res (rs' := [ownS 37 3 (.slice (some ⟨sb, 0, none⟩) 1 sc) (1) (rc [(⟨2, 50, 0⟩ : Mem)]), blk b1 (ledV (.slice ub 2 uc) (.slice none 0 0) 0 150) 29, ownS 39 5 (.slice ub 2 uc) (2) (rc al8), blk b9 (rc al8) 39]) (Weak.refl _) ?_
  refine E_as (t := 15) (v' := .slice (some ⟨sb, 0, none⟩) 1 sc) rfl (rfl) ?_
  refine L_val rfl rfl rfl (OpP.v (P_assign rfl rfl)) ?_
  refine L_nil ?_
  refine St.env (.cons (t := 0) rfl (.cons (t := 1) rfl (.cons (t := 2) rfl (.cons (t := 3) rfl .nil)))) ?_
  refine Q_then ?_
  refine R_seq ?_
  refine R_region ?_
  refine L_val rfl rfl rfl (V_loadAgg rfl rfl ty_ag_29 (Rds.blk .h1) (rfl)) ?_
  refine L_op rfl (W_callV rfl rfl rfl rfl fn_ca_13 (find_ok ub uc al8 huc (by decide) (.slice none 0 0) rfl 0 150 2) (fun w nw => (Sn.own .h2 rfl).rw_ w nw) ?_)
  rw [al8_find]
  refine L_val rfl rfl rfl (OpP.v (P_move rfl rfl)) ?_
  refine L_val rfl rfl rfl (OpP.v (P_extract rfl rfl rfl)) ?_
  refine L_val rfl rfl rfl (OpP.v (P_extract rfl rfl rfl)) ?_
  refine L_op rfl (W_alloc rfl rfl rfl ty_ze_39 fun b4 => ?_)
  refine L_op rfl (W_storeAll rfl rfl rfl rfl ty_ag_39 (rfl) (Rec.one (⟨2, 0, 50, 7, false⟩ : Acc)) .h0 (rfl) ?_)
  refine L_val rfl rfl rfl (OpP.v (P_assign rfl rfl)) ?_
  refine L_nil ?_
  refine St.env (.cons (t := 0) rfl (.cons (t := 1) rfl (.cons (t := 2) rfl (.cons (t := 3) rfl (.cons (t := 4) rfl (.cons (t := 5) rfl .nil)))))) ?_
  refine Q_then ?_
  refine R_seq ?_
  refine R_region ?_
  refine L_val rfl rfl rfl (OpP.v (P_move rfl rfl)) ?_
  refine L_val rfl rfl rfl (OpP.v (P_eql rfl rfl rfl)) ?_
  refine E_true (t := 22) rfl (rfl) ?_
  refine L_val rfl rfl rfl (OpP.v (P_move rfl rfl)) ?_
  refine L_val rfl rfl rfl (OpP.v (P_move rfl rfl)) ?_
  refine L_val rfl rfl rfl (OpP.v (P_eql rfl rfl rfl)) ?_
  refine E_true (t := 25) rfl (rfl) ?_
  refine L_val rfl rfl rfl (OpP.v (P_pick rfl rfl rfl)) ?_
  refine L_val rfl rfl rfl (OpP.v (P_move rfl rfl)) ?_
  refine L_val rfl rfl rfl (OpP.v (P_fld0 rfl ty_fl_29_3 rfl)) ?_
  refine L_val rfl rfl rfl (V_load rfl rfl ty_sc_23 (Rd.blk .h2 rfl)) ?_
  refine L_val rfl rfl rfl (OpP.v (P_eql rfl rfl rfl)) ?_
  refine E_true (t := 30) rfl (rfl) ?_
  refine L_val rfl rfl rfl (OpP.v (P_pick rfl rfl rfl)) ?_
  refine L_val rfl rfl rfl (OpP.v (P_move rfl rfl)) ?_
  refine L_val rfl rfl rfl (OpP.v (P_fld0 rfl ty_fl_29_0 rfl)) ?_
  refine L_val rfl rfl rfl (V_load rfl rfl ty_sc_22 (Rd.blk .h2 rfl)) ?_
  refine L_val rfl rfl rfl (OpP.v (P_len rfl ty_sl_22 rfl)) ?_
  refine L_val rfl rfl rfl (OpP.v (P_eql rfl rfl rfl)) ?_
  refine E_true (t := 36) rfl (rfl) ?_
  refine L_val rfl rfl rfl (OpP.v (P_pick rfl rfl rfl)) ?_
  refine L_val rfl rfl rfl (OpP.v (P_move rfl rfl)) ?_
  refine L_val rfl rfl rfl (OpP.v (P_fld0 rfl ty_fl_39_2 rfl)) ?_
  refine L_val rfl rfl rfl (V_load rfl rfl ty_sc_23 (Rd.blk .h0 rfl)) ?_
  refine L_val rfl rfl rfl (OpP.v (P_eql rfl rfl rfl)) ?_
  refine E_true (t := 41) rfl (rfl) ?_
  refine L_val rfl rfl rfl (OpP.v (P_pick rfl rfl rfl)) ?_
  refine L_val rfl rfl rfl (OpP.v (P_move rfl rfl)) ?_
  refine L_val rfl rfl rfl (OpP.v (P_move rfl rfl)) ?_
  refine L_val rfl rfl rfl (OpP.v (P_len rfl ty_sl_33 rfl)) ?_
  refine L_val rfl rfl rfl (OpP.v (P_eql rfl rfl rfl)) ?_
  refine E_true (t := 46) rfl (rfl) ?_
  refine L_val rfl rfl rfl (OpP.v (P_pick rfl rfl rfl)) ?_
  refine L_val rfl rfl rfl (OpP.v (P_move rfl rfl)) ?_
  refine L_val rfl rfl rfl (OpP.v (P_move rfl rfl)) ?_
  refine L_val rfl rfl rfl (OpP.v (P_ixs (0) rfl ty_sl_33 rfl rfl (by first | rfl | omega) (by omega))) ?_
  refine L_val rfl rfl rfl (OpP.v (P_fld rfl ty_fl_37_0 rfl)) ?_
  refine L_val rfl rfl rfl (V_load rfl rfl ty_sc_35 (Rd.own .h1 rfl)) ?_
  refine L_val rfl rfl rfl (OpP.v (P_eql rfl rfl rfl)) ?_
  refine E_true (t := 53) rfl (rfl) ?_
  refine L_val rfl rfl rfl (OpP.v (P_pick rfl rfl rfl)) ?_
  refine L_val rfl rfl rfl (OpP.v (P_move rfl rfl)) ?_
  refine L_val rfl rfl rfl (OpP.v (P_move rfl rfl)) ?_
  refine L_val rfl rfl rfl (OpP.v (P_ixs (0) rfl ty_sl_33 rfl rfl (by first | rfl | omega) (by omega))) ?_
  refine L_val rfl rfl rfl (OpP.v (P_fld rfl ty_fl_37_1 rfl)) ?_
  refine L_val rfl rfl rfl (V_load rfl rfl ty_sc_23 (Rd.own .h1 rfl)) ?_
  refine L_val rfl rfl rfl (OpP.v (P_eql rfl rfl rfl)) ?_
  refine E_true (t := 60) rfl (rfl) ?_
  refine L_val rfl rfl rfl (OpP.v (P_pick rfl rfl rfl)) ?_
  refine L_val rfl rfl rfl (OpP.v (P_assign rfl rfl)) ?_
  refine L_nil ?_
  refine St.env (.cons (t := 0) rfl .nil) ?_
  refine Q_then ?_
  refine R_ret ?_
  exact R_endV rfl rfl (.tmp rfl .nil) (rfl)
end Go.Proofs.Ytfhjhaogmdaepaa
