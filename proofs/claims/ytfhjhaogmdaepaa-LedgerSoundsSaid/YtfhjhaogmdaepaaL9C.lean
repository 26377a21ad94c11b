/- roomy, cut, kept. Printed by gen.py. -/
import Derived.Test.YtfhjhaogmdaepaaL8F
set_option linter.unusedVariables false
set_option linter.unusedSimpArgs false
set_option maxRecDepth 100000
namespace Go.Proofs.Ytfhjhaogmdaepaa
open Go Go.RowKit Go.Proofs
def amk : List Acc := [⟨777, 0, 0, 0, false⟩, ⟨778, 0, 0, 0, false⟩]
def rmk : List Rel := [⟨0, 777, 0, 0⟩, ⟨0, 778, 0, 0⟩]
theorem mk_at0 {α : Type} (l k : List α) {x : α} (h : k[0]? = some x) : (l ++ k)[l.length]? = some x := by rw [List.getElem?_append_right (Nat.le_refl _), Nat.sub_self]; exact h
theorem mk_at1 {α : Type} (l k : List α) {x : α} (h : k[1]? = some x) : (l ++ k)[l.length + 1]? = some x := by rw [List.getElem?_append_right (by omega), Nat.add_sub_cancel_left]; exact h
theorem row_left {α : Type} [Rec α] {w : World} {b : Option Addr} {l k : List α} (h : Row w b (rc (l ++ k))) : Row w b (rc l) := fun j v hv => h j v (by rw [rc_append, List.getElem?_append_left (List.getElem?_eq_some_iff.1 hv).1]; exact hv)
theorem row_at {w : World} {b : Nat} {cs : List Value} (h : Row w (some ⟨b, 0, none⟩) cs) : RowAt w ⟨b, 0, none⟩ cs := fun j v hv => by
  obtain ⟨ad, e, h2⟩ := h j v hv
  rw [Option.some.injEq] at e; subst e; exact h2
theorem sn_lft {α : Type} [Rec α] {C : Cx} {F : Fx} {rs : List HP} {T sz n c : Nat} {base : Option Addr} {l k : List α} (m : Has rs (ownS T sz (.slice base n c) n (rc (l ++ k))) (ownS T sz (.slice base n c) n (rc (l ++ k))) rs) : Sn C F rs base (rc l) := by
  have h : Sn C F rs base (rc (l ++ k)) := Sn.own m rfl
  rw [rc_append] at h; exact h.left
theorem roomy_ok {gl : Nat → Obj} (base : Option Addr) (c : Nat) (l : List Acc) (hc : l.length ≤ c)(base' : Option Addr) (c' : Nat) (r : List Rel) (hc' : r.length ≤ c')(bu su : Int) (hm : l.length ≤ 3518437208800) (hm' : r.length ≤ 4398046511000) : Spec (cx gl) 10 [.agg (ledV (.slice base l.length c) (.slice base' r.length c') bu su).toArray] (fun w _ => Row w base (rc l) ∧ Row w base' (rc r)) [] (fun v rs => ∃ fb fc gb gc, v = .agg (ledV (.slice (some ⟨fb, 0, none⟩) (l.length + 2) fc) (.slice (some ⟨gb, 0, none⟩) (r.length + 2) gc) bu su).toArray ∧ l.length + 2 ≤ fc ∧ r.length + 2 ≤ gc ∧ rs = [ownS 39 5 (.slice (some ⟨fb, 0, none⟩) (l.length + 2) fc) (l.length + 2) (rc (l ++ amk)), ownS 62 4 (.slice (some ⟨gb, 0, none⟩) (r.length + 2) gc) (r.length + 2) (rc (r ++ rmk))]) := by
  refine Spec.enter (C := cx gl) Try.func10 rfl 28 rfl rfl fun w0 h0 hsep hsub hpre => ?_
  obtain rfl : h0 = Heap.none := hsep
  show St (cx gl) _ [(0, .agg (ledV (.slice base l.length c) (.slice base' r.length c') bu su).toArray)] _ _
  refine R_seq ?_
  refine R_region ?_
  refine L_op rfl (W_box (ledV (.slice base l.length c) (.slice base' r.length c') bu su) rfl rfl rfl rfl rfl fun b1 => ?_)
  refine L_op rfl (W_alloc rfl rfl rfl ty_ze_29 fun b2 => ?_)
  refine L_nil ?_
  refine St.env (.cons (t := 1) rfl (.cons (t := 2) rfl .nil)) ?_
  refine Q_then ?_
  refine R_seq ?_
  refine R_region ?_
  refine L_val rfl rfl rfl (V_loadAgg rfl rfl ty_ag_29 (Rds.blk .h1) (rfl)) ?_
  refine L_op rfl (W_alloc rfl rfl rfl ty_ze_29 fun b3 => ?_)
  refine L_op rfl (W_storeAll rfl rfl rfl rfl ty_ag_29 (rfl) (ledV_one _ _ _ _ rfl rfl) .h0 (rfl) ?_)
  refine L_nil ?_
  refine St.env (.cons (t := 1) rfl (.cons (t := 2) rfl (.cons (t := 3) rfl .nil))) ?_
  refine Q_then ?_
  refine R_seq ?_
  refine St.res (Weak.newNil (T := 39) (sz := 5)) ?_
  refine R_region ?_
  refine L_val rfl rfl rfl (OpP.v (P_fld0 rfl ty_fl_29_0 rfl)) ?_
  refine L_val rfl rfl rfl (V_load rfl rfl ty_sc_22 (Rd.blk .h3 rfl)) ?_
  refine L_op rfl (W_append (p := []) rfl rfl rfl ty_sl_22 ty_ap_22 ty_src_22 rfl rfl rfl (Src.row (sz := 5) (Sn.row hpre.1 rfl).rw_ (rc_length l) (rc_one l)) (by omega) (by simp only [maxLen]; omega) fun v7 => ?_)
  refine St.res (rs' := [ownS 39 5 (v7) (l.length) (rc (l)), blk b3 (ledV (.slice base l.length c) (.slice base' r.length c') bu su) 29, blk b2 (ledV (.slice none 0 0) (.slice none 0 0) 0 0) 29, blk b1 (ledV (.slice base l.length c) (.slice base' r.length c') bu su) 29]) (ownS.to1 (by omega) rfl) ?_
  refine St.ownForm (p := []) fun ub uc huv huc => ?_
  subst huv
  refine L_val rfl rfl rfl (OpP.v (P_fld0 rfl ty_fl_29_0 rfl)) ?_
  refine L_op rfl (W_store rfl rfl rfl rfl ty_sc_22 rfl .h1 (by simp [ledV]) ?_)
  refine St.res (rs' := [ownS 39 5 (.slice ub l.length uc) (l.length) (rc (l)), blk b3 (ledV (.slice ub l.length uc) (.slice base' r.length c') bu su) 29, blk b2 (ledV (.slice none 0 0) (.slice none 0 0) 0 0) 29, blk b1 (ledV (.slice base l.length c) (.slice base' r.length c') bu su) 29]) (Weak.refl _) ?_
  refine L_nil ?_
  refine St.env (.cons (t := 1) rfl (.cons (t := 2) rfl (.cons (t := 3) rfl .nil))) ?_
  refine Q_then ?_
  refine R_seq ?_
  refine R_region ?_
  refine L_val rfl rfl rfl (OpP.v (P_fld0 rfl ty_fl_29_0 rfl)) ?_
  refine L_val rfl rfl rfl (V_load rfl rfl ty_sc_22 (Rd.blk .h1 rfl)) ?_
  refine L_val rfl rfl rfl (OpP.v (P_buildStruct rfl ty_pl_39 ty_ze_39 rfl rfl (rfl))) ?_
  refine L_val rfl rfl rfl (OpP.v (P_buildStruct rfl ty_pl_39 ty_ze_39 rfl rfl (rfl))) ?_
  refine L_op rfl (W_lit (z := .nilIface) (rc amk) rfl rfl rfl ty_sl_22 ty_lz_22 rfl rfl rfl (by decide) (by decide) (by intro v hv; simp only [List.mem_cons, List.not_mem_nil, or_false] at hv; rcases hv with rfl | rfl <;> rfl) (rfl) fun b13 => ?_)
  refine L_op rfl (W_append (p := [_]) rfl rfl rfl ty_sl_22 ty_ap_22 ty_src_22 rfl rfl rfl (Src.slice (sz := 5) (m := 2) (news := rc amk) (Rds.blk .h0) rfl (rc_one amk)) (by omega) (by simp only [maxLen]; omega) fun v14 => ?_)
  refine St.res (rs' := [ownS 39 5 (v14) (l.length + 2) (rc (l ++ amk)), blk b3 (ledV (.slice ub l.length uc) (.slice base' r.length c') bu su) 29, blk b2 (ledV (.slice none 0 0) (.slice none 0 0) 0 0) 29, blk b1 (ledV (.slice base l.length c) (.slice base' r.length c') bu su) 29]) (Weak.drop (ownS.to1 rfl (by rw [rc_append]))) ?_
  refine St.ownSome (p := []) (by omega) fun fb fc hfv hfc => ?_
  subst hfv
  refine L_val rfl rfl rfl (OpP.v (P_fld0 rfl ty_fl_29_0 rfl)) ?_
  refine L_op rfl (W_store rfl rfl rfl rfl ty_sc_22 rfl .h1 (by simp [ledV]) ?_)
  refine St.res (rs' := [ownS 39 5 (.slice (some ⟨fb, 0, none⟩) (l.length + 2) fc) (l.length + 2) (rc (l ++ amk)), blk b3 (ledV (.slice (some ⟨fb, 0, none⟩) (l.length + 2) fc) (.slice base' r.length c') bu su) 29, blk b2 (ledV (.slice none 0 0) (.slice none 0 0) 0 0) 29, blk b1 (ledV (.slice base l.length c) (.slice base' r.length c') bu su) 29]) (Weak.refl _) ?_
  refine L_nil ?_
  refine St.env (.cons (t := 1) rfl (.cons (t := 2) rfl (.cons (t := 3) rfl .nil))) ?_
  refine Q_then ?_
  refine R_seq ?_
  refine St.res (Weak.newNil (T := 62) (sz := 4)) ?_
  refine R_region ?_
  refine L_val rfl rfl rfl (OpP.v (P_fld0 rfl ty_fl_29_1 rfl)) ?_
  refine L_val rfl rfl rfl (V_load rfl rfl ty_sc_27 (Rd.blk .h4 rfl)) ?_
  refine L_op rfl (W_append (p := []) rfl rfl rfl ty_sl_27 ty_ap_27 ty_src_27 rfl rfl rfl (Src.row (sz := 4) (Sn.row hpre.2 rfl).rw_ (rc_length r) (rc_one r)) (by omega) (by simp only [maxLen]; omega) fun v18 => ?_)
  refine St.res (rs' := [ownS 62 4 (v18) (r.length) (rc (r)), ownS 39 5 (.slice (some ⟨fb, 0, none⟩) (l.length + 2) fc) (l.length + 2) (rc (l ++ amk)), blk b3 (ledV (.slice (some ⟨fb, 0, none⟩) (l.length + 2) fc) (.slice base' r.length c') bu su) 29, blk b2 (ledV (.slice none 0 0) (.slice none 0 0) 0 0) 29, blk b1 (ledV (.slice base l.length c) (.slice base' r.length c') bu su) 29]) (ownS.to1 (by omega) rfl) ?_
  refine St.ownForm (p := []) fun vb vc hvv hvc => ?_
  subst hvv
  refine L_val rfl rfl rfl (OpP.v (P_fld0 rfl ty_fl_29_1 rfl)) ?_
  refine L_op rfl (W_store rfl rfl rfl rfl ty_sc_27 rfl .h2 (by simp [ledV]) ?_)
  refine St.res (rs' := [ownS 62 4 (.slice vb r.length vc) (r.length) (rc (r)), ownS 39 5 (.slice (some ⟨fb, 0, none⟩) (l.length + 2) fc) (l.length + 2) (rc (l ++ amk)), blk b3 (ledV (.slice (some ⟨fb, 0, none⟩) (l.length + 2) fc) (.slice vb r.length vc) bu su) 29, blk b2 (ledV (.slice none 0 0) (.slice none 0 0) 0 0) 29, blk b1 (ledV (.slice base l.length c) (.slice base' r.length c') bu su) 29]) (Weak.refl _) ?_
  refine L_nil ?_
  refine St.env (.cons (t := 2) rfl (.cons (t := 3) rfl .nil)) ?_
  refine Q_then ?_
  refine R_seq ?_
  refine R_region ?_
  refine L_val rfl rfl rfl (OpP.v (P_fld0 rfl ty_fl_29_1 rfl)) ?_
  refine L_val rfl rfl rfl (V_load rfl rfl ty_sc_27 (Rd.blk .h2 rfl)) ?_
  refine L_val rfl rfl rfl (OpP.v (P_buildStruct rfl ty_pl_62 ty_ze_62 rfl rfl (rfl))) ?_
  refine L_val rfl rfl rfl (OpP.v (P_buildStruct rfl ty_pl_62 ty_ze_62 rfl rfl (rfl))) ?_
  refine L_op rfl (W_lit (z := .nilIface) (rc rmk) rfl rfl rfl ty_sl_27 ty_lz_27 rfl rfl rfl (by decide) (by decide) (by intro v hv; simp only [List.mem_cons, List.not_mem_nil, or_false] at hv; rcases hv with rfl | rfl <;> rfl) (rfl) fun b24 => ?_)
  refine L_op rfl (W_append (p := [_]) rfl rfl rfl ty_sl_27 ty_ap_27 ty_src_27 rfl rfl rfl (Src.slice (sz := 4) (m := 2) (news := rc rmk) (Rds.blk .h0) rfl (rc_one rmk)) (by omega) (by simp only [maxLen]; omega) fun v25 => ?_)
  refine St.res (rs' := [ownS 62 4 (v25) (r.length + 2) (rc (r ++ rmk)), ownS 39 5 (.slice (some ⟨fb, 0, none⟩) (l.length + 2) fc) (l.length + 2) (rc (l ++ amk)), blk b3 (ledV (.slice (some ⟨fb, 0, none⟩) (l.length + 2) fc) (.slice vb r.length vc) bu su) 29, blk b2 (ledV (.slice none 0 0) (.slice none 0 0) 0 0) 29, blk b1 (ledV (.slice base l.length c) (.slice base' r.length c') bu su) 29]) (Weak.drop (ownS.to1 rfl (by rw [rc_append]))) ?_
  refine St.ownSome (p := []) (by omega) fun gb gc hgv hgc => ?_
  subst hgv
  refine L_val rfl rfl rfl (OpP.v (P_fld0 rfl ty_fl_29_1 rfl)) ?_
  refine L_op rfl (W_store rfl rfl rfl rfl ty_sc_27 rfl .h2 (by simp [ledV]) ?_)
  refine St.res (rs' := [ownS 62 4 (.slice (some ⟨gb, 0, none⟩) (r.length + 2) gc) (r.length + 2) (rc (r ++ rmk)), ownS 39 5 (.slice (some ⟨fb, 0, none⟩) (l.length + 2) fc) (l.length + 2) (rc (l ++ amk)), blk b3 (ledV (.slice (some ⟨fb, 0, none⟩) (l.length + 2) fc) (.slice (some ⟨gb, 0, none⟩) (r.length + 2) gc) bu su) 29, blk b2 (ledV (.slice none 0 0) (.slice none 0 0) 0 0) 29, blk b1 (ledV (.slice base l.length c) (.slice base' r.length c') bu su) 29]) (Weak.refl _) ?_
  refine L_nil ?_
  refine St.env (.cons (t := 2) rfl (.cons (t := 3) rfl .nil)) ?_
  refine Q_then ?_
  refine R_seq ?_
  refine R_region ?_
  refine L_val rfl rfl rfl (V_loadAgg rfl rfl ty_ag_29 (Rds.blk .h2) (rfl)) ?_
  refine L_op rfl (W_storeAll rfl rfl rfl rfl ty_ag_29 (rfl) (ledV_one _ _ _ _ rfl rfl) .h3 (rfl) ?_)
  refine L_nil ?_
  refine St.env (.cons (t := 2) rfl .nil) ?_
  refine Q_then ?_
  refine R_ret ?_
  exact R_end (rs2 := [ownS 39 5 (.slice (some ⟨fb, 0, none⟩) (l.length + 2) fc) (l.length + 2) (rc (l ++ amk)), ownS 62 4 (.slice (some ⟨gb, 0, none⟩) (r.length + 2) gc) (r.length + 2) (rc (r ++ rmk))]) rfl rfl (.cell rfl (Rds.loadVar ty_ag_29 (Rds.blk .h3) rfl) .nil) (⟨fb, fc, gb, gc, rfl, hfc, hgc, rfl⟩) (Weak.pick (p := [_]) (Weak.keep (Weak.nil _)))
theorem cut_ok {gl : Nat → Obj} (fb fc gb gc : Nat) (l : List Acc) (r : List Rel) (bu su : Int) (hfc : l.length + 2 ≤ fc) (hgc : r.length + 2 ≤ gc) (hm : l.length ≤ 3518437208800) (hm' : r.length ≤ 4398046511000) : SpecV (cx gl) 12 [.agg (ledV (.slice (some ⟨fb, 0, none⟩) (l.length + 2) fc) (.slice (some ⟨gb, 0, none⟩) (r.length + 2) gc) bu su).toArray] noPre (.agg (ledV (.slice (some ⟨fb, 0, none⟩) l.length fc) (.slice (some ⟨gb, 0, none⟩) r.length gc) bu su).toArray) := by
  refine Spec.enter (C := cx gl) Try.func12 rfl 20 rfl rfl fun w0 h0 hsep hsub hpre => ?_
  obtain rfl : h0 = Heap.none := hsep
  show St (cx gl) _ [(0, .agg (ledV (.slice (some ⟨fb, 0, none⟩) (l.length + 2) fc) (.slice (some ⟨gb, 0, none⟩) (r.length + 2) gc) bu su).toArray)] _ _
  refine R_seq ?_
  refine R_region ?_
  refine L_op rfl (W_box (ledV (.slice (some ⟨fb, 0, none⟩) (l.length + 2) fc) (.slice (some ⟨gb, 0, none⟩) (r.length + 2) gc) bu su) rfl rfl rfl rfl rfl fun b1 => ?_)
  refine L_op rfl (W_alloc rfl rfl rfl ty_ze_29 fun b2 => ?_)
  refine L_nil ?_
  refine St.env (.cons (t := 1) rfl (.cons (t := 2) rfl .nil)) ?_
  refine Q_then ?_
  refine R_seq ?_
  refine R_region ?_
  refine L_val rfl rfl rfl (OpP.v (P_fld0 rfl ty_fl_29_0 rfl)) ?_
  refine L_val rfl rfl rfl (V_load rfl rfl ty_sc_22 (Rd.blk .h1 rfl)) ?_
  refine L_val rfl rfl rfl (OpP.v (P_fld0 rfl ty_fl_29_0 rfl)) ?_
  refine L_val rfl rfl rfl (V_load rfl rfl ty_sc_22 (Rd.blk .h1 rfl)) ?_
  refine L_val rfl rfl rfl (OpP.v (P_len rfl ty_sl_22 rfl)) ?_
  first | (refine L_val rfl rfl rfl (OpP.v (P_subN rfl rfl rfl (by simp only [fits]; omega))) ?_) | (refine L_val rfl rfl rfl (OpP.v (P_sub rfl rfl rfl)) ?_)
  refine E_as (t := 8) (v' := .int .i64 (l.length : Int)) rfl (by congr 1; omega) ?_
  refine L_val rfl rfl rfl (OpP.v (P_slice 0 l.length rfl ty_sl_22 rfl rfl ⟨_, rfl⟩ (by omega) (by omega))) ?_
  refine E_as (t := 9) (v' := .slice (some ⟨fb, 0, none⟩) l.length fc) rfl (by unfold sliced; rw [if_neg (by omega)]; simp [add_zero_off]) ?_
  refine L_val rfl rfl rfl (OpP.v (P_fld0 rfl ty_fl_29_0 rfl)) ?_
  refine L_op rfl (W_store rfl rfl rfl rfl ty_sc_22 rfl .h1 (by simp [ledV]) ?_)
  refine St.res (rs' := [blk b2 (ledV (.slice none 0 0) (.slice none 0 0) 0 0) 29, blk b1 (ledV (.slice (some ⟨fb, 0, none⟩) l.length fc) (.slice (some ⟨gb, 0, none⟩) (r.length + 2) gc) bu su) 29]) (Weak.refl _) ?_
  refine L_nil ?_
  refine St.env (.cons (t := 1) rfl (.cons (t := 2) rfl .nil)) ?_
  refine Q_then ?_
  refine R_seq ?_
  refine R_region ?_
  refine L_val rfl rfl rfl (OpP.v (P_fld0 rfl ty_fl_29_1 rfl)) ?_
  refine L_val rfl rfl rfl (V_load rfl rfl ty_sc_27 (Rd.blk .h1 rfl)) ?_
  refine L_val rfl rfl rfl (OpP.v (P_fld0 rfl ty_fl_29_1 rfl)) ?_
  refine L_val rfl rfl rfl (V_load rfl rfl ty_sc_27 (Rd.blk .h1 rfl)) ?_
  refine L_val rfl rfl rfl (OpP.v (P_len rfl ty_sl_27 rfl)) ?_
  first | (refine L_val rfl rfl rfl (OpP.v (P_subN rfl rfl rfl (by simp only [fits]; omega))) ?_) | (refine L_val rfl rfl rfl (OpP.v (P_sub rfl rfl rfl)) ?_)
  refine E_as (t := 16) (v' := .int .i64 (r.length : Int)) rfl (by congr 1; omega) ?_
  refine L_val rfl rfl rfl (OpP.v (P_slice 0 r.length rfl ty_sl_27 rfl rfl ⟨_, rfl⟩ (by omega) (by omega))) ?_
  refine E_as (t := 17) (v' := .slice (some ⟨gb, 0, none⟩) r.length gc) rfl (by unfold sliced; rw [if_neg (by omega)]; simp [add_zero_off]) ?_
  refine L_val rfl rfl rfl (OpP.v (P_fld0 rfl ty_fl_29_1 rfl)) ?_
  refine L_op rfl (W_store rfl rfl rfl rfl ty_sc_27 rfl .h1 (by simp [ledV]) ?_)
  refine St.res (rs' := [blk b2 (ledV (.slice none 0 0) (.slice none 0 0) 0 0) 29, blk b1 (ledV (.slice (some ⟨fb, 0, none⟩) l.length fc) (.slice (some ⟨gb, 0, none⟩) r.length gc) bu su) 29]) (Weak.refl _) ?_
  refine L_nil ?_
  refine St.env (.cons (t := 1) rfl (.cons (t := 2) rfl .nil)) ?_
  refine Q_then ?_
  refine R_seq ?_
  refine R_region ?_
  refine L_val rfl rfl rfl (V_loadAgg rfl rfl ty_ag_29 (Rds.blk .h1) (rfl)) ?_
  refine L_op rfl (W_storeAll rfl rfl rfl rfl ty_ag_29 (rfl) (ledV_one _ _ _ _ rfl rfl) .h0 (rfl) ?_)
  refine L_nil ?_
  refine St.env (.cons (t := 2) rfl .nil) ?_
  refine Q_then ?_
  refine R_ret ?_
  exact R_endV rfl rfl (.cell rfl (Rds.loadVar ty_ag_29 (Rds.blk .h0) rfl) .nil) (rfl)
theorem kept_ok {gl : Nat → Obj} (fb fc gb gc : Nat) (l : List Acc) (r : List Rel) (bu su : Int) (hfc : l.length + 2 ≤ fc) (hgc : r.length + 2 ≤ gc) (hm : l.length ≤ 3518437208800) (hm' : r.length ≤ 4398046511000) (base : Option Addr) (c : Nat) (base' : Option Addr) (c' : Nat) (hc : l.length ≤ c) (hc' : r.length ≤ c') : SpecV (cx gl) 17 [.agg (ledV (.slice (some ⟨fb, 0, none⟩) (l.length + 2) fc) (.slice (some ⟨gb, 0, none⟩) (r.length + 2) gc) bu su).toArray, .agg (ledV (.slice base l.length c) (.slice base' r.length c') bu su).toArray] (fun w => Row w (some ⟨fb, 0, none⟩) (rc (l ++ amk)) ∧ Row w (some ⟨gb, 0, none⟩) (rc (r ++ rmk)) ∧ Row w base (rc l) ∧ Row w base' (rc r)) (.bool true) := by
  refine Spec.enter (C := cx gl) Try.func17 rfl 55 rfl rfl fun w0 h0 hsep hsub hpre => ?_
  obtain rfl : h0 = Heap.none := hsep
  show St (cx gl) _ [(0, .agg (ledV (.slice (some ⟨fb, 0, none⟩) (l.length + 2) fc) (.slice (some ⟨gb, 0, none⟩) (r.length + 2) gc) bu su).toArray), (1, .agg (ledV (.slice base l.length c) (.slice base' r.length c') bu su).toArray)] _ _
  refine R_seq ?_
  refine R_region ?_
  refine L_op rfl (W_box (ledV (.slice (some ⟨fb, 0, none⟩) (l.length + 2) fc) (.slice (some ⟨gb, 0, none⟩) (r.length + 2) gc) bu su) rfl rfl rfl rfl rfl fun b2 => ?_)
  refine L_op rfl (W_box (ledV (.slice base l.length c) (.slice base' r.length c') bu su) rfl rfl rfl rfl rfl fun b3 => ?_)
  refine L_val rfl rfl rfl (OpP.v (P_assign rfl rfl)) ?_
  refine L_nil ?_
  refine St.env (.cons (t := 2) rfl (.cons (t := 3) rfl (.cons (t := 4) rfl .nil))) ?_
  refine Q_then ?_
  refine R_seq ?_
  refine R_region ?_
  refine L_val rfl rfl rfl (OpP.v (P_fld0 rfl ty_fl_29_0 rfl)) ?_
  refine L_val rfl rfl rfl (V_load rfl rfl ty_sc_22 (Rd.blk .h0 rfl)) ?_
  refine L_val rfl rfl rfl (OpP.v (P_len rfl ty_sl_22 rfl)) ?_
  refine L_val rfl rfl rfl (OpP.v (P_assign rfl rfl)) ?_
  refine L_nil ?_
  refine St.env (.cons (t := 2) rfl (.cons (t := 3) rfl (.cons (t := 4) rfl (.cons (t := 5) rfl .nil)))) ?_
  refine Q_then ?_
  refine R_seq ?_
  refine R_region ?_
  refine L_val rfl rfl rfl (OpP.v (P_fld0 rfl ty_fl_29_1 rfl)) ?_
  refine L_val rfl rfl rfl (V_load rfl rfl ty_sc_27 (Rd.blk .h0 rfl)) ?_
  refine L_val rfl rfl rfl (OpP.v (P_len rfl ty_sl_27 rfl)) ?_
  refine L_val rfl rfl rfl (OpP.v (P_assign rfl rfl)) ?_
  refine L_nil ?_
  refine St.env (.cons (t := 2) rfl (.cons (t := 3) rfl (.cons (t := 4) rfl (.cons (t := 5) rfl (.cons (t := 6) rfl .nil))))) ?_
  refine Q_then ?_
  refine R_seq ?_
  refine R_open [(0, 1), (2, 1), (1, 2), (3, 2), (4, 0), (5, 0), (6, 1), (7, 0), (8, 0), (9, 0), (10, 1), (11, 0), (12, 0), (13, 0), (14, 0), (15, 1), (16, 0), (17, 0), (18, 0), (19, 0), (20, 1), (21, 0), (22, 0), (23, 0), (24, 0), (25, 1), (26, 0), (27, 0), (28, 0), (29, 1), (30, 0), (31, 0), (32, 0), (33, 0), (34, 1), (35, 0), (36, 0), (37, 0), (38, 0), (39, 1), (40, 0), (41, 0), (42, 0)] mixed (by kernel_rfl) (QOk.then QOk.body) ?_
  refine O_val rfl rfl rfl rfl (V_loadAgg rfl rfl ty_ag_29 (Rds.blk .h1) (rfl)) ?_
  refine O_val rfl rfl rfl rfl (V_loadAgg rfl rfl ty_ag_29 (Rds.blk .h0) (rfl)) ?_
  refine O_keep rfl rfl (W_callV rfl rfl rfl rfl fn_ca_12 (cut_ok fb fc gb gc l r bu su hfc hgc hm hm') (fun _ _ => trivial) (K_keep (Weak.refl _) ?_))
  refine O_keep rfl rfl (W_callV rfl rfl rfl rfl fn_ca_16 (sameL_ok (some ⟨fb, 0, none⟩) (some ⟨gb, 0, none⟩) base base' fc gc c c' l r bu su (by omega) (by omega) hc hc' (by omega) (by omega)) (fun w nw => ⟨(Sn.row (row_left hpre.1) rfl).rw_ w nw, (Sn.row (row_left hpre.2.1) rfl).rw_ w nw, (Sn.row hpre.2.2.1 rfl).rw_ w nw, (Sn.row hpre.2.2.2 rfl).rw_ w nw⟩) (K_keep (Weak.refl _) ?_))
  refine E_true (t := 16) rfl (rfl) ?_
  refine O_pure rfl rfl rfl rfl (P_move rfl rfl) ?_
  refine O_pure rfl rfl rfl rfl (P_fld0 rfl ty_fl_29_0 rfl) ?_
  refine O_val rfl rfl rfl rfl (V_load rfl rfl ty_sc_22 (Rd.blk .h1 rfl)) ?_
  refine O_pure rfl rfl rfl rfl (P_move rfl rfl) ?_
  refine O_pure rfl rfl rfl rfl (P_ixs (l.length) rfl ty_sl_22 rfl rfl (by first | rfl | omega) (by omega)) ?_
  refine O_pure rfl rfl rfl rfl (P_fld rfl ty_fl_39_0 rfl) ?_
  refine O_val rfl rfl rfl rfl (V_load rfl rfl ty_sc_35 (rd_rc (Rds.row (row_at hpre.1) (by rfl)) (mk_at0 l amk rfl) rfl)) ?_
  refine O_pure rfl rfl rfl rfl (P_eql rfl rfl rfl) ?_
  refine E_true (t := 24) rfl (rfl) ?_
  refine O_pure rfl rfl rfl rfl (P_pick rfl rfl rfl) ?_
  refine O_pure rfl rfl rfl rfl (P_move rfl rfl) ?_
  refine O_pure rfl rfl rfl rfl (P_fld0 rfl ty_fl_29_0 rfl) ?_
  refine O_val rfl rfl rfl rfl (V_load rfl rfl ty_sc_22 (Rd.blk .h1 rfl)) ?_
  refine O_pure rfl rfl rfl rfl (P_move rfl rfl) ?_
  first | (refine O_pure rfl rfl rfl rfl (P_addN rfl rfl rfl (by simp only [fits]; omega)) ?_) | (refine O_pure rfl rfl rfl rfl (P_add rfl rfl rfl) ?_)
  refine O_pure rfl rfl rfl rfl (P_ixs (l.length + 1) rfl ty_sl_22 rfl rfl (by first | rfl | omega) (by omega)) ?_
  refine O_pure rfl rfl rfl rfl (P_fld rfl ty_fl_39_0 rfl) ?_
  refine O_val rfl rfl rfl rfl (V_load rfl rfl ty_sc_35 (rd_rc (Rds.row (row_at hpre.1) (by rfl)) (mk_at1 l amk rfl) rfl)) ?_
  refine O_pure rfl rfl rfl rfl (P_eql rfl rfl rfl) ?_
  refine E_true (t := 34) rfl (rfl) ?_
  refine O_pure rfl rfl rfl rfl (P_pick rfl rfl rfl) ?_
  refine O_pure rfl rfl rfl rfl (P_move rfl rfl) ?_
  refine O_pure rfl rfl rfl rfl (P_fld0 rfl ty_fl_29_1 rfl) ?_
  refine O_val rfl rfl rfl rfl (V_load rfl rfl ty_sc_27 (Rd.blk .h1 rfl)) ?_
  refine O_pure rfl rfl rfl rfl (P_move rfl rfl) ?_
  refine O_pure rfl rfl rfl rfl (P_ixs (r.length) rfl ty_sl_27 rfl rfl (by first | rfl | omega) (by omega)) ?_
  refine O_pure rfl rfl rfl rfl (P_fld rfl ty_fl_62_1 rfl) ?_
  refine O_val rfl rfl rfl rfl (V_load rfl rfl ty_sc_35 (rd_rc (Rds.row (row_at hpre.2.1) (by rfl)) (mk_at0 r rmk rfl) rfl)) ?_
  refine O_pure rfl rfl rfl rfl (P_eql rfl rfl rfl) ?_
  refine E_true (t := 43) rfl (rfl) ?_
  refine O_pure rfl rfl rfl rfl (P_pick rfl rfl rfl) ?_
  refine O_pure rfl rfl rfl rfl (P_move rfl rfl) ?_
  refine O_pure rfl rfl rfl rfl (P_fld0 rfl ty_fl_29_1 rfl) ?_
  refine O_val rfl rfl rfl rfl (V_load rfl rfl ty_sc_27 (Rd.blk .h1 rfl)) ?_
  refine O_pure rfl rfl rfl rfl (P_move rfl rfl) ?_
  first | (refine O_pure rfl rfl rfl rfl (P_addN rfl rfl rfl (by simp only [fits]; omega)) ?_) | (refine O_pure rfl rfl rfl rfl (P_add rfl rfl rfl) ?_)
  refine O_pure rfl rfl rfl rfl (P_ixs (r.length + 1) rfl ty_sl_27 rfl rfl (by first | rfl | omega) (by omega)) ?_
  refine O_pure rfl rfl rfl rfl (P_fld rfl ty_fl_62_1 rfl) ?_
  refine O_val rfl rfl rfl rfl (V_load rfl rfl ty_sc_35 (rd_rc (Rds.row (row_at hpre.2.1) (by rfl)) (mk_at1 r rmk rfl) rfl)) ?_
  refine O_pure rfl rfl rfl rfl (P_eql rfl rfl rfl) ?_
  refine E_true (t := 53) rfl (rfl) ?_
  refine O_pure rfl rfl rfl rfl (P_pick rfl rfl rfl) ?_
  refine O_pure rfl rfl rfl rfl (P_assign rfl rfl) ?_
  refine O_nil ?_
  refine St.env (.cons (t := 4) rfl .nil) ?_
  refine Q_then ?_
  refine R_ret ?_
  exact R_endV rfl rfl (.tmp rfl .nil) (rfl)
end Go.Proofs.Ytfhjhaogmdaepaa
