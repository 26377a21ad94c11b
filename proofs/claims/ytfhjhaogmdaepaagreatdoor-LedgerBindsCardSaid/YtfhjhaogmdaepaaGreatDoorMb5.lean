/- Texts that ledgerBinds_holds leans on, part 5: each says at its head what it holds; no condition beyond its theorems' own. -/
import Derived.Test.YtfhjhaogmdaepaaGreatDoorMb4
/- The reference: accounts, sums, rows, places. Printed by gen.py. -/
set_option linter.unusedVariables false
set_option linter.unusedSimpArgs false
set_option maxRecDepth 100000
namespace Go.Proofs.YtfhjhaogmdaepaaGreatDoor
open Go Go.RowKit Go.Proofs
def raccE (l : List Acc) : Int := if 65536 < l.length then 86 else accE l
/-- Balances and bonds, one by one. -/
def sumL (l : List Acc) : List Int := l.flatMap fun x => [x.bal, x.bond]
theorem sumL_snoc {l : List Acc} {i : Nat} {x : Acc} (h : l[i]? = some x) : sumL (l.take (i + 1)) = sumL (l.take i) ++ [x.bal, x.bond] := by
 unfold sumL; rw [List.take_add_one, h, List.flatMap_append]; rfl
theorem sumL_sum (l : List Acc) : (sumL l).sum = sumA l := by
 induction l with
 | nil => rfl
 | cons x l ih => rw [sumA_cons, ← ih]; show x.bal + (x.bond + (sumL l).sum) = _; omega
theorem sumL_nn {l : List Acc} (h : ∀ x ∈ l, x.ok) : ∀ y ∈ sumL l, 0 ≤ y := by
 intro y hy
 obtain ⟨x, hx, hy⟩ := List.mem_flatMap.1 hy
 simp only [List.mem_cons, List.not_mem_nil, or_false] at hy
 obtain ⟨_, ⟨h2, _⟩, ⟨h3, _⟩, _⟩ := h x hx
 rcases hy with rfl | rfl <;> assumption
theorem amts_nn {l : List Rel} (h : ∀ x ∈ l, x.ok) : ∀ y ∈ l.map Rel.amt, 0 ≤ y := by
 intro y hy
 obtain ⟨x, hx, rfl⟩ := List.mem_map.1 hy
 exact (h x hx).2.2.2.1
theorem amts_snoc {l : List Rel} {i : Nat} {x : Rel} (h : l[i]? = some x) : (l.take (i + 1)).map Rel.amt = (l.take i).map Rel.amt ++ [x.amt] := by
 rw [List.take_add_one, h, List.map_append]; rfl
theorem addC_nn {t x : Int} (ht : 0 ≤ t) (hx : 0 ≤ x) : 0 ≤ addC t x := by
 unfold addC; split
 ·decide
 ·omega
theorem capF_nn : ∀ (l : List Int) (t : Int), (∀ x ∈ l, 0 ≤ x) → 0 ≤ t → 0 ≤ capF t l
 | [], _, _, h => h
 | x :: l, t, hl, h => capF_nn l _ (fun y hy => hl y (by simp [hy])) (addC_nn h (hl x (by simp)))
/-- What the document's sum answers. -/
def totC (l : List Acc) (r : List Rel) (bu : Int) : Int := capF (capF (addC 0 bu) (sumL l)) (r.map Rel.amt)
theorem totC_spec {l : List Acc} {r : List Rel} {bu : Int} (hl : ∀ x ∈ l, x.ok) (hr : ∀ x ∈ r, x.ok) (hb : 0 ≤ bu) : (totC l r bu ≤ MS ↔ bu + sumA l + sumR r ≤ MS) ∧ (totC l r bu ≤ MS → totC l r bu = bu + sumA l + sumR r) := by
 have h := capF_spec (l := bu :: (sumL l ++ r.map Rel.amt)) (fun x hx => by
  rcases List.mem_cons.1 hx with rfl | hx
  ·exact hb
  ·rcases List.mem_append.1 hx with hx | hx
   ·exact sumL_nn hl x hx
   ·exact amts_nn hr x hx) 0 (Int.le_refl _)
 have e : capF 0 (bu :: (sumL l ++ r.map Rel.amt)) = totC l r bu := by
  show capF (addC 0 bu) (sumL l ++ r.map Rel.amt) = _
  rw [capF_app]; rfl
 have e2 : (0 : Int) + (bu :: (sumL l ++ r.map Rel.amt)).sum = bu + sumA l + sumR r := by
  rw [List.sum_cons, List.sum_append, sumL_sum]; show 0 + (bu + (sumA l + sumR r)) = _; omega
 rw [e, e2] at h
 exact h
theorem laterB_no (x y : Rel) : laterB x y = false ↔ ¬ (y.h < x.h ∨ (x.h = y.h ∧ y.a < x.a)) := by
 unfold laterB
 rw [← Bool.not_eq_true, Bool.or_eq_true, Bool.and_eq_true, decide_eq_true_eq, decide_eq_true_eq, decide_eq_true_eq]
def isAz (a : Int) (x : Acc) : Bool := decide (x.a = a) && decide (a ≠ 0)
theorem isAz_idx (l : List Acc) (a : Int) : idxG (isAz a) l = if a = 0 then -1 else idxG (isAc a) l := by
 split
 ·rename_i h
  exact idxG_none fun j m' _ _ => by unfold isAz; rw [decide_eq_false (p := a ≠ 0) (fun h9 => h9 h), Bool.and_false]
 ·rename_i h
  have : isAz a = isAc a := by funext x; unfold isAz isAc; rw [decide_eq_true h, Bool.and_true]
  rw [this]
theorem radd_ok {gl : Nat → Obj} (t x : Int) (ht : 0 ≤ t) (hx : 0 ≤ x) : SpecV (cx gl) 133 [.int .u64 t, .int .u64 x] noPre (.int .u64 (addC t x)) := by
 refine Spec.enter (C := cx gl) Tryz.func133 rfl 14 rfl rfl fun w0 h0 hsep hsub hpre => ?_
 obtain rfl : h0 = Heap.none := hsep
 show St (cx gl) _ [(0, .int .u64 t), (1, .int .u64 x)] _ _
 have hms : MS = 1152921504606846975 := rfl
 refine R_seq ?_
 refine R_region ?_
 refine L_val rfl rfl rfl (OpP.v (P_assign rfl rfl)) ?_
 refine L_nil ?_
 refine Q_then ?_
 refine R_seq ?_
 refine R_seq ?_
 refine R_region ?_
 refine L_val rfl rfl rfl (OpP.v (P_move rfl rfl)) ?_
 refine L_val rfl rfl rfl (OpP.v (P_gtr rfl rfl rfl)) ?_
 refine E_bool (t := 6) rfl (fun q1 => ?_) (fun q1 => ?_)
 ·skip
  have q1 := of_decide_eq_true q1
  refine L_val rfl rfl rfl (OpP.v (P_move rfl rfl)) ?_
  refine L_no rfl rfl rfl ?_
  refine L_no rfl rfl rfl ?_
  refine L_val rfl rfl rfl (OpP.v (P_pick rfl rfl rfl)) ?_
  refine L_nil ?_
  refine St.env (.cons (t := 0) rfl (.cons (t := 1) rfl (.cons (t := 4) rfl (.cons (t := 10) rfl .nil)))) ?_
  refine Q_then ?_
  refine R_condT rfl ?_
  refine R_seq ?_
  refine R_region ?_
  refine L_val rfl rfl rfl (OpP.v (P_assign rfl rfl)) ?_
  refine L_nil ?_
  refine St.env (.cons (t := 0) rfl (.cons (t := 1) rfl (.cons (t := 4) rfl .nil))) ?_
  refine Q_then ?_
  refine R_ret ?_
  refine Q_then_ret ?_
  exact R_endV rfl rfl (.tmp rfl .nil) (by unfold addC; rw [if_pos (by rw [hms]; omega)]; rfl)
 ·skip
  have q1 := of_decide_eq_false q1
  refine L_val rfl rfl rfl (OpP.v (P_move rfl rfl)) ?_
  refine L_val rfl rfl rfl (OpP.v (P_move rfl rfl)) ?_
  refine L_val rfl rfl rfl (OpP.v (P_gtr rfl rfl rfl)) ?_
  refine L_val rfl rfl rfl (OpP.v (P_pick rfl rfl rfl)) ?_
  refine L_nil ?_
  refine St.env (.cons (t := 0) rfl (.cons (t := 1) rfl (.cons (t := 4) rfl (.cons (t := 10) rfl .nil)))) ?_
  refine Q_then ?_
  refine R_condP rfl (fun q2 => ?_) (fun q2 => ?_)
  ·skip
   refine R_seq ?_
   refine R_region ?_
   refine L_val rfl rfl rfl (OpP.v (P_assign rfl rfl)) ?_
   refine L_nil ?_
   refine St.env (.cons (t := 0) rfl (.cons (t := 1) rfl (.cons (t := 4) rfl .nil))) ?_
   refine Q_then ?_
   refine R_ret ?_
   refine Q_then_ret ?_
   exact R_endV rfl rfl (.tmp rfl .nil) (by unfold addC; rw [if_pos (by rw [hms]; omega)]; rfl)
  ·skip
   refine R_skip ?_
   refine Q_then ?_
   refine R_seq ?_
   refine R_region ?_
   refine L_val rfl rfl rfl (OpP.v (P_move rfl rfl)) ?_
   refine L_val rfl rfl rfl (OpP.v (P_move rfl rfl)) ?_
   refine L_val rfl rfl rfl (OpP.v (P_addN rfl rfl rfl (by simp only [fits]; omega))) ?_
   refine L_val rfl rfl rfl (OpP.v (P_assign rfl rfl)) ?_
   refine L_nil ?_
   refine St.env (.cons (t := 4) rfl .nil) ?_
   refine Q_then ?_
   refine R_ret ?_
   exact R_endV rfl rfl (.tmp rfl .nil) (by unfold addC; rw [if_neg (by rw [hms]; omega)]; rfl)
theorem racc_ok {gl : Nat → Obj} (base : Option Addr) (c : Nat) (l : List Acc) (hc : l.length ≤ c) (hm : l.length ≤ 3518437208883) : SpecV (cx gl) 69 [.slice base l.length c] (fun w => Row w base (rc l)) (.int .i64 (raccE l)) := by
 refine Spec.enter (C := cx gl) Tryz.func69 rfl 49 rfl rfl fun w0 h0 hsep hsub hpre => ?_
 obtain rfl : h0 = Heap.none := hsep
 show St (cx gl) _ [(0, .slice base l.length c)] _ _
 have hms : MS = 1152921504606846975 := rfl
 refine R_seq ?_
 refine R_region ?_
 refine L_val rfl rfl rfl (OpP.v (P_assign rfl rfl)) ?_
 refine L_nil ?_
 refine Q_then ?_
 refine R_seq ?_
 refine R_seq ?_
 refine R_region ?_
 refine L_val rfl rfl rfl (OpP.v (P_move rfl rfl)) ?_
 refine L_val rfl rfl rfl (OpP.v (P_len rfl ty_sl_22 rfl)) ?_
 refine L_val rfl rfl rfl (OpP.v (P_gtr rfl rfl rfl)) ?_
 refine L_nil ?_
 refine St.env (.cons (t := 0) rfl (.cons (t := 2) rfl (.cons (t := 6) rfl .nil))) ?_
 refine Q_then ?_
 refine R_condP rfl (fun hbig => ?_) (fun hbig => ?_)
 ·skip
  refine R_seq ?_
  refine R_region ?_
  refine L_val rfl rfl rfl (OpP.v (P_assign rfl rfl)) ?_
  refine L_nil ?_
  refine St.env (.cons (t := 0) rfl (.cons (t := 2) rfl .nil)) ?_
  refine Q_then ?_
  refine R_ret ?_
  refine Q_then_ret ?_
  exact R_endV rfl rfl (.tmp rfl .nil) (by unfold raccE; rw [if_pos (by omega)]; rfl)
 ·skip
  have hbig : ¬ 65536 < l.length := by omega
  refine R_skip ?_
  refine Q_then ?_
  refine R_seq ?_
  refine R_seq ?_
  refine R_region ?_
  refine L_val rfl rfl rfl (OpP.v (P_assign rfl rfl)) ?_
  refine L_nil ?_
  refine St.env (.cons (t := 0) rfl (.cons (t := 2) rfl (.cons (t := 3) rfl .nil))) ?_
  refine Q_then ?_
  refine R_block ?_
  refine R_loopE (G := Nat) (.cons (t := 0) rfl (.cons (t := 2) rfl .nil)) (fun g => [(3, .int .i64 (g : Int))]) (fun _ => _) (fun g => g ≤ l.length ∧ firstE (accBad l) g = 0) (fun g => l.length - g) (0) (by show (0) ≤ l.length ∧ firstE (accBad l) (0) = 0; exact ⟨Nat.zero_le _, rfl⟩) (by repeat (first | exact .nil | refine .cons rfl ?_ | refine .consE rfl (by first | rfl | (congr 1; omega) | (congr 1; push_cast; omega)) ?_)) (Weak.refl _) ?_
  intro i hinv
  replace hinv : i ≤ l.length ∧ firstE (accBad l) i = 0 := hinv
  show St (cx gl) _ ((3, .int .i64 (i : Int)) :: _) _ _
  obtain ⟨hi, h0⟩ := hinv
  refine R_seq ?_
  refine R_seq ?_
  refine R_region ?_
  refine L_val rfl rfl rfl (OpP.v (P_move rfl rfl)) ?_
  refine L_val rfl rfl rfl (OpP.v (P_move rfl rfl)) ?_
  refine L_val rfl rfl rfl (OpP.v (P_len rfl ty_sl_22 rfl)) ?_
  refine L_val rfl rfl rfl (OpP.v (P_lss rfl rfl rfl)) ?_
  refine L_nil ?_
  refine Q_then ?_
  refine R_condP rfl (fun hlt => ?_) (fun hlt => ?_)
  ·skip
   have hx0 := accAt_get (l := l) (i := i) (by omega)
   obtain ⟨x, ex⟩ : ∃ x, x = accAt l i := ⟨_, rfl⟩
   have hx : l[i]? = some x := by rw [ex]; exact hx0
   obtain ⟨pb, pj, rfl, hrow⟩ := hpre.some_ (by rw [rc_length]; show 0 < _ * 5; omega)
   refine R_skip ?_
   refine Q_then ?_
   refine R_seq ?_
   refine R_block ?_
   refine R_seq ?_
   refine R_seq ?_
   refine R_region ?_
   refine L_val rfl rfl rfl (OpP.v (P_move rfl rfl)) ?_
   refine L_val rfl rfl rfl (OpP.v (P_move rfl rfl)) ?_
   refine L_val rfl rfl rfl (OpP.v (P_ixs (i) rfl ty_sl_22 rfl rfl (by first | rfl | omega) (by omega))) ?_
   refine L_val rfl rfl rfl (OpP.v (P_fld rfl ty_fl_38_0 rfl)) ?_
   refine L_val rfl rfl rfl (V_load rfl rfl ty_sc_27 (rd_rc (Rds.row hrow rfl) hx rfl)) ?_
   refine L_val rfl rfl rfl (OpP.v (P_eql rfl rfl rfl)) ?_
   refine L_nil ?_
   refine Q_then ?_
   refine R_condP rfl (fun ha => ?_) (fun ha => ?_)
   ·skip
    refine R_seq ?_
    refine R_region ?_
    refine L_val rfl rfl rfl (OpP.v (P_assign rfl rfl)) ?_
    refine L_nil ?_
    refine Q_then ?_
    refine R_ret ?_
    refine Q_then_ret ?_
    refine Q_block_ret ?_
    refine Q_then_ret ?_
    refine Q_then_ret ?_
    refine Q_block_ret ?_
    refine Q_then_ret ?_
    exact R_endV rfl rfl (.tmp rfl .nil) (by unfold raccE; rw [if_neg hbig, show accE l = 85 from firstE_hit h0 (show accBad l i = 85 by unfold accBad; rw [← ex]; rw [if_pos ha]) (by decide) (by omega)]; rfl)
   ·skip
    refine R_skip ?_
    refine Q_then ?_
    refine R_seq ?_
    refine R_seq ?_
    refine R_open [(0, 0), (1, 0), (2, 0), (3, 0), (4, 0), (5, 0), (6, 0), (7, 1), (8, 0), (9, 0), (10, 0), (11, 0), (12, 0), (13, 1), (14, 0), (15, 0)] mixed (by kernel_rfl) (QOk.then (QOk.then (QOk.block (QOk.then (QOk.then (QOk.block (QOk.then QOk.body))))))) ?_
    refine O_pure rfl rfl rfl rfl (P_move rfl rfl) ?_
    refine O_pure rfl rfl rfl rfl (P_gtr rfl rfl rfl) ?_
    refine E_bool (t := 20) rfl (fun hi0 => ?_) (fun hi0 => ?_)
    ·skip
     have hi0 : 0 < i := by have := of_decide_eq_true hi0; omega
     obtain ⟨y, ey⟩ : ∃ y, y = accAt l (i - 1) := ⟨_, rfl⟩
     have hy : l[i - 1]? = some y := by rw [ey]; exact accAt_get (by omega)
     refine O_pure rfl rfl rfl rfl (P_move rfl rfl) ?_
     refine O_pure rfl rfl rfl rfl (P_move rfl rfl) ?_
     refine O_pure rfl rfl rfl rfl (P_move rfl rfl) ?_
     refine O_pure rfl rfl rfl rfl (P_ixs (i) rfl ty_sl_22 rfl rfl (by first | rfl | omega) (by omega)) ?_
     refine O_pure rfl rfl rfl rfl (P_fld rfl ty_fl_38_0 rfl) ?_
     refine O_val rfl rfl rfl rfl (V_load rfl rfl ty_sc_27 (rd_rc (Rds.row hrow rfl) hx rfl)) ?_
     refine O_pure rfl rfl rfl rfl (P_move rfl rfl) ?_
     refine O_pure rfl rfl rfl rfl (P_move rfl rfl) ?_
     first | (refine O_pure rfl rfl rfl rfl (P_subN rfl rfl rfl (by simp only [fits]; omega)) ?_) | (refine O_pure rfl rfl rfl rfl (P_sub rfl rfl rfl) ?_)
     refine O_pure rfl rfl rfl rfl (P_ixs (i - 1) rfl ty_sl_22 rfl rfl (by first | rfl | omega) (by omega)) ?_
     refine O_pure rfl rfl rfl rfl (P_fld rfl ty_fl_38_0 rfl) ?_
     refine O_val rfl rfl rfl rfl (V_load rfl rfl ty_sc_27 (rd_rc (Rds.row hrow rfl) hy rfl)) ?_
     refine O_pure rfl rfl rfl rfl (P_leq rfl rfl rfl) ?_
     refine O_pure rfl rfl rfl rfl (P_pick rfl rfl rfl) ?_
     refine O_nil ?_
     refine Q_then ?_
     refine R_condP rfl (fun hle => ?_) (fun hle => ?_)
     ·skip
      refine R_seq ?_
      refine R_region ?_
      refine L_val rfl rfl rfl (OpP.v (P_assign rfl rfl)) ?_
      refine L_nil ?_
      refine Q_then ?_
      refine R_ret ?_
      refine Q_then_ret ?_
      refine Q_block_ret ?_
      refine Q_then_ret ?_
      refine Q_then_ret ?_
      refine Q_block_ret ?_
      refine Q_then_ret ?_
      exact R_endV rfl rfl (.tmp rfl .nil) (by unfold raccE; rw [if_neg hbig, show accE l = 42 from firstE_hit h0 (show accBad l i = 42 by unfold accBad; rw [← ex]; rw [if_neg ha, if_pos ⟨hi0, by rw [← ey]; exact hle⟩]) (by decide) (by omega)]; rfl)
     ·skip
      have hn42 : ¬ (0 < i ∧ x.a ≤ (accAt l (i - 1)).a) := by rw [← ey]; omega
      refine R_skip ?_
      refine Q_then ?_
      refine R_seq ?_
      refine R_region ?_
      refine L_val rfl rfl rfl (OpP.v (P_move rfl rfl)) ?_
      refine L_val rfl rfl rfl (OpP.v (P_move rfl rfl)) ?_
      refine L_val rfl rfl rfl (OpP.v (P_ixs (i) rfl ty_sl_22 rfl rfl (by first | rfl | omega) (by omega))) ?_
      refine L_val rfl rfl rfl (OpP.v (P_fld rfl ty_fl_38_1 rfl)) ?_
      refine L_val rfl rfl rfl (V_load rfl rfl ty_sc_24 (rd_rc (Rds.row hrow rfl) hx rfl)) ?_
      refine L_val rfl rfl rfl (OpP.v (P_gtr rfl rfl rfl)) ?_
      refine E_bool (t := 40) rfl (fun hb => ?_) (fun hb => ?_)
      ·skip
       have hb := of_decide_eq_true hb
       refine L_val rfl rfl rfl (OpP.v (P_move rfl rfl)) ?_
       refine L_no rfl rfl rfl ?_
       refine L_no rfl rfl rfl ?_
       refine L_no rfl rfl rfl ?_
       refine L_no rfl rfl rfl ?_
       refine L_no rfl rfl rfl ?_
       refine L_no rfl rfl rfl ?_
       refine L_val rfl rfl rfl (OpP.v (P_pick rfl rfl rfl)) ?_
       refine L_nil ?_
       refine Q_then ?_
       refine R_condT rfl ?_
       refine R_seq ?_
       refine R_region ?_
       refine L_val rfl rfl rfl (OpP.v (P_assign rfl rfl)) ?_
       refine L_nil ?_
       refine Q_then ?_
       refine R_ret ?_
       refine Q_block_ret ?_
       refine Q_then_ret ?_
       refine Q_then_ret ?_
       refine Q_block_ret ?_
       refine Q_then_ret ?_
       exact R_endV rfl rfl (.tmp rfl .nil) (by unfold raccE; rw [if_neg hbig, show accE l = 87 from firstE_hit h0 (show accBad l i = 87 by unfold accBad; rw [← ex]; rw [if_neg ha, if_neg hn42, if_pos (by rw [hms]; omega)]) (by decide) (by omega)]; rfl)
      ·skip
       have hb := of_decide_eq_false hb
       refine L_val rfl rfl rfl (OpP.v (P_move rfl rfl)) ?_
       refine L_val rfl rfl rfl (OpP.v (P_move rfl rfl)) ?_
       refine L_val rfl rfl rfl (OpP.v (P_move rfl rfl)) ?_
       refine L_val rfl rfl rfl (OpP.v (P_ixs (i) rfl ty_sl_22 rfl rfl (by first | rfl | omega) (by omega))) ?_
       refine L_val rfl rfl rfl (OpP.v (P_fld rfl ty_fl_38_2 rfl)) ?_
       refine L_val rfl rfl rfl (V_load rfl rfl ty_sc_24 (rd_rc (Rds.row hrow rfl) hx rfl)) ?_
       refine L_val rfl rfl rfl (OpP.v (P_gtr rfl rfl rfl)) ?_
       refine L_val rfl rfl rfl (OpP.v (P_pick rfl rfl rfl)) ?_
       refine L_nil ?_
       refine Q_then ?_
       refine R_condP rfl (fun hd => ?_) (fun hd => ?_)
       ·skip
        refine R_seq ?_
        refine R_region ?_
        refine L_val rfl rfl rfl (OpP.v (P_assign rfl rfl)) ?_
        refine L_nil ?_
        refine Q_then ?_
        refine R_ret ?_
        refine Q_block_ret ?_
        refine Q_then_ret ?_
        refine Q_then_ret ?_
        refine Q_block_ret ?_
        refine Q_then_ret ?_
        exact R_endV rfl rfl (.tmp rfl .nil) (by unfold raccE; rw [if_neg hbig, show accE l = 87 from firstE_hit h0 (show accBad l i = 87 by unfold accBad; rw [← ex]; rw [if_neg ha, if_neg hn42, if_pos (by rw [hms]; omega)]) (by decide) (by omega)]; rfl)
       ·skip
        refine R_skip ?_
        refine Q_block ?_
        refine Q_then ?_
        refine R_region ?_
        refine L_val rfl rfl rfl (OpP.v (P_move rfl rfl)) ?_
        first | (refine L_val rfl rfl rfl (OpP.v (P_addN rfl rfl rfl (by simp only [fits]; omega))) ?_) | (refine L_val rfl rfl rfl (OpP.v (P_add rfl rfl rfl)) ?_)
        refine L_val rfl rfl rfl (OpP.v (P_assign rfl rfl)) ?_
        refine L_nil ?_
        exact Q_round (i + 1) (by show (i + 1) ≤ l.length ∧ firstE (accBad l) (i + 1) = 0; exact ⟨by omega, firstE_next h0 (by unfold accBad; rw [← ex, if_neg ha, if_neg hn42, if_neg (by rw [hms]; omega)])⟩) (by show l.length - (i + 1) < l.length - i; omega) (by repeat (first | exact .nil | refine .cons rfl ?_ | refine .consE rfl (by first | rfl | (congr 1; omega) | (congr 1; push_cast; omega)) ?_)) (Weak.refl _)
    ·skip
     have hi0 : ¬ 0 < i := by have := of_decide_eq_false hi0; omega
     have hn42 : ¬ (0 < i ∧ x.a ≤ (accAt l (i - 1)).a) := by omega
     refine O_pure rfl rfl rfl rfl (P_move rfl rfl) ?_
     refine O_no rfl rfl rfl rfl ?_
     refine O_no rfl rfl rfl rfl ?_
     refine O_no rfl rfl rfl rfl ?_
     refine O_no rfl rfl rfl rfl ?_
     refine O_noX rfl rfl rfl rfl ?_
     refine O_no rfl rfl rfl rfl ?_
     refine O_no rfl rfl rfl rfl ?_
     refine O_no rfl rfl rfl rfl ?_
     refine O_no rfl rfl rfl rfl ?_
     refine O_no rfl rfl rfl rfl ?_
     refine O_noX rfl rfl rfl rfl ?_
     refine O_no rfl rfl rfl rfl ?_
     refine O_pure rfl rfl rfl rfl (P_pick rfl rfl rfl) ?_
     refine O_nil ?_
     refine Q_then ?_
     refine R_condF rfl ?_
     refine R_skip ?_
     refine Q_then ?_
     refine R_seq ?_
     refine R_region ?_
     refine L_val rfl rfl rfl (OpP.v (P_move rfl rfl)) ?_
     refine L_val rfl rfl rfl (OpP.v (P_move rfl rfl)) ?_
     refine L_val rfl rfl rfl (OpP.v (P_ixs (i) rfl ty_sl_22 rfl rfl (by first | rfl | omega) (by omega))) ?_
     refine L_val rfl rfl rfl (OpP.v (P_fld rfl ty_fl_38_1 rfl)) ?_
     refine L_val rfl rfl rfl (V_load rfl rfl ty_sc_24 (rd_rc (Rds.row hrow rfl) hx rfl)) ?_
     refine L_val rfl rfl rfl (OpP.v (P_gtr rfl rfl rfl)) ?_
     refine E_bool (t := 40) rfl (fun hb => ?_) (fun hb => ?_)
     ·skip
      have hb := of_decide_eq_true hb
      refine L_val rfl rfl rfl (OpP.v (P_move rfl rfl)) ?_
      refine L_no rfl rfl rfl ?_
      refine L_no rfl rfl rfl ?_
      refine L_no rfl rfl rfl ?_
      refine L_no rfl rfl rfl ?_
      refine L_no rfl rfl rfl ?_
      refine L_no rfl rfl rfl ?_
      refine L_val rfl rfl rfl (OpP.v (P_pick rfl rfl rfl)) ?_
      refine L_nil ?_
      refine Q_then ?_
      refine R_condT rfl ?_
      refine R_seq ?_
      refine R_region ?_
      refine L_val rfl rfl rfl (OpP.v (P_assign rfl rfl)) ?_
      refine L_nil ?_
      refine Q_then ?_
      refine R_ret ?_
      refine Q_block_ret ?_
      refine Q_then_ret ?_
      refine Q_then_ret ?_
      refine Q_block_ret ?_
      refine Q_then_ret ?_
      exact R_endV rfl rfl (.tmp rfl .nil) (by unfold raccE; rw [if_neg hbig, show accE l = 87 from firstE_hit h0 (show accBad l i = 87 by unfold accBad; rw [← ex]; rw [if_neg ha, if_neg hn42, if_pos (by rw [hms]; omega)]) (by decide) (by omega)]; rfl)
     ·skip
      have hb := of_decide_eq_false hb
      refine L_val rfl rfl rfl (OpP.v (P_move rfl rfl)) ?_
      refine L_val rfl rfl rfl (OpP.v (P_move rfl rfl)) ?_
      refine L_val rfl rfl rfl (OpP.v (P_move rfl rfl)) ?_
      refine L_val rfl rfl rfl (OpP.v (P_ixs (i) rfl ty_sl_22 rfl rfl (by first | rfl | omega) (by omega))) ?_
      refine L_val rfl rfl rfl (OpP.v (P_fld rfl ty_fl_38_2 rfl)) ?_
      refine L_val rfl rfl rfl (V_load rfl rfl ty_sc_24 (rd_rc (Rds.row hrow rfl) hx rfl)) ?_
      refine L_val rfl rfl rfl (OpP.v (P_gtr rfl rfl rfl)) ?_
      refine L_val rfl rfl rfl (OpP.v (P_pick rfl rfl rfl)) ?_
      refine L_nil ?_
      refine Q_then ?_
      refine R_condP rfl (fun hd => ?_) (fun hd => ?_)
      ·skip
       refine R_seq ?_
       refine R_region ?_
       refine L_val rfl rfl rfl (OpP.v (P_assign rfl rfl)) ?_
       refine L_nil ?_
       refine Q_then ?_
       refine R_ret ?_
       refine Q_block_ret ?_
       refine Q_then_ret ?_
       refine Q_then_ret ?_
       refine Q_block_ret ?_
       refine Q_then_ret ?_
       exact R_endV rfl rfl (.tmp rfl .nil) (by unfold raccE; rw [if_neg hbig, show accE l = 87 from firstE_hit h0 (show accBad l i = 87 by unfold accBad; rw [← ex]; rw [if_neg ha, if_neg hn42, if_pos (by rw [hms]; omega)]) (by decide) (by omega)]; rfl)
      ·skip
       refine R_skip ?_
       refine Q_block ?_
       refine Q_then ?_
       refine R_region ?_
       refine L_val rfl rfl rfl (OpP.v (P_move rfl rfl)) ?_
       first | (refine L_val rfl rfl rfl (OpP.v (P_addN rfl rfl rfl (by simp only [fits]; omega))) ?_) | (refine L_val rfl rfl rfl (OpP.v (P_add rfl rfl rfl)) ?_)
       refine L_val rfl rfl rfl (OpP.v (P_assign rfl rfl)) ?_
       refine L_nil ?_
       exact Q_round (i + 1) (by show (i + 1) ≤ l.length ∧ firstE (accBad l) (i + 1) = 0; exact ⟨by omega, firstE_next h0 (by unfold accBad; rw [← ex, if_neg ha, if_neg hn42, if_neg (by rw [hms]; omega)])⟩) (by show l.length - (i + 1) < l.length - i; omega) (by repeat (first | exact .nil | refine .cons rfl ?_ | refine .consE rfl (by first | rfl | (congr 1; omega) | (congr 1; push_cast; omega)) ?_)) (Weak.refl _)
  ·skip
   have hin : i = l.length := by omega
   rw [hin] at h0
   refine R_exit ?_
   refine Q_then_exit ?_
   refine Q_then_exit ?_
   refine Q_block_eq ?_
   refine St.env (.cons (t := 2) rfl .nil) ?_
   refine Q_then ?_
   refine R_seq ?_
   refine R_region ?_
   refine L_val rfl rfl rfl (OpP.v (P_assign rfl rfl)) ?_
   refine L_nil ?_
   refine Q_then ?_
   refine R_ret ?_
   exact R_endV rfl rfl (.tmp rfl .nil) (by unfold raccE; rw [if_neg hbig, show accE l = 0 from h0]; rfl)
theorem rtot_ok {gl : Nat → Obj} (base : Option Addr) (c : Nat) (l : List Acc) (hc : l.length ≤ c)(hm : l.length ≤ 3518437208883)(hok : ∀ x ∈ l, x.ok)(base' : Option Addr) (c' : Nat) (r : List Rel) (hc' : r.length ≤ c')(hm' : r.length ≤ 4398046511104) (hok' : ∀ x ∈ r, x.ok) (bu su : Int) (hbu : u64 bu) : SpecV (cx gl) 70 [.agg (ledV (.slice base l.length c) (.slice base' r.length c') bu su).toArray] (fun w => Row w base (rc l) ∧ Row w base' (rc r)) (.int .u64 (totC l r bu)) := by
 refine Spec.enter (C := cx gl) Tryz.func70 rfl 48 rfl rfl fun w0 h0 hsep hsub hpre => ?_
 obtain rfl : h0 = Heap.none := hsep
 show St (cx gl) _ [(0, .agg (ledV (.slice base l.length c) (.slice base' r.length c') bu su).toArray)] _ _
 refine R_seq ?_
 refine R_region ?_
 refine L_op rfl (W_box (ledV (.slice base l.length c) (.slice base' r.length c') bu su) rfl rfl rfl rfl rfl fun b1 => ?_)
 refine L_val rfl rfl rfl (OpP.v (P_assign rfl rfl)) ?_
 refine L_nil ?_
 refine St.env (.cons (t := 1) rfl (.cons (t := 2) rfl .nil)) ?_
 refine Q_then ?_
 refine R_seq ?_
 refine R_region ?_
 refine L_val rfl rfl rfl (OpP.v (P_fld0 rfl ty_fl_26_2 rfl)) ?_
 refine L_val rfl rfl rfl (V_load rfl rfl ty_sc_24 (Rd.blk .h0 rfl)) ?_
 refine L_op rfl (W_callV rfl rfl rfl rfl fn_ca_133 (radd_ok 0 bu (Int.le_refl _) hbu.1) (fun _ _ => trivial) ?_)
 refine L_val rfl rfl rfl (OpP.v (P_assign rfl rfl)) ?_
 refine L_nil ?_
 refine St.env (.cons (t := 1) rfl (.cons (t := 2) rfl (.cons (t := 3) rfl .nil))) ?_
 refine Q_then ?_
 refine R_seq ?_
 refine R_seq ?_
 refine R_region ?_
 refine L_val rfl rfl rfl (OpP.v (P_assign rfl rfl)) ?_
 refine L_nil ?_
 refine Q_then ?_
 refine R_block ?_
 have hn0 : 0 ≤ addC 0 bu := addC_nn (Int.le_refl _) hbu.1
 refine R_loopE (G := Nat) (.cons (t := 1) rfl (.cons (t := 2) rfl .nil)) (fun g => [(3, .int .u64 (capF (addC 0 bu) (sumL (l.take (g))))), (4, .int .i64 (g : Int))]) (fun _ => _) (fun g => g ≤ l.length) (fun g => l.length - g) (0) (Nat.zero_le _) (by repeat (first | exact .nil | refine .cons rfl ?_ | refine .consE rfl (by first | rfl | (congr 1; omega) | (congr 1; push_cast; omega)) ?_)) (Weak.refl _) ?_
 intro i hinv
 replace hinv : i ≤ l.length := hinv
 show St (cx gl) _ ((3, .int .u64 (capF (addC 0 bu) (sumL (l.take (i))))) :: (4, .int .i64 (i : Int)) :: _) _ _
 refine R_seq ?_
 refine R_seq ?_
 refine R_region ?_
 refine L_val rfl rfl rfl (OpP.v (P_move rfl rfl)) ?_
 refine L_val rfl rfl rfl (OpP.v (P_fld0 rfl ty_fl_26_0 rfl)) ?_
 refine L_val rfl rfl rfl (V_load rfl rfl ty_sc_22 (Rd.blk .h0 rfl)) ?_
 refine L_val rfl rfl rfl (OpP.v (P_len rfl ty_sl_22 rfl)) ?_
 refine L_val rfl rfl rfl (OpP.v (P_lss rfl rfl rfl)) ?_
 refine L_nil ?_
 refine Q_then ?_
 refine R_condP rfl (fun hlt => ?_) (fun hlt => ?_)
 ·skip
  have hi : i ≤ l.length := hinv
  have hx0 := accAt_get (l := l) (i := i) (by omega)
  obtain ⟨x, ex⟩ : ∃ x, x = accAt l i := ⟨_, rfl⟩
  have hx : l[i]? = some x := by rw [ex]; exact hx0
  obtain ⟨pb, pj, rfl, hrow⟩ := hpre.1.some_ (by rw [rc_length]; show 0 < _ * 5; omega)
  obtain ⟨ha1, hb1, hb2, hb3⟩ := hok x (List.mem_of_getElem? hx)
  have hn1 : 0 ≤ capF (addC 0 bu) (sumL (l.take (i))) := capF_nn _ _ (sumL_nn fun y hy => hok y (List.mem_of_mem_take hy)) hn0
  refine R_skip ?_
  refine Q_then ?_
  refine R_seq ?_
  refine R_block ?_
  refine R_seq ?_
  refine R_region ?_
  refine L_val rfl rfl rfl (OpP.v (P_move rfl rfl)) ?_
  refine L_val rfl rfl rfl (OpP.v (P_fld0 rfl ty_fl_26_0 rfl)) ?_
  refine L_val rfl rfl rfl (V_load rfl rfl ty_sc_22 (Rd.blk .h0 rfl)) ?_
  refine L_val rfl rfl rfl (OpP.v (P_move rfl rfl)) ?_
  refine L_val rfl rfl rfl (OpP.v (P_ixs (i) rfl ty_sl_22 rfl rfl (by first | rfl | omega) (by omega))) ?_
  refine L_val rfl rfl rfl (OpP.v (P_fld rfl ty_fl_38_1 rfl)) ?_
  refine L_val rfl rfl rfl (V_load rfl rfl ty_sc_24 (rd_rc (Rds.row hrow rfl) hx rfl)) ?_
  refine L_op rfl (W_callV rfl rfl rfl rfl fn_ca_133 (radd_ok (capF (addC 0 bu) (sumL (l.take (i)))) x.bal hn1 hb1.1) (fun _ _ => trivial) ?_)
  refine L_val rfl rfl rfl (OpP.v (P_assign rfl rfl)) ?_
  refine L_nil ?_
  refine Q_then ?_
  refine R_region ?_
  refine L_val rfl rfl rfl (OpP.v (P_move rfl rfl)) ?_
  refine L_val rfl rfl rfl (OpP.v (P_fld0 rfl ty_fl_26_0 rfl)) ?_
  refine L_val rfl rfl rfl (V_load rfl rfl ty_sc_22 (Rd.blk .h0 rfl)) ?_
  refine L_val rfl rfl rfl (OpP.v (P_move rfl rfl)) ?_
  refine L_val rfl rfl rfl (OpP.v (P_ixs (i) rfl ty_sl_22 rfl rfl (by first | rfl | omega) (by omega))) ?_
  refine L_val rfl rfl rfl (OpP.v (P_fld rfl ty_fl_38_2 rfl)) ?_
  refine L_val rfl rfl rfl (V_load rfl rfl ty_sc_24 (rd_rc (Rds.row hrow rfl) hx rfl)) ?_
  refine L_op rfl (W_callV rfl rfl rfl rfl fn_ca_133 (radd_ok (addC (capF (addC 0 bu) (sumL (l.take (i)))) x.bal) x.bond (addC_nn hn1 hb1.1) hb2.1) (fun _ _ => trivial) ?_)
  refine E_as (t := 31) (v' := .int .u64 (capF (addC 0 bu) (sumL (l.take (i + 1))))) rfl (by rw [sumL_snoc hx, capF_app]; rfl) ?_
  refine L_val rfl rfl rfl (OpP.v (P_assign rfl rfl)) ?_
  refine L_nil ?_
  refine Q_block ?_
  refine Q_then ?_
  refine R_region ?_
  refine L_val rfl rfl rfl (OpP.v (P_move rfl rfl)) ?_
  first | (refine L_val rfl rfl rfl (OpP.v (P_addN rfl rfl rfl (by simp only [fits]; omega))) ?_) | (refine L_val rfl rfl rfl (OpP.v (P_add rfl rfl rfl)) ?_)
  refine L_val rfl rfl rfl (OpP.v (P_assign rfl rfl)) ?_
  refine L_nil ?_
  exact Q_round (i + 1) (by show i + 1 ≤ l.length; omega) (by show l.length - (i + 1) < l.length - i; omega) (by repeat (first | exact .nil | refine .cons rfl ?_ | refine .consE rfl (by first | rfl | (congr 1; omega) | (congr 1; push_cast; omega)) ?_)) (Weak.refl _)
 ·skip
  have hi : i ≤ l.length := hinv
  have hin : i = l.length := by omega
  rw [hin, List.take_length]
  refine R_exit ?_
  refine Q_then_exit ?_
  refine Q_then_exit ?_
  refine Q_block_eq ?_
  refine St.env (.cons (t := 1) rfl (.cons (t := 2) rfl (.cons (t := 3) rfl .nil))) ?_
  refine Q_then ?_
  refine R_seq ?_
  refine R_seq ?_
  refine R_region ?_
  refine L_val rfl rfl rfl (OpP.v (P_assign rfl rfl)) ?_
  refine L_nil ?_
  refine Q_then ?_
  refine R_block ?_
  refine R_loopE (G := Nat) (.cons (t := 1) rfl (.cons (t := 2) rfl .nil)) (fun g => [(3, .int .u64 (capF (capF (addC 0 bu) (sumL l)) ((r.take (g)).map Rel.amt))), (5, .int .i64 (g : Int))]) (fun _ => _) (fun g => g ≤ r.length) (fun g => r.length - g) (0) (Nat.zero_le _) (by repeat (first | exact .nil | refine .cons rfl ?_ | refine .consE rfl (by first | rfl | (congr 1; omega) | (congr 1; push_cast; omega)) ?_)) (Weak.refl _) ?_
  intro i hinv
  replace hinv : i ≤ r.length := hinv
  show St (cx gl) _ ((3, .int .u64 (capF (capF (addC 0 bu) (sumL l)) ((r.take (i)).map Rel.amt))) :: (5, .int .i64 (i : Int)) :: _) _ _
  refine R_seq ?_
  refine R_seq ?_
  refine R_region ?_
  refine L_val rfl rfl rfl (OpP.v (P_move rfl rfl)) ?_
  refine L_val rfl rfl rfl (OpP.v (P_fld0 rfl ty_fl_26_1 rfl)) ?_
  refine L_val rfl rfl rfl (V_load rfl rfl ty_sc_23 (Rd.blk .h0 rfl)) ?_
  refine L_val rfl rfl rfl (OpP.v (P_len rfl ty_sl_23 rfl)) ?_
  refine L_val rfl rfl rfl (OpP.v (P_lss rfl rfl rfl)) ?_
  refine L_nil ?_
  refine Q_then ?_
  refine R_condP rfl (fun hlt => ?_) (fun hlt => ?_)
  ·skip
   have hi : i ≤ r.length := hinv
   have hx0 := relAt_get (l := r) (i := i) (by omega)
   obtain ⟨x, ex⟩ : ∃ x, x = relAt r i := ⟨_, rfl⟩
   have hx : r[i]? = some x := by rw [ex]; exact hx0
   obtain ⟨pb, pj, rfl, hrow⟩ := hpre.2.some_ (by rw [rc_length]; show 0 < _ * 4; omega)
   obtain ⟨ha1, hb1, hb2, hb3⟩ := hok' x (List.mem_of_getElem? hx)
   have hn2 : 0 ≤ capF (capF (addC 0 bu) (sumL l)) ((r.take (i)).map Rel.amt) := capF_nn _ _ (amts_nn fun y hy => hok' y (List.mem_of_mem_take hy)) (capF_nn _ _ (sumL_nn hok) hn0)
   refine R_skip ?_
   refine Q_then ?_
   refine R_seq ?_
   refine R_block ?_
   refine R_region ?_
   refine L_val rfl rfl rfl (OpP.v (P_move rfl rfl)) ?_
   refine L_val rfl rfl rfl (OpP.v (P_fld0 rfl ty_fl_26_1 rfl)) ?_
   refine L_val rfl rfl rfl (V_load rfl rfl ty_sc_23 (Rd.blk .h0 rfl)) ?_
   refine L_val rfl rfl rfl (OpP.v (P_move rfl rfl)) ?_
   refine L_val rfl rfl rfl (OpP.v (P_ixs (i) rfl ty_sl_23 rfl rfl (by first | rfl | omega) (by omega))) ?_
   refine L_val rfl rfl rfl (OpP.v (P_fld rfl ty_fl_135_3 rfl)) ?_
   refine L_val rfl rfl rfl (V_load rfl rfl ty_sc_24 (rd_rc (Rds.row hrow rfl) hx rfl)) ?_
   refine L_op rfl (W_callV rfl rfl rfl rfl fn_ca_133 (radd_ok (capF (capF (addC 0 bu) (sumL l)) ((r.take (i)).map Rel.amt)) x.amt hn2 hb3.1) (fun _ _ => trivial) ?_)
   refine E_as (t := 46) (v' := .int .u64 (capF (capF (addC 0 bu) (sumL l)) ((r.take (i + 1)).map Rel.amt))) rfl (by rw [amts_snoc hx, capF_app]; rfl) ?_
   refine L_val rfl rfl rfl (OpP.v (P_assign rfl rfl)) ?_
   refine L_nil ?_
   refine Q_block ?_
   refine Q_then ?_
   refine R_region ?_
   refine L_val rfl rfl rfl (OpP.v (P_move rfl rfl)) ?_
   first | (refine L_val rfl rfl rfl (OpP.v (P_addN rfl rfl rfl (by simp only [fits]; omega))) ?_) | (refine L_val rfl rfl rfl (OpP.v (P_add rfl rfl rfl)) ?_)
   refine L_val rfl rfl rfl (OpP.v (P_assign rfl rfl)) ?_
   refine L_nil ?_
   exact Q_round (i + 1) (by show i + 1 ≤ r.length; omega) (by show r.length - (i + 1) < r.length - i; omega) (by repeat (first | exact .nil | refine .cons rfl ?_ | refine .consE rfl (by first | rfl | (congr 1; omega) | (congr 1; push_cast; omega)) ?_)) (Weak.refl _)
  ·skip
   have hi : i ≤ r.length := hinv
   have hin : i = r.length := by omega
   rw [hin, List.take_length]
   refine R_exit ?_
   refine Q_then_exit ?_
   refine Q_then_exit ?_
   refine Q_block_eq ?_
   refine St.env (.cons (t := 2) rfl (.cons (t := 3) rfl .nil)) ?_
   refine Q_then ?_
   refine R_seq ?_
   refine R_region ?_
   refine L_val rfl rfl rfl (OpP.v (P_move rfl rfl)) ?_
   refine L_val rfl rfl rfl (OpP.v (P_assign rfl rfl)) ?_
   refine L_nil ?_
   refine St.env (.cons (t := 2) rfl .nil) ?_
   refine Q_then ?_
   refine R_ret ?_
   exact R_endV rfl rfl (.tmp rfl .nil) (rfl)
theorem has_ok {gl : Nat → Obj} (a : Int) (base : Option Addr) (c : Nat) (l : List Acc) (hc : l.length ≤ c) (hm : l.length ≤ 3518437208883) : SpecV (cx gl) 178 [.slice base l.length c, .int .u64 a] (fun w => Row w base (rc l)) (.bool (spotB l a)) := by
 refine Spec.enter (C := cx gl) Tryz.func178 rfl 40 rfl rfl fun w0 h0 hsep hsub hpre => ?_
 obtain rfl : h0 = Heap.none := hsep
 show St (cx gl) _ [(0, .slice base l.length c), (1, .int .u64 a)] _ _
 refine R_seq ?_
 refine R_region ?_
 refine L_val rfl rfl rfl (OpP.v (P_assign rfl rfl)) ?_
 refine L_nil ?_
 refine Q_then ?_
 refine R_seq ?_
 refine R_region ?_
 refine L_val rfl rfl rfl (OpP.v (P_assign rfl rfl)) ?_
 refine L_nil ?_
 refine Q_then ?_
 refine R_seq ?_
 refine R_region ?_
 refine L_val rfl rfl rfl (OpP.v (P_move rfl rfl)) ?_
 refine L_val rfl rfl rfl (OpP.v (P_len rfl ty_sl_22 rfl)) ?_
 refine L_val rfl rfl rfl (OpP.v (P_assign rfl rfl)) ?_
 refine L_nil ?_
 refine St.env (.cons (t := 0) rfl (.cons (t := 1) rfl (.cons (t := 4) rfl (.cons (t := 5) rfl (.cons (t := 6) rfl .nil))))) ?_
 refine Q_then ?_
 refine R_seq ?_
 refine R_block ?_
 refine R_loopE (G := Nat × Nat) (.cons (t := 0) rfl (.cons (t := 1) rfl (.cons (t := 4) rfl .nil))) (fun g => [(5, .int .i64 ((g.1 : Nat) : Int)), (6, .int .i64 ((g.2 : Nat) : Int))]) (fun _ => _) (fun g => g.1 ≤ g.2 ∧ g.2 ≤ l.length ∧ spotI l a = bsN (fun i => decide ((accAt l i).a < a)) g.1 g.2) (fun g => g.2 - g.1) (0, l.length) (by show (0) ≤ (l.length) ∧ (l.length) ≤ l.length ∧ spotI l a = bsN (fun i => decide ((accAt l i).a < a)) (0) (l.length); exact ⟨Nat.zero_le _, Nat.le_refl _, rfl⟩) (by repeat (first | exact .nil | refine .cons rfl ?_ | refine .consE rfl (by first | rfl | (congr 1; omega) | (congr 1; push_cast; omega)) ?_)) (Weak.refl _) ?_
 rintro ⟨lo, hi⟩ hinv
 replace hinv : lo ≤ hi ∧ hi ≤ l.length ∧ spotI l a = bsN (fun i => decide ((accAt l i).a < a)) lo hi := hinv
 show St (cx gl) _ ((5, .int .i64 ((lo : Nat) : Int)) :: (6, .int .i64 ((hi : Nat) : Int)) :: _) _ _
 obtain ⟨h1, h2, h3⟩ := hinv
 refine R_seq ?_
 refine R_seq ?_
 refine R_region ?_
 refine L_val rfl rfl rfl (OpP.v (P_move rfl rfl)) ?_
 refine L_val rfl rfl rfl (OpP.v (P_move rfl rfl)) ?_
 refine L_val rfl rfl rfl (OpP.v (P_lss rfl rfl rfl)) ?_
 refine L_nil ?_
 refine Q_then ?_
 refine R_condP rfl (fun hlt => ?_) (fun hlt => ?_)
 ·skip
  have hx := accAt_get (l := l) (i := (lo + hi) / 2) (by omega)
  obtain ⟨pb, pj, rfl, hrow⟩ := hpre.some_ (by rw [rc_length]; show 0 < _ * 5; omega)
  refine R_skip ?_
  refine Q_then ?_
  refine R_block ?_
  refine R_seq ?_
  refine R_region ?_
  refine L_val rfl rfl rfl (OpP.v (P_move rfl rfl)) ?_
  refine L_val rfl rfl rfl (OpP.v (P_move rfl rfl)) ?_
  first | (refine L_val rfl rfl rfl (OpP.v (P_addN rfl rfl rfl (by simp only [fits]; omega))) ?_) | (refine L_val rfl rfl rfl (OpP.v (P_add rfl rfl rfl)) ?_)
  refine L_val rfl rfl rfl (OpP.v (P_quo rfl rfl rfl (by omega))) ?_
  refine E_as (t := 16) (v' := .int .i64 (((lo + hi) / 2 : Nat) : Int)) rfl (by congr 1; rw [Int.tdiv_eq_ediv_of_nonneg (by omega), wrap_fits (by simp only [fits]; omega)]; omega) ?_
  refine L_val rfl rfl rfl (OpP.v (P_assign rfl rfl)) ?_
  refine L_nil ?_
  refine Q_then ?_
  refine R_seq ?_
  refine R_region ?_
  refine L_val rfl rfl rfl (OpP.v (P_move rfl rfl)) ?_
  refine L_val rfl rfl rfl (OpP.v (P_move rfl rfl)) ?_
  refine L_val rfl rfl rfl (OpP.v (P_ixs ((lo + hi) / 2) rfl ty_sl_22 rfl rfl (by first | rfl | omega) (by omega))) ?_
  refine L_val rfl rfl rfl (OpP.v (P_fld rfl ty_fl_38_0 rfl)) ?_
  refine L_val rfl rfl rfl (V_load rfl rfl ty_sc_27 (rd_rc (Rds.row hrow rfl) hx rfl)) ?_
  refine L_val rfl rfl rfl (OpP.v (P_move rfl rfl)) ?_
  refine L_val rfl rfl rfl (OpP.v (P_lss rfl rfl rfl)) ?_
  refine L_nil ?_
  refine Q_then ?_
  refine R_condP rfl (fun hb => ?_) (fun hb => ?_)
  ·skip
   refine R_region ?_
   refine L_val rfl rfl rfl (OpP.v (P_move rfl rfl)) ?_
   first | (refine L_val rfl rfl rfl (OpP.v (P_addN rfl rfl rfl (by simp only [fits]; omega))) ?_) | (refine L_val rfl rfl rfl (OpP.v (P_add rfl rfl rfl)) ?_)
   refine L_val rfl rfl rfl (OpP.v (P_assign rfl rfl)) ?_
   refine L_nil ?_
   refine Q_block ?_
   exact Q_round ((lo + hi) / 2 + 1, hi) (by show ((lo + hi) / 2 + 1) ≤ (hi) ∧ (hi) ≤ l.length ∧ spotI l a = bsN (fun i => decide ((accAt l i).a < a)) ((lo + hi) / 2 + 1) (hi); exact ⟨by omega, h2, by rw [h3]; exact bsN_up (by omega) (decide_eq_true hb)⟩) (by show hi - ((lo + hi) / 2 + 1) < hi - lo; omega) (by repeat (first | exact .nil | refine .cons rfl ?_ | refine .consE rfl (by first | rfl | (congr 1; omega) | (congr 1; push_cast; omega)) ?_)) (Weak.refl _)
  ·skip
   refine R_region ?_
   refine L_val rfl rfl rfl (OpP.v (P_move rfl rfl)) ?_
   refine L_val rfl rfl rfl (OpP.v (P_assign rfl rfl)) ?_
   refine L_nil ?_
   refine Q_block ?_
   exact Q_round (lo, (lo + hi) / 2) (by show (lo) ≤ ((lo + hi) / 2) ∧ ((lo + hi) / 2) ≤ l.length ∧ spotI l a = bsN (fun i => decide ((accAt l i).a < a)) (lo) ((lo + hi) / 2); exact ⟨by omega, by omega, by rw [h3]; exact bsN_down (by omega) (decide_eq_false hb)⟩) (by show (lo + hi) / 2 - lo < hi - lo; omega) (by repeat (first | exact .nil | refine .cons rfl ?_ | refine .consE rfl (by first | rfl | (congr 1; omega) | (congr 1; push_cast; omega)) ?_)) (Weak.refl _)
 ·skip
  have hin : hi = lo := by omega
  have hsp : spotI l a = lo := by rw [h3]; exact bsN_end (by omega)
  refine R_exit ?_
  refine Q_then_exit ?_
  refine Q_then_exit ?_
  refine Q_block_eq ?_
  refine St.env (.cons (t := 0) rfl (.cons (t := 1) rfl (.cons (t := 4) rfl (.cons (t := 5) rfl .nil)))) ?_
  refine Q_then ?_
  refine R_seq ?_
  refine R_region ?_
  refine L_val rfl rfl rfl (OpP.v (P_move rfl rfl)) ?_
  refine L_val rfl rfl rfl (OpP.v (P_move rfl rfl)) ?_
  refine L_val rfl rfl rfl (OpP.v (P_len rfl ty_sl_22 rfl)) ?_
  refine L_val rfl rfl rfl (OpP.v (P_lss rfl rfl rfl)) ?_
  refine E_bool (t := 30) rfl (fun hl2 => ?_) (fun hl2 => ?_)
  ·skip
   have hl2 : lo < l.length := by have := of_decide_eq_true hl2; omega
   have hx := accAt_get hl2
   obtain ⟨pb, pj, rfl, hrow⟩ := hpre.some_ (by rw [rc_length]; show 0 < _ * 5; omega)
   refine L_val rfl rfl rfl (OpP.v (P_move rfl rfl)) ?_
   refine L_val rfl rfl rfl (OpP.v (P_move rfl rfl)) ?_
   refine L_val rfl rfl rfl (OpP.v (P_move rfl rfl)) ?_
   refine L_val rfl rfl rfl (OpP.v (P_ixs (lo) rfl ty_sl_22 rfl rfl (by first | rfl | omega) (by omega))) ?_
   refine L_val rfl rfl rfl (OpP.v (P_fld rfl ty_fl_38_0 rfl)) ?_
   refine L_val rfl rfl rfl (V_load rfl rfl ty_sc_27 (rd_rc (Rds.row hrow rfl) hx rfl)) ?_
   refine L_val rfl rfl rfl (OpP.v (P_move rfl rfl)) ?_
   refine L_val rfl rfl rfl (OpP.v (P_eql rfl rfl rfl)) ?_
   refine L_val rfl rfl rfl (OpP.v (P_pick rfl rfl rfl)) ?_
   refine L_val rfl rfl rfl (OpP.v (P_assign rfl rfl)) ?_
   refine L_nil ?_
   refine St.env (.cons (t := 4) rfl .nil) ?_
   refine Q_then ?_
   refine R_ret ?_
   exact R_endV rfl rfl (.tmp rfl .nil) (by unfold spotB; rw [hsp]; first | (rw [decide_eq_false hl2]; rfl) | (rw [decide_eq_true hl2, Bool.true_and]; rfl))
  ·skip
   have hl2 : ¬ lo < l.length := by have := of_decide_eq_false hl2; omega
   refine L_val rfl rfl rfl (OpP.v (P_move rfl rfl)) ?_
   refine L_no rfl rfl rfl ?_
   refine L_no rfl rfl rfl ?_
   refine L_no rfl rfl rfl ?_
   refine L_no rfl rfl rfl ?_
   refine L_no rfl rfl rfl ?_
   refine L_no rfl rfl rfl ?_
   refine L_no rfl rfl rfl ?_
   refine L_val rfl rfl rfl (OpP.v (P_pick rfl rfl rfl)) ?_
   refine L_val rfl rfl rfl (OpP.v (P_assign rfl rfl)) ?_
   refine L_nil ?_
   refine St.env (.cons (t := 4) rfl .nil) ?_
   refine Q_then ?_
   refine R_ret ?_
   exact R_endV rfl rfl (.tmp rfl .nil) (by unfold spotB; rw [hsp]; first | (rw [decide_eq_false hl2]; rfl) | (rw [decide_eq_true hl2, Bool.true_and]; rfl))
theorem rrows_ok {gl : Nat → Obj} (base : Option Addr) (c : Nat) (l : List Acc) (hc : l.length ≤ c)(hm : l.length ≤ 3518437208883)(base' : Option Addr) (c' : Nat) (r : List Rel) (hc' : r.length ≤ c')(hm' : r.length ≤ 4398046511104) (hok' : ∀ x ∈ r, x.ok) (bu su : Int) : SpecV (cx gl) 124 [.agg (ledV (.slice base l.length c) (.slice base' r.length c') bu su).toArray] (fun w => Row w base (rc l) ∧ Row w base' (rc r)) (.int .i64 (relE l r)) := by
 refine Spec.enter (C := cx gl) Tryz.func124 rfl 76 rfl rfl fun w0 h0 hsep hsub hpre => ?_
 obtain rfl : h0 = Heap.none := hsep
 show St (cx gl) _ [(0, .agg (ledV (.slice base l.length c) (.slice base' r.length c') bu su).toArray)] _ _
 have hms : MS = 1152921504606846975 := rfl
 refine R_seq ?_
 refine R_region ?_
 refine L_op rfl (W_box (ledV (.slice base l.length c) (.slice base' r.length c') bu su) rfl rfl rfl rfl rfl fun b1 => ?_)
 refine L_val rfl rfl rfl (OpP.v (P_assign rfl rfl)) ?_
 refine L_nil ?_
 refine St.env (.cons (t := 1) rfl (.cons (t := 2) rfl .nil)) ?_
 refine Q_then ?_
 refine R_seq ?_
 refine R_seq ?_
 refine R_region ?_
 refine L_val rfl rfl rfl (OpP.v (P_assign rfl rfl)) ?_
 refine L_nil ?_
 refine Q_then ?_
 refine R_block ?_
 refine R_loopE (G := Nat) (.cons (t := 1) rfl (.cons (t := 2) rfl .nil)) (fun g => [(3, .int .i64 (g : Int))]) (fun _ => _) (fun g => g ≤ r.length ∧ firstE (relBad l r) g = 0) (fun g => r.length - g) (0) (by show (0) ≤ r.length ∧ firstE (relBad l r) (0) = 0; exact ⟨Nat.zero_le _, rfl⟩) (by repeat (first | exact .nil | refine .cons rfl ?_ | refine .consE rfl (by first | rfl | (congr 1; omega) | (congr 1; push_cast; omega)) ?_)) (Weak.refl _) ?_
 intro i hinv
 replace hinv : i ≤ r.length ∧ firstE (relBad l r) i = 0 := hinv
 show St (cx gl) _ ((3, .int .i64 (i : Int)) :: _) _ _
 obtain ⟨hi, h0⟩ := hinv
 refine R_seq ?_
 refine R_seq ?_
 refine R_region ?_
 refine L_val rfl rfl rfl (OpP.v (P_move rfl rfl)) ?_
 refine L_val rfl rfl rfl (OpP.v (P_fld0 rfl ty_fl_26_1 rfl)) ?_
 refine L_val rfl rfl rfl (V_load rfl rfl ty_sc_23 (Rd.blk .h0 rfl)) ?_
 refine L_val rfl rfl rfl (OpP.v (P_len rfl ty_sl_23 rfl)) ?_
 refine L_val rfl rfl rfl (OpP.v (P_lss rfl rfl rfl)) ?_
 refine L_nil ?_
 refine Q_then ?_
 refine R_condP rfl (fun hlt => ?_) (fun hlt => ?_)
 ·skip
  have hx0 := relAt_get (l := r) (i := i) (by omega)
  obtain ⟨x, ex⟩ : ∃ x, x = relAt r i := ⟨_, rfl⟩
  have hx : r[i]? = some x := by rw [ex]; exact hx0
  obtain ⟨pb, pj, rfl, hrow⟩ := hpre.2.some_ (by rw [rc_length]; show 0 < _ * 4; omega)
  obtain ⟨hx1, hx2, hx3, hx4⟩ := hok' x (List.mem_of_getElem? hx)
  refine R_skip ?_
  refine Q_then ?_
  refine R_seq ?_
  refine R_block ?_
  refine R_seq ?_
  refine R_region ?_
  refine L_val rfl rfl rfl (OpP.v (P_fld0 rfl ty_fl_26_1 rfl)) ?_
  refine L_val rfl rfl rfl (V_load rfl rfl ty_sc_23 (Rd.blk .h0 rfl)) ?_
  refine L_val rfl rfl rfl (OpP.v (P_move rfl rfl)) ?_
  refine L_val rfl rfl rfl (OpP.v (P_ixs (i) rfl ty_sl_23 rfl rfl (by first | rfl | omega) (by omega))) ?_
  refine L_val rfl rfl rfl (V_loadAgg rfl rfl ty_ag_135 (rds_rc (Rds.row hrow rfl) hx) (rfl)) ?_
  refine L_op rfl (W_alloc rfl rfl rfl ty_ze_135 fun b4 => ?_)
  refine L_op rfl (W_storeAll rfl rfl rfl rfl ty_ag_135 (rfl) (Rec.one x) .h0 (rfl) ?_)
  refine L_nil ?_
  refine Q_then ?_
  refine R_seq ?_
  refine R_region ?_
  refine L_val rfl rfl rfl (OpP.v (P_fld0 rfl ty_fl_26_0 rfl)) ?_
  refine L_val rfl rfl rfl (V_load rfl rfl ty_sc_22 (Rd.blk .h1 rfl)) ?_
  refine L_val rfl rfl rfl (OpP.v (P_fld0 rfl ty_fl_135_1 rfl)) ?_
  refine L_val rfl rfl rfl (V_load rfl rfl ty_sc_27 (Rd.blk .h0 rfl)) ?_
  refine L_op rfl (W_callV rfl rfl rfl rfl fn_ca_178 (has_ok x.a base c l hc hm) (fun w nw => (Sn.row hpre.1 rfl).rw_ w nw) ?_)
  refine L_val rfl rfl rfl (OpP.v (P_assign rfl rfl)) ?_
  refine L_nil ?_
  refine Q_then ?_
  refine R_seq ?_
  refine R_seq ?_
  refine R_region ?_
  refine L_val rfl rfl rfl (OpP.v (P_move rfl rfl)) ?_
  refine L_val rfl rfl rfl (OpP.v (P_not rfl rfl)) ?_
  refine L_nil ?_
  refine Q_then ?_
  refine R_cond rfl (fun hp => ?_) (fun hp => ?_)
  ·skip
   have hp : spotB l x.a = false := by simpa using hp
   refine R_seq ?_
   refine R_region ?_
   refine L_val rfl rfl rfl (OpP.v (P_assign rfl rfl)) ?_
   refine L_nil ?_
   refine Q_then ?_
   refine R_ret ?_
   refine Q_then_ret ?_
   refine Q_block_ret ?_
   refine Q_then_ret ?_
   refine Q_then_ret ?_
   refine Q_block_ret ?_
   refine Q_then_ret ?_
   exact R_endV rfl rfl (.tmp rfl .nil) (by rw [show relE l r = 85 from firstE_hit h0 (show relBad l r i = 85 by unfold relBad; rw [← ex]; rw [if_pos hp]) (by decide) (by omega)]; rfl)
  ·skip
   have hp : spotB l x.a = true := by simpa using hp
   refine R_skip ?_
   refine Q_then ?_
   refine R_seq ?_
   refine R_seq ?_
   refine R_region ?_
   refine L_val rfl rfl rfl (OpP.v (P_fld0 rfl ty_fl_135_2 rfl)) ?_
   refine L_val rfl rfl rfl (V_load rfl rfl ty_sc_24 (Rd.blk .h0 rfl)) ?_
   refine L_val rfl rfl rfl (OpP.v (P_gtr rfl rfl rfl)) ?_
   refine E_bool (t := 28) rfl (fun q1 => ?_) (fun q1 => ?_)
   ·skip
    have q1 := of_decide_eq_true q1
    refine L_val rfl rfl rfl (OpP.v (P_move rfl rfl)) ?_
    refine L_no rfl rfl rfl ?_
    refine L_no rfl rfl rfl ?_
    refine L_no rfl rfl rfl ?_
    refine L_no rfl rfl rfl ?_
    refine L_no rfl rfl rfl ?_
    refine L_val rfl rfl rfl (OpP.v (P_pick rfl rfl rfl)) ?_
    refine L_val rfl rfl rfl (OpP.v (P_move rfl rfl)) ?_
    refine L_no rfl rfl rfl ?_
    refine L_no rfl rfl rfl ?_
    refine L_no rfl rfl rfl ?_
    refine L_val rfl rfl rfl (OpP.v (P_pick rfl rfl rfl)) ?_
    refine L_nil ?_
    refine Q_then ?_
    refine R_condT rfl ?_
    refine R_seq ?_
    refine R_region ?_
    refine L_val rfl rfl rfl (OpP.v (P_assign rfl rfl)) ?_
    refine L_nil ?_
    refine Q_then ?_
    refine R_ret ?_
    refine Q_then_ret ?_
    refine Q_block_ret ?_
    refine Q_then_ret ?_
    refine Q_then_ret ?_
    refine Q_block_ret ?_
    refine Q_then_ret ?_
    exact R_endV rfl rfl (.tmp rfl .nil) (by rw [show relE l r = 2 from firstE_hit h0 (show relBad l r i = 2 by unfold relBad; rw [← ex]; rw [if_neg (by rw [hp]; decide), if_pos (by omega)]) (by decide) (by omega)]; rfl)
   ·skip
    have q1 := of_decide_eq_false q1
    refine L_val rfl rfl rfl (OpP.v (P_move rfl rfl)) ?_
    refine L_val rfl rfl rfl (OpP.v (P_fld0 rfl ty_fl_135_0 rfl)) ?_
    refine L_val rfl rfl rfl (V_load rfl rfl ty_sc_24 (Rd.blk .h0 rfl)) ?_
    refine L_val rfl rfl rfl (OpP.v (P_fld0 rfl ty_fl_135_2 rfl)) ?_
    refine L_val rfl rfl rfl (V_load rfl rfl ty_sc_24 (Rd.blk .h0 rfl)) ?_
    refine L_val rfl rfl rfl (OpP.v (P_lss rfl rfl rfl)) ?_
    refine E_bool (t := 34) rfl (fun q2 => ?_) (fun q2 => ?_)
    ·skip
     have q2 := of_decide_eq_true q2
     refine L_val rfl rfl rfl (OpP.v (P_pick rfl rfl rfl)) ?_
     refine L_val rfl rfl rfl (OpP.v (P_move rfl rfl)) ?_
     refine L_no rfl rfl rfl ?_
     refine L_no rfl rfl rfl ?_
     refine L_no rfl rfl rfl ?_
     refine L_val rfl rfl rfl (OpP.v (P_pick rfl rfl rfl)) ?_
     refine L_nil ?_
     refine Q_then ?_
     refine R_condT rfl ?_
     refine R_seq ?_
     refine R_region ?_
     refine L_val rfl rfl rfl (OpP.v (P_assign rfl rfl)) ?_
     refine L_nil ?_
     refine Q_then ?_
     refine R_ret ?_
     refine Q_then_ret ?_
     refine Q_block_ret ?_
     refine Q_then_ret ?_
     refine Q_then_ret ?_
     refine Q_block_ret ?_
     refine Q_then_ret ?_
     exact R_endV rfl rfl (.tmp rfl .nil) (by rw [show relE l r = 2 from firstE_hit h0 (show relBad l r i = 2 by unfold relBad; rw [← ex]; rw [if_neg (by rw [hp]; decide), if_pos (by omega)]) (by decide) (by omega)]; rfl)
    ·skip
     have q2 := of_decide_eq_false q2
     refine L_val rfl rfl rfl (OpP.v (P_pick rfl rfl rfl)) ?_
     refine L_val rfl rfl rfl (OpP.v (P_move rfl rfl)) ?_
     refine L_val rfl rfl rfl (OpP.v (P_fld0 rfl ty_fl_135_0 rfl)) ?_
     refine L_val rfl rfl rfl (V_load rfl rfl ty_sc_24 (Rd.blk .h0 rfl)) ?_
     refine L_val rfl rfl rfl (OpP.v (P_gtr rfl rfl rfl)) ?_
     refine L_val rfl rfl rfl (OpP.v (P_pick rfl rfl rfl)) ?_
     refine L_nil ?_
     refine Q_then ?_
     refine R_condP rfl (fun q3 => ?_) (fun q3 => ?_)
     ·skip
      refine R_seq ?_
      refine R_region ?_
      refine L_val rfl rfl rfl (OpP.v (P_assign rfl rfl)) ?_
      refine L_nil ?_
      refine Q_then ?_
      refine R_ret ?_
      refine Q_then_ret ?_
      refine Q_block_ret ?_
      refine Q_then_ret ?_
      refine Q_then_ret ?_
      refine Q_block_ret ?_
      refine Q_then_ret ?_
      exact R_endV rfl rfl (.tmp rfl .nil) (by rw [show relE l r = 2 from firstE_hit h0 (show relBad l r i = 2 by unfold relBad; rw [← ex]; rw [if_neg (by rw [hp]; decide), if_pos (by omega)]) (by decide) (by omega)]; rfl)
     ·skip
      refine R_skip ?_
      refine Q_then ?_
      refine R_seq ?_
      refine R_seq ?_
      refine R_region ?_
      refine L_val rfl rfl rfl (OpP.v (P_move rfl rfl)) ?_
      refine L_val rfl rfl rfl (OpP.v (P_gtr rfl rfl rfl)) ?_
      refine L_nil ?_
      refine Q_then ?_
      refine R_condP rfl (fun q4 => ?_) (fun q4 => ?_)
      ·skip
       obtain ⟨y, ey⟩ : ∃ y, y = relAt r (i - 1) := ⟨_, rfl⟩
       have hy : r[i - 1]? = some y := by rw [ey]; exact relAt_get (by omega)
       refine R_seq ?_
       refine R_region ?_
       refine L_val rfl rfl rfl (OpP.v (P_fld0 rfl ty_fl_26_1 rfl)) ?_
       refine L_val rfl rfl rfl (V_load rfl rfl ty_sc_23 (Rd.blk .h1 rfl)) ?_
       refine L_val rfl rfl rfl (OpP.v (P_move rfl rfl)) ?_
       first | (refine L_val rfl rfl rfl (OpP.v (P_subN rfl rfl rfl (by simp only [fits]; omega))) ?_) | (refine L_val rfl rfl rfl (OpP.v (P_sub rfl rfl rfl)) ?_)
       refine L_val rfl rfl rfl (OpP.v (P_ixs (i - 1) rfl ty_sl_23 rfl rfl (by first | rfl | omega) (by omega))) ?_
       refine L_val rfl rfl rfl (V_loadAgg rfl rfl ty_ag_135 (rds_rc (Rds.row hrow rfl) hy) (rfl)) ?_
       refine L_op rfl (W_alloc rfl rfl rfl ty_ze_135 fun b6 => ?_)
       refine L_op rfl (W_storeAll rfl rfl rfl rfl ty_ag_135 (rfl) (Rec.one y) .h0 (rfl) ?_)
       refine L_nil ?_
       refine Q_then ?_
       refine R_seq ?_
       refine R_region ?_
       refine L_val rfl rfl rfl (OpP.v (P_fld0 rfl ty_fl_135_0 rfl)) ?_
       refine L_val rfl rfl rfl (V_load rfl rfl ty_sc_24 (Rd.blk .h1 rfl)) ?_
       refine L_val rfl rfl rfl (OpP.v (P_fld0 rfl ty_fl_135_0 rfl)) ?_
       refine L_val rfl rfl rfl (V_load rfl rfl ty_sc_24 (Rd.blk .h0 rfl)) ?_
       refine L_val rfl rfl rfl (OpP.v (P_lss rfl rfl rfl)) ?_
       refine E_bool (t := 53) rfl (fun u1 => ?_) (fun u1 => ?_)
       ·skip
        have u1 := of_decide_eq_true u1
        have hl42 : laterB x y = false := (laterB_no x y).2 (by omega)
        refine L_val rfl rfl rfl (OpP.v (P_move rfl rfl)) ?_
        refine L_no rfl rfl rfl ?_
        refine L_no rfl rfl rfl ?_
        refine L_no rfl rfl rfl ?_
        refine L_no rfl rfl rfl ?_
        refine L_no rfl rfl rfl ?_
        refine L_no rfl rfl rfl ?_
        refine L_no rfl rfl rfl ?_
        refine L_no rfl rfl rfl ?_
        refine L_no rfl rfl rfl ?_
        refine L_no rfl rfl rfl ?_
        refine L_no rfl rfl rfl ?_
        refine L_no rfl rfl rfl ?_
        refine L_val rfl rfl rfl (OpP.v (P_pick rfl rfl rfl)) ?_
        refine L_nil ?_
        refine Q_then ?_
        refine R_condT rfl ?_
        refine R_seq ?_
        refine R_region ?_
        refine L_val rfl rfl rfl (OpP.v (P_assign rfl rfl)) ?_
        refine L_nil ?_
        refine Q_then ?_
        refine R_ret ?_
        refine Q_then_ret ?_
        refine Q_block_ret ?_
        refine Q_then_ret ?_
        refine Q_then_ret ?_
        refine Q_block_ret ?_
        refine Q_then_ret ?_
        exact R_endV rfl rfl (.tmp rfl .nil) (by rw [show relE l r = 42 from firstE_hit h0 (show relBad l r i = 42 by unfold relBad; rw [← ex]; rw [if_neg (by rw [hp]; decide), if_neg (by omega), if_pos ⟨by omega, by rw [← ey]; exact hl42⟩]) (by decide) (by omega)]; rfl)
       ·skip
        have u1 := of_decide_eq_false u1
        refine L_val rfl rfl rfl (OpP.v (P_move rfl rfl)) ?_
        refine L_val rfl rfl rfl (OpP.v (P_fld0 rfl ty_fl_135_0 rfl)) ?_
        refine L_val rfl rfl rfl (V_load rfl rfl ty_sc_24 (Rd.blk .h1 rfl)) ?_
        refine L_val rfl rfl rfl (OpP.v (P_fld0 rfl ty_fl_135_0 rfl)) ?_
        refine L_val rfl rfl rfl (V_load rfl rfl ty_sc_24 (Rd.blk .h0 rfl)) ?_
        refine L_val rfl rfl rfl (OpP.v (P_eql rfl rfl rfl)) ?_
        refine E_bool (t := 59) rfl (fun u2 => ?_) (fun u2 => ?_)
        ·skip
         have u2 := of_decide_eq_true u2
         refine L_val rfl rfl rfl (OpP.v (P_move rfl rfl)) ?_
         refine L_val rfl rfl rfl (OpP.v (P_fld0 rfl ty_fl_135_1 rfl)) ?_
         refine L_val rfl rfl rfl (V_load rfl rfl ty_sc_27 (Rd.blk .h1 rfl)) ?_
         refine L_val rfl rfl rfl (OpP.v (P_fld0 rfl ty_fl_135_1 rfl)) ?_
         refine L_val rfl rfl rfl (V_load rfl rfl ty_sc_27 (Rd.blk .h0 rfl)) ?_
         refine L_val rfl rfl rfl (OpP.v (P_leq rfl rfl rfl)) ?_
         refine L_val rfl rfl rfl (OpP.v (P_pick rfl rfl rfl)) ?_
         refine L_val rfl rfl rfl (OpP.v (P_pick rfl rfl rfl)) ?_
         refine L_nil ?_
         refine Q_then ?_
         refine R_condP rfl (fun u3 => ?_) (fun u3 => ?_)
         ·skip
          have hl42 : laterB x y = false := (laterB_no x y).2 (by omega)
          refine R_seq ?_
          refine R_region ?_
          refine L_val rfl rfl rfl (OpP.v (P_assign rfl rfl)) ?_
          refine L_nil ?_
          refine Q_then ?_
          refine R_ret ?_
          refine Q_then_ret ?_
          refine Q_block_ret ?_
          refine Q_then_ret ?_
          refine Q_then_ret ?_
          refine Q_block_ret ?_
          refine Q_then_ret ?_
          exact R_endV rfl rfl (.tmp rfl .nil) (by rw [show relE l r = 42 from firstE_hit h0 (show relBad l r i = 42 by unfold relBad; rw [← ex]; rw [if_neg (by rw [hp]; decide), if_neg (by omega), if_pos ⟨by omega, by rw [← ey]; exact hl42⟩]) (by decide) (by omega)]; rfl)
         ·skip
          have hno : ¬ (0 < i ∧ laterB x (relAt r (i - 1)) = false) := by rw [← ey, laterB_no]; omega
          refine R_skip ?_
          refine Q_then ?_
          refine R_seq ?_
          refine R_region ?_
          refine L_val rfl rfl rfl (OpP.v (P_fld0 rfl ty_fl_135_3 rfl)) ?_
          refine L_val rfl rfl rfl (V_load rfl rfl ty_sc_24 (by first | exact Rd.blk .h0 rfl | exact Rd.blk .h1 rfl | exact Rd.blk .h2 rfl | exact Rd.blk .h3 rfl | exact Rd.blk .h4 rfl | exact Rd.blk .h5 rfl | exact Rd.blk .h6 rfl | exact Rd.blk .h7 rfl)) ?_
          refine L_val rfl rfl rfl (OpP.v (P_eql rfl rfl rfl)) ?_
          refine E_bool (t := 70) rfl (fun q6 => ?_) (fun q6 => ?_)
          ·skip
           have q6 := of_decide_eq_true q6
           refine L_val rfl rfl rfl (OpP.v (P_move rfl rfl)) ?_
           refine L_no rfl rfl rfl ?_
           refine L_no rfl rfl rfl ?_
           refine L_no rfl rfl rfl ?_
           refine L_val rfl rfl rfl (OpP.v (P_pick rfl rfl rfl)) ?_
           refine L_nil ?_
           refine Q_then ?_
           refine R_condT rfl ?_
           refine R_seq ?_
           refine R_region ?_
           refine L_val rfl rfl rfl (OpP.v (P_assign rfl rfl)) ?_
           refine L_nil ?_
           refine Q_then ?_
           refine R_ret ?_
           refine Q_block_ret ?_
           refine Q_then_ret ?_
           refine Q_then_ret ?_
           refine Q_block_ret ?_
           refine Q_then_ret ?_
           exact R_endV rfl rfl (.tmp rfl .nil) (by rw [show relE l r = 87 from firstE_hit h0 (show relBad l r i = 87 by unfold relBad; rw [← ex]; rw [if_neg (by rw [hp]; decide), if_neg (by omega), if_neg hno, if_pos (by rw [hms]; omega)]) (by decide) (by omega)]; rfl)
          ·skip
           have q6 := of_decide_eq_false q6
           refine L_val rfl rfl rfl (OpP.v (P_move rfl rfl)) ?_
           refine L_val rfl rfl rfl (OpP.v (P_fld0 rfl ty_fl_135_3 rfl)) ?_
           refine L_val rfl rfl rfl (V_load rfl rfl ty_sc_24 (by first | exact Rd.blk .h0 rfl | exact Rd.blk .h1 rfl | exact Rd.blk .h2 rfl | exact Rd.blk .h3 rfl | exact Rd.blk .h4 rfl | exact Rd.blk .h5 rfl | exact Rd.blk .h6 rfl | exact Rd.blk .h7 rfl)) ?_
           refine L_val rfl rfl rfl (OpP.v (P_gtr rfl rfl rfl)) ?_
           refine L_val rfl rfl rfl (OpP.v (P_pick rfl rfl rfl)) ?_
           refine L_nil ?_
           refine Q_then ?_
           refine R_condP rfl (fun q7 => ?_) (fun q7 => ?_)
           ·skip
            refine R_seq ?_
            refine R_region ?_
            refine L_val rfl rfl rfl (OpP.v (P_assign rfl rfl)) ?_
            refine L_nil ?_
            refine Q_then ?_
            refine R_ret ?_
            refine Q_block_ret ?_
            refine Q_then_ret ?_
            refine Q_then_ret ?_
            refine Q_block_ret ?_
            refine Q_then_ret ?_
            exact R_endV rfl rfl (.tmp rfl .nil) (by rw [show relE l r = 87 from firstE_hit h0 (show relBad l r i = 87 by unfold relBad; rw [← ex]; rw [if_neg (by rw [hp]; decide), if_neg (by omega), if_neg hno, if_pos (by rw [hms]; omega)]) (by decide) (by omega)]; rfl)
           ·skip
            refine R_skip ?_
            refine Q_block ?_
            refine Q_then ?_
            refine R_region ?_
            refine L_val rfl rfl rfl (OpP.v (P_move rfl rfl)) ?_
            first | (refine L_val rfl rfl rfl (OpP.v (P_addN rfl rfl rfl (by simp only [fits]; omega))) ?_) | (refine L_val rfl rfl rfl (OpP.v (P_add rfl rfl rfl)) ?_)
            refine L_val rfl rfl rfl (OpP.v (P_assign rfl rfl)) ?_
            refine L_nil ?_
            exact Q_round (i + 1) (by show (i + 1) ≤ r.length ∧ firstE (relBad l r) (i + 1) = 0; exact ⟨by omega, firstE_next h0 (by unfold relBad; rw [← ex, if_neg (by rw [hp]; decide), if_neg (by omega), if_neg hno, if_neg (by rw [hms]; omega)])⟩) (by show r.length - (i + 1) < r.length - i; omega) (by repeat (first | exact .nil | refine .cons rfl ?_ | refine .consE rfl (by first | rfl | (congr 1; omega) | (congr 1; push_cast; omega)) ?_)) (Weak.drop (Weak.drop (Weak.refl _)))
        ·skip
         have u2 := of_decide_eq_false u2
         have hno : ¬ (0 < i ∧ laterB x (relAt r (i - 1)) = false) := by rw [← ey, laterB_no]; omega
         refine L_val rfl rfl rfl (OpP.v (P_move rfl rfl)) ?_
         refine L_no rfl rfl rfl ?_
         refine L_no rfl rfl rfl ?_
         refine L_no rfl rfl rfl ?_
         refine L_no rfl rfl rfl ?_
         refine L_no rfl rfl rfl ?_
         refine L_val rfl rfl rfl (OpP.v (P_pick rfl rfl rfl)) ?_
         refine L_val rfl rfl rfl (OpP.v (P_pick rfl rfl rfl)) ?_
         refine L_nil ?_
         refine Q_then ?_
         refine R_condF rfl ?_
         refine R_skip ?_
         refine Q_then ?_
         refine R_seq ?_
         refine R_region ?_
         refine L_val rfl rfl rfl (OpP.v (P_fld0 rfl ty_fl_135_3 rfl)) ?_
         refine L_val rfl rfl rfl (V_load rfl rfl ty_sc_24 (by first | exact Rd.blk .h0 rfl | exact Rd.blk .h1 rfl | exact Rd.blk .h2 rfl | exact Rd.blk .h3 rfl | exact Rd.blk .h4 rfl | exact Rd.blk .h5 rfl | exact Rd.blk .h6 rfl | exact Rd.blk .h7 rfl)) ?_
         refine L_val rfl rfl rfl (OpP.v (P_eql rfl rfl rfl)) ?_
         refine E_bool (t := 70) rfl (fun q6 => ?_) (fun q6 => ?_)
         ·skip
          have q6 := of_decide_eq_true q6
          refine L_val rfl rfl rfl (OpP.v (P_move rfl rfl)) ?_
          refine L_no rfl rfl rfl ?_
          refine L_no rfl rfl rfl ?_
          refine L_no rfl rfl rfl ?_
          refine L_val rfl rfl rfl (OpP.v (P_pick rfl rfl rfl)) ?_
          refine L_nil ?_
          refine Q_then ?_
          refine R_condT rfl ?_
          refine R_seq ?_
          refine R_region ?_
          refine L_val rfl rfl rfl (OpP.v (P_assign rfl rfl)) ?_
          refine L_nil ?_
          refine Q_then ?_
          refine R_ret ?_
          refine Q_block_ret ?_
          refine Q_then_ret ?_
          refine Q_then_ret ?_
          refine Q_block_ret ?_
          refine Q_then_ret ?_
          exact R_endV rfl rfl (.tmp rfl .nil) (by rw [show relE l r = 87 from firstE_hit h0 (show relBad l r i = 87 by unfold relBad; rw [← ex]; rw [if_neg (by rw [hp]; decide), if_neg (by omega), if_neg hno, if_pos (by rw [hms]; omega)]) (by decide) (by omega)]; rfl)
         ·skip
          have q6 := of_decide_eq_false q6
          refine L_val rfl rfl rfl (OpP.v (P_move rfl rfl)) ?_
          refine L_val rfl rfl rfl (OpP.v (P_fld0 rfl ty_fl_135_3 rfl)) ?_
          refine L_val rfl rfl rfl (V_load rfl rfl ty_sc_24 (by first | exact Rd.blk .h0 rfl | exact Rd.blk .h1 rfl | exact Rd.blk .h2 rfl | exact Rd.blk .h3 rfl | exact Rd.blk .h4 rfl | exact Rd.blk .h5 rfl | exact Rd.blk .h6 rfl | exact Rd.blk .h7 rfl)) ?_
          refine L_val rfl rfl rfl (OpP.v (P_gtr rfl rfl rfl)) ?_
          refine L_val rfl rfl rfl (OpP.v (P_pick rfl rfl rfl)) ?_
          refine L_nil ?_
          refine Q_then ?_
          refine R_condP rfl (fun q7 => ?_) (fun q7 => ?_)
          ·skip
           refine R_seq ?_
           refine R_region ?_
           refine L_val rfl rfl rfl (OpP.v (P_assign rfl rfl)) ?_
           refine L_nil ?_
           refine Q_then ?_
           refine R_ret ?_
           refine Q_block_ret ?_
           refine Q_then_ret ?_
           refine Q_then_ret ?_
           refine Q_block_ret ?_
           refine Q_then_ret ?_
           exact R_endV rfl rfl (.tmp rfl .nil) (by rw [show relE l r = 87 from firstE_hit h0 (show relBad l r i = 87 by unfold relBad; rw [← ex]; rw [if_neg (by rw [hp]; decide), if_neg (by omega), if_neg hno, if_pos (by rw [hms]; omega)]) (by decide) (by omega)]; rfl)
          ·skip
           refine R_skip ?_
           refine Q_block ?_
           refine Q_then ?_
           refine R_region ?_
           refine L_val rfl rfl rfl (OpP.v (P_move rfl rfl)) ?_
           first | (refine L_val rfl rfl rfl (OpP.v (P_addN rfl rfl rfl (by simp only [fits]; omega))) ?_) | (refine L_val rfl rfl rfl (OpP.v (P_add rfl rfl rfl)) ?_)
           refine L_val rfl rfl rfl (OpP.v (P_assign rfl rfl)) ?_
           refine L_nil ?_
           exact Q_round (i + 1) (by show (i + 1) ≤ r.length ∧ firstE (relBad l r) (i + 1) = 0; exact ⟨by omega, firstE_next h0 (by unfold relBad; rw [← ex, if_neg (by rw [hp]; decide), if_neg (by omega), if_neg hno, if_neg (by rw [hms]; omega)])⟩) (by show r.length - (i + 1) < r.length - i; omega) (by repeat (first | exact .nil | refine .cons rfl ?_ | refine .consE rfl (by first | rfl | (congr 1; omega) | (congr 1; push_cast; omega)) ?_)) (Weak.drop (Weak.drop (Weak.refl _)))
      ·skip
       have hno : ¬ (0 < i ∧ laterB x (relAt r (i - 1)) = false) := by omega
       refine R_skip ?_
       refine Q_then ?_
       refine R_seq ?_
       refine R_region ?_
       refine L_val rfl rfl rfl (OpP.v (P_fld0 rfl ty_fl_135_3 rfl)) ?_
       refine L_val rfl rfl rfl (V_load rfl rfl ty_sc_24 (by first | exact Rd.blk .h0 rfl | exact Rd.blk .h1 rfl | exact Rd.blk .h2 rfl | exact Rd.blk .h3 rfl | exact Rd.blk .h4 rfl | exact Rd.blk .h5 rfl | exact Rd.blk .h6 rfl | exact Rd.blk .h7 rfl)) ?_
       refine L_val rfl rfl rfl (OpP.v (P_eql rfl rfl rfl)) ?_
       refine E_bool (t := 70) rfl (fun q6 => ?_) (fun q6 => ?_)
       ·skip
        have q6 := of_decide_eq_true q6
        refine L_val rfl rfl rfl (OpP.v (P_move rfl rfl)) ?_
        refine L_no rfl rfl rfl ?_
        refine L_no rfl rfl rfl ?_
        refine L_no rfl rfl rfl ?_
        refine L_val rfl rfl rfl (OpP.v (P_pick rfl rfl rfl)) ?_
        refine L_nil ?_
        refine Q_then ?_
        refine R_condT rfl ?_
        refine R_seq ?_
        refine R_region ?_
        refine L_val rfl rfl rfl (OpP.v (P_assign rfl rfl)) ?_
        refine L_nil ?_
        refine Q_then ?_
        refine R_ret ?_
        refine Q_block_ret ?_
        refine Q_then_ret ?_
        refine Q_then_ret ?_
        refine Q_block_ret ?_
        refine Q_then_ret ?_
        exact R_endV rfl rfl (.tmp rfl .nil) (by rw [show relE l r = 87 from firstE_hit h0 (show relBad l r i = 87 by unfold relBad; rw [← ex]; rw [if_neg (by rw [hp]; decide), if_neg (by omega), if_neg hno, if_pos (by rw [hms]; omega)]) (by decide) (by omega)]; rfl)
       ·skip
        have q6 := of_decide_eq_false q6
        refine L_val rfl rfl rfl (OpP.v (P_move rfl rfl)) ?_
        refine L_val rfl rfl rfl (OpP.v (P_fld0 rfl ty_fl_135_3 rfl)) ?_
        refine L_val rfl rfl rfl (V_load rfl rfl ty_sc_24 (by first | exact Rd.blk .h0 rfl | exact Rd.blk .h1 rfl | exact Rd.blk .h2 rfl | exact Rd.blk .h3 rfl | exact Rd.blk .h4 rfl | exact Rd.blk .h5 rfl | exact Rd.blk .h6 rfl | exact Rd.blk .h7 rfl)) ?_
        refine L_val rfl rfl rfl (OpP.v (P_gtr rfl rfl rfl)) ?_
        refine L_val rfl rfl rfl (OpP.v (P_pick rfl rfl rfl)) ?_
        refine L_nil ?_
        refine Q_then ?_
        refine R_condP rfl (fun q7 => ?_) (fun q7 => ?_)
        ·skip
         refine R_seq ?_
         refine R_region ?_
         refine L_val rfl rfl rfl (OpP.v (P_assign rfl rfl)) ?_
         refine L_nil ?_
         refine Q_then ?_
         refine R_ret ?_
         refine Q_block_ret ?_
         refine Q_then_ret ?_
         refine Q_then_ret ?_
         refine Q_block_ret ?_
         refine Q_then_ret ?_
         exact R_endV rfl rfl (.tmp rfl .nil) (by rw [show relE l r = 87 from firstE_hit h0 (show relBad l r i = 87 by unfold relBad; rw [← ex]; rw [if_neg (by rw [hp]; decide), if_neg (by omega), if_neg hno, if_pos (by rw [hms]; omega)]) (by decide) (by omega)]; rfl)
        ·skip
         refine R_skip ?_
         refine Q_block ?_
         refine Q_then ?_
         refine R_region ?_
         refine L_val rfl rfl rfl (OpP.v (P_move rfl rfl)) ?_
         first | (refine L_val rfl rfl rfl (OpP.v (P_addN rfl rfl rfl (by simp only [fits]; omega))) ?_) | (refine L_val rfl rfl rfl (OpP.v (P_add rfl rfl rfl)) ?_)
         refine L_val rfl rfl rfl (OpP.v (P_assign rfl rfl)) ?_
         refine L_nil ?_
         exact Q_round (i + 1) (by show (i + 1) ≤ r.length ∧ firstE (relBad l r) (i + 1) = 0; exact ⟨by omega, firstE_next h0 (by unfold relBad; rw [← ex, if_neg (by rw [hp]; decide), if_neg (by omega), if_neg hno, if_neg (by rw [hms]; omega)])⟩) (by show r.length - (i + 1) < r.length - i; omega) (by repeat (first | exact .nil | refine .cons rfl ?_ | refine .consE rfl (by first | rfl | (congr 1; omega) | (congr 1; push_cast; omega)) ?_)) (Weak.drop (Weak.refl _))
 ·skip
  have hin : i = r.length := by omega
  rw [hin] at h0
  refine R_exit ?_
  refine Q_then_exit ?_
  refine Q_then_exit ?_
  refine Q_block_eq ?_
  refine St.env (.cons (t := 2) rfl .nil) ?_
  refine Q_then ?_
  refine R_seq ?_
  refine R_region ?_
  refine L_val rfl rfl rfl (OpP.v (P_assign rfl rfl)) ?_
  refine L_nil ?_
  refine Q_then ?_
  refine R_ret ?_
  exact R_endV rfl rfl (.tmp rfl .nil) (by rw [show relE l r = 0 from h0]; rfl)
theorem rplace_ok {gl : Nat → Obj} (base : Option Addr) (c : Nat) (l : List Acc) (hc : l.length ≤ c)(hm : l.length ≤ 3518437208883) (r : Value) (hr : r.oneCell' = true) (bu su a : Int) : SpecV (cx gl) 68 [.agg (ledV (.slice base l.length c) r bu su).toArray, .int .u64 a] (fun w => Row w base (rc l)) (.int .i64 (idxG (isAz a) l)) := by
 refine Spec.enter (C := cx gl) Tryz.func68 rfl 26 rfl rfl fun w0 h0 hsep hsub hpre => ?_
 obtain rfl : h0 = Heap.none := hsep
 show St (cx gl) _ [(0, .agg (ledV (.slice base l.length c) r bu su).toArray), (1, .int .u64 a)] _ _
 refine R_seq ?_
 refine R_region ?_
 refine L_op rfl (W_box (ledV (.slice base l.length c) r bu su) rfl rfl rfl rfl rfl fun b2 => ?_)
 refine L_val rfl rfl rfl (OpP.v (P_assign rfl rfl)) ?_
 refine L_nil ?_
 refine St.env (.cons (t := 1) rfl (.cons (t := 2) rfl (.cons (t := 4) rfl .nil))) ?_
 refine Q_then ?_
 refine R_seq ?_
 refine R_seq ?_
 refine R_region ?_
 refine L_val rfl rfl rfl (OpP.v (P_assign rfl rfl)) ?_
 refine L_nil ?_
 refine Q_then ?_
 refine R_block ?_
 refine R_loopE (G := Nat) (.cons (t := 1) rfl (.cons (t := 2) rfl (.cons (t := 4) rfl .nil))) (fun g => [(5, .int .i64 (g : Int))]) (fun _ => _) (fun g => g ≤ l.length ∧ ∀ j m', j < g → l[j]? = some m' → isAz a m' = false) (fun g => l.length - g) (0) (by show (0) ≤ l.length ∧ ∀ j m', j < (0) → l[j]? = some m' → isAz a m' = false; exact ⟨Nat.zero_le _, fun j _ h => by omega⟩) (by repeat (first | exact .nil | refine .cons rfl ?_ | refine .consE rfl (by first | rfl | (congr 1; omega) | (congr 1; push_cast; omega)) ?_)) (Weak.refl _) ?_
 intro i hinv
 replace hinv : i ≤ l.length ∧ ∀ j m', j < i → l[j]? = some m' → isAz a m' = false := hinv
 show St (cx gl) _ ((5, .int .i64 (i : Int)) :: _) _ _
 obtain ⟨hi, h0⟩ := hinv
 refine R_seq ?_
 refine R_seq ?_
 refine R_region ?_
 refine L_val rfl rfl rfl (OpP.v (P_move rfl rfl)) ?_
 refine L_val rfl rfl rfl (OpP.v (P_fld0 rfl ty_fl_26_0 rfl)) ?_
 refine L_val rfl rfl rfl (V_load rfl rfl ty_sc_22 (Rd.blk .h0 rfl)) ?_
 refine L_val rfl rfl rfl (OpP.v (P_len rfl ty_sl_22 rfl)) ?_
 refine L_val rfl rfl rfl (OpP.v (P_lss rfl rfl rfl)) ?_
 refine L_nil ?_
 refine Q_then ?_
 refine R_condP rfl (fun hlt => ?_) (fun hlt => ?_)
 ·skip
  have hx0 := accAt_get (l := l) (i := i) (by omega)
  obtain ⟨x, ex⟩ : ∃ x, x = accAt l i := ⟨_, rfl⟩
  have hx : l[i]? = some x := by rw [ex]; exact hx0
  obtain ⟨pb, pj, rfl, hrow⟩ := hpre.some_ (by rw [rc_length]; show 0 < _ * 5; omega)
  refine R_skip ?_
  refine Q_then ?_
  refine R_seq ?_
  refine R_block ?_
  refine R_seq ?_
  refine R_region ?_
  refine L_val rfl rfl rfl (OpP.v (P_fld0 rfl ty_fl_26_0 rfl)) ?_
  refine L_val rfl rfl rfl (V_load rfl rfl ty_sc_22 (Rd.blk .h0 rfl)) ?_
  refine L_val rfl rfl rfl (OpP.v (P_move rfl rfl)) ?_
  refine L_val rfl rfl rfl (OpP.v (P_ixs (i) rfl ty_sl_22 rfl rfl (by first | rfl | omega) (by omega))) ?_
  refine L_val rfl rfl rfl (OpP.v (P_fld rfl ty_fl_38_0 rfl)) ?_
  refine L_val rfl rfl rfl (V_load rfl rfl ty_sc_27 (rd_rc (Rds.row hrow rfl) hx rfl)) ?_
  refine L_val rfl rfl rfl (OpP.v (P_move rfl rfl)) ?_
  refine L_val rfl rfl rfl (OpP.v (P_eql rfl rfl rfl)) ?_
  refine E_bool (t := 20) rfl (fun e1 => ?_) (fun e1 => ?_)
  ·skip
   have e1 := of_decide_eq_true e1
   refine L_val rfl rfl rfl (OpP.v (P_move rfl rfl)) ?_
   refine L_val rfl rfl rfl (OpP.v (P_move rfl rfl)) ?_
   refine L_val rfl rfl rfl (OpP.v (P_neq rfl rfl rfl)) ?_
   refine L_val rfl rfl rfl (OpP.v (P_pick rfl rfl rfl)) ?_
   refine L_nil ?_
   refine Q_then ?_
   refine R_condP rfl (fun e2 => ?_) (fun e2 => ?_)
   ·skip
    have hpx : isAz a x = true := by unfold isAz; rw [decide_eq_true e1, decide_eq_true e2]; rfl
    refine R_seq ?_
    refine R_region ?_
    refine L_val rfl rfl rfl (OpP.v (P_move rfl rfl)) ?_
    refine L_val rfl rfl rfl (OpP.v (P_assign rfl rfl)) ?_
    refine L_nil ?_
    refine Q_then ?_
    refine R_ret ?_
    refine Q_block_ret ?_
    refine Q_then_ret ?_
    refine Q_then_ret ?_
    refine Q_block_ret ?_
    refine Q_then_ret ?_
    exact R_endV rfl rfl (.tmp rfl .nil) (by rw [idxG_hit h0 hx hpx]; rfl)
   ·skip
    have hpx : isAz a x = false := by unfold isAz; rw [decide_eq_false (p := a ≠ 0) e2, Bool.and_false]
    refine R_skip ?_
    refine Q_block ?_
    refine Q_then ?_
    refine R_region ?_
    refine L_val rfl rfl rfl (OpP.v (P_move rfl rfl)) ?_
    first | (refine L_val rfl rfl rfl (OpP.v (P_addN rfl rfl rfl (by simp only [fits]; omega))) ?_) | (refine L_val rfl rfl rfl (OpP.v (P_add rfl rfl rfl)) ?_)
    refine L_val rfl rfl rfl (OpP.v (P_assign rfl rfl)) ?_
    refine L_nil ?_
    exact Q_round (i + 1) (by show (i + 1) ≤ l.length ∧ ∀ j m', j < (i + 1) → l[j]? = some m' → isAz a m' = false; exact ⟨by omega, no_next h0 hx hpx⟩) (by show l.length - (i + 1) < l.length - i; omega) (by repeat (first | exact .nil | refine .cons rfl ?_ | refine .consE rfl (by first | rfl | (congr 1; omega) | (congr 1; push_cast; omega)) ?_)) (Weak.refl _)
  ·skip
   have e1 := of_decide_eq_false e1
   have hpx : isAz a x = false := by unfold isAz; rw [decide_eq_false e1, Bool.false_and]
   refine L_val rfl rfl rfl (OpP.v (P_move rfl rfl)) ?_
   refine L_no rfl rfl rfl ?_
   refine L_no rfl rfl rfl ?_
   refine L_val rfl rfl rfl (OpP.v (P_pick rfl rfl rfl)) ?_
   refine L_nil ?_
   refine Q_then ?_
   refine R_condF rfl ?_
   refine R_skip ?_
   refine Q_block ?_
   refine Q_then ?_
   refine R_region ?_
   refine L_val rfl rfl rfl (OpP.v (P_move rfl rfl)) ?_
   first | (refine L_val rfl rfl rfl (OpP.v (P_addN rfl rfl rfl (by simp only [fits]; omega))) ?_) | (refine L_val rfl rfl rfl (OpP.v (P_add rfl rfl rfl)) ?_)
   refine L_val rfl rfl rfl (OpP.v (P_assign rfl rfl)) ?_
   refine L_nil ?_
   exact Q_round (i + 1) (by show (i + 1) ≤ l.length ∧ ∀ j m', j < (i + 1) → l[j]? = some m' → isAz a m' = false; exact ⟨by omega, no_next h0 hx hpx⟩) (by show l.length - (i + 1) < l.length - i; omega) (by repeat (first | exact .nil | refine .cons rfl ?_ | refine .consE rfl (by first | rfl | (congr 1; omega) | (congr 1; push_cast; omega)) ?_)) (Weak.refl _)
 ·skip
  have hin : i = l.length := by omega
  rw [hin] at h0
  refine R_exit ?_
  refine Q_then_exit ?_
  refine Q_then_exit ?_
  refine Q_block_eq ?_
  refine St.env (.cons (t := 4) rfl .nil) ?_
  refine Q_then ?_
  refine R_seq ?_
  refine R_region ?_
  refine L_val rfl rfl rfl (OpP.v (P_assign rfl rfl)) ?_
  refine L_nil ?_
  refine Q_then ?_
  refine R_ret ?_
  exact R_endV rfl rfl (.tmp rfl .nil) (by rw [idxG_none h0]; rfl)
theorem rfind_ok {gl : Nat → Obj} (base : Option Addr) (c : Nat) (l : List Acc) (hc : l.length ≤ c)(hm : l.length ≤ 3518437208883) (r : Value) (hr : r.oneCell' = true) (bu su a : Int) : SpecV (cx gl) 24 [.agg (ledV (.slice base l.length c) r bu su).toArray, .int .u64 a] (fun w => Row w base (rc l)) (findV l a) := by
 refine Spec.enter (C := cx gl) Tryz.func24 rfl 18 rfl rfl fun w0 h0 hsep hsub hpre => ?_
 obtain rfl : h0 = Heap.none := hsep
 show St (cx gl) _ [(0, .agg (ledV (.slice base l.length c) r bu su).toArray), (1, .int .u64 a)] _ _
 refine R_seq ?_
 refine R_region ?_
 refine L_op rfl (W_box (ledV (.slice base l.length c) r bu su) rfl rfl rfl rfl rfl fun b2 => ?_)
 refine L_op rfl (W_alloc rfl rfl rfl ty_ze_38 fun b4 => ?_)
 refine L_val rfl rfl rfl (OpP.v (P_assign rfl rfl)) ?_
 refine L_nil ?_
 refine St.env (.cons (t := 1) rfl (.cons (t := 2) rfl (.cons (t := 4) rfl (.cons (t := 5) rfl .nil)))) ?_
 refine Q_then ?_
 refine R_seq ?_
 refine R_region ?_
 refine L_val rfl rfl rfl (V_loadAgg rfl rfl ty_ag_26 (Rds.blk .h1) (rfl)) ?_
 refine L_val rfl rfl rfl (OpP.v (P_move rfl rfl)) ?_
 refine L_op rfl (W_callV rfl rfl rfl rfl fn_ca_68 (rplace_ok base c l hc hm r hr bu su a) (fun w nw => (Sn.row hpre rfl).rw_ w nw) ?_)
 refine L_val rfl rfl rfl (OpP.v (P_assign rfl rfl)) ?_
 refine L_nil ?_
 refine St.env (.cons (t := 2) rfl (.cons (t := 4) rfl (.cons (t := 5) rfl (.cons (t := 6) rfl .nil)))) ?_
 refine Q_then ?_
 refine R_seq ?_
 refine R_seq ?_
 refine R_region ?_
 refine L_val rfl rfl rfl (OpP.v (P_move rfl rfl)) ?_
 refine L_val rfl rfl rfl (OpP.v (P_lss rfl rfl rfl)) ?_
 refine L_nil ?_
 refine St.env (.cons (t := 2) rfl (.cons (t := 4) rfl (.cons (t := 5) rfl (.cons (t := 6) rfl (.cons (t := 11) rfl .nil))))) ?_
 refine Q_then ?_
 refine R_condP rfl (fun hn => ?_) (fun hn => ?_)
 ·skip
  rw [isAz_idx] at hn
  have hno : idxG (isAc a) l < 0 ∨ a = 0 := by split at hn; exact .inr (by assumption); exact .inl hn
  refine R_seq ?_
  refine R_region ?_
  refine L_val rfl rfl rfl (OpP.v (P_buildStruct rfl ty_pl_38 ty_ze_38 rfl rfl (rfl))) ?_
  refine L_op rfl (W_storeAll rfl rfl rfl rfl ty_ag_38 (rfl) (Rec.one acc0) .h0 (rfl) ?_)
  refine L_val rfl rfl rfl (OpP.v (P_assign rfl rfl)) ?_
  refine L_nil ?_
  refine St.env (.cons (t := 2) rfl (.cons (t := 4) rfl (.cons (t := 5) rfl (.cons (t := 6) rfl .nil)))) ?_
  refine Q_then ?_
  refine R_ret ?_
  refine Q_then_ret ?_
  exact R_endV rfl rfl (.cell rfl (Rds.loadVar ty_ag_38 (Rds.blk .h0) rfl) (.tmp rfl .nil)) (by rw [findV_no hno]; rfl)
 ·skip
  obtain ⟨i, hi, hix⟩ := idxG_pos hn
  rw [isAz_idx] at hix
  have ha0 : a ≠ 0 := fun e => by rw [if_pos e] at hix; omega
  rw [if_neg ha0] at hix
  have hno : ¬ (idxG (isAc a) l < 0 ∨ a = 0) := by omega
  have hx := accAt_get hi
  obtain ⟨pb, pj, rfl, hrow⟩ := hpre.some_ (by rw [rc_length]; show 0 < _ * 5; omega)
  refine E_as (t := 6) (v' := .int .i64 (i : Int)) rfl (by rw [isAz_idx, if_neg ha0, hix]) ?_
  refine R_skip ?_
  refine Q_then ?_
  refine R_seq ?_
  refine R_region ?_
  refine L_val rfl rfl rfl (OpP.v (P_fld0 rfl ty_fl_26_0 rfl)) ?_
  refine L_val rfl rfl rfl (V_load rfl rfl ty_sc_22 (Rd.blk .h1 rfl)) ?_
  refine L_val rfl rfl rfl (OpP.v (P_move rfl rfl)) ?_
  refine L_val rfl rfl rfl (OpP.v (P_ixs (i) rfl ty_sl_22 rfl rfl (by first | rfl | omega) (by omega))) ?_
  refine L_val rfl rfl rfl (V_loadAgg rfl rfl ty_ag_38 (rds_rc (Rds.row hrow rfl) hx) (rfl)) ?_
  refine L_op rfl (W_storeAll rfl rfl rfl rfl ty_ag_38 (rfl) (Rec.one (accAt l i)) .h0 (rfl) ?_)
  refine L_val rfl rfl rfl (OpP.v (P_assign rfl rfl)) ?_
  refine L_nil ?_
  refine St.env (.cons (t := 4) rfl (.cons (t := 5) rfl .nil)) ?_
  refine Q_then ?_
  refine R_ret ?_
  exact R_endV rfl rfl (.cell rfl (Rds.loadVar ty_ag_38 (Rds.blk .h0) rfl) (.tmp rfl .nil)) (by rw [findV_yes hno, hix]; rfl)
end Go.Proofs.YtfhjhaogmdaepaaGreatDoor

/- The reference: New, Sound, Seats. Printed by gen.py. -/
set_option linter.unusedVariables false
set_option linter.unusedSimpArgs false
set_option maxRecDepth 100000
namespace Go.Proofs.YtfhjhaogmdaepaaGreatDoor
open Go Go.RowKit Go.Proofs
theorem rsound_ok {gl : Nat → Obj} (base : Option Addr) (c : Nat) (l : List Acc) (hc : l.length ≤ c)(hm : l.length ≤ 3518437208883)(hok : ∀ x ∈ l, x.ok)(base' : Option Addr) (c' : Nat) (r : List Rel) (hc' : r.length ≤ c') (hok' : ∀ x ∈ r, x.ok) (bu su : Int) (hbu : u64 bu) : SpecV (cx gl) 55 [.agg (ledV (.slice base l.length c) (.slice base' r.length c') bu su).toArray] (fun w => Row w base (rc l) ∧ Row w base' (rc r)) (.int .i64 (lsoundE ⟨l, r, bu, su⟩)) := by
 refine Spec.enter (C := cx gl) Tryz.func55 rfl 35 rfl rfl fun w0 h0 hsep hsub hpre => ?_
 obtain rfl : h0 = Heap.none := hsep
 show St (cx gl) _ [(0, .agg (ledV (.slice base l.length c) (.slice base' r.length c') bu su).toArray)] _ _
 have hms : MS = 1152921504606846975 := rfl
 refine R_seq ?_
 refine R_region ?_
 refine L_op rfl (W_box (ledV (.slice base l.length c) (.slice base' r.length c') bu su) rfl rfl rfl rfl rfl fun b1 => ?_)
 refine L_val rfl rfl rfl (OpP.v (P_assign rfl rfl)) ?_
 refine L_nil ?_
 refine St.env (.cons (t := 1) rfl (.cons (t := 2) rfl .nil)) ?_
 refine Q_then ?_
 refine R_seq ?_
 refine R_seq ?_
 refine R_region ?_
 refine L_val rfl rfl rfl (OpP.v (P_fld0 rfl ty_fl_26_0 rfl)) ?_
 refine L_val rfl rfl rfl (V_load rfl rfl ty_sc_22 (Rd.blk .h0 rfl)) ?_
 refine L_val rfl rfl rfl (OpP.v (P_len rfl ty_sl_22 rfl)) ?_
 refine L_val rfl rfl rfl (OpP.v (P_gtr rfl rfl rfl)) ?_
 refine E_bool (t := 7) rfl (fun hA => ?_) (fun hA => ?_)
 ·skip
  have hA := of_decide_eq_true hA
  refine L_val rfl rfl rfl (OpP.v (P_move rfl rfl)) ?_
  refine L_no rfl rfl rfl ?_
  refine L_no rfl rfl rfl ?_
  refine L_no rfl rfl rfl ?_
  refine L_no rfl rfl rfl ?_
  refine L_val rfl rfl rfl (OpP.v (P_pick rfl rfl rfl)) ?_
  refine L_nil ?_
  refine St.env (.cons (t := 1) rfl (.cons (t := 2) rfl (.cons (t := 13) rfl .nil))) ?_
  refine Q_then ?_
  refine R_condT rfl ?_
  refine R_seq ?_
  refine R_region ?_
  refine L_val rfl rfl rfl (OpP.v (P_assign rfl rfl)) ?_
  refine L_nil ?_
  refine St.env (.cons (t := 1) rfl (.cons (t := 2) rfl .nil)) ?_
  refine Q_then ?_
  refine R_ret ?_
  refine Q_then_ret ?_
  exact R_endV rfl rfl (.tmp rfl .nil) (by rw [show lsoundE ⟨l, r, bu, su⟩ = 86 from lsoundE_big (by show 65536 < l.length ∨ 65536 < r.length; omega)]; rfl)
 ·skip
  have hA := of_decide_eq_false hA
  have hA : ¬ 65536 < l.length := by omega
  refine L_val rfl rfl rfl (OpP.v (P_move rfl rfl)) ?_
  refine L_val rfl rfl rfl (OpP.v (P_fld0 rfl ty_fl_26_1 rfl)) ?_
  refine L_val rfl rfl rfl (V_load rfl rfl ty_sc_23 (Rd.blk .h0 rfl)) ?_
  refine L_val rfl rfl rfl (OpP.v (P_len rfl ty_sl_23 rfl)) ?_
  refine L_val rfl rfl rfl (OpP.v (P_gtr rfl rfl rfl)) ?_
  refine L_val rfl rfl rfl (OpP.v (P_pick rfl rfl rfl)) ?_
  refine L_nil ?_
  refine St.env (.cons (t := 1) rfl (.cons (t := 2) rfl (.cons (t := 13) rfl .nil))) ?_
  refine Q_then ?_
  refine R_condP rfl (fun hB => ?_) (fun hB => ?_)
  ·skip
   refine R_seq ?_
   refine R_region ?_
   refine L_val rfl rfl rfl (OpP.v (P_assign rfl rfl)) ?_
   refine L_nil ?_
   refine St.env (.cons (t := 1) rfl (.cons (t := 2) rfl .nil)) ?_
   refine Q_then ?_
   refine R_ret ?_
   refine Q_then_ret ?_
   exact R_endV rfl rfl (.tmp rfl .nil) (by rw [show lsoundE ⟨l, r, bu, su⟩ = 86 from lsoundE_big (by show 65536 < l.length ∨ 65536 < r.length; omega)]; rfl)
  ·skip
   have hB : ¬ 65536 < r.length := by omega
   refine R_skip ?_
   refine Q_then ?_
   refine R_seq ?_
   refine R_region ?_
   refine L_val rfl rfl rfl (OpP.v (P_fld0 rfl ty_fl_26_0 rfl)) ?_
   refine L_val rfl rfl rfl (V_load rfl rfl ty_sc_22 (Rd.blk .h0 rfl)) ?_
   refine L_op rfl (W_callV rfl rfl rfl rfl fn_ca_69 (racc_ok base c l hc hm) (fun w nw => (Sn.row hpre.1 rfl).rw_ w nw) ?_)
   refine E_as (t := 16) (v' := .int .i64 (accE l)) rfl (by unfold raccE; rw [if_neg hA]) ?_
   refine L_val rfl rfl rfl (OpP.v (P_assign rfl rfl)) ?_
   refine L_nil ?_
   refine St.env (.cons (t := 1) rfl (.cons (t := 2) rfl (.cons (t := 3) rfl .nil))) ?_
   refine Q_then ?_
   refine R_seq ?_
   refine R_seq ?_
   refine R_region ?_
   refine L_val rfl rfl rfl (OpP.v (P_move rfl rfl)) ?_
   refine L_val rfl rfl rfl (OpP.v (P_neq rfl rfl rfl)) ?_
   refine L_nil ?_
   refine St.env (.cons (t := 1) rfl (.cons (t := 2) rfl (.cons (t := 3) rfl (.cons (t := 18) rfl .nil)))) ?_
   refine Q_then ?_
   refine R_condP rfl (fun he => ?_) (fun he => ?_)
   ·skip
    refine R_seq ?_
    refine R_region ?_
    refine L_val rfl rfl rfl (OpP.v (P_move rfl rfl)) ?_
    refine L_val rfl rfl rfl (OpP.v (P_assign rfl rfl)) ?_
    refine L_nil ?_
    refine St.env (.cons (t := 1) rfl (.cons (t := 2) rfl (.cons (t := 3) rfl .nil))) ?_
    refine Q_then ?_
    refine R_ret ?_
    refine Q_then_ret ?_
    exact R_endV rfl rfl (.tmp rfl .nil) (by rw [show lsoundE ⟨l, r, bu, su⟩ = accE l from lsoundE_acc hA hB he]; rfl)
   ·skip
    have he : accE l = 0 := Classical.not_not.1 he
    refine R_skip ?_
    refine Q_then ?_
    refine R_seq ?_
    refine R_region ?_
    refine L_val rfl rfl rfl (V_loadAgg rfl rfl ty_ag_26 (Rds.blk .h0) (rfl)) ?_
    refine L_op rfl (W_callV rfl rfl rfl rfl fn_ca_124 (rrows_ok base c l hc hm base' c' r hc' (by omega) hok' bu su) (fun w nw => ⟨(Sn.row hpre.1 rfl).rw_ w nw, (Sn.row hpre.2 rfl).rw_ w nw⟩) ?_)
    refine L_val rfl rfl rfl (OpP.v (P_assign rfl rfl)) ?_
    refine L_nil ?_
    refine St.env (.cons (t := 1) rfl (.cons (t := 2) rfl (.cons (t := 3) rfl .nil))) ?_
    refine Q_then ?_
    refine R_seq ?_
    refine R_seq ?_
    refine R_region ?_
    refine L_val rfl rfl rfl (OpP.v (P_move rfl rfl)) ?_
    refine L_val rfl rfl rfl (OpP.v (P_neq rfl rfl rfl)) ?_
    refine L_nil ?_
    refine St.env (.cons (t := 1) rfl (.cons (t := 2) rfl (.cons (t := 3) rfl (.cons (t := 23) rfl .nil)))) ?_
    refine Q_then ?_
    refine R_condP rfl (fun hr => ?_) (fun hr => ?_)
    ·skip
     refine R_seq ?_
     refine R_region ?_
     refine L_val rfl rfl rfl (OpP.v (P_move rfl rfl)) ?_
     refine L_val rfl rfl rfl (OpP.v (P_assign rfl rfl)) ?_
     refine L_nil ?_
     refine St.env (.cons (t := 1) rfl (.cons (t := 2) rfl .nil)) ?_
     refine Q_then ?_
     refine R_ret ?_
     refine Q_then_ret ?_
     exact R_endV rfl rfl (.tmp rfl .nil) (by rw [show lsoundE ⟨l, r, bu, su⟩ = relE l r from lsoundE_rel hA hB he rfl hr]; rfl)
    ·skip
     have hr : relE l r = 0 := Classical.not_not.1 hr
     have hts := totC_spec hok hok' hbu.1
     refine R_skip ?_
     refine Q_then ?_
     refine R_seq ?_
     refine R_seq ?_
     refine R_open [(0, 0), (1, 1), (2, 0), (3, 0), (4, 1), (6, 0), (7, 1), (5, 2), (8, 0), (9, 0)] mixed (by kernel_rfl) (QOk.then (QOk.then QOk.body)) ?_
     refine O_pure rfl rfl rfl rfl (P_fld0 rfl ty_fl_26_3 rfl) ?_
     refine O_val rfl rfl rfl rfl (V_load rfl rfl ty_sc_24 (Rd.blk .h0 rfl)) ?_
     refine O_pure rfl rfl rfl rfl (P_gtr rfl rfl rfl) ?_
     refine E_bool (t := 27) rfl (fun q1 => ?_) (fun q1 => ?_)
     ·skip
      have q1 := of_decide_eq_true q1
      refine O_pure rfl rfl rfl rfl (P_move rfl rfl) ?_
      refine O_noX rfl rfl rfl rfl ?_
      refine O_no rfl rfl rfl rfl ?_
      refine O_noX rfl rfl rfl rfl ?_
      refine O_no2 rfl rfl rfl rfl ?_
      refine O_no rfl rfl rfl rfl ?_
      refine O_pure rfl rfl rfl rfl (P_pick rfl rfl rfl) ?_
      refine O_nil ?_
      refine St.env (.cons (t := 2) rfl (.cons (t := 34) rfl .nil)) ?_
      refine Q_then ?_
      refine R_condT rfl ?_
      refine R_seq ?_
      refine R_region ?_
      refine L_val rfl rfl rfl (OpP.v (P_assign rfl rfl)) ?_
      refine L_nil ?_
      refine St.env (.cons (t := 2) rfl .nil) ?_
      refine Q_then ?_
      refine R_ret ?_
      refine Q_then_ret ?_
      exact R_endV rfl rfl (.tmp rfl .nil) (by rw [show lsoundE ⟨l, r, bu, su⟩ = 87 from lsoundE_sum hA hB he hr (by show MS < su ∨ bu + sumA l + sumR r ≠ su; rw [hms] at hts ⊢; omega)]; rfl)
     ·skip
      have q1 := of_decide_eq_false q1
      refine O_pure rfl rfl rfl rfl (P_move rfl rfl) ?_
      refine O_val rfl rfl rfl rfl (V_loadAgg rfl rfl ty_ag_26 (Rds.blk .h0) (rfl)) ?_
      refine O_pure rfl rfl rfl rfl (P_fld0 rfl ty_fl_26_3 rfl) ?_
      refine O_val rfl rfl rfl rfl (V_load rfl rfl ty_sc_24 (Rd.blk .h0 rfl)) ?_
      refine O_keep rfl rfl (W_callV rfl rfl rfl rfl fn_ca_70 (rtot_ok base c l hc hm hok base' c' r hc' (by omega) hok' bu su hbu) (fun w nw => ⟨(Sn.row hpre.1 rfl).rw_ w nw, (Sn.row hpre.2 rfl).rw_ w nw⟩) (K_keep (Weak.refl _) ?_))
      refine O_pure rfl rfl rfl rfl (P_neq rfl rfl rfl) ?_
      refine O_pure rfl rfl rfl rfl (P_pick rfl rfl rfl) ?_
      refine O_nil ?_
      refine St.env (.cons (t := 2) rfl (.cons (t := 34) rfl .nil)) ?_
      refine Q_then ?_
      refine R_condP rfl (fun q2 => ?_) (fun q2 => ?_)
      ·skip
       refine R_seq ?_
       refine R_region ?_
       refine L_val rfl rfl rfl (OpP.v (P_assign rfl rfl)) ?_
       refine L_nil ?_
       refine St.env (.cons (t := 2) rfl .nil) ?_
       refine Q_then ?_
       refine R_ret ?_
       refine Q_then_ret ?_
       exact R_endV rfl rfl (.tmp rfl .nil) (by rw [show lsoundE ⟨l, r, bu, su⟩ = 87 from lsoundE_sum hA hB he hr (by show MS < su ∨ bu + sumA l + sumR r ≠ su; rw [hms] at hts ⊢; omega)]; rfl)
      ·skip
       refine R_skip ?_
       refine Q_then ?_
       refine R_seq ?_
       refine R_region ?_
       refine L_val rfl rfl rfl (OpP.v (P_assign rfl rfl)) ?_
       refine L_nil ?_
       refine St.env (.cons (t := 2) rfl .nil) ?_
       refine Q_then ?_
       refine R_ret ?_
       exact R_endV rfl rfl (.tmp rfl .nil) (by rw [show lsoundE ⟨l, r, bu, su⟩ = 0 from lsoundE_fine hA hB he hr (by show ¬ MS < su; rw [hms]; omega) (by show bu + sumA l + sumR r = su; rw [hms] at hts; omega)]; rfl)
end Go.Proofs.YtfhjhaogmdaepaaGreatDoor

/- Walks: Root. Printed by gen.py. -/
set_option linter.unusedVariables false
set_option linter.unusedSimpArgs false
set_option maxRecDepth 100000
namespace Go.Proofs.YtfhjhaogmdaepaaGreatDoor
open Go Go.RowKit Go.Proofs
def fB (L : Led) : List (List Int) := L.acc.map formB
def rootLE (L : Led) : Int := if lsoundE L ≠ 0 then lsoundE L else rootE (fB L)
def rootLD (L : Led) : List Int := if rootLE L ≠ 0 then List.replicate 32 0 else sha (1 :: (rootD (fB L) ++ sha (restB L.rel L.burnt L.sup)))
def rootLV (L : Led) : Value := .tuple #[.agg (ints .u8 (rootLD L)).toArray, .int .i64 (rootLE L)]
theorem rootLE_bad {L : Led} (h : lsoundE L ≠ 0) : rootLE L = lsoundE L := by unfold rootLE; rw [if_pos h]
theorem rootLE_of {L : Led} (h : lsoundE L = 0) : rootLE L = rootE (fB L) := by unfold rootLE; rw [if_neg (by rw [h]; simp)]
theorem rootLV_bad {L : Led} {e : Int} (h : rootLE L = e) (he : e ≠ 0) : rootLV L = .tuple #[.agg (ints .u8 (List.replicate 32 0)).toArray, .int .i64 e] := by
 unfold rootLV rootLD; rw [if_pos (by rw [h]; exact he), h]
theorem rootLV_fine {L : Led} (h : rootLE L = 0) : rootLV L = .tuple #[.agg (ints .u8 (sha (1 :: (rootD (fB L) ++ sha (restB L.rel L.burnt L.sup))))).toArray, .int .i64 0] := by
 unfold rootLV rootLD; rw [if_neg (by rw [h]; simp), h]
theorem rootLD_length (L : Led) : (rootLD L).length = 32 := by unfold rootLD; split; simp; exact sha_length _
theorem lroot_ok {gl : Nat → Obj} (hG : Globs gl) (base : Option Addr) (c : Nat) (l : List Acc) (hc : l.length ≤ c) (hm : l.length ≤ 3518437208800)(hok : ∀ x ∈ l, x.ok) (base' : Option Addr) (c' : Nat) (r : List Rel) (hc' : r.length ≤ c') (hok' : ∀ x ∈ r, x.ok) (bu su : Int) (hbu : u64 bu) (hsu : u64 su) : SpecV (cx gl) 10 [.agg (ledV (.slice base l.length c) (.slice base' r.length c') bu su).toArray] (fun w => Row w base (rc l) ∧ Row w base' (rc r)) (rootLV ⟨l, r, bu, su⟩) := by
 refine Spec.enter (C := cx gl) Tryz.func10 rfl 27 rfl rfl fun w0 h0 hsep hsub hpre => ?_
 obtain rfl : h0 = Heap.none := hsep
 show St (cx gl) _ [(0, .agg (ledV (.slice base l.length c) (.slice base' r.length c') bu su).toArray)] _ _
 refine R_seq ?_
 refine R_region ?_
 refine L_op rfl (W_box (ledV (.slice base l.length c) (.slice base' r.length c') bu su) rfl rfl rfl rfl rfl fun b1 => ?_)
 refine L_op rfl (W_alloc rfl rfl rfl ty_ze_29 fun b2 => ?_)
 refine L_val rfl rfl rfl (OpP.v (P_assign rfl rfl)) ?_
 refine L_nil ?_
 refine St.env (.cons (t := 1) rfl (.cons (t := 2) rfl (.cons (t := 3) rfl .nil))) ?_
 refine Q_then ?_
 refine R_seq ?_
 refine R_seq ?_
 refine R_region ?_
 refine L_val rfl rfl rfl (V_loadAgg rfl rfl ty_ag_26 (Rds.blk .h1) (rfl)) ?_
 refine L_op rfl (W_callV rfl rfl rfl rfl fn_ca_45 (lsound_ok base c l hc hok base' c' r hc' hok' bu su hbu hsu) (fun w nw => ⟨(Sn.row hpre.1 rfl).rw_ w nw, (Sn.row hpre.2 rfl).rw_ w nw⟩) ?_)
 refine L_val rfl rfl rfl (OpP.v (P_assign rfl rfl)) ?_
 refine L_nil ?_
 refine St.env (.cons (t := 1) rfl (.cons (t := 2) rfl (.cons (t := 3) rfl (.cons (t := 4) rfl .nil)))) ?_
 refine Q_then ?_
 refine R_seq ?_
 refine R_region ?_
 refine L_val rfl rfl rfl (OpP.v (P_move rfl rfl)) ?_
 refine L_val rfl rfl rfl (OpP.v (P_neq rfl rfl rfl)) ?_
 refine L_nil ?_
 refine St.env (.cons (t := 1) rfl (.cons (t := 2) rfl (.cons (t := 3) rfl (.cons (t := 4) rfl (.cons (t := 10) rfl .nil))))) ?_
 refine Q_then ?_
 refine R_condP rfl (fun he => ?_) (fun he => ?_)
 ·skip
  refine R_seq ?_
  refine R_region ?_
  refine L_val rfl rfl rfl (OpP.v (P_buildArrR rfl ty_ar_29 ty_ze_29 rfl rfl rfl (by first | decide | (simp only [List.length_cons, List.length_nil]; omega)) (by simp [Value.oneCell']))) ?_
  refine E_as (t := 11) (v' := .agg (ints .u8 (List.replicate 32 0)).toArray) rfl rfl ?_
  refine L_val rfl rfl rfl (OpP.v (P_move rfl rfl)) ?_
  refine L_op rfl (W_storeAll rfl rfl rfl rfl ty_ag_29 (rfl) (ints_one) .h0 (rfl) ?_)
  refine L_val rfl rfl rfl (OpP.v (P_assign rfl rfl)) ?_
  refine L_nil ?_
  refine St.env (.cons (t := 1) rfl (.cons (t := 2) rfl (.cons (t := 3) rfl .nil))) ?_
  refine Q_then ?_
  refine R_ret ?_
  refine Q_then_ret ?_
  exact R_endV rfl rfl (.cell rfl (Rds.loadVar ty_ag_29 (Rds.blk .h0) rfl) (.tmp rfl .nil)) (by rw [rootLV_bad (L := ⟨l, r, bu, su⟩) (e := lsoundE ⟨l, r, bu, su⟩) (rootLE_bad he) he]; rfl)
 ·skip
  have he : lsoundE ⟨l, r, bu, su⟩ = 0 := Classical.not_not.1 he
  have hF := ledFine_of he
  have hfew : l.length ≤ 65536 := hF.few
  have hfew' : r.length ≤ 65536 := hF.few'
  have hle := rootLE_of he
  refine R_skip ?_
  refine Q_then ?_
  refine R_seq ?_
  refine R_region ?_
  refine L_val rfl rfl rfl (V_loadAgg rfl rfl ty_ag_26 (Rds.blk .h1) (rfl)) ?_
  refine L_op rfl (W_call rfl rfl rfl rfl fn_ca_52 (forms_ok base c l hc hfew (.slice base' r.length c') rfl bu su) (Split.nil _) (fun w a b _ hb dj m => (Sn.row hpre.1 rfl).rw_ w ⟨_, hb, m.le (Heap.le_join_right dj)⟩) fun v1 rs1 ⟨qs, hq, e1⟩ => ?_)
  subst e1
  refine St.ownForm (p := [_]) fun ub uc huv huc => ?_
  subst huv
  have hql : (qs.map Ob.val).length = l.length := by rw [List.length_map]; exact hq.len
  have h9 := root_ok (gl := gl) hG ub uc (qs.map Ob.val) (qs.map Ob.xs) (by rw [List.length_map, List.length_map]) (by omega) (by omega)
  rw [hql, hq.1] at h9
  refine L_op rfl (W_callV rfl rfl rfl rfl fn_ca_51 (h9) (fun w nw => by have h8 := fam_items hq.2 .h0 .h1 w nw; rw [hq.1] at h8; exact h8) ?_)
  refine L_val rfl rfl rfl (OpP.v (P_move rfl rfl)) ?_
  refine L_val rfl rfl rfl (OpP.v (P_extract rfl rfl rfl)) ?_
  refine L_val rfl rfl rfl (OpP.v (P_extract rfl rfl rfl)) ?_
  refine L_op rfl (W_alloc rfl rfl rfl ty_ze_29 fun b5 => ?_)
  refine L_op rfl (W_storeAll rfl rfl rfl rfl ty_ag_29 (by rw [ints_length, rootD_length]) (ints_one) .h0 (by first | (rw [ints_length, rootD_length]; done) | (rw [ints_length, rootD_length]; rfl)) ?_)
  refine L_val rfl rfl rfl (OpP.v (P_assign rfl rfl)) ?_
  refine L_nil ?_
  refine St.env (.cons (t := 1) rfl (.cons (t := 2) rfl (.cons (t := 3) rfl (.cons (t := 5) rfl (.cons (t := 6) rfl .nil))))) ?_
  refine Q_then ?_
  refine R_seq ?_
  refine R_seq ?_
  refine R_region ?_
  refine L_val rfl rfl rfl (OpP.v (P_move rfl rfl)) ?_
  refine L_val rfl rfl rfl (OpP.v (P_neq rfl rfl rfl)) ?_
  refine L_nil ?_
  refine St.env (.cons (t := 1) rfl (.cons (t := 2) rfl (.cons (t := 3) rfl (.cons (t := 5) rfl (.cons (t := 6) rfl (.cons (t := 20) rfl .nil)))))) ?_
  refine Q_then ?_
  refine R_condP rfl (fun hr => ?_) (fun hr => ?_)
  ·skip
   refine R_seq ?_
   refine R_region ?_
   refine L_val rfl rfl rfl (OpP.v (P_buildArrR rfl ty_ar_29 ty_ze_29 rfl rfl rfl (by first | decide | (simp only [List.length_cons, List.length_nil]; omega)) (by simp [Value.oneCell']))) ?_
   refine E_as (t := 21) (v' := .agg (ints .u8 (List.replicate 32 0)).toArray) rfl rfl ?_
   refine L_val rfl rfl rfl (OpP.v (P_move rfl rfl)) ?_
   refine L_op rfl (W_storeAll rfl rfl rfl rfl ty_ag_29 (rfl) (ints_one) .h3 (rfl) ?_)
   refine L_val rfl rfl rfl (OpP.v (P_assign rfl rfl)) ?_
   refine L_nil ?_
   refine St.env (.cons (t := 1) rfl (.cons (t := 2) rfl (.cons (t := 3) rfl (.cons (t := 5) rfl .nil)))) ?_
   refine Q_then ?_
   refine R_ret ?_
   refine Q_then_ret ?_
   exact R_endV rfl rfl (.cell rfl (Rds.loadVar ty_ag_29 (Rds.blk .h3) rfl) (.tmp rfl .nil)) (by rw [rootLV_bad (L := ⟨l, r, bu, su⟩) (e := rootE (l.map formB)) (hle) hr]; rfl)
  ·skip
   have hr : rootE (l.map formB) = 0 := Classical.not_not.1 hr
   refine R_skip ?_
   refine Q_then ?_
   refine R_seq ?_
   refine R_open [(0, 1), (1, 1), (2, 2), (3, 2), (4, 3), (5, 0)] mixed (by kernel_rfl) (QOk.then QOk.body) ?_
   refine O_val rfl rfl rfl rfl (V_loadAgg rfl rfl ty_ag_29 (Rds.blk .h0) (by rw [ints_length, rootD_length])) ?_
   refine O_val rfl rfl rfl rfl (V_loadAgg rfl rfl ty_ag_26 (Rds.blk .h4) (rfl)) ?_
   refine O_keep rfl rfl (W_callV rfl rfl rfl rfl fn_ca_54 (rest_ok hG (.slice base l.length c) rfl base' c' r hc' hfew' bu su) ((Sn.row hpre.2 rfl).rw_) (K_keep (Weak.refl _) ?_))
   refine O_keep rfl rfl (W_callV rfl rfl rfl rfl fn_ca_53 (inner_ok hG (rootD (l.map formB)) (sha (restB r bu su)) (rootD_length _) (sha_length _)) (fun _ _ => trivial) (K_keep (Weak.refl _) ?_))
   refine O_new rfl rfl (W_storeAll rfl rfl rfl rfl ty_ag_29 (by rw [ints_length, sha_length]) (ints_one) .h3 (by first | (rw [ints_length, sha_length]; done) | (rw [ints_length, sha_length]; rfl)) (K_new ?_))
   refine O_pure rfl rfl rfl rfl (P_assign rfl rfl) ?_
   refine O_nil ?_
   refine St.env (.cons (t := 2) rfl (.cons (t := 3) rfl .nil)) ?_
   refine Q_then ?_
   refine R_ret ?_
   exact R_endV rfl rfl (.cell rfl (Rds.loadVar ty_ag_29 (Rds.blk .h3) (by rw [ints_length, sha_length])) (.tmp rfl .nil)) (by rw [rootLV_fine (L := ⟨l, r, bu, su⟩) (hle.trans hr)]; rfl)
theorem rlroot_ok {gl : Nat → Obj} (hG : GlobsR gl) (base : Option Addr) (c : Nat) (l : List Acc) (hc : l.length ≤ c) (hm : l.length ≤ 3518437208800)(hok : ∀ x ∈ l, x.ok) (base' : Option Addr) (c' : Nat) (r : List Rel) (hc' : r.length ≤ c') (hok' : ∀ x ∈ r, x.ok) (bu su : Int) (hbu : u64 bu) (hsu : u64 su) : SpecV (cx gl) 11 [.agg (ledV (.slice base l.length c) (.slice base' r.length c') bu su).toArray] (fun w => Row w base (rc l) ∧ Row w base' (rc r)) (rootLV ⟨l, r, bu, su⟩) := by
 refine Spec.enter (C := cx gl) Tryz.func11 rfl 29 rfl rfl fun w0 h0 hsep hsub hpre => ?_
 obtain rfl : h0 = Heap.none := hsep
 show St (cx gl) _ [(0, .agg (ledV (.slice base l.length c) (.slice base' r.length c') bu su).toArray)] _ _
 refine R_seq ?_
 refine R_region ?_
 refine L_op rfl (W_box (ledV (.slice base l.length c) (.slice base' r.length c') bu su) rfl rfl rfl rfl rfl fun b1 => ?_)
 refine L_op rfl (W_alloc rfl rfl rfl ty_ze_29 fun b2 => ?_)
 refine L_val rfl rfl rfl (OpP.v (P_assign rfl rfl)) ?_
 refine L_nil ?_
 refine St.env (.cons (t := 1) rfl (.cons (t := 2) rfl (.cons (t := 3) rfl .nil))) ?_
 refine Q_then ?_
 refine R_seq ?_
 refine R_region ?_
 refine L_val rfl rfl rfl (V_loadAgg rfl rfl ty_ag_26 (Rds.blk .h1) (rfl)) ?_
 refine L_op rfl (W_callV rfl rfl rfl rfl fn_ca_55 (rsound_ok base c l hc (by omega) hok base' c' r hc' hok' bu su hbu) (fun w nw => ⟨(Sn.row hpre.1 rfl).rw_ w nw, (Sn.row hpre.2 rfl).rw_ w nw⟩) ?_)
 refine L_val rfl rfl rfl (OpP.v (P_assign rfl rfl)) ?_
 refine L_nil ?_
 refine St.env (.cons (t := 1) rfl (.cons (t := 2) rfl (.cons (t := 3) rfl (.cons (t := 4) rfl .nil)))) ?_
 refine Q_then ?_
 refine R_seq ?_
 refine R_seq ?_
 refine R_region ?_
 refine L_val rfl rfl rfl (OpP.v (P_move rfl rfl)) ?_
 refine L_val rfl rfl rfl (OpP.v (P_neq rfl rfl rfl)) ?_
 refine L_nil ?_
 refine St.env (.cons (t := 1) rfl (.cons (t := 2) rfl (.cons (t := 3) rfl (.cons (t := 4) rfl (.cons (t := 10) rfl .nil))))) ?_
 refine Q_then ?_
 refine R_condP rfl (fun he => ?_) (fun he => ?_)
 ·skip
  refine R_seq ?_
  refine R_region ?_
  refine L_val rfl rfl rfl (OpP.v (P_buildArrR rfl ty_ar_29 ty_ze_29 rfl rfl rfl (by first | decide | (simp only [List.length_cons, List.length_nil]; omega)) (by simp [Value.oneCell']))) ?_
  refine E_as (t := 11) (v' := .agg (ints .u8 (List.replicate 32 0)).toArray) rfl rfl ?_
  refine L_val rfl rfl rfl (OpP.v (P_move rfl rfl)) ?_
  refine L_op rfl (W_storeAll rfl rfl rfl rfl ty_ag_29 (rfl) (ints_one) .h0 (rfl) ?_)
  refine L_val rfl rfl rfl (OpP.v (P_assign rfl rfl)) ?_
  refine L_nil ?_
  refine St.env (.cons (t := 1) rfl (.cons (t := 2) rfl (.cons (t := 3) rfl (.cons (t := 4) rfl .nil)))) ?_
  refine Q_then ?_
  refine R_ret ?_
  refine Q_then_ret ?_
  exact R_endV rfl rfl (.cell rfl (Rds.loadVar ty_ag_29 (Rds.blk .h0) rfl) (.tmp rfl .nil)) (by rw [rootLV_bad (L := ⟨l, r, bu, su⟩) (e := lsoundE ⟨l, r, bu, su⟩) (rootLE_bad he) he]; rfl)
 ·skip
  have he : lsoundE ⟨l, r, bu, su⟩ = 0 := Classical.not_not.1 he
  have hF := ledFine_of he
  have hfew : l.length ≤ 65536 := hF.few
  have hfew' : r.length ≤ 65536 := hF.few'
  have hle := rootLE_of he
  refine R_skip ?_
  refine Q_then ?_
  refine R_seq ?_
  refine R_region ?_
  refine L_val rfl rfl rfl (V_loadAgg rfl rfl ty_ag_26 (Rds.blk .h1) (rfl)) ?_
  refine L_op rfl (W_call rfl rfl rfl rfl fn_ca_14 (rforms_ok base c l hc hfew hok (.slice base' r.length c') rfl bu su) (Split.nil _) (fun w a b _ hb dj m => (Sn.row hpre.1 rfl).rw_ w ⟨_, hb, m.le (Heap.le_join_right dj)⟩) fun v1 rs1 ⟨qs, hq, e1⟩ => ?_)
  subst e1
  refine St.ownForm (p := [_]) fun ub uc huv huc => ?_
  subst huv
  have hql : (qs.map Ob.val).length = l.length := by rw [List.length_map]; exact hq.len
  have h9 := rroot_ok (gl := gl) hG ub uc (qs.map Ob.val) (qs.map Ob.xs) (by rw [List.length_map, List.length_map]) (by omega) (by omega)
  rw [hql, hq.1] at h9
  refine L_op rfl (W_callV rfl rfl rfl rfl fn_ca_13 (h9) (fun w nw => by have h8 := fam_items hq.2 .h0 .h1 w nw; rw [hq.1] at h8; exact h8) ?_)
  refine L_val rfl rfl rfl (OpP.v (P_move rfl rfl)) ?_
  refine L_val rfl rfl rfl (OpP.v (P_extract rfl rfl rfl)) ?_
  refine L_val rfl rfl rfl (OpP.v (P_extract rfl rfl rfl)) ?_
  refine L_op rfl (W_alloc rfl rfl rfl ty_ze_29 fun b5 => ?_)
  refine L_op rfl (W_storeAll rfl rfl rfl rfl ty_ag_29 (by rw [ints_length, rootD_length]) (ints_one) .h0 (by first | (rw [ints_length, rootD_length]; done) | (rw [ints_length, rootD_length]; rfl)) ?_)
  refine L_val rfl rfl rfl (OpP.v (P_assign rfl rfl)) ?_
  refine L_nil ?_
  refine St.env (.cons (t := 1) rfl (.cons (t := 2) rfl (.cons (t := 3) rfl (.cons (t := 4) rfl (.cons (t := 5) rfl .nil))))) ?_
  refine Q_then ?_
  refine R_seq ?_
  refine R_seq ?_
  refine R_region ?_
  refine L_val rfl rfl rfl (OpP.v (P_move rfl rfl)) ?_
  refine L_val rfl rfl rfl (OpP.v (P_neq rfl rfl rfl)) ?_
  refine L_nil ?_
  refine St.env (.cons (t := 1) rfl (.cons (t := 2) rfl (.cons (t := 3) rfl (.cons (t := 4) rfl (.cons (t := 5) rfl (.cons (t := 20) rfl .nil)))))) ?_
  refine Q_then ?_
  refine R_condP rfl (fun hr => ?_) (fun hr => ?_)
  ·skip
   refine R_seq ?_
   refine R_region ?_
   refine L_val rfl rfl rfl (OpP.v (P_buildArrR rfl ty_ar_29 ty_ze_29 rfl rfl rfl (by first | decide | (simp only [List.length_cons, List.length_nil]; omega)) (by simp [Value.oneCell']))) ?_
   refine E_as (t := 21) (v' := .agg (ints .u8 (List.replicate 32 0)).toArray) rfl rfl ?_
   refine L_val rfl rfl rfl (OpP.v (P_move rfl rfl)) ?_
   refine L_op rfl (W_storeAll rfl rfl rfl rfl ty_ag_29 (rfl) (ints_one) .h3 (rfl) ?_)
   refine L_val rfl rfl rfl (OpP.v (P_assign rfl rfl)) ?_
   refine L_nil ?_
   refine St.env (.cons (t := 1) rfl (.cons (t := 2) rfl (.cons (t := 3) rfl (.cons (t := 5) rfl .nil)))) ?_
   refine Q_then ?_
   refine R_ret ?_
   refine Q_then_ret ?_
   exact R_endV rfl rfl (.cell rfl (Rds.loadVar ty_ag_29 (Rds.blk .h3) rfl) (.tmp rfl .nil)) (by rw [rootLV_bad (L := ⟨l, r, bu, su⟩) (e := rootE (l.map formB)) (hle) hr]; rfl)
  ·skip
   have hr : rootE (l.map formB) = 0 := Classical.not_not.1 hr
   refine R_skip ?_
   refine Q_then ?_
   refine R_seq ?_
   refine R_region ?_
   refine L_val rfl rfl rfl (V_loadAgg rfl rfl ty_ag_26 (Rds.blk .h4) (rfl)) ?_
   refine L_op rfl (W_call rfl rfl rfl rfl fn_ca_18 (rrest_ok (.slice base l.length c) rfl base' c' r hc' hfew' hok' bu su hbu hsu) (Split.nil _) (fun w a b _ hb dj m => (Sn.row hpre.2 rfl).rw_ w ⟨_, hb, m.le (Heap.le_join_right dj)⟩) fun v2 rs2 (e2 : rs2 = _) => ?_)
   subst e2
   refine St.ownForm (p := []) fun vb vc hvv hvc => ?_
   subst hvv
   refine L_op rfl (W_callV rfl rfl rfl rfl fn_ca_17 (rsum_ok hG vb vc (restB r bu su) hvc (by rw [restB_length]; omega)) ((Sn.own .h0 rfl).rw_) ?_)
   refine L_op rfl (W_alloc rfl rfl rfl ty_ze_29 fun b6 => ?_)
   refine L_op rfl (W_storeAll rfl rfl rfl rfl ty_ag_29 (by rw [ints_length, sha_length]) (ints_one) .h0 (by first | (rw [ints_length, sha_length]; done) | (rw [ints_length, sha_length]; rfl)) ?_)
   refine L_nil ?_
   refine St.env (.cons (t := 2) rfl (.cons (t := 3) rfl (.cons (t := 5) rfl (.cons (t := 6) rfl .nil)))) ?_
   refine Q_then ?_
   refine R_seq ?_
   refine R_region ?_
   refine L_val rfl rfl rfl (V_loadAgg rfl rfl ty_ag_29 (Rds.blk .h2) (by rw [ints_length, rootD_length])) ?_
   refine L_val rfl rfl rfl (V_loadAgg rfl rfl ty_ag_29 (Rds.blk .h0) (by rw [ints_length, sha_length])) ?_
   refine L_op rfl (W_callV rfl rfl rfl rfl fn_ca_56 (rinner_ok hG (rootD (l.map formB)) (sha (restB r bu su)) (rootD_length _) (sha_length _)) (fun _ _ => trivial) ?_)
   refine L_op rfl (W_storeAll rfl rfl rfl rfl ty_ag_29 (by rw [ints_length, sha_length]) (ints_one) .h5 (by first | (rw [ints_length, sha_length]; done) | (rw [ints_length, sha_length]; rfl)) ?_)
   refine L_val rfl rfl rfl (OpP.v (P_assign rfl rfl)) ?_
   refine L_nil ?_
   refine St.env (.cons (t := 2) rfl (.cons (t := 3) rfl .nil)) ?_
   refine Q_then ?_
   refine R_ret ?_
   exact R_endV rfl rfl (.cell rfl (Rds.loadVar ty_ag_29 (Rds.blk .h5) (by rw [ints_length, sha_length])) (.tmp rfl .nil)) (by rw [rootLV_fine (L := ⟨l, r, bu, su⟩) (hle.trans hr)]; rfl)
end Go.Proofs.YtfhjhaogmdaepaaGreatDoor

/- Walks: Prove. Printed by gen.py. -/
set_option linter.unusedVariables false
set_option linter.unusedSimpArgs false
set_option maxRecDepth 100000
namespace Go.Proofs.YtfhjhaogmdaepaaGreatDoor
open Go Go.RowKit Go.Proofs
/-- A proof: total, index, path. -/
structure Pf where
 t : Int
 i : Int
 b : Option Addr
 c : Nat
 hs : List (List Int)
def Pf.cells (p : Pf) : List Value := [.int .i64 p.t, .int .i64 p.i, .slice p.b p.hs.length p.c]
theorem Pf.one (p : Pf) : ∀ v ∈ p.cells, v.oneCell' = true := by
 intro v hv; simp only [Pf.cells, List.mem_cons, List.not_mem_nil, or_false] at hv; rcases hv with rfl | rfl | rfl <;> rfl
instance : Rec Pf := ⟨Pf.cells, 3, fun _ => rfl, Pf.one⟩
def Pf.own (p : Pf) : HP := ownS 29 32 (.slice p.b p.hs.length p.c) p.hs.length (flat .u8 p.hs)
def Pf.core (p : Pf) : Int × Int × List (List Int) := (p.t, p.i, p.hs)
/-- A witness's cells. -/
def wiC (R : List Int) (u v : Value) : List Value := ints .u8 R ++ [u, v]
theorem wi_len {R : List Int} (h : R.length = 32) (u v : Value) : (wiC R u v).length = 34 := by unfold wiC; rw [List.length_append, ints_length, h]; rfl
theorem wi_1 {R : List Int} (h : R.length = 32) (u v : Value) : (wiC R u v)[32]? = some u := by unfold wiC; rw [List.getElem?_append_right (by rw [ints_length]; omega), ints_length, h]; rfl
theorem wi_2 {R : List Int} (h : R.length = 32) (u v : Value) : (wiC R u v)[33]? = some v := by unfold wiC; rw [List.getElem?_append_right (by rw [ints_length]; omega), ints_length, h]; rfl
theorem wi_sub {R : List Int} (h : R.length = 32) (u v : Value) (i : Nat) (x : Value) (hx : (ints .u8 R)[i]? = some x) : (wiC R u v)[0 + i]? = some x := by unfold wiC; rw [Nat.zero_add, List.getElem?_append_left (List.getElem?_eq_some_iff.1 hx).1]; exact hx
def wRest (L : Led) : List Int := if lsoundE L = 0 then sha (restB L.rel L.burnt L.sup) else List.replicate 32 0
def pfAt (l : List Acc) (k : Nat) : Int × Int × List (List Int) := (proveT (l.map formB) k, proveI (l.map formB) k, proveA (l.map formB) k)
structure PfsOk (l : List Acc) (ks : List Nat) (ps : List Pf) : Prop where
 core : ps.map Pf.core = ks.map (pfAt l)
 cap : ∀ p ∈ ps, p.hs.length ≤ p.c
theorem PfsOk.len {l : List Acc} {ks : List Nat} {ps : List Pf} (h : PfsOk l ks ps) : ps.length = ks.length := by have := congrArg List.length h.core; simpa using this
theorem PfsOk.snoc {l : List Acc} {ks : List Nat} {ps : List Pf} {n k : Nat} {p : Pf} (h : PfsOk l (ks.take n) ps) (hk : ks[n]? = some k) (hp : p.core = pfAt l k) (hc : p.hs.length ≤ p.c) : PfsOk l (ks.take (n + 1)) (ps ++ [p]) := by
 refine ⟨?_, fun x hx => ?_⟩
 ·rw [List.map_append, h.core, List.take_add_one, hk, List.map_append]; simp [hp]
 ·rcases List.mem_append.1 hx with hx | hx
  ·exact h.cap x hx
  ·obtain rfl := List.mem_singleton.1 hx; exact hc
theorem forms_small {l : List Acc} (h : l.length ≤ 65536) : bigL (l.map formB) = false := by
 unfold bigL anyBig
 rw [List.length_map, decide_eq_false (by omega), Bool.false_or]
 cases hh : (l.map formB).any fun x => decide (1048576 < x.length) with
 | false => rfl
 | true =>
  obtain ⟨x, hx, h2⟩ := List.any_eq_true.1 hh
  obtain ⟨y, _, rfl⟩ := List.mem_map.1 hx
  have := of_decide_eq_true h2
  rw [formB_length] at this; omega
end Go.Proofs.YtfhjhaogmdaepaaGreatDoor

/- The twenty-first part of the program logic: structs of numbers and truth values are compared. -/
set_option linter.unusedVariables false
set_option linter.unusedSimpArgs false
set_option linter.unusedSectionVars false
namespace Go.Proofs.YtfhjhaogmdaepaaGreatDoor
open Go Go.RowKit
/-- Two cells of one make: truth values (true), numbers (false). -/
def sk : Bool → Value → Value → Prop
 | false, x, y => ∃ k a b, x = .int k a ∧ y = .int k b
 | true, x, y => ∃ a b, x = .bool a ∧ y = .bool b
def fkB (P : Program) (b : Bool) (t : TypeId) : Bool := match b, P.underlying t with
 | false, some (.int _) => true
 | true, some .bool => true
 | _, _ => false
/-- The type's cells are numbers or truth values, as the list tells. -/
def seK (P : Program) (t : Nat) (ks : List Bool) : Bool := match P.underlying t with
 | some (.struct fs) => !P.stoodInHeld t && !P.eqGuardType P.depth t && (fs.toList.length == ks.length) && ((List.range ks.length).all fun i => match fs.toList[i]?, ks[i]? with | some f, some b => f.offset == i && (f.name != "_") && scB P f.type && fkB P b f.type | _, _ => false)
 | _ => false
theorem run_eqFields_k {P : Program} {w : World} (dp : Nat) : ∀ (fs : List Field) (ks : List Bool) (o : Nat) (xs ys : List Value), xs.length = fs.length → ys.length = fs.length → ks.length = fs.length → (∀ (i : Nat) (b : Bool) (x y : Value), ks[i]? = some b → xs[i]? = some x → ys[i]? = some y → sk b x y) →
  (∀ (i : Nat) (f : Field) (b : Bool), fs[i]? = some f → ks[i]? = some b → f.offset = o + i ∧ (f.name != "_") = true ∧ scB P f.type = true ∧ fkB P b f.type = true) →
  ∀ (px py : List Value), px.length = o → py.length = o → (Op.eqFields (dp + 1) (px ++ xs).toArray (py ++ ys).toArray fs).run P w = .ok (@decide (xs = ys) (Classical.propDecidable _)) w
 | [], ks, o, xs, ys, hx, hy, _, _, _, px, py, _, _ => by
  have : xs = [] := List.eq_nil_of_length_eq_zero hx
  have : ys = [] := List.eq_nil_of_length_eq_zero hy
  subst xs; subst ys
  simp [Op.eqFields]
 | f :: fs, kb :: ks, o, x :: xs, y :: ys, hx, hy, hkl, hk, hf, px, py, hpx, hpy => by
  obtain ⟨h1, h2, h3, h4⟩ := hf 0 f kb rfl rfl
  have hkk := hk 0 kb x y rfl rfl rfl
  have hname : f.name ≠ "_" := by simpa using h2
  have hone : x.oneCell' = true ∧ y.oneCell' = true := by
   cases kb with
   | false => obtain ⟨k, a, b, rfl, rfl⟩ := hkk; exact ⟨rfl, rfl⟩
   | true => obtain ⟨a, b, rfl, rfl⟩ := hkk; exact ⟨rfl, rfl⟩
  have e1 : (part f.type (px ++ x :: xs).toArray f.offset).run P w = .ok x w := by
   simp [part, run_isAgg_sc h3, h1, ← hpx]
  have e2 : (part f.type (py ++ y :: ys).toArray f.offset).run P w = .ok y w := by
   simp [part, run_isAgg_sc h3, h1, ← hpy]
  have e3 : (Op.equalIn (dp + 1) f.type x y).run P w = .ok (@decide (x = y) (Classical.propDecidable _)) w := by
   cases kb with
   | false =>
    obtain ⟨k', a, b, rfl, rfl⟩ := hkk
    obtain ⟨k, hk4⟩ : ∃ k, P.underlying f.type = some (.int k) := by
     unfold fkB at h4
     split at h4
     ·exact ⟨_, by assumption⟩
     ·contradiction
     ·cases h4
    rw [run_equalIn_int (P := P) w dp f.type k' k a b hk4]
    congr 1
    by_cases hab : a = b
    ·simp [hab]
    ·simp [hab]
   | true =>
    obtain ⟨a, b, rfl, rfl⟩ := hkk
    have hk4 : P.underlying f.type = some .bool := by
     unfold fkB at h4
     split at h4
     ·contradiction
     ·assumption
     ·cases h4
    rw [run_equalIn_bool' dp hk4]
    congr 1
    cases a <;> cases b <;> simp
  unfold Op.eqFields
  rw [if_pos hname]
  simp only [Sem.run_bind, e1, e2, e3, Result.andThen_ok]
  by_cases hab : x = y
  ·subst hab
   have ih := run_eqFields_k (P := P) (w := w) dp fs ks (o + 1) xs ys (by simpa using hx) (by simpa using hy) (by simpa using hkl) (fun i b x y hb hx hy => hk (i + 1) b x y hb hx hy) (fun i f b hf' hb => by
    obtain ⟨g1, g2⟩ := hf (i + 1) f b hf' hb
    exact ⟨by omega, g2⟩) (px ++ [x]) (py ++ [x]) (by simp [hpx]) (by simp [hpy])
   simp only [List.append_assoc, List.singleton_append] at ih
   simp only [decide_true, Bool.not_true, Bool.false_eq_true, if_false, ih]
   congr 1
   by_cases hxy : xs = ys
   ·subst hxy; simp
   ·have : ¬ (x :: xs = x :: ys) := by simpa using hxy
    simp [hxy, this]
  ·have : ¬ (x :: xs = y :: ys) := by simp [hab]
   simp [hab, this]
section
variable {C : Cx} {F : Fx} {l : Env} {rs rs' : List HP} {K : Act → World → Prop} {o : Oper} {Q : Exit → Act → World → Prop} {d : Nat}
theorem run_eqStructK {P : Program} {w : World} {t : Nat} {ks : List Bool} {xs ys : List Value} (ht : seK P t ks = true) (hx : xs.length = ks.length) (hy : ys.length = ks.length) (hk : ∀ (i : Nat) (b : Bool) (x y : Value), ks[i]? = some b → xs[i]? = some x → ys[i]? = some y → sk b x y) :
  (Op.equalIn 10000 t (.agg xs.toArray) (.agg ys.toArray)).run P w = .ok (@decide (xs = ys) (Classical.propDecidable _)) w ∧ P.eqGuardType P.depth t = false := by
 unfold seK at ht
 split at ht
 ·rename_i fs hfs
  simp only [Bool.and_eq_true, Bool.not_eq_true'] at ht
  obtain ⟨⟨⟨hp, hg⟩, hl⟩, hm⟩ := ht
  refine ⟨?_, hg⟩
  have hff : P.fieldsOf t = fs := by unfold Program.fieldsOf; rw [hfs]
  refine (run_equalIn_struct (P := P) w 9999 t xs.toArray ys.toArray (by rw [hff]; exact hfs) hp).trans ?_
  rw [hff]
  have hlen : fs.toList.length = ks.length := eq_of_beq hl
  refine run_eqFields_k (P := P) (w := w) 9998 fs.toList ks 0 xs ys (by omega) (by omega) (by omega) hk (fun i f b hf hb => ?_) [] [] rfl rfl
  have h2 := List.all_eq_true.1 hm i (by rw [List.mem_range]; exact (List.getElem?_eq_some_iff.1 hb).1)
  rw [hf, hb] at h2
  simp only [Bool.and_eq_true] at h2
  obtain ⟨⟨⟨h3, h4⟩, h5⟩, h6⟩ := h2
  exact ⟨by rw [eq_of_beq h3, Nat.zero_add], h4, h5, h6⟩
 ·cases ht
theorem P_eql_structK {t t' : Nat} (ks : List Bool) {x y : Operand} {xs ys : List Value} {b : Bool} (ho : o.op = .binOp .eql t x y t') (ht : seK C.P t ks = true) (hx : ev l x = some (.agg xs.toArray)) (hy : ev l y = some (.agg ys.toArray)) (h1 : xs.length = ks.length) (h2 : ys.length = ks.length)
  (hk : ∀ (i : Nat) (b : Bool) (x y : Value), ks[i]? = some b → xs[i]? = some x → ys[i]? = some y → sk b x y) (hb : b = true ↔ xs = ys) : OpP C F l o (.bool b) := fun a w r => by
 obtain ⟨h3, hg⟩ := run_eqStructK (P := C.P) (w := w) ht h1 h2 hk
 have e : @decide (xs = ys) (Classical.propDecidable _) = b := by
  by_cases h : xs = ys
  ·have := hb.2 h; rw [this]; simp [h]
  ·cases b with
   | true => exact absurd (hb.1 rfl) h
   | false => simp [h]
 rw [e] at h3
 simp only [execOp, ho, r.ev hx, r.ev hy, Sem.run_bind, run_eqGuard_agg w .eql t x y _ _ hg, Result.andThen_ok, run_eql_struct, h3, Sem.run_pure]
end
end Go.Proofs.YtfhjhaogmdaepaaGreatDoor

/- sameLedger, sameMembers. Printed by gen.py. -/
set_option linter.unusedVariables false
set_option linter.unusedSimpArgs false
set_option maxRecDepth 100000
namespace Go.Proofs.YtfhjhaogmdaepaaGreatDoor
open Go Go.RowKit Go.Proofs
theorem acc_kind (x y : Acc) : ∀ (i : Nat) (b : Bool) (u v : Value), ([false, false, false, false, true] : List Bool)[i]? = some b → x.cells[i]? = some u → y.cells[i]? = some v → sk b u v
 | 0, _, _, _, hb, h, h' => by cases hb; cases h; cases h'; exact ⟨_, _, _, rfl, rfl⟩
 | 1, _, _, _, hb, h, h' => by cases hb; cases h; cases h'; exact ⟨_, _, _, rfl, rfl⟩
 | 2, _, _, _, hb, h, h' => by cases hb; cases h; cases h'; exact ⟨_, _, _, rfl, rfl⟩
 | 3, _, _, _, hb, h, h' => by cases hb; cases h; cases h'; exact ⟨_, _, _, rfl, rfl⟩
 | 4, _, _, _, hb, h, h' => by cases hb; cases h; cases h'; exact ⟨_, _, rfl, rfl⟩
 | _ + 5, _, _, _, hb, _, _ => by cases hb
theorem se_acc : seK Tryz.prog 38 [false, false, false, false, true] = true := by kernel_rfl
end Go.Proofs.YtfhjhaogmdaepaaGreatDoor

/- Walks: list, listKept. Printed by gen.py. -/
set_option linter.unusedVariables false
set_option linter.unusedSimpArgs false
set_option maxRecDepth 100000
namespace Go.Proofs.YtfhjhaogmdaepaaGreatDoor
open Go Go.RowKit Go.Proofs
/-- An item that was copied with two marks behind it: its block, its room, its bytes, what lies behind. -/
structure Rm where
 b : Nat
 cap : Nat
 x : List Int
 junk : List Value
def Rm.full (q : Rm) : Value := .slice (some ⟨q.b, 0, none⟩) (q.x.length + 2) q.cap
def Rm.cell (q : Rm) : Nat × List Value × Nat := (q.b, ints .u8 (q.x ++ [201, 202]) ++ q.junk, 5)
section
variable {C : Cx} {F : Fx} {rs : List HP}
theorem Rm.bytes {qs : List Rm} {q : Rm} {i : Nat} (m : Has rs (pile (qs.map Rm.cell)) (pile (qs.map Rm.cell)) rs) (hq : qs[i]? = some q) : Sn C F rs (some ⟨q.b, 0, none⟩) (ints .u8 (q.x ++ [201, 202]) ++ q.junk) :=
 Sn.ofPile (i := i) (T := 5) m (by rw [List.getElem?_map, hq]; rfl)
end
end Go.Proofs.YtfhjhaogmdaepaaGreatDoor

/- Walks: what two lists bind. Printed by gen.py. -/
set_option linter.unusedVariables false
set_option linter.unusedSimpArgs false
set_option maxRecDepth 100000
namespace Go.Proofs.YtfhjhaogmdaepaaGreatDoor
open Go Go.RowKit Go.Proofs
def FineB (x : List Int) : Prop := x.length ≤ 140737488355000 ∧ IsB x
theorem inner_ne {a b c d : List Int} (ha : a.length = 32) (hc : c.length = 32) (h : a ≠ c ∨ b ≠ d) : (1 : Int) :: (a ++ b) ≠ 1 :: (c ++ d) := fun e => by
 have e2 : a ++ b = c ++ d := by injection e
 obtain ⟨e3, e4⟩ := List.append_inj e2 (by rw [ha, hc])
 rcases h with h | h
 ·exact h e3
 ·exact h e4
/-- What halves keeps, for lists of less than n items. -/
theorem leaf_one {xss : List (List Int)} {y : List Int} (h : xss.length = 1) (hx : xss[0]? = some y) : topH (leaves xss) = sha (0 :: y) := topH_one (by rw [leaves_length, h]) (by unfold leaves; rw [List.getElem?_map, hx]; rfl)
theorem top_two {xss : List (List Int)} {n : Nat} (hn : n = xss.length) (h : 1 < n) : topH (leaves xss) = sha (1 :: (topH (leaves (xss.take (splitN n))) ++ topH (leaves (xss.drop (splitN n))))) := by
 subst hn
 rw [topH_two (l := leaves xss) (by rw [leaves_length]; exact h), leaves_length, leaves_take, leaves_drop]
theorem clash_ok {gl : Nat → Obj} (hG : GlobsR gl) (ba : Option Addr) (ca : Nat) (xs : List Int) (bb : Option Addr) (cb : Nat) (ys : List Int) (hca : xs.length ≤ ca) (hcb : ys.length ≤ cb) (hx : xs.length ≤ 9223372036854775000) (hy : ys.length ≤ 9223372036854775000) (h1 : IsB xs) (h2 : IsB ys) : SpecV (cx gl) 20 [.slice ba xs.length ca, .slice bb ys.length cb] (fun w => Row w ba (ints .u8 xs) ∧ Row w bb (ints .u8 ys)) (.bool (clashB xs ys)) := by
 refine Spec.enter (C := cx gl) Tryz.func20 rfl 21 rfl rfl fun w0 h0 hsep hsub hpre => ?_
 obtain rfl : h0 = Heap.none := hsep
 show St (cx gl) _ [(0, .slice ba xs.length ca), (1, .slice bb ys.length cb)] _ _
 refine R_seq ?_
 refine R_region ?_
 refine L_val rfl rfl rfl (OpP.v (P_assign rfl rfl)) ?_
 refine L_nil ?_
 refine Q_then ?_
 refine R_seq ?_
 refine R_region ?_
 refine L_val rfl rfl rfl (OpP.v (P_move rfl rfl)) ?_
 refine L_op rfl (W_callV rfl rfl rfl rfl fn_ca_17 (rsum_ok hG ba ca xs hca hx) ((Sn.row hpre.1 rfl).rw_) ?_)
 refine L_op rfl (W_alloc rfl rfl rfl ty_ze_29 fun b5 => ?_)
 refine L_op rfl (W_storeAll rfl rfl rfl rfl ty_ag_29 (by rw [ints_length, sha_length]) (ints_one) .h0 (by rw [ints_length, sha_length]; rfl) ?_)
 refine L_nil ?_
 refine St.env (.cons (t := 0) rfl (.cons (t := 1) rfl (.cons (t := 4) rfl (.cons (t := 5) rfl .nil)))) ?_
 refine Q_then ?_
 refine R_seq ?_
 refine R_region ?_
 refine L_val rfl rfl rfl (OpP.v (P_move rfl rfl)) ?_
 refine L_op rfl (W_callV rfl rfl rfl rfl fn_ca_17 (rsum_ok hG bb cb ys hcb hy) ((Sn.row hpre.2 rfl).rw_) ?_)
 refine L_op rfl (W_alloc rfl rfl rfl ty_ze_29 fun b6 => ?_)
 refine L_op rfl (W_storeAll rfl rfl rfl rfl ty_ag_29 (by rw [ints_length, sha_length]) (ints_one) .h0 (by rw [ints_length, sha_length]; rfl) ?_)
 refine L_nil ?_
 refine St.env (.cons (t := 0) rfl (.cons (t := 1) rfl (.cons (t := 4) rfl (.cons (t := 5) rfl (.cons (t := 6) rfl .nil))))) ?_
 refine Q_then ?_
 refine R_seq ?_
 refine R_region ?_
 refine L_val rfl rfl rfl (OpP.v (P_move rfl rfl)) ?_
 refine L_val rfl rfl rfl (V_str rfl (slB_spec ty_sl_48).1 ty_int_5 ty_str_9 rfl ((Sn.row hpre.1 rfl).rw_)) ?_
 refine L_val rfl rfl rfl (OpP.v (P_move rfl rfl)) ?_
 refine L_val rfl rfl rfl (V_str rfl (slB_spec ty_sl_48).1 ty_int_5 ty_str_9 rfl ((Sn.row hpre.2 rfl).rw_)) ?_
 refine L_val rfl rfl rfl (OpP.v (P_neStr rfl rfl rfl h1 h2)) ?_
 refine E_bool (t := 15) rfl (fun hne => ?_) (fun hne => ?_)
 ·skip
  refine L_val rfl rfl rfl (OpP.v (P_move rfl rfl)) ?_
  refine L_val rfl rfl rfl (V_loadAgg rfl rfl ty_ag_29 (Rds.blk .h1) (by rw [ints_length, sha_length])) ?_
  refine L_val rfl rfl rfl (V_loadAgg rfl rfl ty_ag_29 (Rds.blk .h0) (by rw [ints_length, sha_length])) ?_
  refine L_val rfl rfl rfl (OpP.v (P_eqArr rfl rfl rfl ty_un_29 ty_int_5 ty_sc_5 ty_eg_29 (sha_length _) (sha_length _))) ?_
  refine L_val rfl rfl rfl (OpP.v (P_pick rfl rfl rfl)) ?_
  refine L_val rfl rfl rfl (OpP.v (P_assign rfl rfl)) ?_
  refine L_nil ?_
  refine St.env (.cons (t := 4) rfl .nil) ?_
  refine Q_then ?_
  refine R_ret ?_
  exact R_endV rfl rfl (.tmp rfl .nil) (by unfold clashB; rw [hne, Bool.true_and]; rfl)
 ·skip
  refine L_val rfl rfl rfl (OpP.v (P_move rfl rfl)) ?_
  refine L_no rfl rfl rfl ?_
  refine L_no rfl rfl rfl ?_
  refine L_no rfl rfl rfl ?_
  refine L_val rfl rfl rfl (OpP.v (P_pick rfl rfl rfl)) ?_
  refine L_val rfl rfl rfl (OpP.v (P_assign rfl rfl)) ?_
  refine L_nil ?_
  refine St.env (.cons (t := 4) rfl .nil) ?_
  refine Q_then ?_
  refine R_ret ?_
  exact R_endV rfl rfl (.tmp rfl .nil) (by unfold clashB; rw [hne]; rfl)
theorem clash_okN {gl : Nat → Obj} (hG : GlobsR gl) (ba : Option Addr) (ca : Nat) (xs : List Int) (bb : Option Addr) (cb : Nat) (ys : List Int) {n m : Nat} (hn : xs.length = n) (hm : ys.length = m) (hca : n ≤ ca) (hcb : m ≤ cb) (hx : n ≤ 9223372036854775000) (hy : m ≤ 9223372036854775000) (h1 : IsB xs) (h2 : IsB ys) :
  SpecV (cx gl) 20 [.slice ba n ca, .slice bb m cb] (fun w => Row w ba (ints .u8 xs) ∧ Row w bb (ints .u8 ys)) (.bool (clashB xs ys)) := by
 subst hn; subst hm
 exact clash_ok hG ba ca xs bb cb ys hca hcb hx hy h1 h2
end Go.Proofs.YtfhjhaogmdaepaaGreatDoor

/- Walks: Lists, DigestLists. Printed by gen.py. -/
set_option linter.unusedVariables false
set_option linter.unusedSimpArgs false
set_option maxRecDepth 100000
namespace Go.Proofs.YtfhjhaogmdaepaaGreatDoor
open Go Go.RowKit Go.Proofs
theorem V_strN {C : Cx} {F : Fx} {l : Env} {rs : List HP} {o : Oper} {t t' e c n : Nat} {x : Operand} {base : Option Addr} {xs : List Int} (hl : xs.length = n) (ho : o.op = .convert t t' x) (hs : C.P.underlying t = some (.slice e)) (he : C.P.underlying e = some (.int .u8)) (ht : C.P.underlying t' = some .string) (hx : ev l x = some (.slice base n c)) (hr : Rw C F rs base (ints .u8 xs)) : OpV C F l rs o (.string (strOfNums xs)) := by
 subst hl; exact V_str ho hs he ht hx hr
end Go.Proofs.YtfhjhaogmdaepaaGreatDoor

/- Walks: sameProof, sameWitness. Printed by gen.py. -/
set_option linter.unusedVariables false
set_option linter.unusedSimpArgs false
set_option maxRecDepth 100000
namespace Go.Proofs.YtfhjhaogmdaepaaGreatDoor
open Go Go.RowKit Go.Proofs
/-- Witness rows ac the world shows them. -/
structure WitRow (w : World) (ub : Option Addr) (ac : List Acc) (pb : Option Addr) (ps : List Pf) : Prop where
 acc : Row w ub (rc ac)
 pfs : Row w pb (rc ps)
 path : ∀ p ∈ ps, Row w p.b (flat .u8 p.hs)
theorem WitRow.now {C : Cx} {F : Fx} {rs : List HP} {ub pb : Option Addr} {ac : List Acc} {ps : List Pf} (h : WitRow F.w ub ac pb ps) (hf : F.h = Heap.none) : ∀ w, Now C F rs w → WitRow w ub ac pb ps := fun w nw =>
 ⟨(Sn.row h.acc hf).rw_ w nw, (Sn.row h.pfs hf).rw_ w nw, fun p hp => (Sn.row (h.path p hp) hf).rw_ w nw⟩
end Go.Proofs.YtfhjhaogmdaepaaGreatDoor

/- Walks: leads, between, Verify. Printed by gen.py. -/
set_option linter.unusedVariables false
set_option linter.unusedSimpArgs false
set_option maxRecDepth 100000
namespace Go.Proofs.YtfhjhaogmdaepaaGreatDoor
open Go Go.RowKit Go.Proofs
def pE (x : Acc) (p : Pf) : Int := pathE p.t p.i p.hs (formB x)
def pD (x : Acc) (p : Pf) : List Int := pathD p.t p.i p.hs (formB x)
theorem pD_length (x : Acc) (p : Pf) : (pD x p).length = 32 := pathD_length _ _ _ _
def leadE (root R : List Int) (x : Acc) (p : Pf) : Int := if pE x p = 0 ∧ sha (1 :: (pD x p ++ R)) ≠ root then 21 else pE x p
/-- A proof that the world holds. -/
structure PfIn (p : Pf) : Prop where
 len : ∀ h ∈ p.hs, h.length = 32
 few : p.hs.length ≤ 70368744177664
 cap : p.hs.length ≤ p.c
theorem leads_ok {gl : Nat → Obj} (hG : Globs gl) (root R : List Int) (hroot : root.length = 32) (hR : R.length = 32) (ub pb : Option Addr) (uc pc : Nat) (ac : List Acc) (ps : List Pf) (hc : ac.length ≤ uc) (hpc : ps.length ≤ pc) (hps : ∀ p ∈ ps, PfIn p) (i : Nat) (x : Acc) (p : Pf) (hx : ac[i]? = some x) (hp : ps[i]? = some p) (hi : i < ac.length) (hj : i < ps.length) : SpecV (cx gl) 57 [.agg (ints .u8 (root)).toArray, .agg (wiC R (.slice ub ac.length uc) (.slice pb ps.length pc)).toArray, .int .i64 (i : Int)] (fun w => WitRow w ub ac pb ps) (.tuple #[.agg (ints .u8 (pD x p)).toArray, .int .i64 (leadE root R x p)]) := by
 refine Spec.enter (C := cx gl) Tryz.func57 rfl 37 rfl rfl fun w0 h0 hsep hsub hpre => ?_
 obtain rfl : h0 = Heap.none := hsep
 show St (cx gl) _ [(0, .agg (ints .u8 (root)).toArray), (1, .agg (wiC R (.slice ub ac.length uc) (.slice pb ps.length pc)).toArray), (2, .int .i64 (i : Int))] _ _
 obtain ⟨p1, p2, p3⟩ := hpre
 obtain ⟨ab, aj, rfl, har⟩ := p1.some_ (by rw [rc_length]; show 0 < _ * 5; omega)
 obtain ⟨qb, qj, rfl, hqr⟩ := p2.some_ (by rw [rc_length]; show 0 < _ * 3; omega)
 have hpm := List.mem_of_getElem? hp
 obtain ⟨g1, g2, g3⟩ := hps p hpm
 have hfl := formB_length x
 refine R_seq ?_
 refine R_region ?_
 refine L_op rfl (W_box (ints .u8 root) rfl rfl rfl rfl rfl fun b3 => ?_)
 refine L_op rfl (W_box (wiC R (.slice (some ⟨ab, aj, none⟩) ac.length uc) (.slice (some ⟨qb, qj, none⟩) ps.length pc)) rfl rfl rfl rfl rfl fun b4 => ?_)
 refine L_op rfl (W_alloc rfl rfl rfl ty_ze_29 fun b6 => ?_)
 refine L_val rfl rfl rfl (OpP.v (P_assign rfl rfl)) ?_
 refine L_nil ?_
 refine St.env (.cons (t := 2) rfl (.cons (t := 3) rfl (.cons (t := 4) rfl (.cons (t := 6) rfl (.cons (t := 7) rfl .nil))))) ?_
 refine Q_then ?_
 refine R_seq ?_
 refine T_open (.op 0 0 (.op 1 1 (.op 2 0 (.op 3 0 (.op 4 1 (.op 5 0 (.op 6 1 (.op 7 0 (.op 8 0 (.op 9 1 (.two 10 15 (.two 11 15 (.op 12 0 (.op 13 0 (.op 14 0 (.op 15 2 (.op 16 3 (.op 17 0 .nil)))))) (.op 11 2 (.op 12 0 (.op 13 0 (.op 14 0 (.op 16 3 (.op 17 0 .nil))))))) (.op 10 2 (.op 11 2 (.op 12 0 (.op 13 0 (.op 14 0 (.op 16 3 (.op 17 0 .nil)))))))))))))))))) mixed (by kernel_rfl) (QOk.then QOk.body) ?_
 refine T_pure rfl rfl rfl rfl (P_fld0 rfl ty_fl_32_2 rfl) ?_
 refine T_val rfl rfl rfl rfl (V_load rfl rfl ty_sc_30 (Rd.blk .h1 (wi_2 hR _ _))) ?_
 refine T_pure rfl rfl rfl rfl (P_move rfl rfl) ?_
 refine T_pure rfl rfl rfl rfl (P_ixs (i) rfl ty_sl_30 rfl rfl (by first | rfl | omega) (by omega)) ?_
 refine T_val rfl rfl rfl rfl (V_loadAgg rfl rfl ty_ag_47 (rds_rc (Rds.row hqr rfl) hp) (rfl)) ?_
 refine T_pure rfl rfl rfl rfl (P_fld0 rfl ty_fl_32_1 rfl) ?_
 refine T_val rfl rfl rfl rfl (V_load rfl rfl ty_sc_22 (Rd.blk .h1 (wi_1 hR _ _))) ?_
 refine T_pure rfl rfl rfl rfl (P_move rfl rfl) ?_
 refine T_pure rfl rfl rfl rfl (P_ixs (i) rfl ty_sl_22 rfl rfl (by first | rfl | omega) (by omega)) ?_
 refine T_val rfl rfl rfl rfl (V_loadAgg rfl rfl ty_ag_38 (rds_rc (Rds.row har rfl) hx) (rfl)) ?_
 refine T_two ?_ ?_
 ·skip
  refine T_keep rfl rfl (W_call rfl rfl rfl rfl fn_ca_118 (form_ok x) (Split.nil _) (fun _ _ _ _ _ _ _ => trivial) fun v1 rs1 (e1 : rs1 = _) => ?_)
  subst e1
  refine St.ownForm (p := []) fun ib ic hiv hic => ?_
  subst hiv
  have hic : (formB x).length ≤ ic := by omega
  rw [← hfl]
  refine K_keepT (Weak.drop (Weak.refl _)) ?_
  refine T_two ?_ ?_
  ·skip
   refine T_keep rfl rfl (W_callV rfl rfl rfl rfl fn_ca_125 (path_ok hG p.t p.i p.b p.c p.hs ib ic (formB x) g1 g3 g2 hic) (by first | exact fun w nw => ⟨(Sn.row (p3 p hpm) rfl).rw_ w nw, (Sn.own .h0 rfl).rw_ w nw⟩ | exact fun w nw => ⟨(Sn.row (p3 p hpm) rfl).rw_ w nw, (Sn.own .h1 rfl).rw_ w nw⟩) (K_keepT (Weak.refl _) ?_))
   refine T_pure rfl rfl rfl rfl (P_move rfl rfl) ?_
   refine T_pure rfl rfl rfl rfl (P_extract rfl rfl rfl) ?_
   refine T_pure rfl rfl rfl rfl (P_extract rfl rfl rfl) ?_
   refine T_keep rfl rfl (W_alloc rfl rfl rfl ty_ze_29 fun b8 => (K_keepT (Weak.drop (Weak.refl _)) ?_))
   first | (refine T_new rfl rfl (W_storeAll rfl rfl rfl rfl ty_ag_29 (by rw [ints_length, pathD_length]) (ints_one) .h0 (by first | (rw [ints_length, pathD_length]; done) | (rw [ints_length, pathD_length]; rfl)) (K_newT ?_))) | (refine T_new rfl rfl (W_storeAll rfl rfl rfl rfl ty_ag_29 (by rw [ints_length, pathD_length]) (ints_one) .h1 (by first | (rw [ints_length, pathD_length]; done) | (rw [ints_length, pathD_length]; rfl)) (K_newT ?_))) | (refine T_new rfl rfl (W_storeAll rfl rfl rfl rfl ty_ag_29 (by rw [ints_length, pathD_length]) (ints_one) .h2 (by first | (rw [ints_length, pathD_length]; done) | (rw [ints_length, pathD_length]; rfl)) (K_newT ?_))) | (refine T_new rfl rfl (W_storeAll rfl rfl rfl rfl ty_ag_29 (by rw [ints_length, pathD_length]) (ints_one) .h3 (by first | (rw [ints_length, pathD_length]; done) | (rw [ints_length, pathD_length]; rfl)) (K_newT ?_))) | (refine T_new rfl rfl (W_storeAll rfl rfl rfl rfl ty_ag_29 (by rw [ints_length, pathD_length]) (ints_one) .h4 (by first | (rw [ints_length, pathD_length]; done) | (rw [ints_length, pathD_length]; rfl)) (K_newT ?_))) | (refine T_new rfl rfl (W_storeAll rfl rfl rfl rfl ty_ag_29 (by rw [ints_length, pathD_length]) (ints_one) .h5 (by first | (rw [ints_length, pathD_length]; done) | (rw [ints_length, pathD_length]; rfl)) (K_newT ?_))) | (refine T_new rfl rfl (W_storeAll rfl rfl rfl rfl ty_ag_29 (by rw [ints_length, pathD_length]) (ints_one) .h6 (by first | (rw [ints_length, pathD_length]; done) | (rw [ints_length, pathD_length]; rfl)) (K_newT ?_))) | (refine T_new rfl rfl (W_storeAll rfl rfl rfl rfl ty_ag_29 (by rw [ints_length, pathD_length]) (ints_one) .h7 (by first | (rw [ints_length, pathD_length]; done) | (rw [ints_length, pathD_length]; rfl)) (K_newT ?_)))
   refine T_pure rfl rfl rfl rfl (P_assign rfl rfl) ?_
   refine T_nil ?_
   refine St.env (.cons (t := 3) rfl (.cons (t := 4) rfl (.cons (t := 6) rfl (.cons (t := 7) rfl (.cons (t := 8) rfl (.cons (t := 9) rfl .nil)))))) ?_
   refine Q_then ?_
   refine R_seq ?_
   refine R_seq ?_
   refine R_open [(0, 0), (1, 0), (2, 0), (3, 1), (4, 0), (5, 1), (7, 1), (6, 2), (8, 0), (9, 0)] mixed (by kernel_rfl) (QOk.then (QOk.then QOk.body)) ?_
   refine O_pure rfl rfl rfl rfl (P_move rfl rfl) ?_
   refine O_pure rfl rfl rfl rfl (P_eql rfl rfl rfl) ?_
   refine E_bool (t := 26) rfl (fun he => ?_) (fun he => ?_)
   ·skip
    have he := of_decide_eq_true he
    refine O_pure rfl rfl rfl rfl (P_move rfl rfl) ?_
    refine O_val rfl rfl rfl rfl (V_loadAgg rfl rfl ty_ag_29 (by first | exact Rds.blk .h0 | exact Rds.blk .h1) (by rw [ints_length, pathD_length])) ?_
    refine O_pure rfl rfl rfl rfl (P_fld0 rfl ty_fl_32_0 rfl) ?_
    refine O_val rfl rfl rfl rfl (V_loadAgg rfl rfl ty_ag_29 (by first | exact (Rds.blk .h2).part 0 (wi_sub hR _ _) | exact (Rds.blk .h3).part 0 (wi_sub hR _ _)) (by rw [ints_length, hR])) ?_
    refine O_val rfl rfl rfl rfl (V_loadAgg rfl rfl ty_ag_29 (by first | exact Rds.blk .h3 | exact Rds.blk .h4) (by rw [ints_length, hroot])) ?_
    refine O_keep rfl rfl (W_callV rfl rfl rfl rfl fn_ca_53 (inner_ok hG (pD x p) R (pD_length _ _) hR) (fun _ _ => trivial) (K_keep (Weak.refl _) ?_))
    refine O_pure rfl rfl rfl rfl (P_neArr rfl rfl rfl ty_un_29 ty_int_5 ty_sc_5 ty_eg_29 (sha_length _) (hroot)) ?_
    refine O_pure rfl rfl rfl rfl (P_pick rfl rfl rfl) ?_
    refine O_nil ?_
    refine St.env (.cons (t := 6) rfl (.cons (t := 7) rfl (.cons (t := 8) rfl (.cons (t := 9) rfl (.cons (t := 34) rfl .nil))))) ?_
    refine Q_then ?_
    refine R_condP rfl (fun hn => ?_) (fun hn => ?_)
    ·skip
     refine R_region ?_
     refine L_val rfl rfl rfl (OpP.v (P_assign rfl rfl)) ?_
     refine L_nil ?_
     refine St.env (.cons (t := 6) rfl (.cons (t := 7) rfl (.cons (t := 8) rfl (.cons (t := 9) rfl .nil)))) ?_
     refine Q_then ?_
     refine R_seq ?_
     refine R_region ?_
     refine L_val rfl rfl rfl (V_loadAgg rfl rfl ty_ag_29 (by first | exact Rds.blk .h0 | exact Rds.blk .h1) (by rw [ints_length, pathD_length])) ?_
     refine L_val rfl rfl rfl (OpP.v (P_move rfl rfl)) ?_
     refine L_op rfl (W_storeAll rfl rfl rfl rfl ty_ag_29 (by rw [ints_length, pathD_length]) (ints_one) .h2 (by first | (rw [ints_length, pathD_length]; done) | (rw [ints_length, pathD_length]; rfl)) ?_)
     refine L_val rfl rfl rfl (OpP.v (P_assign rfl rfl)) ?_
     refine L_nil ?_
     refine St.env (.cons (t := 6) rfl (.cons (t := 7) rfl .nil)) ?_
     refine Q_then ?_
     refine R_ret ?_
     exact R_endV rfl rfl (.cell rfl (Rds.loadVar ty_ag_29 (Rds.blk .h2) (by rw [ints_length, pathD_length])) (.tmp rfl .nil)) (by unfold leadE pE pD; first | (rw [if_pos ⟨he, hn⟩]; rfl) | (rw [if_neg (fun h9 => hn h9.2)]; rfl) | (rw [if_neg (fun h9 => he h9.1)]; rfl))
    ·skip
     refine R_skip ?_
     refine Q_then ?_
     refine R_seq ?_
     refine R_region ?_
     refine L_val rfl rfl rfl (V_loadAgg rfl rfl ty_ag_29 (by first | exact Rds.blk .h0 | exact Rds.blk .h1) (by rw [ints_length, pathD_length])) ?_
     refine L_val rfl rfl rfl (OpP.v (P_move rfl rfl)) ?_
     refine L_op rfl (W_storeAll rfl rfl rfl rfl ty_ag_29 (by rw [ints_length, pathD_length]) (ints_one) .h2 (by first | (rw [ints_length, pathD_length]; done) | (rw [ints_length, pathD_length]; rfl)) ?_)
     refine L_val rfl rfl rfl (OpP.v (P_assign rfl rfl)) ?_
     refine L_nil ?_
     refine St.env (.cons (t := 6) rfl (.cons (t := 7) rfl .nil)) ?_
     refine Q_then ?_
     refine R_ret ?_
     exact R_endV rfl rfl (.cell rfl (Rds.loadVar ty_ag_29 (Rds.blk .h2) (by rw [ints_length, pathD_length])) (.tmp rfl .nil)) (by unfold leadE pE pD; first | (rw [if_pos ⟨he, hn⟩]; rfl) | (rw [if_neg (fun h9 => hn h9.2)]; rfl) | (rw [if_neg (fun h9 => he h9.1)]; rfl))
   ·skip
    have he := of_decide_eq_false he
    refine O_pure rfl rfl rfl rfl (P_move rfl rfl) ?_
    refine O_noX rfl rfl rfl rfl ?_
    refine O_no rfl rfl rfl rfl ?_
    refine O_noX rfl rfl rfl rfl ?_
    refine O_noX rfl rfl rfl rfl ?_
    refine O_no2 rfl rfl rfl rfl ?_
    refine O_no rfl rfl rfl rfl ?_
    refine O_pure rfl rfl rfl rfl (P_pick rfl rfl rfl) ?_
    refine O_nil ?_
    refine St.env (.cons (t := 6) rfl (.cons (t := 7) rfl (.cons (t := 8) rfl (.cons (t := 9) rfl (.cons (t := 34) rfl .nil))))) ?_
    refine Q_then ?_
    refine R_condF rfl ?_
    refine R_skip ?_
    refine Q_then ?_
    refine R_seq ?_
    refine R_region ?_
    refine L_val rfl rfl rfl (V_loadAgg rfl rfl ty_ag_29 (by first | exact Rds.blk .h0 | exact Rds.blk .h1) (by rw [ints_length, pathD_length])) ?_
    refine L_val rfl rfl rfl (OpP.v (P_move rfl rfl)) ?_
    refine L_op rfl (W_storeAll rfl rfl rfl rfl ty_ag_29 (by rw [ints_length, pathD_length]) (ints_one) .h2 (by first | (rw [ints_length, pathD_length]; done) | (rw [ints_length, pathD_length]; rfl)) ?_)
    refine L_val rfl rfl rfl (OpP.v (P_assign rfl rfl)) ?_
    refine L_nil ?_
    refine St.env (.cons (t := 6) rfl (.cons (t := 7) rfl .nil)) ?_
    refine Q_then ?_
    refine R_ret ?_
    exact R_endV rfl rfl (.cell rfl (Rds.loadVar ty_ag_29 (Rds.blk .h2) (by rw [ints_length, pathD_length])) (.tmp rfl .nil)) (by unfold leadE pE pD; first | (rw [if_pos ⟨he, hn⟩]; rfl) | (rw [if_neg (fun h9 => hn h9.2)]; rfl) | (rw [if_neg (fun h9 => he h9.1)]; rfl))
  ·skip
   refine T_keep rfl rfl (W_alloc rfl rfl rfl ty_ze_29 fun b8 => (K_keepT (Weak.drop (Weak.refl _)) ?_))
   refine T_keep rfl rfl (W_callV rfl rfl rfl rfl fn_ca_125 (path_ok hG p.t p.i p.b p.c p.hs ib ic (formB x) g1 g3 g2 hic) (by first | exact fun w nw => ⟨(Sn.row (p3 p hpm) rfl).rw_ w nw, (Sn.own .h0 rfl).rw_ w nw⟩ | exact fun w nw => ⟨(Sn.row (p3 p hpm) rfl).rw_ w nw, (Sn.own .h1 rfl).rw_ w nw⟩) (K_keepT (Weak.refl _) ?_))
   refine T_pure rfl rfl rfl rfl (P_move rfl rfl) ?_
   refine T_pure rfl rfl rfl rfl (P_extract rfl rfl rfl) ?_
   refine T_pure rfl rfl rfl rfl (P_extract rfl rfl rfl) ?_
   first | (refine T_new rfl rfl (W_storeAll rfl rfl rfl rfl ty_ag_29 (by rw [ints_length, pathD_length]) (ints_one) .h0 (by first | (rw [ints_length, pathD_length]; done) | (rw [ints_length, pathD_length]; rfl)) (K_newT ?_))) | (refine T_new rfl rfl (W_storeAll rfl rfl rfl rfl ty_ag_29 (by rw [ints_length, pathD_length]) (ints_one) .h1 (by first | (rw [ints_length, pathD_length]; done) | (rw [ints_length, pathD_length]; rfl)) (K_newT ?_))) | (refine T_new rfl rfl (W_storeAll rfl rfl rfl rfl ty_ag_29 (by rw [ints_length, pathD_length]) (ints_one) .h2 (by first | (rw [ints_length, pathD_length]; done) | (rw [ints_length, pathD_length]; rfl)) (K_newT ?_))) | (refine T_new rfl rfl (W_storeAll rfl rfl rfl rfl ty_ag_29 (by rw [ints_length, pathD_length]) (ints_one) .h3 (by first | (rw [ints_length, pathD_length]; done) | (rw [ints_length, pathD_length]; rfl)) (K_newT ?_))) | (refine T_new rfl rfl (W_storeAll rfl rfl rfl rfl ty_ag_29 (by rw [ints_length, pathD_length]) (ints_one) .h4 (by first | (rw [ints_length, pathD_length]; done) | (rw [ints_length, pathD_length]; rfl)) (K_newT ?_))) | (refine T_new rfl rfl (W_storeAll rfl rfl rfl rfl ty_ag_29 (by rw [ints_length, pathD_length]) (ints_one) .h5 (by first | (rw [ints_length, pathD_length]; done) | (rw [ints_length, pathD_length]; rfl)) (K_newT ?_))) | (refine T_new rfl rfl (W_storeAll rfl rfl rfl rfl ty_ag_29 (by rw [ints_length, pathD_length]) (ints_one) .h6 (by first | (rw [ints_length, pathD_length]; done) | (rw [ints_length, pathD_length]; rfl)) (K_newT ?_))) | (refine T_new rfl rfl (W_storeAll rfl rfl rfl rfl ty_ag_29 (by rw [ints_length, pathD_length]) (ints_one) .h7 (by first | (rw [ints_length, pathD_length]; done) | (rw [ints_length, pathD_length]; rfl)) (K_newT ?_)))
   refine T_pure rfl rfl rfl rfl (P_assign rfl rfl) ?_
   refine T_nil ?_
   refine St.env (.cons (t := 3) rfl (.cons (t := 4) rfl (.cons (t := 6) rfl (.cons (t := 7) rfl (.cons (t := 8) rfl (.cons (t := 9) rfl .nil)))))) ?_
   refine Q_then ?_
   refine R_seq ?_
   refine R_seq ?_
   refine R_open [(0, 0), (1, 0), (2, 0), (3, 1), (4, 0), (5, 1), (7, 1), (6, 2), (8, 0), (9, 0)] mixed (by kernel_rfl) (QOk.then (QOk.then QOk.body)) ?_
   refine O_pure rfl rfl rfl rfl (P_move rfl rfl) ?_
   refine O_pure rfl rfl rfl rfl (P_eql rfl rfl rfl) ?_
   refine E_bool (t := 26) rfl (fun he => ?_) (fun he => ?_)
   ·skip
    have he := of_decide_eq_true he
    refine O_pure rfl rfl rfl rfl (P_move rfl rfl) ?_
    refine O_val rfl rfl rfl rfl (V_loadAgg rfl rfl ty_ag_29 (by first | exact Rds.blk .h0 | exact Rds.blk .h1) (by rw [ints_length, pathD_length])) ?_
    refine O_pure rfl rfl rfl rfl (P_fld0 rfl ty_fl_32_0 rfl) ?_
    refine O_val rfl rfl rfl rfl (V_loadAgg rfl rfl ty_ag_29 (by first | exact (Rds.blk .h2).part 0 (wi_sub hR _ _) | exact (Rds.blk .h3).part 0 (wi_sub hR _ _)) (by rw [ints_length, hR])) ?_
    refine O_val rfl rfl rfl rfl (V_loadAgg rfl rfl ty_ag_29 (by first | exact Rds.blk .h3 | exact Rds.blk .h4) (by rw [ints_length, hroot])) ?_
    refine O_keep rfl rfl (W_callV rfl rfl rfl rfl fn_ca_53 (inner_ok hG (pD x p) R (pD_length _ _) hR) (fun _ _ => trivial) (K_keep (Weak.refl _) ?_))
    refine O_pure rfl rfl rfl rfl (P_neArr rfl rfl rfl ty_un_29 ty_int_5 ty_sc_5 ty_eg_29 (sha_length _) (hroot)) ?_
    refine O_pure rfl rfl rfl rfl (P_pick rfl rfl rfl) ?_
    refine O_nil ?_
    refine St.env (.cons (t := 6) rfl (.cons (t := 7) rfl (.cons (t := 8) rfl (.cons (t := 9) rfl (.cons (t := 34) rfl .nil))))) ?_
    refine Q_then ?_
    refine R_condP rfl (fun hn => ?_) (fun hn => ?_)
    ·skip
     refine R_region ?_
     refine L_val rfl rfl rfl (OpP.v (P_assign rfl rfl)) ?_
     refine L_nil ?_
     refine St.env (.cons (t := 6) rfl (.cons (t := 7) rfl (.cons (t := 8) rfl (.cons (t := 9) rfl .nil)))) ?_
     refine Q_then ?_
     refine R_seq ?_
     refine R_region ?_
     refine L_val rfl rfl rfl (V_loadAgg rfl rfl ty_ag_29 (by first | exact Rds.blk .h0 | exact Rds.blk .h1) (by rw [ints_length, pathD_length])) ?_
     refine L_val rfl rfl rfl (OpP.v (P_move rfl rfl)) ?_
     refine L_op rfl (W_storeAll rfl rfl rfl rfl ty_ag_29 (by rw [ints_length, pathD_length]) (ints_one) .h2 (by first | (rw [ints_length, pathD_length]; done) | (rw [ints_length, pathD_length]; rfl)) ?_)
     refine L_val rfl rfl rfl (OpP.v (P_assign rfl rfl)) ?_
     refine L_nil ?_
     refine St.env (.cons (t := 6) rfl (.cons (t := 7) rfl .nil)) ?_
     refine Q_then ?_
     refine R_ret ?_
     exact R_endV rfl rfl (.cell rfl (Rds.loadVar ty_ag_29 (Rds.blk .h2) (by rw [ints_length, pathD_length])) (.tmp rfl .nil)) (by unfold leadE pE pD; first | (rw [if_pos ⟨he, hn⟩]; rfl) | (rw [if_neg (fun h9 => hn h9.2)]; rfl) | (rw [if_neg (fun h9 => he h9.1)]; rfl))
    ·skip
     refine R_skip ?_
     refine Q_then ?_
     refine R_seq ?_
     refine R_region ?_
     refine L_val rfl rfl rfl (V_loadAgg rfl rfl ty_ag_29 (by first | exact Rds.blk .h0 | exact Rds.blk .h1) (by rw [ints_length, pathD_length])) ?_
     refine L_val rfl rfl rfl (OpP.v (P_move rfl rfl)) ?_
     refine L_op rfl (W_storeAll rfl rfl rfl rfl ty_ag_29 (by rw [ints_length, pathD_length]) (ints_one) .h2 (by first | (rw [ints_length, pathD_length]; done) | (rw [ints_length, pathD_length]; rfl)) ?_)
     refine L_val rfl rfl rfl (OpP.v (P_assign rfl rfl)) ?_
     refine L_nil ?_
     refine St.env (.cons (t := 6) rfl (.cons (t := 7) rfl .nil)) ?_
     refine Q_then ?_
     refine R_ret ?_
     exact R_endV rfl rfl (.cell rfl (Rds.loadVar ty_ag_29 (Rds.blk .h2) (by rw [ints_length, pathD_length])) (.tmp rfl .nil)) (by unfold leadE pE pD; first | (rw [if_pos ⟨he, hn⟩]; rfl) | (rw [if_neg (fun h9 => hn h9.2)]; rfl) | (rw [if_neg (fun h9 => he h9.1)]; rfl))
   ·skip
    have he := of_decide_eq_false he
    refine O_pure rfl rfl rfl rfl (P_move rfl rfl) ?_
    refine O_noX rfl rfl rfl rfl ?_
    refine O_no rfl rfl rfl rfl ?_
    refine O_noX rfl rfl rfl rfl ?_
    refine O_noX rfl rfl rfl rfl ?_
    refine O_no2 rfl rfl rfl rfl ?_
    refine O_no rfl rfl rfl rfl ?_
    refine O_pure rfl rfl rfl rfl (P_pick rfl rfl rfl) ?_
    refine O_nil ?_
    refine St.env (.cons (t := 6) rfl (.cons (t := 7) rfl (.cons (t := 8) rfl (.cons (t := 9) rfl (.cons (t := 34) rfl .nil))))) ?_
    refine Q_then ?_
    refine R_condF rfl ?_
    refine R_skip ?_
    refine Q_then ?_
    refine R_seq ?_
    refine R_region ?_
    refine L_val rfl rfl rfl (V_loadAgg rfl rfl ty_ag_29 (by first | exact Rds.blk .h0 | exact Rds.blk .h1) (by rw [ints_length, pathD_length])) ?_
    refine L_val rfl rfl rfl (OpP.v (P_move rfl rfl)) ?_
    refine L_op rfl (W_storeAll rfl rfl rfl rfl ty_ag_29 (by rw [ints_length, pathD_length]) (ints_one) .h2 (by first | (rw [ints_length, pathD_length]; done) | (rw [ints_length, pathD_length]; rfl)) ?_)
    refine L_val rfl rfl rfl (OpP.v (P_assign rfl rfl)) ?_
    refine L_nil ?_
    refine St.env (.cons (t := 6) rfl (.cons (t := 7) rfl .nil)) ?_
    refine Q_then ?_
    refine R_ret ?_
    exact R_endV rfl rfl (.cell rfl (Rds.loadVar ty_ag_29 (Rds.blk .h2) (by rw [ints_length, pathD_length])) (.tmp rfl .nil)) (by unfold leadE pE pD; first | (rw [if_pos ⟨he, hn⟩]; rfl) | (rw [if_neg (fun h9 => hn h9.2)]; rfl) | (rw [if_neg (fun h9 => he h9.1)]; rfl))
 ·skip
  refine T_keep rfl rfl (W_alloc rfl rfl rfl ty_ze_29 fun b8 => (K_keepT (Weak.drop (Weak.refl _)) ?_))
  refine T_keep rfl rfl (W_call rfl rfl rfl rfl fn_ca_118 (form_ok x) (Split.nil _) (fun _ _ _ _ _ _ _ => trivial) fun v1 rs1 (e1 : rs1 = _) => ?_)
  subst e1
  refine St.ownForm (p := []) fun ib ic hiv hic => ?_
  subst hiv
  have hic : (formB x).length ≤ ic := by omega
  rw [← hfl]
  refine K_keepT (Weak.drop (Weak.refl _)) ?_
  refine T_keep rfl rfl (W_callV rfl rfl rfl rfl fn_ca_125 (path_ok hG p.t p.i p.b p.c p.hs ib ic (formB x) g1 g3 g2 hic) (by first | exact fun w nw => ⟨(Sn.row (p3 p hpm) rfl).rw_ w nw, (Sn.own .h0 rfl).rw_ w nw⟩ | exact fun w nw => ⟨(Sn.row (p3 p hpm) rfl).rw_ w nw, (Sn.own .h1 rfl).rw_ w nw⟩) (K_keepT (Weak.refl _) ?_))
  refine T_pure rfl rfl rfl rfl (P_move rfl rfl) ?_
  refine T_pure rfl rfl rfl rfl (P_extract rfl rfl rfl) ?_
  refine T_pure rfl rfl rfl rfl (P_extract rfl rfl rfl) ?_
  first | (refine T_new rfl rfl (W_storeAll rfl rfl rfl rfl ty_ag_29 (by rw [ints_length, pathD_length]) (ints_one) .h0 (by first | (rw [ints_length, pathD_length]; done) | (rw [ints_length, pathD_length]; rfl)) (K_newT ?_))) | (refine T_new rfl rfl (W_storeAll rfl rfl rfl rfl ty_ag_29 (by rw [ints_length, pathD_length]) (ints_one) .h1 (by first | (rw [ints_length, pathD_length]; done) | (rw [ints_length, pathD_length]; rfl)) (K_newT ?_))) | (refine T_new rfl rfl (W_storeAll rfl rfl rfl rfl ty_ag_29 (by rw [ints_length, pathD_length]) (ints_one) .h2 (by first | (rw [ints_length, pathD_length]; done) | (rw [ints_length, pathD_length]; rfl)) (K_newT ?_))) | (refine T_new rfl rfl (W_storeAll rfl rfl rfl rfl ty_ag_29 (by rw [ints_length, pathD_length]) (ints_one) .h3 (by first | (rw [ints_length, pathD_length]; done) | (rw [ints_length, pathD_length]; rfl)) (K_newT ?_))) | (refine T_new rfl rfl (W_storeAll rfl rfl rfl rfl ty_ag_29 (by rw [ints_length, pathD_length]) (ints_one) .h4 (by first | (rw [ints_length, pathD_length]; done) | (rw [ints_length, pathD_length]; rfl)) (K_newT ?_))) | (refine T_new rfl rfl (W_storeAll rfl rfl rfl rfl ty_ag_29 (by rw [ints_length, pathD_length]) (ints_one) .h5 (by first | (rw [ints_length, pathD_length]; done) | (rw [ints_length, pathD_length]; rfl)) (K_newT ?_))) | (refine T_new rfl rfl (W_storeAll rfl rfl rfl rfl ty_ag_29 (by rw [ints_length, pathD_length]) (ints_one) .h6 (by first | (rw [ints_length, pathD_length]; done) | (rw [ints_length, pathD_length]; rfl)) (K_newT ?_))) | (refine T_new rfl rfl (W_storeAll rfl rfl rfl rfl ty_ag_29 (by rw [ints_length, pathD_length]) (ints_one) .h7 (by first | (rw [ints_length, pathD_length]; done) | (rw [ints_length, pathD_length]; rfl)) (K_newT ?_)))
  refine T_pure rfl rfl rfl rfl (P_assign rfl rfl) ?_
  refine T_nil ?_
  refine St.env (.cons (t := 3) rfl (.cons (t := 4) rfl (.cons (t := 6) rfl (.cons (t := 7) rfl (.cons (t := 8) rfl (.cons (t := 9) rfl .nil)))))) ?_
  refine Q_then ?_
  refine R_seq ?_
  refine R_seq ?_
  refine R_open [(0, 0), (1, 0), (2, 0), (3, 1), (4, 0), (5, 1), (7, 1), (6, 2), (8, 0), (9, 0)] mixed (by kernel_rfl) (QOk.then (QOk.then QOk.body)) ?_
  refine O_pure rfl rfl rfl rfl (P_move rfl rfl) ?_
  refine O_pure rfl rfl rfl rfl (P_eql rfl rfl rfl) ?_
  refine E_bool (t := 26) rfl (fun he => ?_) (fun he => ?_)
  ·skip
   have he := of_decide_eq_true he
   refine O_pure rfl rfl rfl rfl (P_move rfl rfl) ?_
   refine O_val rfl rfl rfl rfl (V_loadAgg rfl rfl ty_ag_29 (by first | exact Rds.blk .h0 | exact Rds.blk .h1) (by rw [ints_length, pathD_length])) ?_
   refine O_pure rfl rfl rfl rfl (P_fld0 rfl ty_fl_32_0 rfl) ?_
   refine O_val rfl rfl rfl rfl (V_loadAgg rfl rfl ty_ag_29 (by first | exact (Rds.blk .h2).part 0 (wi_sub hR _ _) | exact (Rds.blk .h3).part 0 (wi_sub hR _ _)) (by rw [ints_length, hR])) ?_
   refine O_val rfl rfl rfl rfl (V_loadAgg rfl rfl ty_ag_29 (by first | exact Rds.blk .h3 | exact Rds.blk .h4) (by rw [ints_length, hroot])) ?_
   refine O_keep rfl rfl (W_callV rfl rfl rfl rfl fn_ca_53 (inner_ok hG (pD x p) R (pD_length _ _) hR) (fun _ _ => trivial) (K_keep (Weak.refl _) ?_))
   refine O_pure rfl rfl rfl rfl (P_neArr rfl rfl rfl ty_un_29 ty_int_5 ty_sc_5 ty_eg_29 (sha_length _) (hroot)) ?_
   refine O_pure rfl rfl rfl rfl (P_pick rfl rfl rfl) ?_
   refine O_nil ?_
   refine St.env (.cons (t := 6) rfl (.cons (t := 7) rfl (.cons (t := 8) rfl (.cons (t := 9) rfl (.cons (t := 34) rfl .nil))))) ?_
   refine Q_then ?_
   refine R_condP rfl (fun hn => ?_) (fun hn => ?_)
   ·skip
    refine R_region ?_
    refine L_val rfl rfl rfl (OpP.v (P_assign rfl rfl)) ?_
    refine L_nil ?_
    refine St.env (.cons (t := 6) rfl (.cons (t := 7) rfl (.cons (t := 8) rfl (.cons (t := 9) rfl .nil)))) ?_
    refine Q_then ?_
    refine R_seq ?_
    refine R_region ?_
    refine L_val rfl rfl rfl (V_loadAgg rfl rfl ty_ag_29 (by first | exact Rds.blk .h0 | exact Rds.blk .h1) (by rw [ints_length, pathD_length])) ?_
    refine L_val rfl rfl rfl (OpP.v (P_move rfl rfl)) ?_
    refine L_op rfl (W_storeAll rfl rfl rfl rfl ty_ag_29 (by rw [ints_length, pathD_length]) (ints_one) .h2 (by first | (rw [ints_length, pathD_length]; done) | (rw [ints_length, pathD_length]; rfl)) ?_)
    refine L_val rfl rfl rfl (OpP.v (P_assign rfl rfl)) ?_
    refine L_nil ?_
    refine St.env (.cons (t := 6) rfl (.cons (t := 7) rfl .nil)) ?_
    refine Q_then ?_
    refine R_ret ?_
    exact R_endV rfl rfl (.cell rfl (Rds.loadVar ty_ag_29 (Rds.blk .h2) (by rw [ints_length, pathD_length])) (.tmp rfl .nil)) (by unfold leadE pE pD; first | (rw [if_pos ⟨he, hn⟩]; rfl) | (rw [if_neg (fun h9 => hn h9.2)]; rfl) | (rw [if_neg (fun h9 => he h9.1)]; rfl))
   ·skip
    refine R_skip ?_
    refine Q_then ?_
    refine R_seq ?_
    refine R_region ?_
    refine L_val rfl rfl rfl (V_loadAgg rfl rfl ty_ag_29 (by first | exact Rds.blk .h0 | exact Rds.blk .h1) (by rw [ints_length, pathD_length])) ?_
    refine L_val rfl rfl rfl (OpP.v (P_move rfl rfl)) ?_
    refine L_op rfl (W_storeAll rfl rfl rfl rfl ty_ag_29 (by rw [ints_length, pathD_length]) (ints_one) .h2 (by first | (rw [ints_length, pathD_length]; done) | (rw [ints_length, pathD_length]; rfl)) ?_)
    refine L_val rfl rfl rfl (OpP.v (P_assign rfl rfl)) ?_
    refine L_nil ?_
    refine St.env (.cons (t := 6) rfl (.cons (t := 7) rfl .nil)) ?_
    refine Q_then ?_
    refine R_ret ?_
    exact R_endV rfl rfl (.cell rfl (Rds.loadVar ty_ag_29 (Rds.blk .h2) (by rw [ints_length, pathD_length])) (.tmp rfl .nil)) (by unfold leadE pE pD; first | (rw [if_pos ⟨he, hn⟩]; rfl) | (rw [if_neg (fun h9 => hn h9.2)]; rfl) | (rw [if_neg (fun h9 => he h9.1)]; rfl))
  ·skip
   have he := of_decide_eq_false he
   refine O_pure rfl rfl rfl rfl (P_move rfl rfl) ?_
   refine O_noX rfl rfl rfl rfl ?_
   refine O_no rfl rfl rfl rfl ?_
   refine O_noX rfl rfl rfl rfl ?_
   refine O_noX rfl rfl rfl rfl ?_
   refine O_no2 rfl rfl rfl rfl ?_
   refine O_no rfl rfl rfl rfl ?_
   refine O_pure rfl rfl rfl rfl (P_pick rfl rfl rfl) ?_
   refine O_nil ?_
   refine St.env (.cons (t := 6) rfl (.cons (t := 7) rfl (.cons (t := 8) rfl (.cons (t := 9) rfl (.cons (t := 34) rfl .nil))))) ?_
   refine Q_then ?_
   refine R_condF rfl ?_
   refine R_skip ?_
   refine Q_then ?_
   refine R_seq ?_
   refine R_region ?_
   refine L_val rfl rfl rfl (V_loadAgg rfl rfl ty_ag_29 (by first | exact Rds.blk .h0 | exact Rds.blk .h1) (by rw [ints_length, pathD_length])) ?_
   refine L_val rfl rfl rfl (OpP.v (P_move rfl rfl)) ?_
   refine L_op rfl (W_storeAll rfl rfl rfl rfl ty_ag_29 (by rw [ints_length, pathD_length]) (ints_one) .h2 (by first | (rw [ints_length, pathD_length]; done) | (rw [ints_length, pathD_length]; rfl)) ?_)
   refine L_val rfl rfl rfl (OpP.v (P_assign rfl rfl)) ?_
   refine L_nil ?_
   refine St.env (.cons (t := 6) rfl (.cons (t := 7) rfl .nil)) ?_
   refine Q_then ?_
   refine R_ret ?_
   exact R_endV rfl rfl (.cell rfl (Rds.loadVar ty_ag_29 (Rds.blk .h2) (by rw [ints_length, pathD_length])) (.tmp rfl .nil)) (by unfold leadE pE pD; first | (rw [if_pos ⟨he, hn⟩]; rfl) | (rw [if_neg (fun h9 => hn h9.2)]; rfl) | (rw [if_neg (fun h9 => he h9.1)]; rfl))
end Go.Proofs.YtfhjhaogmdaepaaGreatDoor

/- The twenty-second part of the program logic: many allocs of which each may come first. -/
set_option linter.unusedVariables false
set_option linter.unusedSimpArgs false
namespace Go.Proofs.YtfhjhaogmdaepaaGreatDoor
open Go Go.RowKit
inductive SchP where
 | pre (i k : Nat) (rest : SchP)
 | perm (is : List Nat) (rest : Sch)
def SchP.all : SchP → List (Nat × Nat)
 | .pre i k r => (i, k) :: r.all
 | .perm is r => is.map (fun i => (i, 2)) ++ r.all
def SchP.len : SchP → Nat
 | .pre _ _ r => r.len + 1
 | .perm is r => is.length + r.len
def goPm (ops : Array Oper) (all : List (Nat × Nat)) (r : Sch) : Nat → List Nat → Array Bool → Bool
 | 0, is, listed => goT ops all r listed
 | n + 1, is, listed => !(Region.ready .any ops listed).isEmpty && (Region.ready .any ops listed).all fun m => is.contains m && goPm ops all r n (is.erase m) (listed.setIfInBounds m true)
def goP (ops : Array Oper) (all : List (Nat × Nat)) : SchP → Array Bool → Bool
 | .pre i k rest, listed => (Region.ready .any ops listed).contains i && (Region.free .any ops listed i && (Nat.beq k 0 || all.all fun jk => !(Nat.beq jk.2 3) || waits ops jk.1 i)) && goP ops all rest (listed.setIfInBounds i true)
 | .perm is r, listed => goPm ops all r is.length is listed
def wpPm (P : Program) (ops : Array Oper) (Q : Exit → Act → World → Prop) (r : Sch) : Nat → List Nat → (World → Prop) → Act → World → Prop
 | 0, _, S, a, w => wpT P ops Q r S a w
 | n + 1, is, S, a, w => ∀ m ∈ is, wpOp P ops Q m (fun a' w' => ∃ S' : World → Prop, (∀ z, S' z → S z) ∧ S' w' ∧ wpPm P ops Q r n (is.erase m) S' a' w') a w
def wpP (P : Program) (ops : Array Oper) (Q : Exit → Act → World → Prop) : SchP → (World → Prop) → Act → World → Prop
 | .pre i 0 rest, S, a, w => ∃ o v, ops[i]? = some o ∧ (∀ S', Holds P ops S' o v a) ∧ wpP P ops Q rest S (a.put o.dst v) w
 | .pre i 1 rest, S, a, w => ∃ o v, ops[i]? = some o ∧ Holds P ops S o v a ∧ wpP P ops Q rest S (a.put o.dst v) w
 | .pre _ _ _, _, _, _ => False
 | .perm is r, S, a, w => wpPm P ops Q r is.length is S a w
theorem wpPm_sound {P : Program} {ops : Array Oper} {Q : Exit → Act → World → Prop} (hs : Region.noSelect ops = true) (hQ : ∀ d v c a w, Q (.panic c) (a.put d v) w → Q (.panic c) a w) (all : List (Nat × Nat)) (r : Sch) (hall : ∀ x, x ∈ r.all → x ∈ all) :
  ∀ (n : Nat) (is : List Nat) (S : World → Prop) (listed : Array Bool) (a : Act) (w : World), goPm ops all r n is listed = true → Closed ops listed → S w → wpPm P ops Q r n is S a w → wpAnyG P ops Q (newOf all) S (n + r.len) listed a w
 | 0, is, S, listed, a, w, hB, hcl, hS, h => by rw [Nat.zero_add]; exact wpT_sound hs hQ all r S listed a w hall hB hcl hS h
 | n + 1, is, S, listed, a, w, hB, hcl, hS, h => by
  rw [Nat.add_right_comm]
  unfold goPm at hB
  rw [Bool.and_eq_true] at hB
  obtain ⟨h1, h2⟩ := hB
  refine ⟨fun h0 => (by rw [h0] at h1; cases h1), fun m hm => ?_⟩
  have h3 := List.all_eq_true.1 h2 m hm
  rw [Bool.and_eq_true] at h3
  exact wpOp_mono (fun a' w' ⟨S', hs', hS', hn⟩ => ⟨S', fun _ => hs', hS', wpPm_sound hs hQ all r hall n _ S' _ _ _ h3.2 (hcl.list hm) hS' hn⟩) (h m (by simpa using h3.1))
theorem wpP_sound {P : Program} {ops : Array Oper} {Q : Exit → Act → World → Prop} (hs : Region.noSelect ops = true) (hQ : ∀ d v c a w, Q (.panic c) (a.put d v) w → Q (.panic c) a w) (all : List (Nat × Nat)) :
  ∀ (t : SchP) (S : World → Prop) (listed : Array Bool) (a : Act) (w : World), (∀ x, x ∈ t.all → x ∈ all) → goP ops all t listed = true → Closed ops listed → S w → wpP P ops Q t S a w → wpAnyG P ops Q (newOf all) S t.len listed a w
 | .perm is r, S, listed, a, w, hall, hB, hcl, hS, h => wpPm_sound hs hQ all r (fun x hx => hall x (by unfold SchP.all; simp [hx])) is.length is S listed a w hB hcl hS h
 | .pre i k rest, S, listed, a, w, hall, hB, hcl, hS, h => by
  unfold goP at hB
  simp only [Bool.and_eq_true] at hB
  obtain ⟨⟨hr, hf, hk⟩, hB'⟩ := hB
  have hrest : ∀ z, z ∈ rest.all → z ∈ all := fun z hz => hall z (by unfold SchP.all; exact List.mem_cons_of_mem _ hz)
  have hcl' := hcl.list (j := i) (by simpa using hr)
  match k, hk, h with
  | 0, hk, h =>
   obtain ⟨o, v, ho, hy, hn⟩ := h
   exact wpAnyG_first ho (Region.noSelect_spec hs) (hQ _ _) (G := fun _ a => ∀ S', Holds P ops S' o v a) (fun S a g => g S) (fun S a a' g e1 e2 S' => (g S').of_same e1 e2) (fun _ _ _ g _ => g) (.inr fun _ _ _ g => g)
    rest.len S listed a w (Region.free_spec ho hf) hcl (by simpa using hr) hy hS (wpP_sound hs hQ all rest S _ _ _ hrest hB' hcl' hS hn)
  | 1, hk, h =>
   obtain ⟨o, v, ho, hy, hn⟩ := h
   have hw : ∀ j, newOf all j = true → waits ops j i = true := fun j hj => by
    unfold newOf at hj
    obtain ⟨jk, hm, he⟩ := List.any_eq_true.1 hj
    simp only [Bool.and_eq_true] at he
    simp only [Bool.or_eq_true] at hk
    rcases hk with h2 | h2
    ·cases h2
    ·have h3 := List.all_eq_true.1 h2 jk hm
     simp only [he.2, Bool.not_true, Bool.false_or] at h3
     rwa [Nat.eq_of_beq_eq_true he.1] at h3
   exact wpAnyG_first ho (Region.noSelect_spec hs) (hQ _ _) (G := fun S a => Holds P ops S o v a) (fun S a g => g) (fun S a a' g e1 e2 => g.of_same e1 e2) (fun _ _ _ g l => g.weak l) (.inl hw)
    rest.len S listed a w (Region.free_spec ho hf) hcl (by simpa using hr) hy hS (wpP_sound hs hQ all rest S _ _ _ hrest hB' hcl' hS hn)
  | k + 2, hk, h => exact h.elim
/-! ### Allocs in whatever order -/
structure AJ where
 i : Nat
 d : Nat
 T : Nat
 z : List Value
structure AllocAt (C : Cx) (F : Fx) (ops : Array Oper) (j : AJ) : Prop where
 ex : ∃ o, ops[j.i]? = some o ∧ o.guard = none ∧ o.op = .alloc j.T ∧ o.dst = some j.d
 lt : Nat.blt j.d F.n = true
 ze : zeB C.P j.T j.z
def envD (done : List (AJ × Nat)) : Env := done.map fun x => (x.1.d, .pointer (some ⟨x.2, 0, none⟩))
def rsD (done : List (AJ × Nat)) : List HP := done.map fun x => blk x.2 x.1.z x.1.T
theorem Weak.perm {a b : List HP} (h : a.Perm b) : Weak a b := by
 induction h with
 | nil => exact Weak.refl _
 | cons x _ ih => exact Weak.keep ih
 | swap x y l => exact Weak.swap
 | trans _ _ ih1 ih2 => exact ih1.trans ih2
def schP (ops : Array Oper) (t : SchP) : Bool := Region.noSelect ops && Nat.beq t.len ops.size && goP ops t.all t (Array.replicate ops.size false)
section
variable {C : Cx} {F : Fx} {l : Env} {rs rs' rq : List HP} {o : Oper} {Q : Exit → Act → World → Prop} {ops : Array Oper} {d i : Nat} {v : Value} {tt : SchP}
def StPQ (C : Cx) (F : Fx) (ops : Array Oper) (Q : Exit → Act → World → Prop) (t : SchP) (l : Env) (rq rs : List HP) : Prop := St C F l rs (wpP C.P ops Q t (Now C F rq))
theorem PQ_open {id : Nat} {os : List Oper} (t : SchP) (rq : List HP) (hwk : Weak rs rq) (hm : C.P.follows .mixedOrders = true) (hB : schP os.toArray t = true) (hQ : QOk Q) (h : StPQ C F os.toArray Q t l rq rs) : St C F l rs ((Code.region id os.toArray true).wp C.P Q) := fun a w r n => by
 unfold schP at hB
 simp only [Bool.and_eq_true] at hB
 obtain ⟨⟨h1, h2⟩, h3⟩ := hB
 have h2 := Nat.eq_of_beq_eq_true h2
 refine wp_region_any hm ?_
 have key := wpP_sound h1 hQ t.all t (Now C F rq) (Array.replicate os.toArray.size false) a { w with drawn := w.drawn + 1 } (fun _ h => h) h3 (fun k o _ hk => by rw [getD_none] at hk; cases hk) ((n.drew _ (Nat.le_succ _)).weak hwk) (h a _ r (n.drew _ (Nat.le_succ _)))
 rw [h2] at key
 exact wpAny_of_G (new := newOf t.all) _ _ _ _ _ key
theorem PPQ_pure (ho : ops[i]? = some o) (hw : wantedE ops l o = true) (hd : o.dst = some d) (hn : Nat.blt d F.n = true) (hv : OpP C F l o v) (k : StPQ C F ops Q tt ((d, v) :: l) rq rs) : StPQ C F ops Q (.pre i 0 tt) l rq rs := fun a w r n =>
 ⟨o, v, ho, fun S' => .inl ⟨wanted_of r hw, fun w' _ => hv a w' r⟩, by rw [hd]; exact k _ _ (r.put hn v) n⟩
theorem PPQ_val (ho : ops[i]? = some o) (hw : wantedE ops l o = true) (hd : o.dst = some d) (hn : Nat.blt d F.n = true) (hv : OpV C F l rq o v) (k : StPQ C F ops Q tt ((d, v) :: l) rq rs) : StPQ C F ops Q (.pre i 1 tt) l rq rs := fun a w r n =>
 ⟨o, v, ho, .inl ⟨wanted_of r hw, fun w' hw' => hv a w' r hw'⟩, by rw [hd]; exact k _ _ (r.put hn v) n⟩
end
section
variable {C : Cx} {F : Fx} {l : Env} {rs : List HP} {Q : Exit → Act → World → Prop} {ops : Array Oper} {r : Sch} {js : List AJ}
theorem get_map (g : Nat → Value) (t : Nat) : ∀ L : List AJ, Env.get? (L.map (fun j => (j.d, g j.d)) ++ l) t = if t ∈ L.map AJ.d then some (g t) else l.get? t
 | [] => by simp
 | j :: L => by
  have ih := get_map g t L
  by_cases h : j.d = t
  ·subst h; simp [Env.get?]
  ·have h1 : Env.get? ((j :: L).map (fun j => (j.d, g j.d)) ++ l) t = Env.get? (L.map (fun j => (j.d, g j.d)) ++ l) t := by
    show (bif Nat.beq j.d t then some (g j.d) else _) = _
    rw [show Nat.beq j.d t = false from Bool.eq_false_iff.2 fun h2 => h (Nat.eq_of_beq_eq_true h2)]; rfl
   rw [h1, ih]
   by_cases h2 : t ∈ L.map AJ.d
   ·rw [if_pos h2, if_pos (by rw [List.map_cons]; exact List.mem_cons_of_mem _ h2)]
   ·rw [if_neg h2, if_neg (by rw [List.map_cons, List.mem_cons]; exact fun h3 => h3.elim (fun e => h e.symm) h2)]
theorem dropAll {rs : List HP} : ∀ done : List (AJ × Nat), Weak (rsD done ++ rs) rs
 | [] => Weak.refl _
 | _ :: ds => Weak.drop (dropAll ds)
theorem allocs_goQ {rq : List HP} (hq : Weak rs rq) (hA : ∀ j ∈ js, AllocAt C F ops j) (hi : (js.map AJ.i).Nodup)
  (k : ∀ done : List (AJ × Nat), (done.map Prod.fst).Perm js → St C F (envD done ++ l) (rsD done ++ rs) (wpT C.P ops Q r (Now C F rq))) :
  ∀ (n : Nat) (todo : List AJ) (done : List (AJ × Nat)), todo.length = n + 1 → (done.map Prod.fst ++ todo).Perm js → St C F (envD done ++ l) (rsD done ++ rs) (wpPm C.P ops Q r (n + 1) (todo.map AJ.i) (Now C F rq))
 | n, todo, done, hlen, hp => fun a w rep now => by
  intro m hm
  obtain ⟨j, hj, rfl⟩ := List.mem_map.1 hm
  obtain ⟨t1, t2, rfl⟩ := List.append_of_mem hj
  obtain ⟨⟨o, ho, hg, hop, hd⟩, hlt, hze⟩ := hA j (hp.subset (by simp))
  have hnd : ((t1 ++ j :: t2).map AJ.i).Nodup := by
   have h1 := (hp.map AJ.i).symm.nodup hi
   rw [List.map_append] at h1
   exact (List.nodup_append.1 h1).2.1
  have hnot : j.i ∉ t1.map AJ.i := fun h => by
   rw [List.map_append, List.nodup_append] at hnd
   exact hnd.2.2 _ h _ (by simp) rfl
  have he : ((t1 ++ j :: t2).map AJ.i).erase j.i = (t1 ++ t2).map AJ.i := by
   rw [List.map_append, List.map_cons, List.erase_append_right _ hnot, List.erase_cons_head, List.map_append]
  have hp2 : ∀ b : Nat, ((((j, b) :: done) : List (AJ × Nat)).map Prod.fst ++ (t1 ++ t2)).Perm js := fun b => by
   refine List.Perm.trans ?_ hp
   show (j :: (done.map Prod.fst ++ (t1 ++ t2))).Perm _
   have h2 : (done.map Prod.fst ++ (t1 ++ j :: t2)).Perm (done.map Prod.fst ++ (j :: (t1 ++ t2))) := List.Perm.append_left _ List.perm_middle
   exact (List.perm_middle.symm.trans h2.symm)
  have hW : wantedE ops (envD done ++ l) o = true := by unfold wantedE; rw [hg]
  rw [he]
  unfold wpOp
  simp only [ho, wanted_of rep hW, if_true]
  refine .inl ((W_alloc hop hd hlt hze fun b => ?_ : OpW C F (envD done ++ l) (rsD done ++ rs) o _ Q) a w rep now)
  have hl2 : (t1 ++ t2).length = n := by rw [List.length_append] at hlen ⊢; rw [List.length_cons] at hlen; omega
  match n, hl2 with
  | 0, hl2 =>
   have st := k ((j, b) :: done) (by have h3 := hp2 b; rw [List.eq_nil_of_length_eq_zero hl2, List.append_nil] at h3; exact h3)
   exact fun a' w' r' n' => ⟨Now C F rq, fun z nz => nz, Now.weak n' (Weak.drop ((dropAll done).trans hq)), st a' w' r' n'⟩
  | n + 1, hl2 => exact fun a' w' r' n' => ⟨Now C F rq, fun z nz => nz, Now.weak n' (Weak.drop ((dropAll done).trans hq)), allocs_goQ hq hA hi k n (t1 ++ t2) ((j, b) :: done) hl2 (hp2 b) a' w' r' n'⟩
theorem PPQ_perm {rq : List HP} (hq : Weak rs rq) (hA : ∀ j ∈ js, AllocAt C F ops j) (hne : 0 < js.length) (hi : (js.map AJ.i).Nodup) (hdn : (js.map AJ.d).Nodup)
  (k : ∀ f : Nat → Nat, StTQ C F ops Q r (js.map (fun j => (j.d, .pointer (some ⟨f j.d, 0, none⟩))) ++ l) rq (js.map (fun j => blk (f j.d) j.z j.T) ++ rs)) : StPQ C F ops Q (.perm (js.map AJ.i) r) l rq rs := by
 have key := allocs_goQ (l := l) (rs := rs) (Q := Q) (r := r) hq hA hi (fun done hp => ?_) (js.length - 1) js [] (by omega) (List.Perm.refl _)
 ·show St C F l rs (wpPm C.P ops Q r (js.map AJ.i).length (js.map AJ.i) (Now C F rq))
  rw [List.length_map, show js.length = js.length - 1 + 1 by omega]
  exact key
 ·have hnd : ((done.map Prod.fst).map AJ.d).Nodup := (hp.map AJ.d).symm.nodup hdn
  have hf : ∃ f : Nat → Nat, ∀ x ∈ done, f x.1.d = x.2 := by
   clear hp k hA hdn hi hne
   induction done with
   | nil => exact ⟨fun _ => 0, fun x hx => by cases hx⟩
   | cons y ys ih =>
    rw [List.map_cons, List.map_cons, List.nodup_cons] at hnd
    obtain ⟨f, hf⟩ := ih hnd.2
    refine ⟨fun d => if d = y.1.d then y.2 else f d, fun x hx => ?_⟩
    rcases List.mem_cons.1 hx with rfl | hx
    ·simp
    ·have hne : x.1.d ≠ y.1.d := fun e => hnd.1 (by rw [← e]; exact List.mem_map.2 ⟨x.1, List.mem_map.2 ⟨x, hx, rfl⟩, rfl⟩)
     show (if x.1.d = y.1.d then y.2 else f x.1.d) = x.2
     rw [if_neg hne]; exact hf x hx
  obtain ⟨f, hf⟩ := hf
  have e1 : envD done = (done.map Prod.fst).map fun j => (j.d, .pointer (some ⟨f j.d, 0, none⟩)) := by
   unfold envD; rw [List.map_map]; exact List.map_congr_left fun x hx => by show _ = (x.1.d, Value.pointer (some ⟨f x.1.d, 0, none⟩)); rw [hf x hx]
  have e2 : rsD done = (done.map Prod.fst).map fun j => blk (f j.d) j.z j.T := by
   unfold rsD; rw [List.map_map]; exact List.map_congr_left fun x hx => by show _ = blk (f x.1.d) x.1.z x.1.T; rw [hf x hx]
  have hpr : (rsD done ++ rs).Perm (js.map (fun j => blk (f j.d) j.z j.T) ++ rs) := by rw [e2]; exact (hp.map _).append_right rs
  refine St.prune (k f) (fun t v ht => ?_) (Weak.perm hpr)
  rw [e1, get_map (l := l) (fun d => .pointer (some ⟨f d, 0, none⟩)) t]
  rw [get_map (l := l) (fun d => .pointer (some ⟨f d, 0, none⟩)) t] at ht
  have hm : t ∈ (done.map Prod.fst).map AJ.d ↔ t ∈ js.map AJ.d := (hp.map AJ.d).mem_iff
  by_cases h2 : t ∈ js.map AJ.d
  ·rw [if_pos h2] at ht; rw [if_pos (hm.2 h2)]; exact ht
  ·rw [if_neg h2] at ht; rw [if_neg (fun h3 => h2 (hm.1 h3))]; exact ht
end
end Go.Proofs.YtfhjhaogmdaepaaGreatDoor

/- Walks: between. Printed by gen.py. -/
set_option linter.unusedVariables false
set_option linter.unusedSimpArgs false
set_option maxRecDepth 100000
namespace Go.Proofs.YtfhjhaogmdaepaaGreatDoor
open Go Go.RowKit Go.Proofs
def btwB (a : Int) (x y : Acc) (p q : Pf) : Prop := a ≤ x.a ∨ y.a ≤ a ∨ q.t ≠ p.t ∨ IntKind.i64.wrap (q.i - 1) ≠ p.i
instance (a : Int) (x y : Acc) (p q : Pf) : Decidable (btwB a x y p q) := inferInstanceAs (Decidable (_ ∨ _ ∨ _ ∨ _))
def btwE (root R : List Int) (a : Int) (x y : Acc) (p q : Pf) : Int := if btwB a x y p q then 20 else if leadE root R x p ≠ 0 then leadE root R x p else verE (pD x p) q.t q.i q.hs (formB y)
theorem between_ok {gl : Nat → Obj} (hG : Globs gl) (root R : List Int) (hroot : root.length = 32) (hR : R.length = 32) (ub pb : Option Addr) (uc pc : Nat) (ac : List Acc) (ps : List Pf) (hc : ac.length ≤ uc) (hpc : ps.length ≤ pc) (hps : ∀ p ∈ ps, PfIn p) (a : Int) (x y : Acc) (p q : Pf) (hx : ac[0]? = some x) (hy : ac[1]? = some y) (hp : ps[0]? = some p) (hq : ps[1]? = some q) (h2 : ac.length = 2) (h2' : ps.length = 2) : SpecV (cx gl) 58 [.agg (ints .u8 (root)).toArray, .int .u64 a, .agg (wiC R (.slice ub ac.length uc) (.slice pb ps.length pc)).toArray] (fun w => WitRow w ub ac pb ps) (.int .i64 (btwE root R a x y p q)) := by
 refine Spec.enter (C := cx gl) Tryz.func58 rfl 68 rfl rfl fun w0 h0 hsep hsub hpre => ?_
 obtain rfl : h0 = Heap.none := hsep
 show St (cx gl) _ [(0, .agg (ints .u8 (root)).toArray), (1, .int .u64 a), (2, .agg (wiC R (.slice ub ac.length uc) (.slice pb ps.length pc)).toArray)] _ _
 obtain ⟨p1, p2, p3⟩ := hpre
 have hpre : WitRow w0 ub ac pb ps := ⟨p1, p2, p3⟩
 obtain ⟨ab, aj, rfl, har⟩ := p1.some_ (by rw [rc_length]; show 0 < _ * 5; omega)
 obtain ⟨qb, qj, rfl, hqr⟩ := p2.some_ (by rw [rc_length]; show 0 < _ * 3; omega)
 have hqm := List.mem_of_getElem? hq
 obtain ⟨g1, g2, g3⟩ := hps q hqm
 have hfl := formB_length y
 refine R_seq ?_
 refine R_region ?_
 refine L_op rfl (W_box (ints .u8 root) rfl rfl rfl rfl rfl fun b3 => ?_)
 refine L_op rfl (W_box (wiC R (.slice (some ⟨ab, aj, none⟩) ac.length uc) (.slice (some ⟨qb, qj, none⟩) ps.length pc)) rfl rfl rfl rfl rfl fun b5 => ?_)
 refine L_val rfl rfl rfl (OpP.v (P_assign rfl rfl)) ?_
 refine L_nil ?_
 refine St.env (.cons (t := 1) rfl (.cons (t := 3) rfl (.cons (t := 5) rfl (.cons (t := 6) rfl .nil)))) ?_
 refine Q_then ?_
 refine R_seq ?_
 refine PQ_open (.pre 0 0 (.pre 1 1 (.pre 2 0 (.pre 3 1 (.pre 4 0 (.pre 5 1 (.pre 6 0 (.pre 7 1 (.pre 8 0 (.pre 9 1 (.pre 10 0 (.pre 11 1 (.pre 12 0 (.pre 13 1 (.pre 14 0 (.pre 15 1 (.perm [16, 17, 18, 19] (.op 20 2 (.op 21 2 (.op 22 2 (.op 23 2 .nil))))))))))))))))))))) [blk b5 (wiC R (.slice (some ⟨ab, aj, none⟩) ac.length uc) (.slice (some ⟨qb, qj, none⟩) ps.length pc)) 32] (Weak.keep (Weak.nil _)) mixed (by kernel_rfl) (QOk.then QOk.body) ?_
 refine PPQ_pure rfl rfl rfl rfl (P_fld0 rfl ty_fl_32_1 rfl) ?_
 refine PPQ_val rfl rfl rfl rfl (V_load rfl rfl ty_sc_22 (Rd.blk .h0 (wi_1 hR _ _))) ?_
 refine PPQ_pure rfl rfl rfl rfl (P_ixs (0) rfl ty_sl_22 rfl rfl (by first | rfl | omega) (by omega)) ?_
 refine PPQ_val rfl rfl rfl rfl (V_loadAgg rfl rfl ty_ag_38 (rds_rc (Rds.row har rfl) hx) (rfl)) ?_
 refine PPQ_pure rfl rfl rfl rfl (P_fld0 rfl ty_fl_32_1 rfl) ?_
 refine PPQ_val rfl rfl rfl rfl (V_load rfl rfl ty_sc_22 (Rd.blk .h0 (wi_1 hR _ _))) ?_
 refine PPQ_pure rfl rfl rfl rfl (P_ixs (1) rfl ty_sl_22 rfl rfl (by first | rfl | omega) (by omega)) ?_
 refine PPQ_val rfl rfl rfl rfl (V_loadAgg rfl rfl ty_ag_38 (rds_rc (Rds.row har rfl) hy) (rfl)) ?_
 refine PPQ_pure rfl rfl rfl rfl (P_fld0 rfl ty_fl_32_2 rfl) ?_
 refine PPQ_val rfl rfl rfl rfl (V_load rfl rfl ty_sc_30 (Rd.blk .h0 (wi_2 hR _ _))) ?_
 refine PPQ_pure rfl rfl rfl rfl (P_ixs (0) rfl ty_sl_30 rfl rfl (by first | rfl | omega) (by omega)) ?_
 refine PPQ_val rfl rfl rfl rfl (V_loadAgg rfl rfl ty_ag_47 (rds_rc (Rds.row hqr rfl) hp) (rfl)) ?_
 refine PPQ_pure rfl rfl rfl rfl (P_fld0 rfl ty_fl_32_2 rfl) ?_
 refine PPQ_val rfl rfl rfl rfl (V_load rfl rfl ty_sc_30 (Rd.blk .h0 (wi_2 hR _ _))) ?_
 refine PPQ_pure rfl rfl rfl rfl (P_ixs (1) rfl ty_sl_30 rfl rfl (by first | rfl | omega) (by omega)) ?_
 refine PPQ_val rfl rfl rfl rfl (V_loadAgg rfl rfl ty_ag_47 (rds_rc (Rds.row hqr rfl) hq) (rfl)) ?_
 refine PPQ_perm (Weak.keep (Weak.nil _)) (js := [⟨16, 7, 38, [.int .u64 0, .int .u64 0, .int .u64 0, .int .u64 0, .bool false]⟩, ⟨17, 8, 38, [.int .u64 0, .int .u64 0, .int .u64 0, .int .u64 0, .bool false]⟩, ⟨18, 9, 47, [.int .i64 0, .int .i64 0, .slice none 0 0]⟩, ⟨19, 10, 47, [.int .i64 0, .int .i64 0, .slice none 0 0]⟩]) (by intro j hj; simp only [List.mem_cons, List.not_mem_nil, or_false] at hj; rcases hj with rfl | rfl | rfl | rfl; exact ⟨⟨_, rfl, rfl, rfl, rfl⟩, rfl, ty_ze_38⟩; exact ⟨⟨_, rfl, rfl, rfl, rfl⟩, rfl, ty_ze_38⟩; exact ⟨⟨_, rfl, rfl, rfl, rfl⟩, rfl, ty_ze_47⟩; exact ⟨⟨_, rfl, rfl, rfl, rfl⟩, rfl, ty_ze_47⟩) (by decide) (by decide) (by decide) fun f => ?_
 show StTQ (cx gl) _ _ _ _ ((7, .pointer (some ⟨f 7, 0, none⟩)) :: (8, .pointer (some ⟨f 8, 0, none⟩)) :: (9, .pointer (some ⟨f 9, 0, none⟩)) :: (10, .pointer (some ⟨f 10, 0, none⟩)) :: _) _ (blk (f 7) ([.int .u64 0, .int .u64 0, .int .u64 0, .int .u64 0, .bool false]) 38 :: blk (f 8) ([.int .u64 0, .int .u64 0, .int .u64 0, .int .u64 0, .bool false]) 38 :: blk (f 9) ([.int .i64 0, .int .i64 0, .slice none 0 0]) 47 :: blk (f 10) ([.int .i64 0, .int .i64 0, .slice none 0 0]) 47 :: _)
 generalize f 7 = b7
 generalize f 8 = b8
 generalize f 9 = b9
 generalize f 10 = b10
 refine TQ_keep rfl rfl (W_storeAll rfl rfl rfl rfl ty_ag_38 (rfl) (Rec.one x) .h0 (rfl) (K_keepTQ (Weak.pick (p := [_, _, _, _]) (Weak.nil _)) ?_))
 refine TQ_keep rfl rfl (W_storeAll rfl rfl rfl rfl ty_ag_38 (rfl) (Rec.one y) .h1 (rfl) (K_keepTQ (Weak.pick (p := [_, _, _, _]) (Weak.nil _)) ?_))
 refine TQ_keep rfl rfl (W_storeAll rfl rfl rfl rfl ty_ag_47 (rfl) (Pf.one p) .h2 (rfl) (K_keepTQ (Weak.pick (p := [_, _, _, _]) (Weak.nil _)) ?_))
 refine TQ_keep rfl rfl (W_storeAll rfl rfl rfl rfl ty_ag_47 (rfl) (Pf.one q) .h3 (rfl) (K_keepTQ (Weak.pick (p := [_, _, _, _]) (Weak.nil _)) ?_))
 refine TQ_nil ?_
 refine St.env (.cons (t := 1) rfl (.cons (t := 3) rfl (.cons (t := 5) rfl (.cons (t := 6) rfl (.cons (t := 7) rfl (.cons (t := 8) rfl (.cons (t := 9) rfl (.cons (t := 10) rfl .nil)))))))) ?_
 refine Q_then ?_
 refine R_seq ?_
 refine R_seq ?_
 refine R_region ?_
 refine L_val rfl rfl rfl (OpP.v (P_fld0 rfl ty_fl_38_0 rfl)) ?_
 refine L_val rfl rfl rfl (V_load rfl rfl ty_sc_27 (Rd.blk .h0 rfl)) ?_
 refine L_val rfl rfl rfl (OpP.v (P_move rfl rfl)) ?_
 refine L_val rfl rfl rfl (OpP.v (P_geq rfl rfl rfl)) ?_
 refine E_bool (t := 32) rfl (fun e1 => ?_) (fun e1 => ?_)
 ·skip
  have e1 := of_decide_eq_true e1
  refine L_val rfl rfl rfl (OpP.v (P_move rfl rfl)) ?_
  refine L_no rfl rfl rfl ?_
  refine L_no rfl rfl rfl ?_
  refine L_no rfl rfl rfl ?_
  refine L_no rfl rfl rfl ?_
  refine L_val rfl rfl rfl (OpP.v (P_pick rfl rfl rfl)) ?_
  refine L_val rfl rfl rfl (OpP.v (P_move rfl rfl)) ?_
  refine L_no rfl rfl rfl ?_
  refine L_no rfl rfl rfl ?_
  refine L_no rfl rfl rfl ?_
  refine L_no rfl rfl rfl ?_
  refine L_no rfl rfl rfl ?_
  refine L_val rfl rfl rfl (OpP.v (P_pick rfl rfl rfl)) ?_
  refine L_val rfl rfl rfl (OpP.v (P_move rfl rfl)) ?_
  refine L_no rfl rfl rfl ?_
  refine L_no rfl rfl rfl ?_
  refine L_no rfl rfl rfl ?_
  refine L_no rfl rfl rfl ?_
  refine L_no rfl rfl rfl ?_
  refine L_no rfl rfl rfl ?_
  refine L_val rfl rfl rfl (OpP.v (P_pick rfl rfl rfl)) ?_
  refine L_nil ?_
  refine St.env (.cons (t := 3) rfl (.cons (t := 5) rfl (.cons (t := 6) rfl (.cons (t := 8) rfl (.cons (t := 10) rfl (.cons (t := 53) rfl .nil)))))) ?_
  refine Q_then ?_
  refine R_condT rfl ?_
  refine R_seq ?_
  refine R_region ?_
  refine L_val rfl rfl rfl (OpP.v (P_assign rfl rfl)) ?_
  refine L_nil ?_
  refine St.env (.cons (t := 3) rfl (.cons (t := 5) rfl (.cons (t := 6) rfl (.cons (t := 8) rfl (.cons (t := 10) rfl .nil))))) ?_
  refine Q_then ?_
  refine R_ret ?_
  refine Q_then_ret ?_
  exact R_endV rfl rfl (.tmp rfl .nil) (by unfold btwE; rw [if_pos (by unfold btwB; first | exact .inl e1 | exact .inr (.inl e2) | exact .inr (.inr (.inl e3)) | exact .inr (.inr (.inr e4)))]; rfl)
 ·skip
  have e1 := of_decide_eq_false e1
  refine L_val rfl rfl rfl (OpP.v (P_move rfl rfl)) ?_
  refine L_val rfl rfl rfl (OpP.v (P_fld0 rfl ty_fl_38_0 rfl)) ?_
  refine L_val rfl rfl rfl (V_load rfl rfl ty_sc_27 (Rd.blk .h1 rfl)) ?_
  refine L_val rfl rfl rfl (OpP.v (P_move rfl rfl)) ?_
  refine L_val rfl rfl rfl (OpP.v (P_leq rfl rfl rfl)) ?_
  refine E_bool (t := 37) rfl (fun e2 => ?_) (fun e2 => ?_)
  ·skip
   have e2 := of_decide_eq_true e2
   refine L_val rfl rfl rfl (OpP.v (P_pick rfl rfl rfl)) ?_
   refine L_val rfl rfl rfl (OpP.v (P_move rfl rfl)) ?_
   refine L_no rfl rfl rfl ?_
   refine L_no rfl rfl rfl ?_
   refine L_no rfl rfl rfl ?_
   refine L_no rfl rfl rfl ?_
   refine L_no rfl rfl rfl ?_
   refine L_val rfl rfl rfl (OpP.v (P_pick rfl rfl rfl)) ?_
   refine L_val rfl rfl rfl (OpP.v (P_move rfl rfl)) ?_
   refine L_no rfl rfl rfl ?_
   refine L_no rfl rfl rfl ?_
   refine L_no rfl rfl rfl ?_
   refine L_no rfl rfl rfl ?_
   refine L_no rfl rfl rfl ?_
   refine L_no rfl rfl rfl ?_
   refine L_val rfl rfl rfl (OpP.v (P_pick rfl rfl rfl)) ?_
   refine L_nil ?_
   refine St.env (.cons (t := 3) rfl (.cons (t := 5) rfl (.cons (t := 6) rfl (.cons (t := 8) rfl (.cons (t := 10) rfl (.cons (t := 53) rfl .nil)))))) ?_
   refine Q_then ?_
   refine R_condT rfl ?_
   refine R_seq ?_
   refine R_region ?_
   refine L_val rfl rfl rfl (OpP.v (P_assign rfl rfl)) ?_
   refine L_nil ?_
   refine St.env (.cons (t := 3) rfl (.cons (t := 5) rfl (.cons (t := 6) rfl (.cons (t := 8) rfl (.cons (t := 10) rfl .nil))))) ?_
   refine Q_then ?_
   refine R_ret ?_
   refine Q_then_ret ?_
   exact R_endV rfl rfl (.tmp rfl .nil) (by unfold btwE; rw [if_pos (by unfold btwB; first | exact .inl e1 | exact .inr (.inl e2) | exact .inr (.inr (.inl e3)) | exact .inr (.inr (.inr e4)))]; rfl)
  ·skip
   have e2 := of_decide_eq_false e2
   refine L_val rfl rfl rfl (OpP.v (P_pick rfl rfl rfl)) ?_
   refine L_val rfl rfl rfl (OpP.v (P_move rfl rfl)) ?_
   refine L_val rfl rfl rfl (OpP.v (P_fld0 rfl ty_fl_47_0 rfl)) ?_
   refine L_val rfl rfl rfl (V_load rfl rfl ty_sc_3 (Rd.blk .h3 rfl)) ?_
   refine L_val rfl rfl rfl (OpP.v (P_fld0 rfl ty_fl_47_0 rfl)) ?_
   refine L_val rfl rfl rfl (V_load rfl rfl ty_sc_3 (Rd.blk .h2 rfl)) ?_
   refine L_val rfl rfl rfl (OpP.v (P_neq rfl rfl rfl)) ?_
   refine E_bool (t := 44) rfl (fun e3 => ?_) (fun e3 => ?_)
   ·skip
    have e3 := of_decide_eq_true e3
    refine L_val rfl rfl rfl (OpP.v (P_pick rfl rfl rfl)) ?_
    refine L_val rfl rfl rfl (OpP.v (P_move rfl rfl)) ?_
    refine L_no rfl rfl rfl ?_
    refine L_no rfl rfl rfl ?_
    refine L_no rfl rfl rfl ?_
    refine L_no rfl rfl rfl ?_
    refine L_no rfl rfl rfl ?_
    refine L_no rfl rfl rfl ?_
    refine L_val rfl rfl rfl (OpP.v (P_pick rfl rfl rfl)) ?_
    refine L_nil ?_
    refine St.env (.cons (t := 3) rfl (.cons (t := 5) rfl (.cons (t := 6) rfl (.cons (t := 8) rfl (.cons (t := 10) rfl (.cons (t := 53) rfl .nil)))))) ?_
    refine Q_then ?_
    refine R_condT rfl ?_
    refine R_seq ?_
    refine R_region ?_
    refine L_val rfl rfl rfl (OpP.v (P_assign rfl rfl)) ?_
    refine L_nil ?_
    refine St.env (.cons (t := 3) rfl (.cons (t := 5) rfl (.cons (t := 6) rfl (.cons (t := 8) rfl (.cons (t := 10) rfl .nil))))) ?_
    refine Q_then ?_
    refine R_ret ?_
    refine Q_then_ret ?_
    exact R_endV rfl rfl (.tmp rfl .nil) (by unfold btwE; rw [if_pos (by unfold btwB; first | exact .inl e1 | exact .inr (.inl e2) | exact .inr (.inr (.inl e3)) | exact .inr (.inr (.inr e4)))]; rfl)
   ·skip
    have e3 := of_decide_eq_false e3
    refine L_val rfl rfl rfl (OpP.v (P_pick rfl rfl rfl)) ?_
    refine L_val rfl rfl rfl (OpP.v (P_move rfl rfl)) ?_
    refine L_val rfl rfl rfl (OpP.v (P_fld0 rfl ty_fl_47_1 rfl)) ?_
    refine L_val rfl rfl rfl (V_load rfl rfl ty_sc_3 (Rd.blk .h3 rfl)) ?_
    refine L_val rfl rfl rfl (OpP.v (P_sub rfl rfl rfl)) ?_
    refine L_val rfl rfl rfl (OpP.v (P_fld0 rfl ty_fl_47_1 rfl)) ?_
    refine L_val rfl rfl rfl (V_load rfl rfl ty_sc_3 (Rd.blk .h2 rfl)) ?_
    refine L_val rfl rfl rfl (OpP.v (P_neq rfl rfl rfl)) ?_
    refine L_val rfl rfl rfl (OpP.v (P_pick rfl rfl rfl)) ?_
    refine L_nil ?_
    refine St.env (.cons (t := 3) rfl (.cons (t := 5) rfl (.cons (t := 6) rfl (.cons (t := 8) rfl (.cons (t := 10) rfl (.cons (t := 53) rfl .nil)))))) ?_
    refine Q_then ?_
    refine R_condP rfl (fun e4 => ?_) (fun e4 => ?_)
    ·skip
     refine R_seq ?_
     refine R_region ?_
     refine L_val rfl rfl rfl (OpP.v (P_assign rfl rfl)) ?_
     refine L_nil ?_
     refine St.env (.cons (t := 3) rfl (.cons (t := 5) rfl (.cons (t := 6) rfl (.cons (t := 8) rfl (.cons (t := 10) rfl .nil))))) ?_
     refine Q_then ?_
     refine R_ret ?_
     refine Q_then_ret ?_
     exact R_endV rfl rfl (.tmp rfl .nil) (by unfold btwE; rw [if_pos (by unfold btwB; first | exact .inl e1 | exact .inr (.inl e2) | exact .inr (.inr (.inl e3)) | exact .inr (.inr (.inr e4)))]; rfl)
    ·skip
     have hno : ¬ btwB a x y p q := by unfold btwB; intro h9; rcases h9 with h9 | h9 | h9 | h9; exact e1 h9; exact e2 h9; exact e3 h9; exact e4 h9
     refine R_skip ?_
     refine Q_then ?_
     refine R_seq ?_
     refine R_region ?_
     refine L_val rfl rfl rfl (V_loadAgg rfl rfl ty_ag_29 (Rds.blk .h5) (by rw [ints_length, hroot])) ?_
     refine L_val rfl rfl rfl (V_loadAgg rfl rfl ty_ag_32 (Rds.blk .h4) (by rw [wi_len hR])) ?_
     refine L_op rfl (W_callV rfl rfl rfl rfl fn_ca_57 (leads_ok hG root R hroot hR (some ⟨ab, aj, none⟩) (some ⟨qb, qj, none⟩) uc pc ac ps hc hpc hps 0 x p hx hp (by omega) (by omega)) (WitRow.now hpre rfl) ?_)
     refine L_val rfl rfl rfl (OpP.v (P_move rfl rfl)) ?_
     refine L_val rfl rfl rfl (OpP.v (P_extract rfl rfl rfl)) ?_
     refine L_val rfl rfl rfl (OpP.v (P_extract rfl rfl rfl)) ?_
     refine L_op rfl (W_alloc rfl rfl rfl ty_ze_29 fun b11 => ?_)
     refine L_op rfl (W_storeAll rfl rfl rfl rfl ty_ag_29 (by rw [ints_length, pD_length]) (ints_one) .h0 (by first | (rw [ints_length, pD_length]; done) | (rw [ints_length, pD_length]; rfl)) ?_)
     refine L_val rfl rfl rfl (OpP.v (P_assign rfl rfl)) ?_
     refine L_nil ?_
     refine St.env (.cons (t := 6) rfl (.cons (t := 8) rfl (.cons (t := 10) rfl (.cons (t := 11) rfl (.cons (t := 12) rfl .nil))))) ?_
     refine Q_then ?_
     refine R_seq ?_
     refine R_seq ?_
     refine R_region ?_
     refine L_val rfl rfl rfl (OpP.v (P_move rfl rfl)) ?_
     refine L_val rfl rfl rfl (OpP.v (P_neq rfl rfl rfl)) ?_
     refine L_nil ?_
     refine St.env (.cons (t := 6) rfl (.cons (t := 8) rfl (.cons (t := 10) rfl (.cons (t := 11) rfl (.cons (t := 12) rfl (.cons (t := 61) rfl .nil)))))) ?_
     refine Q_then ?_
     refine R_condP rfl (fun he => ?_) (fun he => ?_)
     ·skip
      refine R_seq ?_
      refine R_region ?_
      refine L_val rfl rfl rfl (OpP.v (P_move rfl rfl)) ?_
      refine L_val rfl rfl rfl (OpP.v (P_assign rfl rfl)) ?_
      refine L_nil ?_
      refine St.env (.cons (t := 6) rfl (.cons (t := 8) rfl (.cons (t := 10) rfl (.cons (t := 11) rfl .nil)))) ?_
      refine Q_then ?_
      refine R_ret ?_
      refine Q_then_ret ?_
      exact R_endV rfl rfl (.tmp rfl .nil) (by unfold btwE; rw [if_neg hno, if_pos he]; rfl)
     ·skip
      have he : leadE root R x p = 0 := Classical.not_not.1 he
      refine R_skip ?_
      refine Q_then ?_
      refine R_seq ?_
      refine R_open [(0, 1), (1, 1), (2, 1), (3, 2), (4, 2), (5, 0)] mixed (by kernel_rfl) (QOk.then QOk.body) ?_
      refine O_val rfl rfl rfl rfl (V_loadAgg rfl rfl ty_ag_29 (Rds.blk .h0) (by rw [ints_length, pD_length])) ?_
      refine O_val rfl rfl rfl rfl (V_loadAgg rfl rfl ty_ag_47 (Rds.blk .h4) (rfl)) ?_
      refine O_val rfl rfl rfl rfl (V_loadAgg rfl rfl ty_ag_38 (Rds.blk .h2) (rfl)) ?_
      refine O_keep rfl rfl (W_call rfl rfl rfl rfl fn_ca_118 (form_ok y) (Split.nil _) (fun _ _ _ _ _ _ _ => trivial) fun v1 rs1 (e1 : rs1 = _) => ?_)
      subst e1
      refine St.ownForm (p := []) fun ib ic hiv hic => ?_
      subst hiv
      have hic : (formB y).length ≤ ic := by omega
      rw [← hfl]
      refine K_keep (Weak.drop (Weak.refl _)) ?_
      refine O_keep rfl rfl (W_callV rfl rfl rfl rfl fn_ca_126 (verify_ok hG (pD x p) (pD_length _ _) q.t q.i q.b q.c q.hs ib ic (formB y) g1 g3 g2 hic) (fun w nw => ⟨(Sn.row (p3 q hqm) rfl).rw_ w nw, (Sn.own .h0 rfl).rw_ w nw⟩) (K_keep (Weak.refl _) ?_))
      refine O_pure rfl rfl rfl rfl (P_assign rfl rfl) ?_
      refine O_nil ?_
      refine St.env (.cons (t := 6) rfl .nil) ?_
      refine Q_then ?_
      refine R_ret ?_
      exact R_endV rfl rfl (.tmp rfl .nil) (by unfold btwE; rw [if_neg hno, if_neg (by rw [he]; simp)]; rfl)
end Go.Proofs.YtfhjhaogmdaepaaGreatDoor

/- Walks: Verify. Printed by gen.py. -/
set_option linter.unusedVariables false
set_option linter.unusedSimpArgs false
set_option maxRecDepth 100000
namespace Go.Proofs.YtfhjhaogmdaepaaGreatDoor
open Go Go.RowKit Go.Proofs
def oneB (a : Int) (x : Acc) (p : Pf) : Prop := (a < x.a ∧ p.i ≠ 0) ∨ (x.a < a ∧ p.i ≠ IntKind.i64.wrap (p.t - 1))
instance (a : Int) (x : Acc) (p : Pf) : Decidable (oneB a x p) := inferInstanceAs (Decidable (_ ∨ _))
theorem oneB_no {a : Int} {x : Acc} {p : Pf} (h1 : ¬ a < x.a ∨ ¬ p.i ≠ 0) (h2 : ¬ x.a < a ∨ ¬ p.i ≠ IntKind.i64.wrap (p.t - 1)) : ¬ oneB a x p := fun h => by
 rcases h with ⟨h3, h4⟩ | ⟨h3, h4⟩
 ·exact h1.elim (fun h => h h3) (fun h => h h4)
 ·exact h2.elim (fun h => h h3) (fun h => h h4)
def verN (e : Int) : Value := .tuple #[.agg acc0.cells.toArray, .bool false, .int .i64 e]
/-- What Verify answers. -/
def verV (root R : List Int) (a : Int) : List Acc → List Pf → Value
 | [], [] => verN (if sha (1 :: (rootD [] ++ R)) ≠ root then 21 else 0)
 | [x], [p] => if oneB a x p then verN 20 else if leadE root R x p = 0 ∧ x.a = a then .tuple #[.agg x.cells.toArray, .bool true, .int .i64 0] else verN (leadE root R x p)
 | [x, y], [p, q] => verN (btwE root R a x y p q)
 | _, _ => verN 20
theorem verV_one (root R : List Int) (a : Int) (x : Acc) (p : Pf) : verV root R a [x] [p] = if oneB a x p then verN 20 else if leadE root R x p = 0 ∧ x.a = a then .tuple #[.agg x.cells.toArray, .bool true, .int .i64 0] else verN (leadE root R x p) := rfl
theorem ver_bad {gl : Nat → Obj} (root R : List Int) (hroot : root.length = 32) (hR : R.length = 32) (ub pb : Option Addr) (uc pc : Nat) (ac : List Acc) (ps : List Pf) (hc : ac.length ≤ uc) (hpc : ps.length ≤ pc) (hps : ∀ p ∈ ps, PfIn p) (a : Int) (hb : 2 < ac.length ∨ ac.length ≠ ps.length) : SpecV (cx gl) 12 [.agg (ints .u8 (root)).toArray, .int .u64 a, .agg (wiC R (.slice ub ac.length uc) (.slice pb ps.length pc)).toArray] (fun w => WitRow w ub ac pb ps) (verN 20) := by
 refine Spec.enter (C := cx gl) Tryz.func12 rfl 100 rfl rfl fun w0 h0 hsep hsub hpre => ?_
 obtain rfl : h0 = Heap.none := hsep
 show St (cx gl) _ [(0, .agg (ints .u8 (root)).toArray), (1, .int .u64 a), (2, .agg (wiC R (.slice ub ac.length uc) (.slice pb ps.length pc)).toArray)] _ _
 refine R_seq ?_
 refine R_region ?_
 refine L_op rfl (W_box (ints .u8 root) rfl rfl rfl rfl rfl fun b3 => ?_)
 refine L_op rfl (W_box (wiC R (.slice ub ac.length uc) (.slice pb ps.length pc)) rfl rfl rfl rfl rfl fun b5 => ?_)
 refine L_op rfl (W_alloc rfl rfl rfl ty_ze_38 fun b6 => ?_)
 refine L_val rfl rfl rfl (OpP.v (P_assign rfl rfl)) ?_
 refine L_val rfl rfl rfl (OpP.v (P_assign rfl rfl)) ?_
 refine L_nil ?_
 refine St.env (.cons (t := 1) rfl (.cons (t := 3) rfl (.cons (t := 5) rfl (.cons (t := 6) rfl (.cons (t := 7) rfl (.cons (t := 8) rfl .nil)))))) ?_
 refine Q_then ?_
 refine R_seq ?_
 refine R_region ?_
 refine L_val rfl rfl rfl (OpP.v (P_assign rfl rfl)) ?_
 refine L_nil ?_
 refine Q_then ?_
 refine R_seq ?_
 refine R_block ?_
 refine R_seq ?_
 refine R_region ?_
 refine L_val rfl rfl rfl (OpP.v (P_fld0 rfl ty_fl_32_1 rfl)) ?_
 refine L_val rfl rfl rfl (V_load rfl rfl ty_sc_22 (Rd.blk .h1 (wi_1 hR _ _))) ?_
 refine L_val rfl rfl rfl (OpP.v (P_len rfl ty_sl_22 rfl)) ?_
 refine L_val rfl rfl rfl (OpP.v (P_gtr rfl rfl rfl)) ?_
 refine E_bool (t := 22) rfl (fun c1 => ?_) (fun c1 => ?_)
 ·skip
  refine L_val rfl rfl rfl (OpP.v (P_move rfl rfl)) ?_
  refine L_no rfl rfl rfl ?_
  refine L_no rfl rfl rfl ?_
  refine L_no rfl rfl rfl ?_
  refine L_no rfl rfl rfl ?_
  refine L_no rfl rfl rfl ?_
  refine L_no rfl rfl rfl ?_
  refine L_no rfl rfl rfl ?_
  refine L_val rfl rfl rfl (OpP.v (P_pick rfl rfl rfl)) ?_
  refine L_val rfl rfl rfl (OpP.v (P_assign rfl rfl)) ?_
  refine L_nil ?_
  refine St.env (.cons (t := 1) rfl (.cons (t := 3) rfl (.cons (t := 5) rfl (.cons (t := 6) rfl (.cons (t := 7) rfl (.cons (t := 8) rfl (.cons (t := 9) rfl (.cons (t := 18) rfl .nil)))))))) ?_
  refine Q_then ?_
  refine R_condT rfl ?_
  refine R_region ?_
  refine L_val rfl rfl rfl (OpP.v (P_assign rfl rfl)) ?_
  refine L_nil ?_
  refine St.env (.cons (t := 6) rfl (.cons (t := 7) rfl (.cons (t := 8) rfl (.cons (t := 9) rfl .nil)))) ?_
  refine Q_block ?_
  refine Q_then ?_
  refine R_seq ?_
  refine R_region ?_
  refine L_val rfl rfl rfl (OpP.v (P_buildStruct rfl ty_pl_38 ty_ze_38 rfl rfl (rfl))) ?_
  refine L_val rfl rfl rfl (OpP.v (P_move rfl rfl)) ?_
  refine L_op rfl (W_storeAll rfl rfl rfl rfl ty_ag_38 (rfl) (Rec.one acc0) .h0 (rfl) ?_)
  refine L_val rfl rfl rfl (OpP.v (P_assign rfl rfl)) ?_
  refine L_val rfl rfl rfl (OpP.v (P_assign rfl rfl)) ?_
  refine L_nil ?_
  refine St.env (.cons (t := 6) rfl (.cons (t := 7) rfl (.cons (t := 8) rfl .nil))) ?_
  refine Q_then ?_
  refine R_ret ?_
  exact R_endV rfl rfl (.cell rfl (Rds.loadVar ty_ag_38 (Rds.blk .h0) rfl) (.tmp rfl (.tmp rfl .nil))) (rfl)
 ·skip
  have c1 := of_decide_eq_false c1
  refine L_val rfl rfl rfl (OpP.v (P_move rfl rfl)) ?_
  refine L_val rfl rfl rfl (OpP.v (P_fld0 rfl ty_fl_32_1 rfl)) ?_
  refine L_val rfl rfl rfl (V_load rfl rfl ty_sc_22 (Rd.blk .h1 (wi_1 hR _ _))) ?_
  refine L_val rfl rfl rfl (OpP.v (P_len rfl ty_sl_22 rfl)) ?_
  refine L_val rfl rfl rfl (OpP.v (P_fld0 rfl ty_fl_32_2 rfl)) ?_
  refine L_val rfl rfl rfl (V_load rfl rfl ty_sc_30 (Rd.blk .h1 (wi_2 hR _ _))) ?_
  refine L_val rfl rfl rfl (OpP.v (P_len rfl ty_sl_30 rfl)) ?_
  refine L_val rfl rfl rfl (OpP.v (P_neq rfl rfl rfl)) ?_
  refine L_val rfl rfl rfl (OpP.v (P_pick rfl rfl rfl)) ?_
  refine L_val rfl rfl rfl (OpP.v (P_assign rfl rfl)) ?_
  refine L_nil ?_
  refine St.env (.cons (t := 1) rfl (.cons (t := 3) rfl (.cons (t := 5) rfl (.cons (t := 6) rfl (.cons (t := 7) rfl (.cons (t := 8) rfl (.cons (t := 9) rfl (.cons (t := 18) rfl .nil)))))))) ?_
  refine Q_then ?_
  refine R_condP rfl (fun c2 => ?_) (fun c2 => ?_)
  ·skip
   refine R_region ?_
   refine L_val rfl rfl rfl (OpP.v (P_assign rfl rfl)) ?_
   refine L_nil ?_
   refine St.env (.cons (t := 6) rfl (.cons (t := 7) rfl (.cons (t := 8) rfl (.cons (t := 9) rfl .nil)))) ?_
   refine Q_block ?_
   refine Q_then ?_
   refine R_seq ?_
   refine R_region ?_
   refine L_val rfl rfl rfl (OpP.v (P_buildStruct rfl ty_pl_38 ty_ze_38 rfl rfl (rfl))) ?_
   refine L_val rfl rfl rfl (OpP.v (P_move rfl rfl)) ?_
   refine L_op rfl (W_storeAll rfl rfl rfl rfl ty_ag_38 (rfl) (Rec.one acc0) .h0 (rfl) ?_)
   refine L_val rfl rfl rfl (OpP.v (P_assign rfl rfl)) ?_
   refine L_val rfl rfl rfl (OpP.v (P_assign rfl rfl)) ?_
   refine L_nil ?_
   refine St.env (.cons (t := 6) rfl (.cons (t := 7) rfl (.cons (t := 8) rfl .nil))) ?_
   refine Q_then ?_
   refine R_ret ?_
   exact R_endV rfl rfl (.cell rfl (Rds.loadVar ty_ag_38 (Rds.blk .h0) rfl) (.tmp rfl (.tmp rfl .nil))) (rfl)
  ·skip
   exfalso; omega
theorem ver_none {gl : Nat → Obj} (hG : Globs gl) (root R : List Int) (hroot : root.length = 32) (hR : R.length = 32) (ub pb : Option Addr) (uc pc : Nat) (a : Int) : SpecV (cx gl) 12 [.agg (ints .u8 (root)).toArray, .int .u64 a, .agg (wiC R (.slice ub 0 uc) (.slice pb 0 pc)).toArray] noPre (verV root R a [] []) := by
 refine Spec.enter (C := cx gl) Tryz.func12 rfl 100 rfl rfl fun w0 h0 hsep hsub hpre => ?_
 obtain rfl : h0 = Heap.none := hsep
 show St (cx gl) _ [(0, .agg (ints .u8 (root)).toArray), (1, .int .u64 a), (2, .agg (wiC R (.slice ub 0 uc) (.slice pb 0 pc)).toArray)] _ _
 refine R_seq ?_
 refine R_region ?_
 refine L_op rfl (W_box (ints .u8 root) rfl rfl rfl rfl rfl fun b3 => ?_)
 refine L_op rfl (W_box (wiC R (.slice ub 0 uc) (.slice pb 0 pc)) rfl rfl rfl rfl rfl fun b5 => ?_)
 refine L_op rfl (W_alloc rfl rfl rfl ty_ze_38 fun b6 => ?_)
 refine L_val rfl rfl rfl (OpP.v (P_assign rfl rfl)) ?_
 refine L_val rfl rfl rfl (OpP.v (P_assign rfl rfl)) ?_
 refine L_nil ?_
 refine St.env (.cons (t := 1) rfl (.cons (t := 3) rfl (.cons (t := 5) rfl (.cons (t := 6) rfl (.cons (t := 7) rfl (.cons (t := 8) rfl .nil)))))) ?_
 refine Q_then ?_
 refine R_seq ?_
 refine R_region ?_
 refine L_val rfl rfl rfl (OpP.v (P_assign rfl rfl)) ?_
 refine L_nil ?_
 refine Q_then ?_
 refine R_seq ?_
 refine R_block ?_
 refine R_seq ?_
 refine R_region ?_
 refine L_val rfl rfl rfl (OpP.v (P_fld0 rfl ty_fl_32_1 rfl)) ?_
 refine L_val rfl rfl rfl (V_load rfl rfl ty_sc_22 (Rd.blk .h1 (wi_1 hR _ _))) ?_
 refine L_val rfl rfl rfl (OpP.v (P_len rfl ty_sl_22 rfl)) ?_
 refine L_val rfl rfl rfl (OpP.v (P_gtr rfl rfl rfl)) ?_
 refine E_false (t := 22) rfl (rfl) ?_
 refine L_val rfl rfl rfl (OpP.v (P_move rfl rfl)) ?_
 refine L_val rfl rfl rfl (OpP.v (P_fld0 rfl ty_fl_32_1 rfl)) ?_
 refine L_val rfl rfl rfl (V_load rfl rfl ty_sc_22 (Rd.blk .h1 (wi_1 hR _ _))) ?_
 refine L_val rfl rfl rfl (OpP.v (P_len rfl ty_sl_22 rfl)) ?_
 refine L_val rfl rfl rfl (OpP.v (P_fld0 rfl ty_fl_32_2 rfl)) ?_
 refine L_val rfl rfl rfl (V_load rfl rfl ty_sc_30 (Rd.blk .h1 (wi_2 hR _ _))) ?_
 refine L_val rfl rfl rfl (OpP.v (P_len rfl ty_sl_30 rfl)) ?_
 refine L_val rfl rfl rfl (OpP.v (P_neq rfl rfl rfl)) ?_
 refine E_false (t := 30) rfl (rfl) ?_
 refine L_val rfl rfl rfl (OpP.v (P_pick rfl rfl rfl)) ?_
 refine L_val rfl rfl rfl (OpP.v (P_assign rfl rfl)) ?_
 refine L_nil ?_
 refine St.env (.cons (t := 1) rfl (.cons (t := 3) rfl (.cons (t := 5) rfl (.cons (t := 6) rfl (.cons (t := 7) rfl (.cons (t := 8) rfl (.cons (t := 9) rfl (.cons (t := 18) rfl .nil)))))))) ?_
 refine Q_then ?_
 refine R_condF rfl ?_
 refine R_seq ?_
 refine R_region ?_
 refine L_val rfl rfl rfl (OpP.v (P_fld0 rfl ty_fl_32_1 rfl)) ?_
 refine L_val rfl rfl rfl (V_load rfl rfl ty_sc_22 (Rd.blk .h1 (wi_1 hR _ _))) ?_
 refine L_val rfl rfl rfl (OpP.v (P_len rfl ty_sl_22 rfl)) ?_
 refine L_val rfl rfl rfl (OpP.v (P_eql rfl rfl rfl)) ?_
 refine E_true (t := 36) rfl (rfl) ?_
 refine L_val rfl rfl rfl (OpP.v (P_assign rfl rfl)) ?_
 refine L_nil ?_
 refine St.env (.cons (t := 1) rfl (.cons (t := 3) rfl (.cons (t := 5) rfl (.cons (t := 6) rfl (.cons (t := 7) rfl (.cons (t := 8) rfl (.cons (t := 9) rfl (.cons (t := 32) rfl .nil)))))))) ?_
 refine Q_then ?_
 refine R_condT rfl ?_
 refine R_seq ?_
 refine R_region ?_
 refine L_op rfl (W_callV rfl rfl rfl rfl fn_ca_51 (root_ok hG none 0 [] [] rfl (Nat.le_refl _) (by decide)) (fun w nw => ⟨Row.nil, rfl, fun i v xs hv hx => by cases hv⟩) ?_)
 refine L_val rfl rfl rfl (OpP.v (P_move rfl rfl)) ?_
 refine L_val rfl rfl rfl (OpP.v (P_extract rfl rfl rfl)) ?_
 refine L_val rfl rfl rfl (OpP.v (P_extract rfl rfl rfl)) ?_
 refine L_op rfl (W_alloc rfl rfl rfl ty_ze_29 fun b10 => ?_)
 refine L_op rfl (W_storeAll rfl rfl rfl rfl ty_ag_29 (by rw [ints_length, rootD_length]) (ints_one) .h0 (by first | (rw [ints_length, rootD_length]; done) | (rw [ints_length, rootD_length]; rfl)) ?_)
 refine L_val rfl rfl rfl (OpP.v (P_assign rfl rfl)) ?_
 refine L_nil ?_
 refine St.env (.cons (t := 3) rfl (.cons (t := 5) rfl (.cons (t := 6) rfl (.cons (t := 7) rfl (.cons (t := 8) rfl (.cons (t := 9) rfl (.cons (t := 10) rfl .nil))))))) ?_
 refine Q_then ?_
 refine R_seq ?_
 refine R_open [(0, 1), (1, 0), (2, 1), (4, 1), (3, 2), (5, 0)] mixed (by kernel_rfl) (QOk.then (QOk.block (QOk.then QOk.body))) ?_
 refine O_val rfl rfl rfl rfl (V_loadAgg rfl rfl ty_ag_29 (Rds.blk .h0) (by rw [ints_length, rootD_length])) ?_
 refine O_pure rfl rfl rfl rfl (P_fld0 rfl ty_fl_32_0 rfl) ?_
 refine O_val rfl rfl rfl rfl (V_loadAgg rfl rfl ty_ag_29 ((Rds.blk .h2).part 0 (wi_sub hR _ _)) (by rw [ints_length, hR])) ?_
 refine O_val rfl rfl rfl rfl (V_loadAgg rfl rfl ty_ag_29 (Rds.blk .h3) (by rw [ints_length, hroot])) ?_
 refine O_keep rfl rfl (W_callV rfl rfl rfl rfl fn_ca_53 (inner_ok hG (rootD []) R (rootD_length _) hR) (fun _ _ => trivial) (K_keep (Weak.refl _) ?_))
 refine O_pure rfl rfl rfl rfl (P_neArr rfl rfl rfl ty_un_29 ty_int_5 ty_sc_5 ty_eg_29 (sha_length _) (hroot)) ?_
 refine O_nil ?_
 refine St.env (.cons (t := 6) rfl (.cons (t := 7) rfl (.cons (t := 8) rfl (.cons (t := 9) rfl (.cons (t := 46) rfl .nil))))) ?_
 refine Q_then ?_
 refine R_condP rfl (fun hn => ?_) (fun hn => ?_)
 ·skip
  refine R_region ?_
  refine L_val rfl rfl rfl (OpP.v (P_assign rfl rfl)) ?_
  refine L_nil ?_
  refine St.env (.cons (t := 6) rfl (.cons (t := 7) rfl (.cons (t := 8) rfl (.cons (t := 9) rfl .nil)))) ?_
  refine Q_block ?_
  refine Q_then ?_
  refine R_seq ?_
  refine R_region ?_
  refine L_val rfl rfl rfl (OpP.v (P_buildStruct rfl ty_pl_38 ty_ze_38 rfl rfl (rfl))) ?_
  refine L_val rfl rfl rfl (OpP.v (P_move rfl rfl)) ?_
  refine L_op rfl (W_storeAll rfl rfl rfl rfl ty_ag_38 (rfl) (Rec.one acc0) .h1 (rfl) ?_)
  refine L_val rfl rfl rfl (OpP.v (P_assign rfl rfl)) ?_
  refine L_val rfl rfl rfl (OpP.v (P_assign rfl rfl)) ?_
  refine L_nil ?_
  refine St.env (.cons (t := 6) rfl (.cons (t := 7) rfl (.cons (t := 8) rfl .nil))) ?_
  refine Q_then ?_
  refine R_ret ?_
  exact R_endV rfl rfl (.cell rfl (Rds.loadVar ty_ag_38 (Rds.blk .h1) rfl) (.tmp rfl (.tmp rfl .nil))) (by unfold verV; first | (rw [if_pos hn]; rfl) | (rw [if_neg hn]; rfl))
 ·skip
  refine R_skip ?_
  refine Q_block ?_
  refine Q_then ?_
  refine R_seq ?_
  refine R_region ?_
  refine L_val rfl rfl rfl (OpP.v (P_buildStruct rfl ty_pl_38 ty_ze_38 rfl rfl (rfl))) ?_
  refine L_val rfl rfl rfl (OpP.v (P_move rfl rfl)) ?_
  refine L_op rfl (W_storeAll rfl rfl rfl rfl ty_ag_38 (rfl) (Rec.one acc0) .h1 (rfl) ?_)
  refine L_val rfl rfl rfl (OpP.v (P_assign rfl rfl)) ?_
  refine L_val rfl rfl rfl (OpP.v (P_assign rfl rfl)) ?_
  refine L_nil ?_
  refine St.env (.cons (t := 6) rfl (.cons (t := 7) rfl (.cons (t := 8) rfl .nil))) ?_
  refine Q_then ?_
  refine R_ret ?_
  exact R_endV rfl rfl (.cell rfl (Rds.loadVar ty_ag_38 (Rds.blk .h1) rfl) (.tmp rfl (.tmp rfl .nil))) (by unfold verV; first | (rw [if_pos hn]; rfl) | (rw [if_neg hn]; rfl))
theorem ver_two {gl : Nat → Obj} (hG : Globs gl) (root R : List Int) (hroot : root.length = 32) (hR : R.length = 32) (ub pb : Option Addr) (uc pc : Nat) (ac : List Acc) (ps : List Pf) (hc : ac.length ≤ uc) (hpc : ps.length ≤ pc) (hps : ∀ p ∈ ps, PfIn p) (a : Int) (x y : Acc) (p q : Pf) (hx : ac[0]? = some x) (hy : ac[1]? = some y) (hp : ps[0]? = some p) (hq : ps[1]? = some q) (h2 : ac.length = 2) (h2' : ps.length = 2) : SpecV (cx gl) 12 [.agg (ints .u8 (root)).toArray, .int .u64 a, .agg (wiC R (.slice ub ac.length uc) (.slice pb ps.length pc)).toArray] (fun w => WitRow w ub ac pb ps) (verN (btwE root R a x y p q)) := by
 refine Spec.enter (C := cx gl) Tryz.func12 rfl 100 rfl rfl fun w0 h0 hsep hsub hpre => ?_
 obtain rfl : h0 = Heap.none := hsep
 show St (cx gl) _ [(0, .agg (ints .u8 (root)).toArray), (1, .int .u64 a), (2, .agg (wiC R (.slice ub ac.length uc) (.slice pb ps.length pc)).toArray)] _ _
 refine R_seq ?_
 refine R_region ?_
 refine L_op rfl (W_box (ints .u8 root) rfl rfl rfl rfl rfl fun b3 => ?_)
 refine L_op rfl (W_box (wiC R (.slice ub ac.length uc) (.slice pb ps.length pc)) rfl rfl rfl rfl rfl fun b5 => ?_)
 refine L_op rfl (W_alloc rfl rfl rfl ty_ze_38 fun b6 => ?_)
 refine L_val rfl rfl rfl (OpP.v (P_assign rfl rfl)) ?_
 refine L_val rfl rfl rfl (OpP.v (P_assign rfl rfl)) ?_
 refine L_nil ?_
 refine St.env (.cons (t := 1) rfl (.cons (t := 3) rfl (.cons (t := 5) rfl (.cons (t := 6) rfl (.cons (t := 7) rfl (.cons (t := 8) rfl .nil)))))) ?_
 refine Q_then ?_
 refine R_seq ?_
 refine R_region ?_
 refine L_val rfl rfl rfl (OpP.v (P_assign rfl rfl)) ?_
 refine L_nil ?_
 refine Q_then ?_
 refine R_seq ?_
 refine R_block ?_
 refine R_seq ?_
 refine R_region ?_
 refine L_val rfl rfl rfl (OpP.v (P_fld0 rfl ty_fl_32_1 rfl)) ?_
 refine L_val rfl rfl rfl (V_load rfl rfl ty_sc_22 (Rd.blk .h1 (wi_1 hR _ _))) ?_
 refine L_val rfl rfl rfl (OpP.v (P_len rfl ty_sl_22 rfl)) ?_
 refine L_val rfl rfl rfl (OpP.v (P_gtr rfl rfl rfl)) ?_
 refine E_false (t := 22) rfl (decide_eq_false (by omega)) ?_
 refine L_val rfl rfl rfl (OpP.v (P_move rfl rfl)) ?_
 refine L_val rfl rfl rfl (OpP.v (P_fld0 rfl ty_fl_32_1 rfl)) ?_
 refine L_val rfl rfl rfl (V_load rfl rfl ty_sc_22 (Rd.blk .h1 (wi_1 hR _ _))) ?_
 refine L_val rfl rfl rfl (OpP.v (P_len rfl ty_sl_22 rfl)) ?_
 refine L_val rfl rfl rfl (OpP.v (P_fld0 rfl ty_fl_32_2 rfl)) ?_
 refine L_val rfl rfl rfl (V_load rfl rfl ty_sc_30 (Rd.blk .h1 (wi_2 hR _ _))) ?_
 refine L_val rfl rfl rfl (OpP.v (P_len rfl ty_sl_30 rfl)) ?_
 refine L_val rfl rfl rfl (OpP.v (P_neq rfl rfl rfl)) ?_
 refine E_false (t := 30) rfl (decide_eq_false (by omega)) ?_
 refine L_val rfl rfl rfl (OpP.v (P_pick rfl rfl rfl)) ?_
 refine L_val rfl rfl rfl (OpP.v (P_assign rfl rfl)) ?_
 refine L_nil ?_
 refine St.env (.cons (t := 1) rfl (.cons (t := 3) rfl (.cons (t := 5) rfl (.cons (t := 6) rfl (.cons (t := 7) rfl (.cons (t := 8) rfl (.cons (t := 9) rfl (.cons (t := 18) rfl .nil)))))))) ?_
 refine Q_then ?_
 refine R_condF rfl ?_
 refine R_seq ?_
 refine R_region ?_
 refine L_val rfl rfl rfl (OpP.v (P_fld0 rfl ty_fl_32_1 rfl)) ?_
 refine L_val rfl rfl rfl (V_load rfl rfl ty_sc_22 (Rd.blk .h1 (wi_1 hR _ _))) ?_
 refine L_val rfl rfl rfl (OpP.v (P_len rfl ty_sl_22 rfl)) ?_
 refine L_val rfl rfl rfl (OpP.v (P_eql rfl rfl rfl)) ?_
 refine E_false (t := 36) rfl (decide_eq_false (by omega)) ?_
 refine L_val rfl rfl rfl (OpP.v (P_assign rfl rfl)) ?_
 refine L_nil ?_
 refine St.env (.cons (t := 1) rfl (.cons (t := 3) rfl (.cons (t := 5) rfl (.cons (t := 6) rfl (.cons (t := 7) rfl (.cons (t := 8) rfl (.cons (t := 9) rfl (.cons (t := 32) rfl .nil)))))))) ?_
 refine Q_then ?_
 refine R_condF rfl ?_
 refine R_seq ?_
 refine R_region ?_
 refine L_val rfl rfl rfl (OpP.v (P_fld0 rfl ty_fl_32_1 rfl)) ?_
 refine L_val rfl rfl rfl (V_load rfl rfl ty_sc_22 (Rd.blk .h1 (wi_1 hR _ _))) ?_
 refine L_val rfl rfl rfl (OpP.v (P_len rfl ty_sl_22 rfl)) ?_
 refine L_val rfl rfl rfl (OpP.v (P_eql rfl rfl rfl)) ?_
 refine E_false (t := 51) rfl (decide_eq_false (by omega)) ?_
 refine L_val rfl rfl rfl (OpP.v (P_assign rfl rfl)) ?_
 refine L_nil ?_
 refine St.env (.cons (t := 1) rfl (.cons (t := 3) rfl (.cons (t := 5) rfl (.cons (t := 6) rfl (.cons (t := 7) rfl (.cons (t := 8) rfl (.cons (t := 9) rfl (.cons (t := 47) rfl .nil)))))))) ?_
 refine Q_then ?_
 refine R_condF rfl ?_
 refine R_region ?_
 refine L_val rfl rfl rfl (V_loadAgg rfl rfl ty_ag_29 (Rds.blk .h2) (by rw [ints_length, hroot])) ?_
 refine L_val rfl rfl rfl (OpP.v (P_move rfl rfl)) ?_
 refine L_val rfl rfl rfl (V_loadAgg rfl rfl ty_ag_32 (Rds.blk .h1) (by rw [wi_len hR])) ?_
 refine L_op rfl (W_callV rfl rfl rfl rfl fn_ca_58 (between_ok hG root R hroot hR ub pb uc pc ac ps hc hpc hps a x y p q hx hy hp hq h2 h2') (WitRow.now hpre rfl) ?_)
 refine L_val rfl rfl rfl (OpP.v (P_assign rfl rfl)) ?_
 refine L_nil ?_
 refine St.env (.cons (t := 6) rfl (.cons (t := 7) rfl (.cons (t := 8) rfl (.cons (t := 9) rfl .nil)))) ?_
 refine Q_block ?_
 refine Q_then ?_
 refine R_seq ?_
 refine R_region ?_
 refine L_val rfl rfl rfl (OpP.v (P_buildStruct rfl ty_pl_38 ty_ze_38 rfl rfl (rfl))) ?_
 refine L_val rfl rfl rfl (OpP.v (P_move rfl rfl)) ?_
 refine L_op rfl (W_storeAll rfl rfl rfl rfl ty_ag_38 (rfl) (Rec.one acc0) .h0 (rfl) ?_)
 refine L_val rfl rfl rfl (OpP.v (P_assign rfl rfl)) ?_
 refine L_val rfl rfl rfl (OpP.v (P_assign rfl rfl)) ?_
 refine L_nil ?_
 refine St.env (.cons (t := 6) rfl (.cons (t := 7) rfl (.cons (t := 8) rfl .nil))) ?_
 refine Q_then ?_
 refine R_ret ?_
 exact R_endV rfl rfl (.cell rfl (Rds.loadVar ty_ag_38 (Rds.blk .h0) rfl) (.tmp rfl (.tmp rfl .nil))) (rfl)
theorem ver_one {gl : Nat → Obj} (hG : Globs gl) (root R : List Int) (hroot : root.length = 32) (hR : R.length = 32) (ub pb : Option Addr) (uc pc : Nat) (ac : List Acc) (ps : List Pf) (hc : ac.length ≤ uc) (hpc : ps.length ≤ pc) (hps : ∀ p ∈ ps, PfIn p) (a : Int) (x : Acc) (p : Pf) (hx : ac[0]? = some x) (hp : ps[0]? = some p) (h2 : ac.length = 1) (h2' : ps.length = 1) : SpecV (cx gl) 12 [.agg (ints .u8 (root)).toArray, .int .u64 a, .agg (wiC R (.slice ub ac.length uc) (.slice pb ps.length pc)).toArray] (fun w => WitRow w ub ac pb ps) (verV root R a [x] [p]) := by
 refine Spec.enter (C := cx gl) Tryz.func12 rfl 100 rfl rfl fun w0 h0 hsep hsub hpre => ?_
 obtain rfl : h0 = Heap.none := hsep
 show St (cx gl) _ [(0, .agg (ints .u8 (root)).toArray), (1, .int .u64 a), (2, .agg (wiC R (.slice ub ac.length uc) (.slice pb ps.length pc)).toArray)] _ _
 obtain ⟨p1, p2, p3⟩ := hpre
 have hpre : WitRow w0 ub ac pb ps := ⟨p1, p2, p3⟩
 obtain ⟨ab, aj, rfl, har⟩ := p1.some_ (by rw [rc_length]; show 0 < _ * 5; omega)
 obtain ⟨qb, qj, rfl, hqr⟩ := p2.some_ (by rw [rc_length]; show 0 < _ * 3; omega)
 refine R_seq ?_
 refine R_region ?_
 refine L_op rfl (W_box (ints .u8 root) rfl rfl rfl rfl rfl fun b3 => ?_)
 refine L_op rfl (W_box (wiC R (.slice (some ⟨ab, aj, none⟩) ac.length uc) (.slice (some ⟨qb, qj, none⟩) ps.length pc)) rfl rfl rfl rfl rfl fun b5 => ?_)
 refine L_op rfl (W_alloc rfl rfl rfl ty_ze_38 fun b6 => ?_)
 refine L_val rfl rfl rfl (OpP.v (P_assign rfl rfl)) ?_
 refine L_val rfl rfl rfl (OpP.v (P_assign rfl rfl)) ?_
 refine L_nil ?_
 refine St.env (.cons (t := 1) rfl (.cons (t := 3) rfl (.cons (t := 5) rfl (.cons (t := 6) rfl (.cons (t := 7) rfl (.cons (t := 8) rfl .nil)))))) ?_
 refine Q_then ?_
 refine R_seq ?_
 refine R_region ?_
 refine L_val rfl rfl rfl (OpP.v (P_assign rfl rfl)) ?_
 refine L_nil ?_
 refine Q_then ?_
 refine R_seq ?_
 refine R_block ?_
 refine R_seq ?_
 refine R_region ?_
 refine L_val rfl rfl rfl (OpP.v (P_fld0 rfl ty_fl_32_1 rfl)) ?_
 refine L_val rfl rfl rfl (V_load rfl rfl ty_sc_22 (Rd.blk .h1 (wi_1 hR _ _))) ?_
 refine L_val rfl rfl rfl (OpP.v (P_len rfl ty_sl_22 rfl)) ?_
 refine L_val rfl rfl rfl (OpP.v (P_gtr rfl rfl rfl)) ?_
 refine E_false (t := 22) rfl (decide_eq_false (by omega)) ?_
 refine L_val rfl rfl rfl (OpP.v (P_move rfl rfl)) ?_
 refine L_val rfl rfl rfl (OpP.v (P_fld0 rfl ty_fl_32_1 rfl)) ?_
 refine L_val rfl rfl rfl (V_load rfl rfl ty_sc_22 (Rd.blk .h1 (wi_1 hR _ _))) ?_
 refine L_val rfl rfl rfl (OpP.v (P_len rfl ty_sl_22 rfl)) ?_
 refine L_val rfl rfl rfl (OpP.v (P_fld0 rfl ty_fl_32_2 rfl)) ?_
 refine L_val rfl rfl rfl (V_load rfl rfl ty_sc_30 (Rd.blk .h1 (wi_2 hR _ _))) ?_
 refine L_val rfl rfl rfl (OpP.v (P_len rfl ty_sl_30 rfl)) ?_
 refine L_val rfl rfl rfl (OpP.v (P_neq rfl rfl rfl)) ?_
 refine E_false (t := 30) rfl (decide_eq_false (by omega)) ?_
 refine L_val rfl rfl rfl (OpP.v (P_pick rfl rfl rfl)) ?_
 refine L_val rfl rfl rfl (OpP.v (P_assign rfl rfl)) ?_
 refine L_nil ?_
 refine St.env (.cons (t := 1) rfl (.cons (t := 3) rfl (.cons (t := 5) rfl (.cons (t := 6) rfl (.cons (t := 7) rfl (.cons (t := 8) rfl (.cons (t := 9) rfl (.cons (t := 18) rfl .nil)))))))) ?_
 refine Q_then ?_
 refine R_condF rfl ?_
 refine R_seq ?_
 refine R_region ?_
 refine L_val rfl rfl rfl (OpP.v (P_fld0 rfl ty_fl_32_1 rfl)) ?_
 refine L_val rfl rfl rfl (V_load rfl rfl ty_sc_22 (Rd.blk .h1 (wi_1 hR _ _))) ?_
 refine L_val rfl rfl rfl (OpP.v (P_len rfl ty_sl_22 rfl)) ?_
 refine L_val rfl rfl rfl (OpP.v (P_eql rfl rfl rfl)) ?_
 refine E_false (t := 36) rfl (decide_eq_false (by omega)) ?_
 refine L_val rfl rfl rfl (OpP.v (P_assign rfl rfl)) ?_
 refine L_nil ?_
 refine St.env (.cons (t := 1) rfl (.cons (t := 3) rfl (.cons (t := 5) rfl (.cons (t := 6) rfl (.cons (t := 7) rfl (.cons (t := 8) rfl (.cons (t := 9) rfl (.cons (t := 32) rfl .nil)))))))) ?_
 refine Q_then ?_
 refine R_condF rfl ?_
 refine R_seq ?_
 refine R_region ?_
 refine L_val rfl rfl rfl (OpP.v (P_fld0 rfl ty_fl_32_1 rfl)) ?_
 refine L_val rfl rfl rfl (V_load rfl rfl ty_sc_22 (Rd.blk .h1 (wi_1 hR _ _))) ?_
 refine L_val rfl rfl rfl (OpP.v (P_len rfl ty_sl_22 rfl)) ?_
 refine L_val rfl rfl rfl (OpP.v (P_eql rfl rfl rfl)) ?_
 refine E_true (t := 51) rfl (decide_eq_true (by omega)) ?_
 refine L_val rfl rfl rfl (OpP.v (P_assign rfl rfl)) ?_
 refine L_nil ?_
 refine St.env (.cons (t := 1) rfl (.cons (t := 3) rfl (.cons (t := 5) rfl (.cons (t := 6) rfl (.cons (t := 7) rfl (.cons (t := 8) rfl (.cons (t := 9) rfl (.cons (t := 47) rfl .nil)))))))) ?_
 refine Q_then ?_
 refine R_condT rfl ?_
 refine R_seq ?_
 refine PQ_open (.pre 0 0 (.pre 1 1 (.pre 2 0 (.pre 3 1 (.pre 4 0 (.pre 5 1 (.pre 6 0 (.pre 7 1 (.perm [8, 9] (.op 10 2 (.op 11 2 .nil))))))))))) [blk b5 (wiC R (.slice (some ⟨ab, aj, none⟩) ac.length uc) (.slice (some ⟨qb, qj, none⟩) ps.length pc)) 32] (Weak.pick (p := [_]) (Weak.nil _)) mixed (by kernel_rfl) (QOk.then (QOk.block (QOk.then QOk.body))) ?_
 refine PPQ_pure rfl rfl rfl rfl (P_fld0 rfl ty_fl_32_1 rfl) ?_
 refine PPQ_val rfl rfl rfl rfl (V_load rfl rfl ty_sc_22 (Rd.blk .h0 (wi_1 hR _ _))) ?_
 refine PPQ_pure rfl rfl rfl rfl (P_ixs (0) rfl ty_sl_22 rfl rfl (by first | rfl | omega) (by omega)) ?_
 refine PPQ_val rfl rfl rfl rfl (V_loadAgg rfl rfl ty_ag_38 (rds_rc (Rds.row har rfl) hx) (rfl)) ?_
 refine PPQ_pure rfl rfl rfl rfl (P_fld0 rfl ty_fl_32_2 rfl) ?_
 refine PPQ_val rfl rfl rfl rfl (V_load rfl rfl ty_sc_30 (Rd.blk .h0 (wi_2 hR _ _))) ?_
 refine PPQ_pure rfl rfl rfl rfl (P_ixs (0) rfl ty_sl_30 rfl rfl (by first | rfl | omega) (by omega)) ?_
 refine PPQ_val rfl rfl rfl rfl (V_loadAgg rfl rfl ty_ag_47 (rds_rc (Rds.row hqr rfl) hp) (rfl)) ?_
 refine PPQ_perm (Weak.pick (p := [_]) (Weak.nil _)) (js := [⟨8, 12, 38, [.int .u64 0, .int .u64 0, .int .u64 0, .int .u64 0, .bool false]⟩, ⟨9, 13, 47, [.int .i64 0, .int .i64 0, .slice none 0 0]⟩]) (by intro j hj; simp only [List.mem_cons, List.not_mem_nil, or_false] at hj; rcases hj with rfl | rfl; exact ⟨⟨_, rfl, rfl, rfl, rfl⟩, rfl, ty_ze_38⟩; exact ⟨⟨_, rfl, rfl, rfl, rfl⟩, rfl, ty_ze_47⟩) (by decide) (by decide) (by decide) fun f => ?_
 show StTQ (cx gl) _ _ _ _ ((12, .pointer (some ⟨f 12, 0, none⟩)) :: (13, .pointer (some ⟨f 13, 0, none⟩)) :: _) _ (blk (f 12) ([.int .u64 0, .int .u64 0, .int .u64 0, .int .u64 0, .bool false]) 38 :: blk (f 13) ([.int .i64 0, .int .i64 0, .slice none 0 0]) 47 :: _)
 generalize f 12 = b12
 generalize f 13 = b13
 refine TQ_keep rfl rfl (W_storeAll rfl rfl rfl rfl ty_ag_38 (rfl) (Rec.one x) .h0 (rfl) (K_keepTQ (Weak.pick (p := [_, _, _]) (Weak.nil _)) ?_))
 refine TQ_keep rfl rfl (W_storeAll rfl rfl rfl rfl ty_ag_47 (rfl) (Pf.one p) .h1 (rfl) (K_keepTQ (Weak.pick (p := [_, _, _]) (Weak.nil _)) ?_))
 refine TQ_nil ?_
 refine St.env (.cons (t := 1) rfl (.cons (t := 3) rfl (.cons (t := 5) rfl (.cons (t := 6) rfl (.cons (t := 7) rfl (.cons (t := 8) rfl (.cons (t := 9) rfl (.cons (t := 12) rfl (.cons (t := 13) rfl .nil))))))))) ?_
 refine Q_then ?_
 refine R_seq ?_
 refine R_region ?_
 refine L_val rfl rfl rfl (OpP.v (P_fld0 rfl ty_fl_38_0 rfl)) ?_
 refine L_val rfl rfl rfl (V_load rfl rfl ty_sc_27 (Rd.blk .h0 rfl)) ?_
 refine L_val rfl rfl rfl (OpP.v (P_move rfl rfl)) ?_
 refine L_val rfl rfl rfl (OpP.v (P_gtr rfl rfl rfl)) ?_
 refine E_bool (t := 63) rfl (fun e1 => ?_) (fun e1 => ?_)
 ·skip
  have e1 := of_decide_eq_true e1
  refine L_val rfl rfl rfl (OpP.v (P_move rfl rfl)) ?_
  refine L_val rfl rfl rfl (OpP.v (P_fld0 rfl ty_fl_47_1 rfl)) ?_
  refine L_val rfl rfl rfl (V_load rfl rfl ty_sc_3 (Rd.blk .h1 rfl)) ?_
  refine L_val rfl rfl rfl (OpP.v (P_neq rfl rfl rfl)) ?_
  refine E_bool (t := 67) rfl (fun e2 => ?_) (fun e2 => ?_)
  ·skip
   have e2 := of_decide_eq_true e2
   refine L_val rfl rfl rfl (OpP.v (P_pick rfl rfl rfl)) ?_
   refine L_val rfl rfl rfl (OpP.v (P_move rfl rfl)) ?_
   refine L_no rfl rfl rfl ?_
   refine L_no rfl rfl rfl ?_
   refine L_no rfl rfl rfl ?_
   refine L_no rfl rfl rfl ?_
   refine L_no rfl rfl rfl ?_
   refine L_no rfl rfl rfl ?_
   refine L_no rfl rfl rfl ?_
   refine L_no rfl rfl rfl ?_
   refine L_no rfl rfl rfl ?_
   refine L_no rfl rfl rfl ?_
   refine L_no rfl rfl rfl ?_
   refine L_no rfl rfl rfl ?_
   refine L_val rfl rfl rfl (OpP.v (P_pick rfl rfl rfl)) ?_
   refine L_nil ?_
   refine St.env (.cons (t := 1) rfl (.cons (t := 3) rfl (.cons (t := 5) rfl (.cons (t := 6) rfl (.cons (t := 7) rfl (.cons (t := 8) rfl (.cons (t := 9) rfl (.cons (t := 12) rfl (.cons (t := 82) rfl .nil))))))))) ?_
   refine Q_then ?_
   refine R_condT rfl ?_
   have hob : oneB a x p := by unfold oneB; first | exact .inl ⟨by omega, e2⟩ | exact .inr ⟨by omega, e4⟩
   refine R_region ?_
   refine L_val rfl rfl rfl (OpP.v (P_assign rfl rfl)) ?_
   refine L_nil ?_
   refine St.env (.cons (t := 6) rfl (.cons (t := 7) rfl (.cons (t := 8) rfl (.cons (t := 9) rfl .nil)))) ?_
   refine Q_block ?_
   refine Q_then ?_
   refine R_seq ?_
   refine R_region ?_
   refine L_val rfl rfl rfl (OpP.v (P_buildStruct rfl ty_pl_38 ty_ze_38 rfl rfl (rfl))) ?_
   refine L_val rfl rfl rfl (OpP.v (P_move rfl rfl)) ?_
   refine L_op rfl (W_storeAll rfl rfl rfl rfl ty_ag_38 (rfl) (Rec.one acc0) .h2 (rfl) ?_)
   refine L_val rfl rfl rfl (OpP.v (P_assign rfl rfl)) ?_
   refine L_val rfl rfl rfl (OpP.v (P_assign rfl rfl)) ?_
   refine L_nil ?_
   refine St.env (.cons (t := 6) rfl (.cons (t := 7) rfl (.cons (t := 8) rfl .nil))) ?_
   refine Q_then ?_
   refine R_ret ?_
   exact R_endV rfl rfl (.cell rfl (Rds.loadVar ty_ag_38 (Rds.blk .h2) rfl) (.tmp rfl (.tmp rfl .nil))) (by rw [verV_one]; first | (rw [if_pos hob]; rfl) | (rw [if_neg hob, if_neg (fun h9 => by first | exact f1 h9.1 | exact f2 h9.2)]; rfl))
  ·skip
   have e2 := of_decide_eq_false e2
   refine L_val rfl rfl rfl (OpP.v (P_pick rfl rfl rfl)) ?_
   refine L_val rfl rfl rfl (OpP.v (P_move rfl rfl)) ?_
   refine L_val rfl rfl rfl (OpP.v (P_fld0 rfl ty_fl_38_0 rfl)) ?_
   refine L_val rfl rfl rfl (V_load rfl rfl ty_sc_27 (Rd.blk .h0 rfl)) ?_
   refine L_val rfl rfl rfl (OpP.v (P_move rfl rfl)) ?_
   refine L_val rfl rfl rfl (OpP.v (P_lss rfl rfl rfl)) ?_
   refine E_bool (t := 73) rfl (fun e3 => ?_) (fun e3 => ?_)
   ·skip
    have e3 := of_decide_eq_true e3
    refine L_val rfl rfl rfl (OpP.v (P_move rfl rfl)) ?_
    refine L_val rfl rfl rfl (OpP.v (P_fld0 rfl ty_fl_47_1 rfl)) ?_
    refine L_val rfl rfl rfl (V_load rfl rfl ty_sc_3 (Rd.blk .h1 rfl)) ?_
    refine L_val rfl rfl rfl (OpP.v (P_fld0 rfl ty_fl_47_0 rfl)) ?_
    refine L_val rfl rfl rfl (V_load rfl rfl ty_sc_3 (Rd.blk .h1 rfl)) ?_
    refine L_val rfl rfl rfl (OpP.v (P_sub rfl rfl rfl)) ?_
    refine L_val rfl rfl rfl (OpP.v (P_neq rfl rfl rfl)) ?_
    refine E_bool (t := 80) rfl (fun e4 => ?_) (fun e4 => ?_)
    ·skip
     have e4 := of_decide_eq_true e4
     refine L_val rfl rfl rfl (OpP.v (P_pick rfl rfl rfl)) ?_
     refine L_val rfl rfl rfl (OpP.v (P_pick rfl rfl rfl)) ?_
     refine L_nil ?_
     refine St.env (.cons (t := 1) rfl (.cons (t := 3) rfl (.cons (t := 5) rfl (.cons (t := 6) rfl (.cons (t := 7) rfl (.cons (t := 8) rfl (.cons (t := 9) rfl (.cons (t := 12) rfl (.cons (t := 82) rfl .nil))))))))) ?_
     refine Q_then ?_
     refine R_condT rfl ?_
     have hob : oneB a x p := by unfold oneB; first | exact .inl ⟨by omega, e2⟩ | exact .inr ⟨by omega, e4⟩
     refine R_region ?_
     refine L_val rfl rfl rfl (OpP.v (P_assign rfl rfl)) ?_
     refine L_nil ?_
     refine St.env (.cons (t := 6) rfl (.cons (t := 7) rfl (.cons (t := 8) rfl (.cons (t := 9) rfl .nil)))) ?_
     refine Q_block ?_
     refine Q_then ?_
     refine R_seq ?_
     refine R_region ?_
     refine L_val rfl rfl rfl (OpP.v (P_buildStruct rfl ty_pl_38 ty_ze_38 rfl rfl (rfl))) ?_
     refine L_val rfl rfl rfl (OpP.v (P_move rfl rfl)) ?_
     refine L_op rfl (W_storeAll rfl rfl rfl rfl ty_ag_38 (rfl) (Rec.one acc0) .h2 (rfl) ?_)
     refine L_val rfl rfl rfl (OpP.v (P_assign rfl rfl)) ?_
     refine L_val rfl rfl rfl (OpP.v (P_assign rfl rfl)) ?_
     refine L_nil ?_
     refine St.env (.cons (t := 6) rfl (.cons (t := 7) rfl (.cons (t := 8) rfl .nil))) ?_
     refine Q_then ?_
     refine R_ret ?_
     exact R_endV rfl rfl (.cell rfl (Rds.loadVar ty_ag_38 (Rds.blk .h2) rfl) (.tmp rfl (.tmp rfl .nil))) (by rw [verV_one]; first | (rw [if_pos hob]; rfl) | (rw [if_neg hob, if_neg (fun h9 => by first | exact f1 h9.1 | exact f2 h9.2)]; rfl))
    ·skip
     have e4 := of_decide_eq_false e4
     refine L_val rfl rfl rfl (OpP.v (P_pick rfl rfl rfl)) ?_
     refine L_val rfl rfl rfl (OpP.v (P_pick rfl rfl rfl)) ?_
     refine L_nil ?_
     refine St.env (.cons (t := 1) rfl (.cons (t := 3) rfl (.cons (t := 5) rfl (.cons (t := 6) rfl (.cons (t := 7) rfl (.cons (t := 8) rfl (.cons (t := 9) rfl (.cons (t := 12) rfl (.cons (t := 82) rfl .nil))))))))) ?_
     refine Q_then ?_
     refine R_condF rfl ?_
     refine R_seq ?_
     have hob : ¬ oneB a x p := oneB_no (by first | exact .inl (by omega) | exact .inr e2) (by first | exact .inl (by omega) | exact .inr e4)
     refine R_region ?_
     refine L_val rfl rfl rfl (V_loadAgg rfl rfl ty_ag_29 (Rds.blk .h4) (by rw [ints_length, hroot])) ?_
     refine L_val rfl rfl rfl (V_loadAgg rfl rfl ty_ag_32 (Rds.blk .h3) (by rw [wi_len hR])) ?_
     refine L_op rfl (W_callV rfl rfl rfl rfl fn_ca_57 (leads_ok hG root R hroot hR (some ⟨ab, aj, none⟩) (some ⟨qb, qj, none⟩) uc pc ac ps hc hpc hps 0 x p hx hp (by omega) (by omega)) (WitRow.now hpre rfl) ?_)
     refine L_val rfl rfl rfl (OpP.v (P_move rfl rfl)) ?_
     refine L_val rfl rfl rfl (OpP.v (P_extract rfl rfl rfl)) ?_
     refine L_val rfl rfl rfl (OpP.v (P_extract rfl rfl rfl)) ?_
     refine L_val rfl rfl rfl (OpP.v (P_assign rfl rfl)) ?_
     refine L_nil ?_
     refine St.env (.cons (t := 1) rfl (.cons (t := 6) rfl (.cons (t := 7) rfl (.cons (t := 8) rfl (.cons (t := 9) rfl (.cons (t := 12) rfl .nil)))))) ?_
     refine Q_then ?_
     refine R_seq ?_
     refine R_region ?_
     refine L_val rfl rfl rfl (OpP.v (P_move rfl rfl)) ?_
     refine L_val rfl rfl rfl (OpP.v (P_eql rfl rfl rfl)) ?_
     refine E_bool (t := 90) rfl (fun f1 => ?_) (fun f1 => ?_)
     ·skip
      have f1 := of_decide_eq_true f1
      refine L_val rfl rfl rfl (OpP.v (P_move rfl rfl)) ?_
      refine L_val rfl rfl rfl (OpP.v (P_fld0 rfl ty_fl_38_0 rfl)) ?_
      refine L_val rfl rfl rfl (V_load rfl rfl ty_sc_27 (Rd.blk .h0 rfl)) ?_
      refine L_val rfl rfl rfl (OpP.v (P_move rfl rfl)) ?_
      refine L_val rfl rfl rfl (OpP.v (P_eql rfl rfl rfl)) ?_
      refine E_bool (t := 95) rfl (fun f2 => ?_) (fun f2 => ?_)
      ·skip
       have f2 := of_decide_eq_true f2
       refine L_val rfl rfl rfl (OpP.v (P_pick rfl rfl rfl)) ?_
       refine L_nil ?_
       refine St.env (.cons (t := 6) rfl (.cons (t := 7) rfl (.cons (t := 8) rfl (.cons (t := 9) rfl (.cons (t := 12) rfl (.cons (t := 96) rfl .nil)))))) ?_
       refine Q_then ?_
       refine R_condT rfl ?_
       refine R_seq ?_
       refine R_region ?_
       refine L_val rfl rfl rfl (V_loadAgg rfl rfl ty_ag_38 (Rds.blk .h0) (rfl)) ?_
       refine L_op rfl (W_storeAll rfl rfl rfl rfl ty_ag_38 (rfl) (Rec.one x) .h2 (rfl) ?_)
       refine L_val rfl rfl rfl (OpP.v (P_assign rfl rfl)) ?_
       refine L_val rfl rfl rfl (OpP.v (P_assign rfl rfl)) ?_
       refine L_nil ?_
       refine St.env (.cons (t := 6) rfl (.cons (t := 7) rfl (.cons (t := 8) rfl (.cons (t := 9) rfl .nil)))) ?_
       refine Q_then ?_
       refine R_ret ?_
       refine Q_block_ret ?_
       refine Q_then_ret ?_
       exact R_endV rfl rfl (.cell rfl (Rds.loadVar ty_ag_38 (Rds.blk .h2) rfl) (.tmp rfl (.tmp rfl .nil))) (by rw [verV_one]; rw [if_neg hob, if_pos ⟨f1, f2⟩]; rfl)
      ·skip
       have f2 := of_decide_eq_false f2
       refine L_val rfl rfl rfl (OpP.v (P_pick rfl rfl rfl)) ?_
       refine L_nil ?_
       refine St.env (.cons (t := 6) rfl (.cons (t := 7) rfl (.cons (t := 8) rfl (.cons (t := 9) rfl (.cons (t := 12) rfl (.cons (t := 96) rfl .nil)))))) ?_
       refine Q_then ?_
       refine R_condF rfl ?_
       refine R_skip ?_
       refine Q_block ?_
       refine Q_then ?_
       refine R_seq ?_
       refine R_region ?_
       refine L_val rfl rfl rfl (OpP.v (P_buildStruct rfl ty_pl_38 ty_ze_38 rfl rfl (rfl))) ?_
       refine L_val rfl rfl rfl (OpP.v (P_move rfl rfl)) ?_
       refine L_op rfl (W_storeAll rfl rfl rfl rfl ty_ag_38 (rfl) (Rec.one acc0) .h2 (rfl) ?_)
       refine L_val rfl rfl rfl (OpP.v (P_assign rfl rfl)) ?_
       refine L_val rfl rfl rfl (OpP.v (P_assign rfl rfl)) ?_
       refine L_nil ?_
       refine St.env (.cons (t := 6) rfl (.cons (t := 7) rfl (.cons (t := 8) rfl .nil))) ?_
       refine Q_then ?_
       refine R_ret ?_
       exact R_endV rfl rfl (.cell rfl (Rds.loadVar ty_ag_38 (Rds.blk .h2) rfl) (.tmp rfl (.tmp rfl .nil))) (by rw [verV_one]; first | (rw [if_pos hob]; rfl) | (rw [if_neg hob, if_neg (fun h9 => by first | exact f1 h9.1 | exact f2 h9.2)]; rfl))
     ·skip
      have f1 := of_decide_eq_false f1
      refine L_val rfl rfl rfl (OpP.v (P_move rfl rfl)) ?_
      refine L_no rfl rfl rfl ?_
      refine L_no rfl rfl rfl ?_
      refine L_no rfl rfl rfl ?_
      refine L_no rfl rfl rfl ?_
      refine L_val rfl rfl rfl (OpP.v (P_pick rfl rfl rfl)) ?_
      refine L_nil ?_
      refine St.env (.cons (t := 6) rfl (.cons (t := 7) rfl (.cons (t := 8) rfl (.cons (t := 9) rfl (.cons (t := 12) rfl (.cons (t := 96) rfl .nil)))))) ?_
      refine Q_then ?_
      refine R_condF rfl ?_
      refine R_skip ?_
      refine Q_block ?_
      refine Q_then ?_
      refine R_seq ?_
      refine R_region ?_
      refine L_val rfl rfl rfl (OpP.v (P_buildStruct rfl ty_pl_38 ty_ze_38 rfl rfl (rfl))) ?_
      refine L_val rfl rfl rfl (OpP.v (P_move rfl rfl)) ?_
      refine L_op rfl (W_storeAll rfl rfl rfl rfl ty_ag_38 (rfl) (Rec.one acc0) .h2 (rfl) ?_)
      refine L_val rfl rfl rfl (OpP.v (P_assign rfl rfl)) ?_
      refine L_val rfl rfl rfl (OpP.v (P_assign rfl rfl)) ?_
      refine L_nil ?_
      refine St.env (.cons (t := 6) rfl (.cons (t := 7) rfl (.cons (t := 8) rfl .nil))) ?_
      refine Q_then ?_
      refine R_ret ?_
      exact R_endV rfl rfl (.cell rfl (Rds.loadVar ty_ag_38 (Rds.blk .h2) rfl) (.tmp rfl (.tmp rfl .nil))) (by rw [verV_one]; first | (rw [if_pos hob]; rfl) | (rw [if_neg hob, if_neg (fun h9 => by first | exact f1 h9.1 | exact f2 h9.2)]; rfl))
   ·skip
    have e3 := of_decide_eq_false e3
    refine L_val rfl rfl rfl (OpP.v (P_move rfl rfl)) ?_
    refine L_no rfl rfl rfl ?_
    refine L_no rfl rfl rfl ?_
    refine L_no rfl rfl rfl ?_
    refine L_no rfl rfl rfl ?_
    refine L_no rfl rfl rfl ?_
    refine L_no rfl rfl rfl ?_
    refine L_val rfl rfl rfl (OpP.v (P_pick rfl rfl rfl)) ?_
    refine L_val rfl rfl rfl (OpP.v (P_pick rfl rfl rfl)) ?_
    refine L_nil ?_
    refine St.env (.cons (t := 1) rfl (.cons (t := 3) rfl (.cons (t := 5) rfl (.cons (t := 6) rfl (.cons (t := 7) rfl (.cons (t := 8) rfl (.cons (t := 9) rfl (.cons (t := 12) rfl (.cons (t := 82) rfl .nil))))))))) ?_
    refine Q_then ?_
    refine R_condF rfl ?_
    refine R_seq ?_
    have hob : ¬ oneB a x p := oneB_no (by first | exact .inl (by omega) | exact .inr e2) (by first | exact .inl (by omega) | exact .inr e4)
    refine R_region ?_
    refine L_val rfl rfl rfl (V_loadAgg rfl rfl ty_ag_29 (Rds.blk .h4) (by rw [ints_length, hroot])) ?_
    refine L_val rfl rfl rfl (V_loadAgg rfl rfl ty_ag_32 (Rds.blk .h3) (by rw [wi_len hR])) ?_
    refine L_op rfl (W_callV rfl rfl rfl rfl fn_ca_57 (leads_ok hG root R hroot hR (some ⟨ab, aj, none⟩) (some ⟨qb, qj, none⟩) uc pc ac ps hc hpc hps 0 x p hx hp (by omega) (by omega)) (WitRow.now hpre rfl) ?_)
    refine L_val rfl rfl rfl (OpP.v (P_move rfl rfl)) ?_
    refine L_val rfl rfl rfl (OpP.v (P_extract rfl rfl rfl)) ?_
    refine L_val rfl rfl rfl (OpP.v (P_extract rfl rfl rfl)) ?_
    refine L_val rfl rfl rfl (OpP.v (P_assign rfl rfl)) ?_
    refine L_nil ?_
    refine St.env (.cons (t := 1) rfl (.cons (t := 6) rfl (.cons (t := 7) rfl (.cons (t := 8) rfl (.cons (t := 9) rfl (.cons (t := 12) rfl .nil)))))) ?_
    refine Q_then ?_
    refine R_seq ?_
    refine R_region ?_
    refine L_val rfl rfl rfl (OpP.v (P_move rfl rfl)) ?_
    refine L_val rfl rfl rfl (OpP.v (P_eql rfl rfl rfl)) ?_
    refine E_bool (t := 90) rfl (fun f1 => ?_) (fun f1 => ?_)
    ·skip
     have f1 := of_decide_eq_true f1
     refine L_val rfl rfl rfl (OpP.v (P_move rfl rfl)) ?_
     refine L_val rfl rfl rfl (OpP.v (P_fld0 rfl ty_fl_38_0 rfl)) ?_
     refine L_val rfl rfl rfl (V_load rfl rfl ty_sc_27 (Rd.blk .h0 rfl)) ?_
     refine L_val rfl rfl rfl (OpP.v (P_move rfl rfl)) ?_
     refine L_val rfl rfl rfl (OpP.v (P_eql rfl rfl rfl)) ?_
     refine E_bool (t := 95) rfl (fun f2 => ?_) (fun f2 => ?_)
     ·skip
      have f2 := of_decide_eq_true f2
      refine L_val rfl rfl rfl (OpP.v (P_pick rfl rfl rfl)) ?_
      refine L_nil ?_
      refine St.env (.cons (t := 6) rfl (.cons (t := 7) rfl (.cons (t := 8) rfl (.cons (t := 9) rfl (.cons (t := 12) rfl (.cons (t := 96) rfl .nil)))))) ?_
      refine Q_then ?_
      refine R_condT rfl ?_
      refine R_seq ?_
      refine R_region ?_
      refine L_val rfl rfl rfl (V_loadAgg rfl rfl ty_ag_38 (Rds.blk .h0) (rfl)) ?_
      refine L_op rfl (W_storeAll rfl rfl rfl rfl ty_ag_38 (rfl) (Rec.one x) .h2 (rfl) ?_)
      refine L_val rfl rfl rfl (OpP.v (P_assign rfl rfl)) ?_
      refine L_val rfl rfl rfl (OpP.v (P_assign rfl rfl)) ?_
      refine L_nil ?_
      refine St.env (.cons (t := 6) rfl (.cons (t := 7) rfl (.cons (t := 8) rfl (.cons (t := 9) rfl .nil)))) ?_
      refine Q_then ?_
      refine R_ret ?_
      refine Q_block_ret ?_
      refine Q_then_ret ?_
      exact R_endV rfl rfl (.cell rfl (Rds.loadVar ty_ag_38 (Rds.blk .h2) rfl) (.tmp rfl (.tmp rfl .nil))) (by rw [verV_one]; rw [if_neg hob, if_pos ⟨f1, f2⟩]; rfl)
     ·skip
      have f2 := of_decide_eq_false f2
      refine L_val rfl rfl rfl (OpP.v (P_pick rfl rfl rfl)) ?_
      refine L_nil ?_
      refine St.env (.cons (t := 6) rfl (.cons (t := 7) rfl (.cons (t := 8) rfl (.cons (t := 9) rfl (.cons (t := 12) rfl (.cons (t := 96) rfl .nil)))))) ?_
      refine Q_then ?_
      refine R_condF rfl ?_
      refine R_skip ?_
      refine Q_block ?_
      refine Q_then ?_
      refine R_seq ?_
      refine R_region ?_
      refine L_val rfl rfl rfl (OpP.v (P_buildStruct rfl ty_pl_38 ty_ze_38 rfl rfl (rfl))) ?_
      refine L_val rfl rfl rfl (OpP.v (P_move rfl rfl)) ?_
      refine L_op rfl (W_storeAll rfl rfl rfl rfl ty_ag_38 (rfl) (Rec.one acc0) .h2 (rfl) ?_)
      refine L_val rfl rfl rfl (OpP.v (P_assign rfl rfl)) ?_
      refine L_val rfl rfl rfl (OpP.v (P_assign rfl rfl)) ?_
      refine L_nil ?_
      refine St.env (.cons (t := 6) rfl (.cons (t := 7) rfl (.cons (t := 8) rfl .nil))) ?_
      refine Q_then ?_
      refine R_ret ?_
      exact R_endV rfl rfl (.cell rfl (Rds.loadVar ty_ag_38 (Rds.blk .h2) rfl) (.tmp rfl (.tmp rfl .nil))) (by rw [verV_one]; first | (rw [if_pos hob]; rfl) | (rw [if_neg hob, if_neg (fun h9 => by first | exact f1 h9.1 | exact f2 h9.2)]; rfl))
    ·skip
     have f1 := of_decide_eq_false f1
     refine L_val rfl rfl rfl (OpP.v (P_move rfl rfl)) ?_
     refine L_no rfl rfl rfl ?_
     refine L_no rfl rfl rfl ?_
     refine L_no rfl rfl rfl ?_
     refine L_no rfl rfl rfl ?_
     refine L_val rfl rfl rfl (OpP.v (P_pick rfl rfl rfl)) ?_
     refine L_nil ?_
     refine St.env (.cons (t := 6) rfl (.cons (t := 7) rfl (.cons (t := 8) rfl (.cons (t := 9) rfl (.cons (t := 12) rfl (.cons (t := 96) rfl .nil)))))) ?_
     refine Q_then ?_
     refine R_condF rfl ?_
     refine R_skip ?_
     refine Q_block ?_
     refine Q_then ?_
     refine R_seq ?_
     refine R_region ?_
     refine L_val rfl rfl rfl (OpP.v (P_buildStruct rfl ty_pl_38 ty_ze_38 rfl rfl (rfl))) ?_
     refine L_val rfl rfl rfl (OpP.v (P_move rfl rfl)) ?_
     refine L_op rfl (W_storeAll rfl rfl rfl rfl ty_ag_38 (rfl) (Rec.one acc0) .h2 (rfl) ?_)
     refine L_val rfl rfl rfl (OpP.v (P_assign rfl rfl)) ?_
     refine L_val rfl rfl rfl (OpP.v (P_assign rfl rfl)) ?_
     refine L_nil ?_
     refine St.env (.cons (t := 6) rfl (.cons (t := 7) rfl (.cons (t := 8) rfl .nil))) ?_
     refine Q_then ?_
     refine R_ret ?_
     exact R_endV rfl rfl (.cell rfl (Rds.loadVar ty_ag_38 (Rds.blk .h2) rfl) (.tmp rfl (.tmp rfl .nil))) (by rw [verV_one]; first | (rw [if_pos hob]; rfl) | (rw [if_neg hob, if_neg (fun h9 => by first | exact f1 h9.1 | exact f2 h9.2)]; rfl))
 ·skip
  have e1 := of_decide_eq_false e1
  refine L_val rfl rfl rfl (OpP.v (P_move rfl rfl)) ?_
  refine L_no rfl rfl rfl ?_
  refine L_no rfl rfl rfl ?_
  refine L_no rfl rfl rfl ?_
  refine L_val rfl rfl rfl (OpP.v (P_pick rfl rfl rfl)) ?_
  refine L_val rfl rfl rfl (OpP.v (P_move rfl rfl)) ?_
  refine L_val rfl rfl rfl (OpP.v (P_fld0 rfl ty_fl_38_0 rfl)) ?_
  refine L_val rfl rfl rfl (V_load rfl rfl ty_sc_27 (Rd.blk .h0 rfl)) ?_
  refine L_val rfl rfl rfl (OpP.v (P_move rfl rfl)) ?_
  refine L_val rfl rfl rfl (OpP.v (P_lss rfl rfl rfl)) ?_
  refine E_bool (t := 73) rfl (fun e3 => ?_) (fun e3 => ?_)
  ·skip
   have e3 := of_decide_eq_true e3
   refine L_val rfl rfl rfl (OpP.v (P_move rfl rfl)) ?_
   refine L_val rfl rfl rfl (OpP.v (P_fld0 rfl ty_fl_47_1 rfl)) ?_
   refine L_val rfl rfl rfl (V_load rfl rfl ty_sc_3 (Rd.blk .h1 rfl)) ?_
   refine L_val rfl rfl rfl (OpP.v (P_fld0 rfl ty_fl_47_0 rfl)) ?_
   refine L_val rfl rfl rfl (V_load rfl rfl ty_sc_3 (Rd.blk .h1 rfl)) ?_
   refine L_val rfl rfl rfl (OpP.v (P_sub rfl rfl rfl)) ?_
   refine L_val rfl rfl rfl (OpP.v (P_neq rfl rfl rfl)) ?_
   refine E_bool (t := 80) rfl (fun e4 => ?_) (fun e4 => ?_)
   ·skip
    have e4 := of_decide_eq_true e4
    refine L_val rfl rfl rfl (OpP.v (P_pick rfl rfl rfl)) ?_
    refine L_val rfl rfl rfl (OpP.v (P_pick rfl rfl rfl)) ?_
    refine L_nil ?_
    refine St.env (.cons (t := 1) rfl (.cons (t := 3) rfl (.cons (t := 5) rfl (.cons (t := 6) rfl (.cons (t := 7) rfl (.cons (t := 8) rfl (.cons (t := 9) rfl (.cons (t := 12) rfl (.cons (t := 82) rfl .nil))))))))) ?_
    refine Q_then ?_
    refine R_condT rfl ?_
    have hob : oneB a x p := by unfold oneB; first | exact .inl ⟨by omega, e2⟩ | exact .inr ⟨by omega, e4⟩
    refine R_region ?_
    refine L_val rfl rfl rfl (OpP.v (P_assign rfl rfl)) ?_
    refine L_nil ?_
    refine St.env (.cons (t := 6) rfl (.cons (t := 7) rfl (.cons (t := 8) rfl (.cons (t := 9) rfl .nil)))) ?_
    refine Q_block ?_
    refine Q_then ?_
    refine R_seq ?_
    refine R_region ?_
    refine L_val rfl rfl rfl (OpP.v (P_buildStruct rfl ty_pl_38 ty_ze_38 rfl rfl (rfl))) ?_
    refine L_val rfl rfl rfl (OpP.v (P_move rfl rfl)) ?_
    refine L_op rfl (W_storeAll rfl rfl rfl rfl ty_ag_38 (rfl) (Rec.one acc0) .h2 (rfl) ?_)
    refine L_val rfl rfl rfl (OpP.v (P_assign rfl rfl)) ?_
    refine L_val rfl rfl rfl (OpP.v (P_assign rfl rfl)) ?_
    refine L_nil ?_
    refine St.env (.cons (t := 6) rfl (.cons (t := 7) rfl (.cons (t := 8) rfl .nil))) ?_
    refine Q_then ?_
    refine R_ret ?_
    exact R_endV rfl rfl (.cell rfl (Rds.loadVar ty_ag_38 (Rds.blk .h2) rfl) (.tmp rfl (.tmp rfl .nil))) (by rw [verV_one]; first | (rw [if_pos hob]; rfl) | (rw [if_neg hob, if_neg (fun h9 => by first | exact f1 h9.1 | exact f2 h9.2)]; rfl))
   ·skip
    have e4 := of_decide_eq_false e4
    refine L_val rfl rfl rfl (OpP.v (P_pick rfl rfl rfl)) ?_
    refine L_val rfl rfl rfl (OpP.v (P_pick rfl rfl rfl)) ?_
    refine L_nil ?_
    refine St.env (.cons (t := 1) rfl (.cons (t := 3) rfl (.cons (t := 5) rfl (.cons (t := 6) rfl (.cons (t := 7) rfl (.cons (t := 8) rfl (.cons (t := 9) rfl (.cons (t := 12) rfl (.cons (t := 82) rfl .nil))))))))) ?_
    refine Q_then ?_
    refine R_condF rfl ?_
    refine R_seq ?_
    have hob : ¬ oneB a x p := oneB_no (by first | exact .inl (by omega) | exact .inr e2) (by first | exact .inl (by omega) | exact .inr e4)
    refine R_region ?_
    refine L_val rfl rfl rfl (V_loadAgg rfl rfl ty_ag_29 (Rds.blk .h4) (by rw [ints_length, hroot])) ?_
    refine L_val rfl rfl rfl (V_loadAgg rfl rfl ty_ag_32 (Rds.blk .h3) (by rw [wi_len hR])) ?_
    refine L_op rfl (W_callV rfl rfl rfl rfl fn_ca_57 (leads_ok hG root R hroot hR (some ⟨ab, aj, none⟩) (some ⟨qb, qj, none⟩) uc pc ac ps hc hpc hps 0 x p hx hp (by omega) (by omega)) (WitRow.now hpre rfl) ?_)
    refine L_val rfl rfl rfl (OpP.v (P_move rfl rfl)) ?_
    refine L_val rfl rfl rfl (OpP.v (P_extract rfl rfl rfl)) ?_
    refine L_val rfl rfl rfl (OpP.v (P_extract rfl rfl rfl)) ?_
    refine L_val rfl rfl rfl (OpP.v (P_assign rfl rfl)) ?_
    refine L_nil ?_
    refine St.env (.cons (t := 1) rfl (.cons (t := 6) rfl (.cons (t := 7) rfl (.cons (t := 8) rfl (.cons (t := 9) rfl (.cons (t := 12) rfl .nil)))))) ?_
    refine Q_then ?_
    refine R_seq ?_
    refine R_region ?_
    refine L_val rfl rfl rfl (OpP.v (P_move rfl rfl)) ?_
    refine L_val rfl rfl rfl (OpP.v (P_eql rfl rfl rfl)) ?_
    refine E_bool (t := 90) rfl (fun f1 => ?_) (fun f1 => ?_)
    ·skip
     have f1 := of_decide_eq_true f1
     refine L_val rfl rfl rfl (OpP.v (P_move rfl rfl)) ?_
     refine L_val rfl rfl rfl (OpP.v (P_fld0 rfl ty_fl_38_0 rfl)) ?_
     refine L_val rfl rfl rfl (V_load rfl rfl ty_sc_27 (Rd.blk .h0 rfl)) ?_
     refine L_val rfl rfl rfl (OpP.v (P_move rfl rfl)) ?_
     refine L_val rfl rfl rfl (OpP.v (P_eql rfl rfl rfl)) ?_
     refine E_bool (t := 95) rfl (fun f2 => ?_) (fun f2 => ?_)
     ·skip
      have f2 := of_decide_eq_true f2
      refine L_val rfl rfl rfl (OpP.v (P_pick rfl rfl rfl)) ?_
      refine L_nil ?_
      refine St.env (.cons (t := 6) rfl (.cons (t := 7) rfl (.cons (t := 8) rfl (.cons (t := 9) rfl (.cons (t := 12) rfl (.cons (t := 96) rfl .nil)))))) ?_
      refine Q_then ?_
      refine R_condT rfl ?_
      refine R_seq ?_
      refine R_region ?_
      refine L_val rfl rfl rfl (V_loadAgg rfl rfl ty_ag_38 (Rds.blk .h0) (rfl)) ?_
      refine L_op rfl (W_storeAll rfl rfl rfl rfl ty_ag_38 (rfl) (Rec.one x) .h2 (rfl) ?_)
      refine L_val rfl rfl rfl (OpP.v (P_assign rfl rfl)) ?_
      refine L_val rfl rfl rfl (OpP.v (P_assign rfl rfl)) ?_
      refine L_nil ?_
      refine St.env (.cons (t := 6) rfl (.cons (t := 7) rfl (.cons (t := 8) rfl (.cons (t := 9) rfl .nil)))) ?_
      refine Q_then ?_
      refine R_ret ?_
      refine Q_block_ret ?_
      refine Q_then_ret ?_
      exact R_endV rfl rfl (.cell rfl (Rds.loadVar ty_ag_38 (Rds.blk .h2) rfl) (.tmp rfl (.tmp rfl .nil))) (by rw [verV_one]; rw [if_neg hob, if_pos ⟨f1, f2⟩]; rfl)
     ·skip
      have f2 := of_decide_eq_false f2
      refine L_val rfl rfl rfl (OpP.v (P_pick rfl rfl rfl)) ?_
      refine L_nil ?_
      refine St.env (.cons (t := 6) rfl (.cons (t := 7) rfl (.cons (t := 8) rfl (.cons (t := 9) rfl (.cons (t := 12) rfl (.cons (t := 96) rfl .nil)))))) ?_
      refine Q_then ?_
      refine R_condF rfl ?_
      refine R_skip ?_
      refine Q_block ?_
      refine Q_then ?_
      refine R_seq ?_
      refine R_region ?_
      refine L_val rfl rfl rfl (OpP.v (P_buildStruct rfl ty_pl_38 ty_ze_38 rfl rfl (rfl))) ?_
      refine L_val rfl rfl rfl (OpP.v (P_move rfl rfl)) ?_
      refine L_op rfl (W_storeAll rfl rfl rfl rfl ty_ag_38 (rfl) (Rec.one acc0) .h2 (rfl) ?_)
      refine L_val rfl rfl rfl (OpP.v (P_assign rfl rfl)) ?_
      refine L_val rfl rfl rfl (OpP.v (P_assign rfl rfl)) ?_
      refine L_nil ?_
      refine St.env (.cons (t := 6) rfl (.cons (t := 7) rfl (.cons (t := 8) rfl .nil))) ?_
      refine Q_then ?_
      refine R_ret ?_
      exact R_endV rfl rfl (.cell rfl (Rds.loadVar ty_ag_38 (Rds.blk .h2) rfl) (.tmp rfl (.tmp rfl .nil))) (by rw [verV_one]; first | (rw [if_pos hob]; rfl) | (rw [if_neg hob, if_neg (fun h9 => by first | exact f1 h9.1 | exact f2 h9.2)]; rfl))
    ·skip
     have f1 := of_decide_eq_false f1
     refine L_val rfl rfl rfl (OpP.v (P_move rfl rfl)) ?_
     refine L_no rfl rfl rfl ?_
     refine L_no rfl rfl rfl ?_
     refine L_no rfl rfl rfl ?_
     refine L_no rfl rfl rfl ?_
     refine L_val rfl rfl rfl (OpP.v (P_pick rfl rfl rfl)) ?_
     refine L_nil ?_
     refine St.env (.cons (t := 6) rfl (.cons (t := 7) rfl (.cons (t := 8) rfl (.cons (t := 9) rfl (.cons (t := 12) rfl (.cons (t := 96) rfl .nil)))))) ?_
     refine Q_then ?_
     refine R_condF rfl ?_
     refine R_skip ?_
     refine Q_block ?_
     refine Q_then ?_
     refine R_seq ?_
     refine R_region ?_
     refine L_val rfl rfl rfl (OpP.v (P_buildStruct rfl ty_pl_38 ty_ze_38 rfl rfl (rfl))) ?_
     refine L_val rfl rfl rfl (OpP.v (P_move rfl rfl)) ?_
     refine L_op rfl (W_storeAll rfl rfl rfl rfl ty_ag_38 (rfl) (Rec.one acc0) .h2 (rfl) ?_)
     refine L_val rfl rfl rfl (OpP.v (P_assign rfl rfl)) ?_
     refine L_val rfl rfl rfl (OpP.v (P_assign rfl rfl)) ?_
     refine L_nil ?_
     refine St.env (.cons (t := 6) rfl (.cons (t := 7) rfl (.cons (t := 8) rfl .nil))) ?_
     refine Q_then ?_
     refine R_ret ?_
     exact R_endV rfl rfl (.cell rfl (Rds.loadVar ty_ag_38 (Rds.blk .h2) rfl) (.tmp rfl (.tmp rfl .nil))) (by rw [verV_one]; first | (rw [if_pos hob]; rfl) | (rw [if_neg hob, if_neg (fun h9 => by first | exact f1 h9.1 | exact f2 h9.2)]; rfl))
  ·skip
   have e3 := of_decide_eq_false e3
   refine L_val rfl rfl rfl (OpP.v (P_move rfl rfl)) ?_
   refine L_no rfl rfl rfl ?_
   refine L_no rfl rfl rfl ?_
   refine L_no rfl rfl rfl ?_
   refine L_no rfl rfl rfl ?_
   refine L_no rfl rfl rfl ?_
   refine L_no rfl rfl rfl ?_
   refine L_val rfl rfl rfl (OpP.v (P_pick rfl rfl rfl)) ?_
   refine L_val rfl rfl rfl (OpP.v (P_pick rfl rfl rfl)) ?_
   refine L_nil ?_
   refine St.env (.cons (t := 1) rfl (.cons (t := 3) rfl (.cons (t := 5) rfl (.cons (t := 6) rfl (.cons (t := 7) rfl (.cons (t := 8) rfl (.cons (t := 9) rfl (.cons (t := 12) rfl (.cons (t := 82) rfl .nil))))))))) ?_
   refine Q_then ?_
   refine R_condF rfl ?_
   refine R_seq ?_
   have hob : ¬ oneB a x p := oneB_no (by first | exact .inl (by omega) | exact .inr e2) (by first | exact .inl (by omega) | exact .inr e4)
   refine R_region ?_
   refine L_val rfl rfl rfl (V_loadAgg rfl rfl ty_ag_29 (Rds.blk .h4) (by rw [ints_length, hroot])) ?_
   refine L_val rfl rfl rfl (V_loadAgg rfl rfl ty_ag_32 (Rds.blk .h3) (by rw [wi_len hR])) ?_
   refine L_op rfl (W_callV rfl rfl rfl rfl fn_ca_57 (leads_ok hG root R hroot hR (some ⟨ab, aj, none⟩) (some ⟨qb, qj, none⟩) uc pc ac ps hc hpc hps 0 x p hx hp (by omega) (by omega)) (WitRow.now hpre rfl) ?_)
   refine L_val rfl rfl rfl (OpP.v (P_move rfl rfl)) ?_
   refine L_val rfl rfl rfl (OpP.v (P_extract rfl rfl rfl)) ?_
   refine L_val rfl rfl rfl (OpP.v (P_extract rfl rfl rfl)) ?_
   refine L_val rfl rfl rfl (OpP.v (P_assign rfl rfl)) ?_
   refine L_nil ?_
   refine St.env (.cons (t := 1) rfl (.cons (t := 6) rfl (.cons (t := 7) rfl (.cons (t := 8) rfl (.cons (t := 9) rfl (.cons (t := 12) rfl .nil)))))) ?_
   refine Q_then ?_
   refine R_seq ?_
   refine R_region ?_
   refine L_val rfl rfl rfl (OpP.v (P_move rfl rfl)) ?_
   refine L_val rfl rfl rfl (OpP.v (P_eql rfl rfl rfl)) ?_
   refine E_bool (t := 90) rfl (fun f1 => ?_) (fun f1 => ?_)
   ·skip
    have f1 := of_decide_eq_true f1
    refine L_val rfl rfl rfl (OpP.v (P_move rfl rfl)) ?_
    refine L_val rfl rfl rfl (OpP.v (P_fld0 rfl ty_fl_38_0 rfl)) ?_
    refine L_val rfl rfl rfl (V_load rfl rfl ty_sc_27 (Rd.blk .h0 rfl)) ?_
    refine L_val rfl rfl rfl (OpP.v (P_move rfl rfl)) ?_
    refine L_val rfl rfl rfl (OpP.v (P_eql rfl rfl rfl)) ?_
    refine E_bool (t := 95) rfl (fun f2 => ?_) (fun f2 => ?_)
    ·skip
     have f2 := of_decide_eq_true f2
     refine L_val rfl rfl rfl (OpP.v (P_pick rfl rfl rfl)) ?_
     refine L_nil ?_
     refine St.env (.cons (t := 6) rfl (.cons (t := 7) rfl (.cons (t := 8) rfl (.cons (t := 9) rfl (.cons (t := 12) rfl (.cons (t := 96) rfl .nil)))))) ?_
     refine Q_then ?_
     refine R_condT rfl ?_
     refine R_seq ?_
     refine R_region ?_
     refine L_val rfl rfl rfl (V_loadAgg rfl rfl ty_ag_38 (Rds.blk .h0) (rfl)) ?_
     refine L_op rfl (W_storeAll rfl rfl rfl rfl ty_ag_38 (rfl) (Rec.one x) .h2 (rfl) ?_)
     refine L_val rfl rfl rfl (OpP.v (P_assign rfl rfl)) ?_
     refine L_val rfl rfl rfl (OpP.v (P_assign rfl rfl)) ?_
     refine L_nil ?_
     refine St.env (.cons (t := 6) rfl (.cons (t := 7) rfl (.cons (t := 8) rfl (.cons (t := 9) rfl .nil)))) ?_
     refine Q_then ?_
     refine R_ret ?_
     refine Q_block_ret ?_
     refine Q_then_ret ?_
     exact R_endV rfl rfl (.cell rfl (Rds.loadVar ty_ag_38 (Rds.blk .h2) rfl) (.tmp rfl (.tmp rfl .nil))) (by rw [verV_one]; rw [if_neg hob, if_pos ⟨f1, f2⟩]; rfl)
    ·skip
     have f2 := of_decide_eq_false f2
     refine L_val rfl rfl rfl (OpP.v (P_pick rfl rfl rfl)) ?_
     refine L_nil ?_
     refine St.env (.cons (t := 6) rfl (.cons (t := 7) rfl (.cons (t := 8) rfl (.cons (t := 9) rfl (.cons (t := 12) rfl (.cons (t := 96) rfl .nil)))))) ?_
     refine Q_then ?_
     refine R_condF rfl ?_
     refine R_skip ?_
     refine Q_block ?_
     refine Q_then ?_
     refine R_seq ?_
     refine R_region ?_
     refine L_val rfl rfl rfl (OpP.v (P_buildStruct rfl ty_pl_38 ty_ze_38 rfl rfl (rfl))) ?_
     refine L_val rfl rfl rfl (OpP.v (P_move rfl rfl)) ?_
     refine L_op rfl (W_storeAll rfl rfl rfl rfl ty_ag_38 (rfl) (Rec.one acc0) .h2 (rfl) ?_)
     refine L_val rfl rfl rfl (OpP.v (P_assign rfl rfl)) ?_
     refine L_val rfl rfl rfl (OpP.v (P_assign rfl rfl)) ?_
     refine L_nil ?_
     refine St.env (.cons (t := 6) rfl (.cons (t := 7) rfl (.cons (t := 8) rfl .nil))) ?_
     refine Q_then ?_
     refine R_ret ?_
     exact R_endV rfl rfl (.cell rfl (Rds.loadVar ty_ag_38 (Rds.blk .h2) rfl) (.tmp rfl (.tmp rfl .nil))) (by rw [verV_one]; first | (rw [if_pos hob]; rfl) | (rw [if_neg hob, if_neg (fun h9 => by first | exact f1 h9.1 | exact f2 h9.2)]; rfl))
   ·skip
    have f1 := of_decide_eq_false f1
    refine L_val rfl rfl rfl (OpP.v (P_move rfl rfl)) ?_
    refine L_no rfl rfl rfl ?_
    refine L_no rfl rfl rfl ?_
    refine L_no rfl rfl rfl ?_
    refine L_no rfl rfl rfl ?_
    refine L_val rfl rfl rfl (OpP.v (P_pick rfl rfl rfl)) ?_
    refine L_nil ?_
    refine St.env (.cons (t := 6) rfl (.cons (t := 7) rfl (.cons (t := 8) rfl (.cons (t := 9) rfl (.cons (t := 12) rfl (.cons (t := 96) rfl .nil)))))) ?_
    refine Q_then ?_
    refine R_condF rfl ?_
    refine R_skip ?_
    refine Q_block ?_
    refine Q_then ?_
    refine R_seq ?_
    refine R_region ?_
    refine L_val rfl rfl rfl (OpP.v (P_buildStruct rfl ty_pl_38 ty_ze_38 rfl rfl (rfl))) ?_
    refine L_val rfl rfl rfl (OpP.v (P_move rfl rfl)) ?_
    refine L_op rfl (W_storeAll rfl rfl rfl rfl ty_ag_38 (rfl) (Rec.one acc0) .h2 (rfl) ?_)
    refine L_val rfl rfl rfl (OpP.v (P_assign rfl rfl)) ?_
    refine L_val rfl rfl rfl (OpP.v (P_assign rfl rfl)) ?_
    refine L_nil ?_
    refine St.env (.cons (t := 6) rfl (.cons (t := 7) rfl (.cons (t := 8) rfl .nil))) ?_
    refine Q_then ?_
    refine R_ret ?_
    exact R_endV rfl rfl (.cell rfl (Rds.loadVar ty_ag_38 (Rds.blk .h2) rfl) (.tmp rfl (.tmp rfl .nil))) (by rw [verV_one]; first | (rw [if_pos hob]; rfl) | (rw [if_neg hob, if_neg (fun h9 => by first | exact f1 h9.1 | exact f2 h9.2)]; rfl))
end Go.Proofs.YtfhjhaogmdaepaaGreatDoor

/- Plain: what Verify answers to Prove's own witness. Printed by gen.py. -/
set_option linter.unusedVariables false
set_option linter.unusedSimpArgs false
set_option maxRecDepth 100000
namespace Go.Proofs.YtfhjhaogmdaepaaGreatDoor
open Go Go.RowKit Go.Proofs
theorem idx_hit {l : List Acc} (h : AccFine l) {a : Int} (hb : spotB l a = true) : idxG (isAc a) l = (spotI l a : Int) ∧ spotI l a < l.length ∧ (accAt l (spotI l a)).a = a := by
 have hb' := hb
 unfold spotB at hb
 rw [Bool.and_eq_true, decide_eq_true_eq, decide_eq_true_eq] at hb
 obtain ⟨h1, h2⟩ := hb
 refine ⟨idxG_hit (fun j m' hj hm => ?_) (accAt_get h1) (decide_eq_true h2), h1, h2⟩
 refine decide_eq_false fun e => ?_
 have h3 := (spot_fine h a).1 j hj
 rw [accAt_of hm] at h3; omega
theorem idx_miss {l : List Acc} (h : AccFine l) {a : Int} (hb : spotB l a = false) : idxG (isAc a) l = -1 := by
 refine idxG_none fun j m' hj hm => decide_eq_false fun e => ?_
 have := (spotB_iff h a).2 ⟨j, hj, by rw [accAt_of hm]; exact e⟩
 rw [hb] at this; cases this
theorem find_hit {l : List Acc} (h : AccFine l) {a : Int} (hb : spotB l a = true) : findE l a = 0 ∧ findX l a = accAt l (spotI l a) := by
 obtain ⟨h1, h2, h3⟩ := idx_hit h hb
 have h4 : ¬ (idxG (isAc a) l < 0 ∨ a = 0) := by
  rw [h1]; have := h.no0 _ h2; rw [h3] at this; omega
 unfold findE findX
 rw [if_neg h4, if_neg h4, h1]; exact ⟨rfl, rfl⟩
theorem find_miss {l : List Acc} (h : AccFine l) {a : Int} (hb : spotB l a = false) : findE l a = 85 ∧ findX l a = acc0 := by
 have h4 : idxG (isAc a) l < 0 ∨ a = 0 := by rw [idx_miss h hb]; exact .inl (by decide)
 unfold findE findX
 rw [if_pos h4, if_pos h4]; exact ⟨rfl, rfl⟩
theorem ver_ok {gl : Nat → Obj} (hG : Globs gl) (root R : List Int) (hroot : root.length = 32) (hR : R.length = 32) (ub pb : Option Addr) (uc pc : Nat) (ac : List Acc) (ps : List Pf) (hc : ac.length ≤ uc) (hpc : ps.length ≤ pc) (hps : ∀ p ∈ ps, PfIn p) (a : Int) : SpecV (cx gl) 12 [.agg (ints .u8 (root)).toArray, .int .u64 a, .agg (wiC R (.slice ub ac.length uc) (.slice pb ps.length pc)).toArray] (fun w => WitRow w ub ac pb ps) (verV root R a ac ps) := by
 match ac, ps, hc, hpc, hps with
 | [], [], _, _, _ => exact (ver_none hG root R hroot hR ub pb uc pc a).mono (fun _ _ => trivial) rfl
 | [x], [p], hc, hpc, hps => exact ver_one hG root R hroot hR ub pb uc pc [x] [p] hc hpc hps a x p rfl rfl rfl rfl
 | [x, y], [p, q], hc, hpc, hps => exact ver_two hG root R hroot hR ub pb uc pc [x, y] [p, q] hc hpc hps a x y p q rfl rfl rfl rfl rfl rfl
 | [], _ :: _, hc, hpc, hps => exact (ver_bad root R hroot hR ub pb uc pc [] _ hc hpc hps a (.inr (by simp))).mono (fun _ h => h) rfl
 | [_], [], hc, hpc, hps => exact (ver_bad root R hroot hR ub pb uc pc [_] [] hc hpc hps a (.inr (by simp))).mono (fun _ h => h) rfl
 | [_], _ :: _ :: _, hc, hpc, hps => exact (ver_bad root R hroot hR ub pb uc pc [_] _ hc hpc hps a (.inr (by simp))).mono (fun _ h => h) rfl
 | [_, _], [], hc, hpc, hps => exact (ver_bad root R hroot hR ub pb uc pc [_, _] [] hc hpc hps a (.inr (by simp))).mono (fun _ h => h) rfl
 | [_, _], [_], hc, hpc, hps => exact (ver_bad root R hroot hR ub pb uc pc [_, _] [_] hc hpc hps a (.inr (by simp))).mono (fun _ h => h) rfl
 | [_, _], _ :: _ :: _ :: _, hc, hpc, hps => exact (ver_bad root R hroot hR ub pb uc pc [_, _] _ hc hpc hps a (.inr (by simp))).mono (fun _ h => h) rfl
 | _ :: _ :: _ :: _, _, hc, hpc, hps => exact (ver_bad root R hroot hR ub pb uc pc (_ :: _ :: _ :: _) _ hc hpc hps a (.inl (by simp))).mono (fun _ h => h) rfl
end Go.Proofs.YtfhjhaogmdaepaaGreatDoor

/- Walks: what a proof binds. Printed by gen.py. -/
set_option linter.unusedVariables false
set_option linter.unusedSimpArgs false
set_option maxRecDepth 100000
namespace Go.Proofs.YtfhjhaogmdaepaaGreatDoor
open Go Go.RowKit Go.Proofs
theorem isB_leaf (x : List Int) : IsB (leafH x) := isB_sha _
theorem isB_climb {t : List Int} (ht : IsB t) : ∀ (es : List (List Int)) (ds : List Bool), IsB (climb t es ds) := by
 intro es
 induction es generalizing t with
 | nil => intro ds; exact ht
 | cons a es ih => intro ds; cases ds with
  | nil => exact ht
  | cons d ds =>
   refine ih ?_ ds
   unfold stepH; split <;> exact isB_sha _
theorem isB_lead {n i : Nat} {es : List (List Int)} {t : List Int} (ht : IsB t) : IsB (leadH n i es t) := isB_climb ht _ _
theorem verE_zero {root : List Int} {total index : Int} {hs : List (List Int)} {item : List Int} (h : verE root total index hs item = 0) : item.length ≤ 1048576 ∧ fitsB total index hs.length = true ∧ sha (2 :: (numB total ++ leadH total.toNat index.toNat hs (leafH item))) = root := by
 have hp : pathE total index hs item = 0 := by
  unfold verE at h
  by_cases hp : pathE total index hs item = 0
  ·exact hp
  ·rw [if_neg hp] at h; exact absurd h hp
 have hd : pathD total index hs item = root := by
  unfold verE at h
  rw [if_pos hp] at h
  by_cases hd : pathD total index hs item = root
  ·exact hd
  ·rw [if_neg hd] at h; cases h
 unfold pathD at hd
 rw [if_pos hp] at hd
 unfold pathE at hp
 by_cases h1 : 1048576 < item.length
 ·rw [if_pos h1] at hp; cases hp
 ·rw [if_neg h1] at hp
  by_cases h2 : fitsB total index hs.length = true
  ·exact ⟨by omega, h2, hd⟩
  ·rw [if_neg h2] at hp; cases hp
theorem lead_ok {gl : Nat → Obj} (hG : GlobsR gl) (n i : Nat) (bh : Option Addr) (ch : Nat) (hs : List (List Int)) (ib : Option Addr) (ic : Nat) (item : List Int) (h1 : 1 ≤ n) (hn : n ≤ 65536) (hi : i < n) (hlen : hs.length = (turnsH n i).length) (hh : ∀ h ∈ hs, h.length = 32) (hch : hs.length ≤ ch) (him : item.length ≤ 140737488355000) : SpecV (cx gl) 131 [.int .i64 (n : Int), .int .i64 (i : Int), .slice bh hs.length ch, .slice ib item.length ic] (fun w => Row w bh (flat .u8 hs) ∧ Row w ib (ints .u8 item)) (.agg (ints .u8 (leadH n i hs (leafH item))).toArray) := by
 refine Spec.enter (C := cx gl) Tryz.func131 rfl 17 rfl rfl fun w0 h0 hsep hsub hpre => ?_
 obtain rfl : h0 = Heap.none := hsep
 show St (cx gl) _ [(0, .int .i64 (n : Int)), (1, .int .i64 (i : Int)), (2, .slice bh hs.length ch), (3, .slice ib item.length ic)] _ _
 refine R_seq ?_
 refine R_region ?_
 refine L_op rfl (W_alloc rfl rfl rfl ty_ze_29 fun b8 => ?_)
 refine L_nil ?_
 refine Q_then ?_
 refine R_seq ?_
 refine R_region ?_
 refine L_val rfl rfl rfl (OpP.v (P_move rfl rfl)) ?_
 refine L_op rfl (W_callV rfl rfl rfl rfl fn_ca_61 (rleaf_ok hG ib ic item him) ((Sn.row hpre.2 rfl).rw_) ?_)
 refine L_op rfl (W_alloc rfl rfl rfl ty_ze_29 fun b9 => ?_)
 refine L_op rfl (W_storeAll rfl rfl rfl rfl ty_ag_29 (by rw [ints_length]; exact sha_length _) (ints_one) .h0 (by rw [ints_length]; exact sha_length _) ?_)
 refine L_nil ?_
 refine St.env (.cons (t := 0) rfl (.cons (t := 1) rfl (.cons (t := 2) rfl (.cons (t := 8) rfl (.cons (t := 9) rfl .nil))))) ?_
 refine Q_then ?_
 refine R_seq ?_
 refine R_region ?_
 refine L_val rfl rfl rfl (OpP.v (P_move rfl rfl)) ?_
 refine L_val rfl rfl rfl (OpP.v (P_move rfl rfl)) ?_
 refine L_val rfl rfl rfl (OpP.v (P_move rfl rfl)) ?_
 refine L_val rfl rfl rfl (V_loadAgg rfl rfl ty_ag_29 (Rds.blk .h0) (by rw [ints_length]; exact sha_length _)) ?_
 refine L_op rfl (W_callV rfl rfl rfl rfl fn_ca_62 (up_ok hG (n + 1) (by omega) n i bh ch hs (leafH item) (by omega) h1 hi hlen hh hch (leafH_length _)) ((Sn.row hpre.1 rfl).rw_) ?_)
 refine L_op rfl (W_storeAll rfl rfl rfl rfl ty_ag_29 (by rw [ints_length, leadH_length (leafH_length _)]) (ints_one) .h1 (by rw [ints_length, leadH_length (leafH_length _)]; rfl) ?_)
 refine L_nil ?_
 refine St.env (.cons (t := 8) rfl .nil) ?_
 refine Q_then ?_
 refine R_ret ?_
 exact R_endV rfl rfl (.cell rfl (Rds.loadVar ty_ag_29 (Rds.blk .h1) (by rw [ints_length, leadH_length (leafH_length _)])) .nil) (rfl)
end Go.Proofs.YtfhjhaogmdaepaaGreatDoor
