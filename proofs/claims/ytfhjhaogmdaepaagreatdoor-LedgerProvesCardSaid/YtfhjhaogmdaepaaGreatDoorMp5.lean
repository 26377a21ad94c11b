/- Texts that ledgerProves_holds leans on, part 5: each says at its head what it holds; no condition beyond its theorems' own. -/
import Derived.Test.YtfhjhaogmdaepaaGreatDoorMp4
/- The reference: accounts, sums, rows, places. Printed by gen.py. -/
set_option linter.unusedVariables false
set_option linter.unusedSimpArgs false
set_option maxRecDepth 100000
namespace Go.Proofs.YtfhjhaogmdaepaaGreatDoor
open Go Go.RowKit Go.Proofs
def raccE (l : List Acc) : Int := if 65536 < l.length then 86 else accE l
/-- Balances and bonds, one by one. -/
def sumL (l : List Acc) : List Int := l.flatMap fun x => [x.bal, x.bond]
theorem sumL_snoc {l : List Acc} {i : Nat} {x : Acc} (h : l[i]? = some x) : sumL (l.take (i + 1)) = sumL (l.take i) ++ [x.bal, x.bond] := by
 unfold sumL; rw [List.take_add_one, h, List.flatMap_append]; rfl
theorem sumL_sum (l : List Acc) : (sumL l).sum = sumA l := by
 induction l with
 | nil => rfl
 | cons x l ih => rw [sumA_cons, ← ih]; show x.bal + (x.bond + (sumL l).sum) = _; omega
theorem sumL_nn {l : List Acc} (h : ∀ x ∈ l, x.ok) : ∀ y ∈ sumL l, 0 ≤ y := by
 intro y hy
 obtain ⟨x, hx, hy⟩ := List.mem_flatMap.1 hy
 simp only [List.mem_cons, List.not_mem_nil, or_false] at hy
 obtain ⟨_, ⟨h2, _⟩, ⟨h3, _⟩, _⟩ := h x hx
 rcases hy with rfl | rfl <;> assumption
theorem amts_nn {l : List Rel} (h : ∀ x ∈ l, x.ok) : ∀ y ∈ l.map Rel.amt, 0 ≤ y := by
 intro y hy
 obtain ⟨x, hx, rfl⟩ := List.mem_map.1 hy
 exact (h x hx).2.2.2.1
theorem amts_snoc {l : List Rel} {i : Nat} {x : Rel} (h : l[i]? = some x) : (l.take (i + 1)).map Rel.amt = (l.take i).map Rel.amt ++ [x.amt] := by
 rw [List.take_add_one, h, List.map_append]; rfl
theorem addC_nn {t x : Int} (ht : 0 ≤ t) (hx : 0 ≤ x) : 0 ≤ addC t x := by
 unfold addC; split
 ·decide
 ·omega
theorem capF_nn : ∀ (l : List Int) (t : Int), (∀ x ∈ l, 0 ≤ x) → 0 ≤ t → 0 ≤ capF t l
 | [], _, _, h => h
 | x :: l, t, hl, h => capF_nn l _ (fun y hy => hl y (by simp [hy])) (addC_nn h (hl x (by simp)))
/-- What the document's sum answers. -/
def totC (l : List Acc) (r : List Rel) (bu : Int) : Int := capF (capF (addC 0 bu) (sumL l)) (r.map Rel.amt)
theorem totC_spec {l : List Acc} {r : List Rel} {bu : Int} (hl : ∀ x ∈ l, x.ok) (hr : ∀ x ∈ r, x.ok) (hb : 0 ≤ bu) : (totC l r bu ≤ MS ↔ bu + sumA l + sumR r ≤ MS) ∧ (totC l r bu ≤ MS → totC l r bu = bu + sumA l + sumR r) := by
 have h := capF_spec (l := bu :: (sumL l ++ r.map Rel.amt)) (fun x hx => by
  rcases List.mem_cons.1 hx with rfl | hx
  ·exact hb
  ·rcases List.mem_append.1 hx with hx | hx
   ·exact sumL_nn hl x hx
   ·exact amts_nn hr x hx) 0 (Int.le_refl _)
 have e : capF 0 (bu :: (sumL l ++ r.map Rel.amt)) = totC l r bu := by
  show capF (addC 0 bu) (sumL l ++ r.map Rel.amt) = _
  rw [capF_app]; rfl
 have e2 : (0 : Int) + (bu :: (sumL l ++ r.map Rel.amt)).sum = bu + sumA l + sumR r := by
  rw [List.sum_cons, List.sum_append, sumL_sum]; show 0 + (bu + (sumA l + sumR r)) = _; omega
 rw [e, e2] at h
 exact h
theorem laterB_no (x y : Rel) : laterB x y = false ↔ ¬ (y.h < x.h ∨ (x.h = y.h ∧ y.a < x.a)) := by
 unfold laterB
 rw [← Bool.not_eq_true, Bool.or_eq_true, Bool.and_eq_true, decide_eq_true_eq, decide_eq_true_eq, decide_eq_true_eq]
def isAz (a : Int) (x : Acc) : Bool := decide (x.a = a) && decide (a ≠ 0)
theorem isAz_idx (l : List Acc) (a : Int) : idxG (isAz a) l = if a = 0 then -1 else idxG (isAc a) l := by
 split
 ·rename_i h
  exact idxG_none fun j m' _ _ => by unfold isAz; rw [decide_eq_false (p := a ≠ 0) (fun h9 => h9 h), Bool.and_false]
 ·rename_i h
  have : isAz a = isAc a := by funext x; unfold isAz isAc; rw [decide_eq_true h, Bool.and_true]
  rw [this]
theorem radd_ok {gl : Nat → Obj} (t x : Int) (ht : 0 ≤ t) (hx : 0 ≤ x) : SpecV (cx gl) 133 [.int .u64 t, .int .u64 x] noPre (.int .u64 (addC t x)) := by
 refine Spec.enter (C := cx gl) Tryz.func133 rfl 14 rfl rfl fun w0 h0 hsep hsub hpre => ?_
 obtain rfl : h0 = Heap.none := hsep
 show St (cx gl) _ [(0, .int .u64 t), (1, .int .u64 x)] _ _
 have hms : MS = 1152921504606846975 := rfl
 refine R_seq ?_
 refine R_region ?_
 refine L_val rfl rfl rfl (OpP.v (P_assign rfl rfl)) ?_
 refine L_nil ?_
 refine Q_then ?_
 refine R_seq ?_
 refine R_seq ?_
 refine R_region ?_
 refine L_val rfl rfl rfl (OpP.v (P_move rfl rfl)) ?_
 refine L_val rfl rfl rfl (OpP.v (P_gtr rfl rfl rfl)) ?_
 refine E_bool (t := 6) rfl (fun q1 => ?_) (fun q1 => ?_)
 ·skip
  have q1 := of_decide_eq_true q1
  refine L_val rfl rfl rfl (OpP.v (P_move rfl rfl)) ?_
  refine L_no rfl rfl rfl ?_
  refine L_no rfl rfl rfl ?_
  refine L_val rfl rfl rfl (OpP.v (P_pick rfl rfl rfl)) ?_
  refine L_nil ?_
  refine St.env (.cons (t := 0) rfl (.cons (t := 1) rfl (.cons (t := 4) rfl (.cons (t := 10) rfl .nil)))) ?_
  refine Q_then ?_
  refine R_condT rfl ?_
  refine R_seq ?_
  refine R_region ?_
  refine L_val rfl rfl rfl (OpP.v (P_assign rfl rfl)) ?_
  refine L_nil ?_
  refine St.env (.cons (t := 0) rfl (.cons (t := 1) rfl (.cons (t := 4) rfl .nil))) ?_
  refine Q_then ?_
  refine R_ret ?_
  refine Q_then_ret ?_
  exact R_endV rfl rfl (.tmp rfl .nil) (by unfold addC; rw [if_pos (by rw [hms]; omega)]; rfl)
 ·skip
  have q1 := of_decide_eq_false q1
  refine L_val rfl rfl rfl (OpP.v (P_move rfl rfl)) ?_
  refine L_val rfl rfl rfl (OpP.v (P_move rfl rfl)) ?_
  refine L_val rfl rfl rfl (OpP.v (P_gtr rfl rfl rfl)) ?_
  refine L_val rfl rfl rfl (OpP.v (P_pick rfl rfl rfl)) ?_
  refine L_nil ?_
  refine St.env (.cons (t := 0) rfl (.cons (t := 1) rfl (.cons (t := 4) rfl (.cons (t := 10) rfl .nil)))) ?_
  refine Q_then ?_
  refine R_condP rfl (fun q2 => ?_) (fun q2 => ?_)
  ·skip
   refine R_seq ?_
   refine R_region ?_
   refine L_val rfl rfl rfl (OpP.v (P_assign rfl rfl)) ?_
   refine L_nil ?_
   refine St.env (.cons (t := 0) rfl (.cons (t := 1) rfl (.cons (t := 4) rfl .nil))) ?_
   refine Q_then ?_
   refine R_ret ?_
   refine Q_then_ret ?_
   exact R_endV rfl rfl (.tmp rfl .nil) (by unfold addC; rw [if_pos (by rw [hms]; omega)]; rfl)
  ·skip
   refine R_skip ?_
   refine Q_then ?_
   refine R_seq ?_
   refine R_region ?_
   refine L_val rfl rfl rfl (OpP.v (P_move rfl rfl)) ?_
   refine L_val rfl rfl rfl (OpP.v (P_move rfl rfl)) ?_
   refine L_val rfl rfl rfl (OpP.v (P_addN rfl rfl rfl (by simp only [fits]; omega))) ?_
   refine L_val rfl rfl rfl (OpP.v (P_assign rfl rfl)) ?_
   refine L_nil ?_
   refine St.env (.cons (t := 4) rfl .nil) ?_
   refine Q_then ?_
   refine R_ret ?_
   exact R_endV rfl rfl (.tmp rfl .nil) (by unfold addC; rw [if_neg (by rw [hms]; omega)]; rfl)
theorem racc_ok {gl : Nat → Obj} (base : Option Addr) (c : Nat) (l : List Acc) (hc : l.length ≤ c) (hm : l.length ≤ 3518437208883) : SpecV (cx gl) 69 [.slice base l.length c] (fun w => Row w base (rc l)) (.int .i64 (raccE l)) := by
 refine Spec.enter (C := cx gl) Tryz.func69 rfl 49 rfl rfl fun w0 h0 hsep hsub hpre => ?_
 obtain rfl : h0 = Heap.none := hsep
 show St (cx gl) _ [(0, .slice base l.length c)] _ _
 have hms : MS = 1152921504606846975 := rfl
 refine R_seq ?_
 refine R_region ?_
 refine L_val rfl rfl rfl (OpP.v (P_assign rfl rfl)) ?_
 refine L_nil ?_
 refine Q_then ?_
 refine R_seq ?_
 refine R_seq ?_
 refine R_region ?_
 refine L_val rfl rfl rfl (OpP.v (P_move rfl rfl)) ?_
 refine L_val rfl rfl rfl (OpP.v (P_len rfl ty_sl_22 rfl)) ?_
 refine L_val rfl rfl rfl (OpP.v (P_gtr rfl rfl rfl)) ?_
 refine L_nil ?_
 refine St.env (.cons (t := 0) rfl (.cons (t := 2) rfl (.cons (t := 6) rfl .nil))) ?_
 refine Q_then ?_
 refine R_condP rfl (fun hbig => ?_) (fun hbig => ?_)
 ·skip
  refine R_seq ?_
  refine R_region ?_
  refine L_val rfl rfl rfl (OpP.v (P_assign rfl rfl)) ?_
  refine L_nil ?_
  refine St.env (.cons (t := 0) rfl (.cons (t := 2) rfl .nil)) ?_
  refine Q_then ?_
  refine R_ret ?_
  refine Q_then_ret ?_
  exact R_endV rfl rfl (.tmp rfl .nil) (by unfold raccE; rw [if_pos (by omega)]; rfl)
 ·skip
  have hbig : ¬ 65536 < l.length := by omega
  refine R_skip ?_
  refine Q_then ?_
  refine R_seq ?_
  refine R_seq ?_
  refine R_region ?_
  refine L_val rfl rfl rfl (OpP.v (P_assign rfl rfl)) ?_
  refine L_nil ?_
  refine St.env (.cons (t := 0) rfl (.cons (t := 2) rfl (.cons (t := 3) rfl .nil))) ?_
  refine Q_then ?_
  refine R_block ?_
  refine R_loopE (G := Nat) (.cons (t := 0) rfl (.cons (t := 2) rfl .nil)) (fun g => [(3, .int .i64 (g : Int))]) (fun _ => _) (fun g => g ≤ l.length ∧ firstE (accBad l) g = 0) (fun g => l.length - g) (0) (by show (0) ≤ l.length ∧ firstE (accBad l) (0) = 0; exact ⟨Nat.zero_le _, rfl⟩) (by repeat (first | exact .nil | refine .cons rfl ?_ | refine .consE rfl (by first | rfl | (congr 1; omega) | (congr 1; push_cast; omega)) ?_)) (Weak.refl _) ?_
  intro i hinv
  replace hinv : i ≤ l.length ∧ firstE (accBad l) i = 0 := hinv
  show St (cx gl) _ ((3, .int .i64 (i : Int)) :: _) _ _
  obtain ⟨hi, h0⟩ := hinv
  refine R_seq ?_
  refine R_seq ?_
  refine R_region ?_
  refine L_val rfl rfl rfl (OpP.v (P_move rfl rfl)) ?_
  refine L_val rfl rfl rfl (OpP.v (P_move rfl rfl)) ?_
  refine L_val rfl rfl rfl (OpP.v (P_len rfl ty_sl_22 rfl)) ?_
  refine L_val rfl rfl rfl (OpP.v (P_lss rfl rfl rfl)) ?_
  refine L_nil ?_
  refine Q_then ?_
  refine R_condP rfl (fun hlt => ?_) (fun hlt => ?_)
  ·skip
   have hx0 := accAt_get (l := l) (i := i) (by omega)
   obtain ⟨x, ex⟩ : ∃ x, x = accAt l i := ⟨_, rfl⟩
   have hx : l[i]? = some x := by rw [ex]; exact hx0
   obtain ⟨pb, pj, rfl, hrow⟩ := hpre.some_ (by rw [rc_length]; show 0 < _ * 5; omega)
   refine R_skip ?_
   refine Q_then ?_
   refine R_seq ?_
   refine R_block ?_
   refine R_seq ?_
   refine R_seq ?_
   refine R_region ?_
   refine L_val rfl rfl rfl (OpP.v (P_move rfl rfl)) ?_
   refine L_val rfl rfl rfl (OpP.v (P_move rfl rfl)) ?_
   refine L_val rfl rfl rfl (OpP.v (P_ixs (i) rfl ty_sl_22 rfl rfl (by first | rfl | omega) (by omega))) ?_
   refine L_val rfl rfl rfl (OpP.v (P_fld rfl ty_fl_38_0 rfl)) ?_
   refine L_val rfl rfl rfl (V_load rfl rfl ty_sc_27 (rd_rc (Rds.row hrow rfl) hx rfl)) ?_
   refine L_val rfl rfl rfl (OpP.v (P_eql rfl rfl rfl)) ?_
   refine L_nil ?_
   refine Q_then ?_
   refine R_condP rfl (fun ha => ?_) (fun ha => ?_)
   ·skip
    refine R_seq ?_
    refine R_region ?_
    refine L_val rfl rfl rfl (OpP.v (P_assign rfl rfl)) ?_
    refine L_nil ?_
    refine Q_then ?_
    refine R_ret ?_
    refine Q_then_ret ?_
    refine Q_block_ret ?_
    refine Q_then_ret ?_
    refine Q_then_ret ?_
    refine Q_block_ret ?_
    refine Q_then_ret ?_
    exact R_endV rfl rfl (.tmp rfl .nil) (by unfold raccE; rw [if_neg hbig, show accE l = 85 from firstE_hit h0 (show accBad l i = 85 by unfold accBad; rw [← ex]; rw [if_pos ha]) (by decide) (by omega)]; rfl)
   ·skip
    refine R_skip ?_
    refine Q_then ?_
    refine R_seq ?_
    refine R_seq ?_
    refine R_open [(0, 0), (1, 0), (2, 0), (3, 0), (4, 0), (5, 0), (6, 0), (7, 1), (8, 0), (9, 0), (10, 0), (11, 0), (12, 0), (13, 1), (14, 0), (15, 0)] mixed (by kernel_rfl) (QOk.then (QOk.then (QOk.block (QOk.then (QOk.then (QOk.block (QOk.then QOk.body))))))) ?_
    refine O_pure rfl rfl rfl rfl (P_move rfl rfl) ?_
    refine O_pure rfl rfl rfl rfl (P_gtr rfl rfl rfl) ?_
    refine E_bool (t := 20) rfl (fun hi0 => ?_) (fun hi0 => ?_)
    ·skip
     have hi0 : 0 < i := by have := of_decide_eq_true hi0; omega
     obtain ⟨y, ey⟩ : ∃ y, y = accAt l (i - 1) := ⟨_, rfl⟩
     have hy : l[i - 1]? = some y := by rw [ey]; exact accAt_get (by omega)
     refine O_pure rfl rfl rfl rfl (P_move rfl rfl) ?_
     refine O_pure rfl rfl rfl rfl (P_move rfl rfl) ?_
     refine O_pure rfl rfl rfl rfl (P_move rfl rfl) ?_
     refine O_pure rfl rfl rfl rfl (P_ixs (i) rfl ty_sl_22 rfl rfl (by first | rfl | omega) (by omega)) ?_
     refine O_pure rfl rfl rfl rfl (P_fld rfl ty_fl_38_0 rfl) ?_
     refine O_val rfl rfl rfl rfl (V_load rfl rfl ty_sc_27 (rd_rc (Rds.row hrow rfl) hx rfl)) ?_
     refine O_pure rfl rfl rfl rfl (P_move rfl rfl) ?_
     refine O_pure rfl rfl rfl rfl (P_move rfl rfl) ?_
     first | (refine O_pure rfl rfl rfl rfl (P_subN rfl rfl rfl (by simp only [fits]; omega)) ?_) | (refine O_pure rfl rfl rfl rfl (P_sub rfl rfl rfl) ?_)
     refine O_pure rfl rfl rfl rfl (P_ixs (i - 1) rfl ty_sl_22 rfl rfl (by first | rfl | omega) (by omega)) ?_
     refine O_pure rfl rfl rfl rfl (P_fld rfl ty_fl_38_0 rfl) ?_
     refine O_val rfl rfl rfl rfl (V_load rfl rfl ty_sc_27 (rd_rc (Rds.row hrow rfl) hy rfl)) ?_
     refine O_pure rfl rfl rfl rfl (P_leq rfl rfl rfl) ?_
     refine O_pure rfl rfl rfl rfl (P_pick rfl rfl rfl) ?_
     refine O_nil ?_
     refine Q_then ?_
     refine R_condP rfl (fun hle => ?_) (fun hle => ?_)
     ·skip
      refine R_seq ?_
      refine R_region ?_
      refine L_val rfl rfl rfl (OpP.v (P_assign rfl rfl)) ?_
      refine L_nil ?_
      refine Q_then ?_
      refine R_ret ?_
      refine Q_then_ret ?_
      refine Q_block_ret ?_
      refine Q_then_ret ?_
      refine Q_then_ret ?_
      refine Q_block_ret ?_
      refine Q_then_ret ?_
      exact R_endV rfl rfl (.tmp rfl .nil) (by unfold raccE; rw [if_neg hbig, show accE l = 42 from firstE_hit h0 (show accBad l i = 42 by unfold accBad; rw [← ex]; rw [if_neg ha, if_pos ⟨hi0, by rw [← ey]; exact hle⟩]) (by decide) (by omega)]; rfl)
     ·skip
      have hn42 : ¬ (0 < i ∧ x.a ≤ (accAt l (i - 1)).a) := by rw [← ey]; omega
      refine R_skip ?_
      refine Q_then ?_
      refine R_seq ?_
      refine R_region ?_
      refine L_val rfl rfl rfl (OpP.v (P_move rfl rfl)) ?_
      refine L_val rfl rfl rfl (OpP.v (P_move rfl rfl)) ?_
      refine L_val rfl rfl rfl (OpP.v (P_ixs (i) rfl ty_sl_22 rfl rfl (by first | rfl | omega) (by omega))) ?_
      refine L_val rfl rfl rfl (OpP.v (P_fld rfl ty_fl_38_1 rfl)) ?_
      refine L_val rfl rfl rfl (V_load rfl rfl ty_sc_24 (rd_rc (Rds.row hrow rfl) hx rfl)) ?_
      refine L_val rfl rfl rfl (OpP.v (P_gtr rfl rfl rfl)) ?_
      refine E_bool (t := 40) rfl (fun hb => ?_) (fun hb => ?_)
      ·skip
       have hb := of_decide_eq_true hb
       refine L_val rfl rfl rfl (OpP.v (P_move rfl rfl)) ?_
       refine L_no rfl rfl rfl ?_
       refine L_no rfl rfl rfl ?_
       refine L_no rfl rfl rfl ?_
       refine L_no rfl rfl rfl ?_
       refine L_no rfl rfl rfl ?_
       refine L_no rfl rfl rfl ?_
       refine L_val rfl rfl rfl (OpP.v (P_pick rfl rfl rfl)) ?_
       refine L_nil ?_
       refine Q_then ?_
       refine R_condT rfl ?_
       refine R_seq ?_
       refine R_region ?_
       refine L_val rfl rfl rfl (OpP.v (P_assign rfl rfl)) ?_
       refine L_nil ?_
       refine Q_then ?_
       refine R_ret ?_
       refine Q_block_ret ?_
       refine Q_then_ret ?_
       refine Q_then_ret ?_
       refine Q_block_ret ?_
       refine Q_then_ret ?_
       exact R_endV rfl rfl (.tmp rfl .nil) (by unfold raccE; rw [if_neg hbig, show accE l = 87 from firstE_hit h0 (show accBad l i = 87 by unfold accBad; rw [← ex]; rw [if_neg ha, if_neg hn42, if_pos (by rw [hms]; omega)]) (by decide) (by omega)]; rfl)
      ·skip
       have hb := of_decide_eq_false hb
       refine L_val rfl rfl rfl (OpP.v (P_move rfl rfl)) ?_
       refine L_val rfl rfl rfl (OpP.v (P_move rfl rfl)) ?_
       refine L_val rfl rfl rfl (OpP.v (P_move rfl rfl)) ?_
       refine L_val rfl rfl rfl (OpP.v (P_ixs (i) rfl ty_sl_22 rfl rfl (by first | rfl | omega) (by omega))) ?_
       refine L_val rfl rfl rfl (OpP.v (P_fld rfl ty_fl_38_2 rfl)) ?_
       refine L_val rfl rfl rfl (V_load rfl rfl ty_sc_24 (rd_rc (Rds.row hrow rfl) hx rfl)) ?_
       refine L_val rfl rfl rfl (OpP.v (P_gtr rfl rfl rfl)) ?_
       refine L_val rfl rfl rfl (OpP.v (P_pick rfl rfl rfl)) ?_
       refine L_nil ?_
       refine Q_then ?_
       refine R_condP rfl (fun hd => ?_) (fun hd => ?_)
       ·skip
        refine R_seq ?_
        refine R_region ?_
        refine L_val rfl rfl rfl (OpP.v (P_assign rfl rfl)) ?_
        refine L_nil ?_
        refine Q_then ?_
        refine R_ret ?_
        refine Q_block_ret ?_
        refine Q_then_ret ?_
        refine Q_then_ret ?_
        refine Q_block_ret ?_
        refine Q_then_ret ?_
        exact R_endV rfl rfl (.tmp rfl .nil) (by unfold raccE; rw [if_neg hbig, show accE l = 87 from firstE_hit h0 (show accBad l i = 87 by unfold accBad; rw [← ex]; rw [if_neg ha, if_neg hn42, if_pos (by rw [hms]; omega)]) (by decide) (by omega)]; rfl)
       ·skip
        refine R_skip ?_
        refine Q_block ?_
        refine Q_then ?_
        refine R_region ?_
        refine L_val rfl rfl rfl (OpP.v (P_move rfl rfl)) ?_
        first | (refine L_val rfl rfl rfl (OpP.v (P_addN rfl rfl rfl (by simp only [fits]; omega))) ?_) | (refine L_val rfl rfl rfl (OpP.v (P_add rfl rfl rfl)) ?_)
        refine L_val rfl rfl rfl (OpP.v (P_assign rfl rfl)) ?_
        refine L_nil ?_
        exact Q_round (i + 1) (by show (i + 1) ≤ l.length ∧ firstE (accBad l) (i + 1) = 0; exact ⟨by omega, firstE_next h0 (by unfold accBad; rw [← ex, if_neg ha, if_neg hn42, if_neg (by rw [hms]; omega)])⟩) (by show l.length - (i + 1) < l.length - i; omega) (by repeat (first | exact .nil | refine .cons rfl ?_ | refine .consE rfl (by first | rfl | (congr 1; omega) | (congr 1; push_cast; omega)) ?_)) (Weak.refl _)
    ·skip
     have hi0 : ¬ 0 < i := by have := of_decide_eq_false hi0; omega
     have hn42 : ¬ (0 < i ∧ x.a ≤ (accAt l (i - 1)).a) := by omega
     refine O_pure rfl rfl rfl rfl (P_move rfl rfl) ?_
     refine O_no rfl rfl rfl rfl ?_
     refine O_no rfl rfl rfl rfl ?_
     refine O_no rfl rfl rfl rfl ?_
     refine O_no rfl rfl rfl rfl ?_
     refine O_noX rfl rfl rfl rfl ?_
     refine O_no rfl rfl rfl rfl ?_
     refine O_no rfl rfl rfl rfl ?_
     refine O_no rfl rfl rfl rfl ?_
     refine O_no rfl rfl rfl rfl ?_
     refine O_no rfl rfl rfl rfl ?_
     refine O_noX rfl rfl rfl rfl ?_
     refine O_no rfl rfl rfl rfl ?_
     refine O_pure rfl rfl rfl rfl (P_pick rfl rfl rfl) ?_
     refine O_nil ?_
     refine Q_then ?_
     refine R_condF rfl ?_
     refine R_skip ?_
     refine Q_then ?_
     refine R_seq ?_
     refine R_region ?_
     refine L_val rfl rfl rfl (OpP.v (P_move rfl rfl)) ?_
     refine L_val rfl rfl rfl (OpP.v (P_move rfl rfl)) ?_
     refine L_val rfl rfl rfl (OpP.v (P_ixs (i) rfl ty_sl_22 rfl rfl (by first | rfl | omega) (by omega))) ?_
     refine L_val rfl rfl rfl (OpP.v (P_fld rfl ty_fl_38_1 rfl)) ?_
     refine L_val rfl rfl rfl (V_load rfl rfl ty_sc_24 (rd_rc (Rds.row hrow rfl) hx rfl)) ?_
     refine L_val rfl rfl rfl (OpP.v (P_gtr rfl rfl rfl)) ?_
     refine E_bool (t := 40) rfl (fun hb => ?_) (fun hb => ?_)
     ·skip
      have hb := of_decide_eq_true hb
      refine L_val rfl rfl rfl (OpP.v (P_move rfl rfl)) ?_
      refine L_no rfl rfl rfl ?_
      refine L_no rfl rfl rfl ?_
      refine L_no rfl rfl rfl ?_
      refine L_no rfl rfl rfl ?_
      refine L_no rfl rfl rfl ?_
      refine L_no rfl rfl rfl ?_
      refine L_val rfl rfl rfl (OpP.v (P_pick rfl rfl rfl)) ?_
      refine L_nil ?_
      refine Q_then ?_
      refine R_condT rfl ?_
      refine R_seq ?_
      refine R_region ?_
      refine L_val rfl rfl rfl (OpP.v (P_assign rfl rfl)) ?_
      refine L_nil ?_
      refine Q_then ?_
      refine R_ret ?_
      refine Q_block_ret ?_
      refine Q_then_ret ?_
      refine Q_then_ret ?_
      refine Q_block_ret ?_
      refine Q_then_ret ?_
      exact R_endV rfl rfl (.tmp rfl .nil) (by unfold raccE; rw [if_neg hbig, show accE l = 87 from firstE_hit h0 (show accBad l i = 87 by unfold accBad; rw [← ex]; rw [if_neg ha, if_neg hn42, if_pos (by rw [hms]; omega)]) (by decide) (by omega)]; rfl)
     ·skip
      have hb := of_decide_eq_false hb
      refine L_val rfl rfl rfl (OpP.v (P_move rfl rfl)) ?_
      refine L_val rfl rfl rfl (OpP.v (P_move rfl rfl)) ?_
      refine L_val rfl rfl rfl (OpP.v (P_move rfl rfl)) ?_
      refine L_val rfl rfl rfl (OpP.v (P_ixs (i) rfl ty_sl_22 rfl rfl (by first | rfl | omega) (by omega))) ?_
      refine L_val rfl rfl rfl (OpP.v (P_fld rfl ty_fl_38_2 rfl)) ?_
      refine L_val rfl rfl rfl (V_load rfl rfl ty_sc_24 (rd_rc (Rds.row hrow rfl) hx rfl)) ?_
      refine L_val rfl rfl rfl (OpP.v (P_gtr rfl rfl rfl)) ?_
      refine L_val rfl rfl rfl (OpP.v (P_pick rfl rfl rfl)) ?_
      refine L_nil ?_
      refine Q_then ?_
      refine R_condP rfl (fun hd => ?_) (fun hd => ?_)
      ·skip
       refine R_seq ?_
       refine R_region ?_
       refine L_val rfl rfl rfl (OpP.v (P_assign rfl rfl)) ?_
       refine L_nil ?_
       refine Q_then ?_
       refine R_ret ?_
       refine Q_block_ret ?_
       refine Q_then_ret ?_
       refine Q_then_ret ?_
       refine Q_block_ret ?_
       refine Q_then_ret ?_
       exact R_endV rfl rfl (.tmp rfl .nil) (by unfold raccE; rw [if_neg hbig, show accE l = 87 from firstE_hit h0 (show accBad l i = 87 by unfold accBad; rw [← ex]; rw [if_neg ha, if_neg hn42, if_pos (by rw [hms]; omega)]) (by decide) (by omega)]; rfl)
      ·skip
       refine R_skip ?_
       refine Q_block ?_
       refine Q_then ?_
       refine R_region ?_
       refine L_val rfl rfl rfl (OpP.v (P_move rfl rfl)) ?_
       first | (refine L_val rfl rfl rfl (OpP.v (P_addN rfl rfl rfl (by simp only [fits]; omega))) ?_) | (refine L_val rfl rfl rfl (OpP.v (P_add rfl rfl rfl)) ?_)
       refine L_val rfl rfl rfl (OpP.v (P_assign rfl rfl)) ?_
       refine L_nil ?_
       exact Q_round (i + 1) (by show (i + 1) ≤ l.length ∧ firstE (accBad l) (i + 1) = 0; exact ⟨by omega, firstE_next h0 (by unfold accBad; rw [← ex, if_neg ha, if_neg hn42, if_neg (by rw [hms]; omega)])⟩) (by show l.length - (i + 1) < l.length - i; omega) (by repeat (first | exact .nil | refine .cons rfl ?_ | refine .consE rfl (by first | rfl | (congr 1; omega) | (congr 1; push_cast; omega)) ?_)) (Weak.refl _)
  ·skip
   have hin : i = l.length := by omega
   rw [hin] at h0
   refine R_exit ?_
   refine Q_then_exit ?_
   refine Q_then_exit ?_
   refine Q_block_eq ?_
   refine St.env (.cons (t := 2) rfl .nil) ?_
   refine Q_then ?_
   refine R_seq ?_
   refine R_region ?_
   refine L_val rfl rfl rfl (OpP.v (P_assign rfl rfl)) ?_
   refine L_nil ?_
   refine Q_then ?_
   refine R_ret ?_
   exact R_endV rfl rfl (.tmp rfl .nil) (by unfold raccE; rw [if_neg hbig, show accE l = 0 from h0]; rfl)
theorem rtot_ok {gl : Nat → Obj} (base : Option Addr) (c : Nat) (l : List Acc) (hc : l.length ≤ c)(hm : l.length ≤ 3518437208883)(hok : ∀ x ∈ l, x.ok)(base' : Option Addr) (c' : Nat) (r : List Rel) (hc' : r.length ≤ c')(hm' : r.length ≤ 4398046511104) (hok' : ∀ x ∈ r, x.ok) (bu su : Int) (hbu : u64 bu) : SpecV (cx gl) 70 [.agg (ledV (.slice base l.length c) (.slice base' r.length c') bu su).toArray] (fun w => Row w base (rc l) ∧ Row w base' (rc r)) (.int .u64 (totC l r bu)) := by
 refine Spec.enter (C := cx gl) Tryz.func70 rfl 48 rfl rfl fun w0 h0 hsep hsub hpre => ?_
 obtain rfl : h0 = Heap.none := hsep
 show St (cx gl) _ [(0, .agg (ledV (.slice base l.length c) (.slice base' r.length c') bu su).toArray)] _ _
 refine R_seq ?_
 refine R_region ?_
 refine L_op rfl (W_box (ledV (.slice base l.length c) (.slice base' r.length c') bu su) rfl rfl rfl rfl rfl fun b1 => ?_)
 refine L_val rfl rfl rfl (OpP.v (P_assign rfl rfl)) ?_
 refine L_nil ?_
 refine St.env (.cons (t := 1) rfl (.cons (t := 2) rfl .nil)) ?_
 refine Q_then ?_
 refine R_seq ?_
 refine R_region ?_
 refine L_val rfl rfl rfl (OpP.v (P_fld0 rfl ty_fl_26_2 rfl)) ?_
 refine L_val rfl rfl rfl (V_load rfl rfl ty_sc_24 (Rd.blk .h0 rfl)) ?_
 refine L_op rfl (W_callV rfl rfl rfl rfl fn_ca_133 (radd_ok 0 bu (Int.le_refl _) hbu.1) (fun _ _ => trivial) ?_)
 refine L_val rfl rfl rfl (OpP.v (P_assign rfl rfl)) ?_
 refine L_nil ?_
 refine St.env (.cons (t := 1) rfl (.cons (t := 2) rfl (.cons (t := 3) rfl .nil))) ?_
 refine Q_then ?_
 refine R_seq ?_
 refine R_seq ?_
 refine R_region ?_
 refine L_val rfl rfl rfl (OpP.v (P_assign rfl rfl)) ?_
 refine L_nil ?_
 refine Q_then ?_
 refine R_block ?_
 have hn0 : 0 ≤ addC 0 bu := addC_nn (Int.le_refl _) hbu.1
 refine R_loopE (G := Nat) (.cons (t := 1) rfl (.cons (t := 2) rfl .nil)) (fun g => [(3, .int .u64 (capF (addC 0 bu) (sumL (l.take (g))))), (4, .int .i64 (g : Int))]) (fun _ => _) (fun g => g ≤ l.length) (fun g => l.length - g) (0) (Nat.zero_le _) (by repeat (first | exact .nil | refine .cons rfl ?_ | refine .consE rfl (by first | rfl | (congr 1; omega) | (congr 1; push_cast; omega)) ?_)) (Weak.refl _) ?_
 intro i hinv
 replace hinv : i ≤ l.length := hinv
 show St (cx gl) _ ((3, .int .u64 (capF (addC 0 bu) (sumL (l.take (i))))) :: (4, .int .i64 (i : Int)) :: _) _ _
 refine R_seq ?_
 refine R_seq ?_
 refine R_region ?_
 refine L_val rfl rfl rfl (OpP.v (P_move rfl rfl)) ?_
 refine L_val rfl rfl rfl (OpP.v (P_fld0 rfl ty_fl_26_0 rfl)) ?_
 refine L_val rfl rfl rfl (V_load rfl rfl ty_sc_22 (Rd.blk .h0 rfl)) ?_
 refine L_val rfl rfl rfl (OpP.v (P_len rfl ty_sl_22 rfl)) ?_
 refine L_val rfl rfl rfl (OpP.v (P_lss rfl rfl rfl)) ?_
 refine L_nil ?_
 refine Q_then ?_
 refine R_condP rfl (fun hlt => ?_) (fun hlt => ?_)
 ·skip
  have hi : i ≤ l.length := hinv
  have hx0 := accAt_get (l := l) (i := i) (by omega)
  obtain ⟨x, ex⟩ : ∃ x, x = accAt l i := ⟨_, rfl⟩
  have hx : l[i]? = some x := by rw [ex]; exact hx0
  obtain ⟨pb, pj, rfl, hrow⟩ := hpre.1.some_ (by rw [rc_length]; show 0 < _ * 5; omega)
  obtain ⟨ha1, hb1, hb2, hb3⟩ := hok x (List.mem_of_getElem? hx)
  have hn1 : 0 ≤ capF (addC 0 bu) (sumL (l.take (i))) := capF_nn _ _ (sumL_nn fun y hy => hok y (List.mem_of_mem_take hy)) hn0
  refine R_skip ?_
  refine Q_then ?_
  refine R_seq ?_
  refine R_block ?_
  refine R_seq ?_
  refine R_region ?_
  refine L_val rfl rfl rfl (OpP.v (P_move rfl rfl)) ?_
  refine L_val rfl rfl rfl (OpP.v (P_fld0 rfl ty_fl_26_0 rfl)) ?_
  refine L_val rfl rfl rfl (V_load rfl rfl ty_sc_22 (Rd.blk .h0 rfl)) ?_
  refine L_val rfl rfl rfl (OpP.v (P_move rfl rfl)) ?_
  refine L_val rfl rfl rfl (OpP.v (P_ixs (i) rfl ty_sl_22 rfl rfl (by first | rfl | omega) (by omega))) ?_
  refine L_val rfl rfl rfl (OpP.v (P_fld rfl ty_fl_38_1 rfl)) ?_
  refine L_val rfl rfl rfl (V_load rfl rfl ty_sc_24 (rd_rc (Rds.row hrow rfl) hx rfl)) ?_
  refine L_op rfl (W_callV rfl rfl rfl rfl fn_ca_133 (radd_ok (capF (addC 0 bu) (sumL (l.take (i)))) x.bal hn1 hb1.1) (fun _ _ => trivial) ?_)
  refine L_val rfl rfl rfl (OpP.v (P_assign rfl rfl)) ?_
  refine L_nil ?_
  refine Q_then ?_
  refine R_region ?_
  refine L_val rfl rfl rfl (OpP.v (P_move rfl rfl)) ?_
  refine L_val rfl rfl rfl (OpP.v (P_fld0 rfl ty_fl_26_0 rfl)) ?_
  refine L_val rfl rfl rfl (V_load rfl rfl ty_sc_22 (Rd.blk .h0 rfl)) ?_
  refine L_val rfl rfl rfl (OpP.v (P_move rfl rfl)) ?_
  refine L_val rfl rfl rfl (OpP.v (P_ixs (i) rfl ty_sl_22 rfl rfl (by first | rfl | omega) (by omega))) ?_
  refine L_val rfl rfl rfl (OpP.v (P_fld rfl ty_fl_38_2 rfl)) ?_
  refine L_val rfl rfl rfl (V_load rfl rfl ty_sc_24 (rd_rc (Rds.row hrow rfl) hx rfl)) ?_
  refine L_op rfl (W_callV rfl rfl rfl rfl fn_ca_133 (radd_ok (addC (capF (addC 0 bu) (sumL (l.take (i)))) x.bal) x.bond (addC_nn hn1 hb1.1) hb2.1) (fun _ _ => trivial) ?_)
  refine E_as (t := 31) (v' := .int .u64 (capF (addC 0 bu) (sumL (l.take (i + 1))))) rfl (by rw [sumL_snoc hx, capF_app]; rfl) ?_
  refine L_val rfl rfl rfl (OpP.v (P_assign rfl rfl)) ?_
  refine L_nil ?_
  refine Q_block ?_
  refine Q_then ?_
  refine R_region ?_
  refine L_val rfl rfl rfl (OpP.v (P_move rfl rfl)) ?_
  first | (refine L_val rfl rfl rfl (OpP.v (P_addN rfl rfl rfl (by simp only [fits]; omega))) ?_) | (refine L_val rfl rfl rfl (OpP.v (P_add rfl rfl rfl)) ?_)
  refine L_val rfl rfl rfl (OpP.v (P_assign rfl rfl)) ?_
  refine L_nil ?_
  exact Q_round (i + 1) (by show i + 1 ≤ l.length; omega) (by show l.length - (i + 1) < l.length - i; omega) (by repeat (first | exact .nil | refine .cons rfl ?_ | refine .consE rfl (by first | rfl | (congr 1; omega) | (congr 1; push_cast; omega)) ?_)) (Weak.refl _)
 ·skip
  have hi : i ≤ l.length := hinv
  have hin : i = l.length := by omega
  rw [hin, List.take_length]
  refine R_exit ?_
  refine Q_then_exit ?_
  refine Q_then_exit ?_
  refine Q_block_eq ?_
  refine St.env (.cons (t := 1) rfl (.cons (t := 2) rfl (.cons (t := 3) rfl .nil))) ?_
  refine Q_then ?_
  refine R_seq ?_
  refine R_seq ?_
  refine R_region ?_
  refine L_val rfl rfl rfl (OpP.v (P_assign rfl rfl)) ?_
  refine L_nil ?_
  refine Q_then ?_
  refine R_block ?_
  refine R_loopE (G := Nat) (.cons (t := 1) rfl (.cons (t := 2) rfl .nil)) (fun g => [(3, .int .u64 (capF (capF (addC 0 bu) (sumL l)) ((r.take (g)).map Rel.amt))), (5, .int .i64 (g : Int))]) (fun _ => _) (fun g => g ≤ r.length) (fun g => r.length - g) (0) (Nat.zero_le _) (by repeat (first | exact .nil | refine .cons rfl ?_ | refine .consE rfl (by first | rfl | (congr 1; omega) | (congr 1; push_cast; omega)) ?_)) (Weak.refl _) ?_
  intro i hinv
  replace hinv : i ≤ r.length := hinv
  show St (cx gl) _ ((3, .int .u64 (capF (capF (addC 0 bu) (sumL l)) ((r.take (i)).map Rel.amt))) :: (5, .int .i64 (i : Int)) :: _) _ _
  refine R_seq ?_
  refine R_seq ?_
  refine R_region ?_
  refine L_val rfl rfl rfl (OpP.v (P_move rfl rfl)) ?_
  refine L_val rfl rfl rfl (OpP.v (P_fld0 rfl ty_fl_26_1 rfl)) ?_
  refine L_val rfl rfl rfl (V_load rfl rfl ty_sc_23 (Rd.blk .h0 rfl)) ?_
  refine L_val rfl rfl rfl (OpP.v (P_len rfl ty_sl_23 rfl)) ?_
  refine L_val rfl rfl rfl (OpP.v (P_lss rfl rfl rfl)) ?_
  refine L_nil ?_
  refine Q_then ?_
  refine R_condP rfl (fun hlt => ?_) (fun hlt => ?_)
  ·skip
   have hi : i ≤ r.length := hinv
   have hx0 := relAt_get (l := r) (i := i) (by omega)
   obtain ⟨x, ex⟩ : ∃ x, x = relAt r i := ⟨_, rfl⟩
   have hx : r[i]? = some x := by rw [ex]; exact hx0
   obtain ⟨pb, pj, rfl, hrow⟩ := hpre.2.some_ (by rw [rc_length]; show 0 < _ * 4; omega)
   obtain ⟨ha1, hb1, hb2, hb3⟩ := hok' x (List.mem_of_getElem? hx)
   have hn2 : 0 ≤ capF (capF (addC 0 bu) (sumL l)) ((r.take (i)).map Rel.amt) := capF_nn _ _ (amts_nn fun y hy => hok' y (List.mem_of_mem_take hy)) (capF_nn _ _ (sumL_nn hok) hn0)
   refine R_skip ?_
   refine Q_then ?_
   refine R_seq ?_
   refine R_block ?_
   refine R_region ?_
   refine L_val rfl rfl rfl (OpP.v (P_move rfl rfl)) ?_
   refine L_val rfl rfl rfl (OpP.v (P_fld0 rfl ty_fl_26_1 rfl)) ?_
   refine L_val rfl rfl rfl (V_load rfl rfl ty_sc_23 (Rd.blk .h0 rfl)) ?_
   refine L_val rfl rfl rfl (OpP.v (P_move rfl rfl)) ?_
   refine L_val rfl rfl rfl (OpP.v (P_ixs (i) rfl ty_sl_23 rfl rfl (by first | rfl | omega) (by omega))) ?_
   refine L_val rfl rfl rfl (OpP.v (P_fld rfl ty_fl_135_3 rfl)) ?_
   refine L_val rfl rfl rfl (V_load rfl rfl ty_sc_24 (rd_rc (Rds.row hrow rfl) hx rfl)) ?_
   refine L_op rfl (W_callV rfl rfl rfl rfl fn_ca_133 (radd_ok (capF (capF (addC 0 bu) (sumL l)) ((r.take (i)).map Rel.amt)) x.amt hn2 hb3.1) (fun _ _ => trivial) ?_)
   refine E_as (t := 46) (v' := .int .u64 (capF (capF (addC 0 bu) (sumL l)) ((r.take (i + 1)).map Rel.amt))) rfl (by rw [amts_snoc hx, capF_app]; rfl) ?_
   refine L_val rfl rfl rfl (OpP.v (P_assign rfl rfl)) ?_
   refine L_nil ?_
   refine Q_block ?_
   refine Q_then ?_
   refine R_region ?_
   refine L_val rfl rfl rfl (OpP.v (P_move rfl rfl)) ?_
   first | (refine L_val rfl rfl rfl (OpP.v (P_addN rfl rfl rfl (by simp only [fits]; omega))) ?_) | (refine L_val rfl rfl rfl (OpP.v (P_add rfl rfl rfl)) ?_)
   refine L_val rfl rfl rfl (OpP.v (P_assign rfl rfl)) ?_
   refine L_nil ?_
   exact Q_round (i + 1) (by show i + 1 ≤ r.length; omega) (by show r.length - (i + 1) < r.length - i; omega) (by repeat (first | exact .nil | refine .cons rfl ?_ | refine .consE rfl (by first | rfl | (congr 1; omega) | (congr 1; push_cast; omega)) ?_)) (Weak.refl _)
  ·skip
   have hi : i ≤ r.length := hinv
   have hin : i = r.length := by omega
   rw [hin, List.take_length]
   refine R_exit ?_
   refine Q_then_exit ?_
   refine Q_then_exit ?_
   refine Q_block_eq ?_
   refine St.env (.cons (t := 2) rfl (.cons (t := 3) rfl .nil)) ?_
   refine Q_then ?_
   refine R_seq ?_
   refine R_region ?_
   refine L_val rfl rfl rfl (OpP.v (P_move rfl rfl)) ?_
   refine L_val rfl rfl rfl (OpP.v (P_assign rfl rfl)) ?_
   refine L_nil ?_
   refine St.env (.cons (t := 2) rfl .nil) ?_
   refine Q_then ?_
   refine R_ret ?_
   exact R_endV rfl rfl (.tmp rfl .nil) (rfl)
theorem has_ok {gl : Nat → Obj} (a : Int) (base : Option Addr) (c : Nat) (l : List Acc) (hc : l.length ≤ c) (hm : l.length ≤ 3518437208883) : SpecV (cx gl) 178 [.slice base l.length c, .int .u64 a] (fun w => Row w base (rc l)) (.bool (spotB l a)) := by
 refine Spec.enter (C := cx gl) Tryz.func178 rfl 40 rfl rfl fun w0 h0 hsep hsub hpre => ?_
 obtain rfl : h0 = Heap.none := hsep
 show St (cx gl) _ [(0, .slice base l.length c), (1, .int .u64 a)] _ _
 refine R_seq ?_
 refine R_region ?_
 refine L_val rfl rfl rfl (OpP.v (P_assign rfl rfl)) ?_
 refine L_nil ?_
 refine Q_then ?_
 refine R_seq ?_
 refine R_region ?_
 refine L_val rfl rfl rfl (OpP.v (P_assign rfl rfl)) ?_
 refine L_nil ?_
 refine Q_then ?_
 refine R_seq ?_
 refine R_region ?_
 refine L_val rfl rfl rfl (OpP.v (P_move rfl rfl)) ?_
 refine L_val rfl rfl rfl (OpP.v (P_len rfl ty_sl_22 rfl)) ?_
 refine L_val rfl rfl rfl (OpP.v (P_assign rfl rfl)) ?_
 refine L_nil ?_
 refine St.env (.cons (t := 0) rfl (.cons (t := 1) rfl (.cons (t := 4) rfl (.cons (t := 5) rfl (.cons (t := 6) rfl .nil))))) ?_
 refine Q_then ?_
 refine R_seq ?_
 refine R_block ?_
 refine R_loopE (G := Nat × Nat) (.cons (t := 0) rfl (.cons (t := 1) rfl (.cons (t := 4) rfl .nil))) (fun g => [(5, .int .i64 ((g.1 : Nat) : Int)), (6, .int .i64 ((g.2 : Nat) : Int))]) (fun _ => _) (fun g => g.1 ≤ g.2 ∧ g.2 ≤ l.length ∧ spotI l a = bsN (fun i => decide ((accAt l i).a < a)) g.1 g.2) (fun g => g.2 - g.1) (0, l.length) (by show (0) ≤ (l.length) ∧ (l.length) ≤ l.length ∧ spotI l a = bsN (fun i => decide ((accAt l i).a < a)) (0) (l.length); exact ⟨Nat.zero_le _, Nat.le_refl _, rfl⟩) (by repeat (first | exact .nil | refine .cons rfl ?_ | refine .consE rfl (by first | rfl | (congr 1; omega) | (congr 1; push_cast; omega)) ?_)) (Weak.refl _) ?_
 rintro ⟨lo, hi⟩ hinv
 replace hinv : lo ≤ hi ∧ hi ≤ l.length ∧ spotI l a = bsN (fun i => decide ((accAt l i).a < a)) lo hi := hinv
 show St (cx gl) _ ((5, .int .i64 ((lo : Nat) : Int)) :: (6, .int .i64 ((hi : Nat) : Int)) :: _) _ _
 obtain ⟨h1, h2, h3⟩ := hinv
 refine R_seq ?_
 refine R_seq ?_
 refine R_region ?_
 refine L_val rfl rfl rfl (OpP.v (P_move rfl rfl)) ?_
 refine L_val rfl rfl rfl (OpP.v (P_move rfl rfl)) ?_
 refine L_val rfl rfl rfl (OpP.v (P_lss rfl rfl rfl)) ?_
 refine L_nil ?_
 refine Q_then ?_
 refine R_condP rfl (fun hlt => ?_) (fun hlt => ?_)
 ·skip
  have hx := accAt_get (l := l) (i := (lo + hi) / 2) (by omega)
  obtain ⟨pb, pj, rfl, hrow⟩ := hpre.some_ (by rw [rc_length]; show 0 < _ * 5; omega)
  refine R_skip ?_
  refine Q_then ?_
  refine R_block ?_
  refine R_seq ?_
  refine R_region ?_
  refine L_val rfl rfl rfl (OpP.v (P_move rfl rfl)) ?_
  refine L_val rfl rfl rfl (OpP.v (P_move rfl rfl)) ?_
  first | (refine L_val rfl rfl rfl (OpP.v (P_addN rfl rfl rfl (by simp only [fits]; omega))) ?_) | (refine L_val rfl rfl rfl (OpP.v (P_add rfl rfl rfl)) ?_)
  refine L_val rfl rfl rfl (OpP.v (P_quo rfl rfl rfl (by omega))) ?_
  refine E_as (t := 16) (v' := .int .i64 (((lo + hi) / 2 : Nat) : Int)) rfl (by congr 1; rw [Int.tdiv_eq_ediv_of_nonneg (by omega), wrap_fits (by simp only [fits]; omega)]; omega) ?_
  refine L_val rfl rfl rfl (OpP.v (P_assign rfl rfl)) ?_
  refine L_nil ?_
  refine Q_then ?_
  refine R_seq ?_
  refine R_region ?_
  refine L_val rfl rfl rfl (OpP.v (P_move rfl rfl)) ?_
  refine L_val rfl rfl rfl (OpP.v (P_move rfl rfl)) ?_
  refine L_val rfl rfl rfl (OpP.v (P_ixs ((lo + hi) / 2) rfl ty_sl_22 rfl rfl (by first | rfl | omega) (by omega))) ?_
  refine L_val rfl rfl rfl (OpP.v (P_fld rfl ty_fl_38_0 rfl)) ?_
  refine L_val rfl rfl rfl (V_load rfl rfl ty_sc_27 (rd_rc (Rds.row hrow rfl) hx rfl)) ?_
  refine L_val rfl rfl rfl (OpP.v (P_move rfl rfl)) ?_
  refine L_val rfl rfl rfl (OpP.v (P_lss rfl rfl rfl)) ?_
  refine L_nil ?_
  refine Q_then ?_
  refine R_condP rfl (fun hb => ?_) (fun hb => ?_)
  ·skip
   refine R_region ?_
   refine L_val rfl rfl rfl (OpP.v (P_move rfl rfl)) ?_
   first | (refine L_val rfl rfl rfl (OpP.v (P_addN rfl rfl rfl (by simp only [fits]; omega))) ?_) | (refine L_val rfl rfl rfl (OpP.v (P_add rfl rfl rfl)) ?_)
   refine L_val rfl rfl rfl (OpP.v (P_assign rfl rfl)) ?_
   refine L_nil ?_
   refine Q_block ?_
   exact Q_round ((lo + hi) / 2 + 1, hi) (by show ((lo + hi) / 2 + 1) ≤ (hi) ∧ (hi) ≤ l.length ∧ spotI l a = bsN (fun i => decide ((accAt l i).a < a)) ((lo + hi) / 2 + 1) (hi); exact ⟨by omega, h2, by rw [h3]; exact bsN_up (by omega) (decide_eq_true hb)⟩) (by show hi - ((lo + hi) / 2 + 1) < hi - lo; omega) (by repeat (first | exact .nil | refine .cons rfl ?_ | refine .consE rfl (by first | rfl | (congr 1; omega) | (congr 1; push_cast; omega)) ?_)) (Weak.refl _)
  ·skip
   refine R_region ?_
   refine L_val rfl rfl rfl (OpP.v (P_move rfl rfl)) ?_
   refine L_val rfl rfl rfl (OpP.v (P_assign rfl rfl)) ?_
   refine L_nil ?_
   refine Q_block ?_
   exact Q_round (lo, (lo + hi) / 2) (by show (lo) ≤ ((lo + hi) / 2) ∧ ((lo + hi) / 2) ≤ l.length ∧ spotI l a = bsN (fun i => decide ((accAt l i).a < a)) (lo) ((lo + hi) / 2); exact ⟨by omega, by omega, by rw [h3]; exact bsN_down (by omega) (decide_eq_false hb)⟩) (by show (lo + hi) / 2 - lo < hi - lo; omega) (by repeat (first | exact .nil | refine .cons rfl ?_ | refine .consE rfl (by first | rfl | (congr 1; omega) | (congr 1; push_cast; omega)) ?_)) (Weak.refl _)
 ·skip
  have hin : hi = lo := by omega
  have hsp : spotI l a = lo := by rw [h3]; exact bsN_end (by omega)
  refine R_exit ?_
  refine Q_then_exit ?_
  refine Q_then_exit ?_
  refine Q_block_eq ?_
  refine St.env (.cons (t := 0) rfl (.cons (t := 1) rfl (.cons (t := 4) rfl (.cons (t := 5) rfl .nil)))) ?_
  refine Q_then ?_
  refine R_seq ?_
  refine R_region ?_
  refine L_val rfl rfl rfl (OpP.v (P_move rfl rfl)) ?_
  refine L_val rfl rfl rfl (OpP.v (P_move rfl rfl)) ?_
  refine L_val rfl rfl rfl (OpP.v (P_len rfl ty_sl_22 rfl)) ?_
  refine L_val rfl rfl rfl (OpP.v (P_lss rfl rfl rfl)) ?_
  refine E_bool (t := 30) rfl (fun hl2 => ?_) (fun hl2 => ?_)
  ·skip
   have hl2 : lo < l.length := by have := of_decide_eq_true hl2; omega
   have hx := accAt_get hl2
   obtain ⟨pb, pj, rfl, hrow⟩ := hpre.some_ (by rw [rc_length]; show 0 < _ * 5; omega)
   refine L_val rfl rfl rfl (OpP.v (P_move rfl rfl)) ?_
   refine L_val rfl rfl rfl (OpP.v (P_move rfl rfl)) ?_
   refine L_val rfl rfl rfl (OpP.v (P_move rfl rfl)) ?_
   refine L_val rfl rfl rfl (OpP.v (P_ixs (lo) rfl ty_sl_22 rfl rfl (by first | rfl | omega) (by omega))) ?_
   refine L_val rfl rfl rfl (OpP.v (P_fld rfl ty_fl_38_0 rfl)) ?_
   refine L_val rfl rfl rfl (V_load rfl rfl ty_sc_27 (rd_rc (Rds.row hrow rfl) hx rfl)) ?_
   refine L_val rfl rfl rfl (OpP.v (P_move rfl rfl)) ?_
   refine L_val rfl rfl rfl (OpP.v (P_eql rfl rfl rfl)) ?_
   refine L_val rfl rfl rfl (OpP.v (P_pick rfl rfl rfl)) ?_
   refine L_val rfl rfl rfl (OpP.v (P_assign rfl rfl)) ?_
   refine L_nil ?_
   refine St.env (.cons (t := 4) rfl .nil) ?_
   refine Q_then ?_
   refine R_ret ?_
   exact R_endV rfl rfl (.tmp rfl .nil) (by unfold spotB; rw [hsp]; first | (rw [decide_eq_false hl2]; rfl) | (rw [decide_eq_true hl2, Bool.true_and]; rfl))
  ·skip
   have hl2 : ¬ lo < l.length := by have := of_decide_eq_false hl2; omega
   refine L_val rfl rfl rfl (OpP.v (P_move rfl rfl)) ?_
   refine L_no rfl rfl rfl ?_
   refine L_no rfl rfl rfl ?_
   refine L_no rfl rfl rfl ?_
   refine L_no rfl rfl rfl ?_
   refine L_no rfl rfl rfl ?_
   refine L_no rfl rfl rfl ?_
   refine L_no rfl rfl rfl ?_
   refine L_val rfl rfl rfl (OpP.v (P_pick rfl rfl rfl)) ?_
   refine L_val rfl rfl rfl (OpP.v (P_assign rfl rfl)) ?_
   refine L_nil ?_
   refine St.env (.cons (t := 4) rfl .nil) ?_
   refine Q_then ?_
   refine R_ret ?_
   exact R_endV rfl rfl (.tmp rfl .nil) (by unfold spotB; rw [hsp]; first | (rw [decide_eq_false hl2]; rfl) | (rw [decide_eq_true hl2, Bool.true_and]; rfl))
theorem rrows_ok {gl : Nat → Obj} (base : Option Addr) (c : Nat) (l : List Acc) (hc : l.length ≤ c)(hm : l.length ≤ 3518437208883)(base' : Option Addr) (c' : Nat) (r : List Rel) (hc' : r.length ≤ c')(hm' : r.length ≤ 4398046511104) (hok' : ∀ x ∈ r, x.ok) (bu su : Int) : SpecV (cx gl) 124 [.agg (ledV (.slice base l.length c) (.slice base' r.length c') bu su).toArray] (fun w => Row w base (rc l) ∧ Row w base' (rc r)) (.int .i64 (relE l r)) := by
 refine Spec.enter (C := cx gl) Tryz.func124 rfl 76 rfl rfl fun w0 h0 hsep hsub hpre => ?_
 obtain rfl : h0 = Heap.none := hsep
 show St (cx gl) _ [(0, .agg (ledV (.slice base l.length c) (.slice base' r.length c') bu su).toArray)] _ _
 have hms : MS = 1152921504606846975 := rfl
 refine R_seq ?_
 refine R_region ?_
 refine L_op rfl (W_box (ledV (.slice base l.length c) (.slice base' r.length c') bu su) rfl rfl rfl rfl rfl fun b1 => ?_)
 refine L_val rfl rfl rfl (OpP.v (P_assign rfl rfl)) ?_
 refine L_nil ?_
 refine St.env (.cons (t := 1) rfl (.cons (t := 2) rfl .nil)) ?_
 refine Q_then ?_
 refine R_seq ?_
 refine R_seq ?_
 refine R_region ?_
 refine L_val rfl rfl rfl (OpP.v (P_assign rfl rfl)) ?_
 refine L_nil ?_
 refine Q_then ?_
 refine R_block ?_
 refine R_loopE (G := Nat) (.cons (t := 1) rfl (.cons (t := 2) rfl .nil)) (fun g => [(3, .int .i64 (g : Int))]) (fun _ => _) (fun g => g ≤ r.length ∧ firstE (relBad l r) g = 0) (fun g => r.length - g) (0) (by show (0) ≤ r.length ∧ firstE (relBad l r) (0) = 0; exact ⟨Nat.zero_le _, rfl⟩) (by repeat (first | exact .nil | refine .cons rfl ?_ | refine .consE rfl (by first | rfl | (congr 1; omega) | (congr 1; push_cast; omega)) ?_)) (Weak.refl _) ?_
 intro i hinv
 replace hinv : i ≤ r.length ∧ firstE (relBad l r) i = 0 := hinv
 show St (cx gl) _ ((3, .int .i64 (i : Int)) :: _) _ _
 obtain ⟨hi, h0⟩ := hinv
 refine R_seq ?_
 refine R_seq ?_
 refine R_region ?_
 refine L_val rfl rfl rfl (OpP.v (P_move rfl rfl)) ?_
 refine L_val rfl rfl rfl (OpP.v (P_fld0 rfl ty_fl_26_1 rfl)) ?_
 refine L_val rfl rfl rfl (V_load rfl rfl ty_sc_23 (Rd.blk .h0 rfl)) ?_
 refine L_val rfl rfl rfl (OpP.v (P_len rfl ty_sl_23 rfl)) ?_
 refine L_val rfl rfl rfl (OpP.v (P_lss rfl rfl rfl)) ?_
 refine L_nil ?_
 refine Q_then ?_
 refine R_condP rfl (fun hlt => ?_) (fun hlt => ?_)
 ·skip
  have hx0 := relAt_get (l := r) (i := i) (by omega)
  obtain ⟨x, ex⟩ : ∃ x, x = relAt r i := ⟨_, rfl⟩
  have hx : r[i]? = some x := by rw [ex]; exact hx0
  obtain ⟨pb, pj, rfl, hrow⟩ := hpre.2.some_ (by rw [rc_length]; show 0 < _ * 4; omega)
  obtain ⟨hx1, hx2, hx3, hx4⟩ := hok' x (List.mem_of_getElem? hx)
  refine R_skip ?_
  refine Q_then ?_
  refine R_seq ?_
  refine R_block ?_
  refine R_seq ?_
  refine R_region ?_
  refine L_val rfl rfl rfl (OpP.v (P_fld0 rfl ty_fl_26_1 rfl)) ?_
  refine L_val rfl rfl rfl (V_load rfl rfl ty_sc_23 (Rd.blk .h0 rfl)) ?_
  refine L_val rfl rfl rfl (OpP.v (P_move rfl rfl)) ?_
  refine L_val rfl rfl rfl (OpP.v (P_ixs (i) rfl ty_sl_23 rfl rfl (by first | rfl | omega) (by omega))) ?_
  refine L_val rfl rfl rfl (V_loadAgg rfl rfl ty_ag_135 (rds_rc (Rds.row hrow rfl) hx) (rfl)) ?_
  refine L_op rfl (W_alloc rfl rfl rfl ty_ze_135 fun b4 => ?_)
  refine L_op rfl (W_storeAll rfl rfl rfl rfl ty_ag_135 (rfl) (Rec.one x) .h0 (rfl) ?_)
  refine L_nil ?_
  refine Q_then ?_
  refine R_seq ?_
  refine R_region ?_
  refine L_val rfl rfl rfl (OpP.v (P_fld0 rfl ty_fl_26_0 rfl)) ?_
  refine L_val rfl rfl rfl (V_load rfl rfl ty_sc_22 (Rd.blk .h1 rfl)) ?_
  refine L_val rfl rfl rfl (OpP.v (P_fld0 rfl ty_fl_135_1 rfl)) ?_
  refine L_val rfl rfl rfl (V_load rfl rfl ty_sc_27 (Rd.blk .h0 rfl)) ?_
  refine L_op rfl (W_callV rfl rfl rfl rfl fn_ca_178 (has_ok x.a base c l hc hm) (fun w nw => (Sn.row hpre.1 rfl).rw_ w nw) ?_)
  refine L_val rfl rfl rfl (OpP.v (P_assign rfl rfl)) ?_
  refine L_nil ?_
  refine Q_then ?_
  refine R_seq ?_
  refine R_seq ?_
  refine R_region ?_
  refine L_val rfl rfl rfl (OpP.v (P_move rfl rfl)) ?_
  refine L_val rfl rfl rfl (OpP.v (P_not rfl rfl)) ?_
  refine L_nil ?_
  refine Q_then ?_
  refine R_cond rfl (fun hp => ?_) (fun hp => ?_)
  ·skip
   have hp : spotB l x.a = false := by simpa using hp
   refine R_seq ?_
   refine R_region ?_
   refine L_val rfl rfl rfl (OpP.v (P_assign rfl rfl)) ?_
   refine L_nil ?_
   refine Q_then ?_
   refine R_ret ?_
   refine Q_then_ret ?_
   refine Q_block_ret ?_
   refine Q_then_ret ?_
   refine Q_then_ret ?_
   refine Q_block_ret ?_
   refine Q_then_ret ?_
   exact R_endV rfl rfl (.tmp rfl .nil) (by rw [show relE l r = 85 from firstE_hit h0 (show relBad l r i = 85 by unfold relBad; rw [← ex]; rw [if_pos hp]) (by decide) (by omega)]; rfl)
  ·skip
   have hp : spotB l x.a = true := by simpa using hp
   refine R_skip ?_
   refine Q_then ?_
   refine R_seq ?_
   refine R_seq ?_
   refine R_region ?_
   refine L_val rfl rfl rfl (OpP.v (P_fld0 rfl ty_fl_135_2 rfl)) ?_
   refine L_val rfl rfl rfl (V_load rfl rfl ty_sc_24 (Rd.blk .h0 rfl)) ?_
   refine L_val rfl rfl rfl (OpP.v (P_gtr rfl rfl rfl)) ?_
   refine E_bool (t := 28) rfl (fun q1 => ?_) (fun q1 => ?_)
   ·skip
    have q1 := of_decide_eq_true q1
    refine L_val rfl rfl rfl (OpP.v (P_move rfl rfl)) ?_
    refine L_no rfl rfl rfl ?_
    refine L_no rfl rfl rfl ?_
    refine L_no rfl rfl rfl ?_
    refine L_no rfl rfl rfl ?_
    refine L_no rfl rfl rfl ?_
    refine L_val rfl rfl rfl (OpP.v (P_pick rfl rfl rfl)) ?_
    refine L_val rfl rfl rfl (OpP.v (P_move rfl rfl)) ?_
    refine L_no rfl rfl rfl ?_
    refine L_no rfl rfl rfl ?_
    refine L_no rfl rfl rfl ?_
    refine L_val rfl rfl rfl (OpP.v (P_pick rfl rfl rfl)) ?_
    refine L_nil ?_
    refine Q_then ?_
    refine R_condT rfl ?_
    refine R_seq ?_
    refine R_region ?_
    refine L_val rfl rfl rfl (OpP.v (P_assign rfl rfl)) ?_
    refine L_nil ?_
    refine Q_then ?_
    refine R_ret ?_
    refine Q_then_ret ?_
    refine Q_block_ret ?_
    refine Q_then_ret ?_
    refine Q_then_ret ?_
    refine Q_block_ret ?_
    refine Q_then_ret ?_
    exact R_endV rfl rfl (.tmp rfl .nil) (by rw [show relE l r = 2 from firstE_hit h0 (show relBad l r i = 2 by unfold relBad; rw [← ex]; rw [if_neg (by rw [hp]; decide), if_pos (by omega)]) (by decide) (by omega)]; rfl)
   ·skip
    have q1 := of_decide_eq_false q1
    refine L_val rfl rfl rfl (OpP.v (P_move rfl rfl)) ?_
    refine L_val rfl rfl rfl (OpP.v (P_fld0 rfl ty_fl_135_0 rfl)) ?_
    refine L_val rfl rfl rfl (V_load rfl rfl ty_sc_24 (Rd.blk .h0 rfl)) ?_
    refine L_val rfl rfl rfl (OpP.v (P_fld0 rfl ty_fl_135_2 rfl)) ?_
    refine L_val rfl rfl rfl (V_load rfl rfl ty_sc_24 (Rd.blk .h0 rfl)) ?_
    refine L_val rfl rfl rfl (OpP.v (P_lss rfl rfl rfl)) ?_
    refine E_bool (t := 34) rfl (fun q2 => ?_) (fun q2 => ?_)
    ·skip
     have q2 := of_decide_eq_true q2
     refine L_val rfl rfl rfl (OpP.v (P_pick rfl rfl rfl)) ?_
     refine L_val rfl rfl rfl (OpP.v (P_move rfl rfl)) ?_
     refine L_no rfl rfl rfl ?_
     refine L_no rfl rfl rfl ?_
     refine L_no rfl rfl rfl ?_
     refine L_val rfl rfl rfl (OpP.v (P_pick rfl rfl rfl)) ?_
     refine L_nil ?_
     refine Q_then ?_
     refine R_condT rfl ?_
     refine R_seq ?_
     refine R_region ?_
     refine L_val rfl rfl rfl (OpP.v (P_assign rfl rfl)) ?_
     refine L_nil ?_
     refine Q_then ?_
     refine R_ret ?_
     refine Q_then_ret ?_
     refine Q_block_ret ?_
     refine Q_then_ret ?_
     refine Q_then_ret ?_
     refine Q_block_ret ?_
     refine Q_then_ret ?_
     exact R_endV rfl rfl (.tmp rfl .nil) (by rw [show relE l r = 2 from firstE_hit h0 (show relBad l r i = 2 by unfold relBad; rw [← ex]; rw [if_neg (by rw [hp]; decide), if_pos (by omega)]) (by decide) (by omega)]; rfl)
    ·skip
     have q2 := of_decide_eq_false q2
     refine L_val rfl rfl rfl (OpP.v (P_pick rfl rfl rfl)) ?_
     refine L_val rfl rfl rfl (OpP.v (P_move rfl rfl)) ?_
     refine L_val rfl rfl rfl (OpP.v (P_fld0 rfl ty_fl_135_0 rfl)) ?_
     refine L_val rfl rfl rfl (V_load rfl rfl ty_sc_24 (Rd.blk .h0 rfl)) ?_
     refine L_val rfl rfl rfl (OpP.v (P_gtr rfl rfl rfl)) ?_
     refine L_val rfl rfl rfl (OpP.v (P_pick rfl rfl rfl)) ?_
     refine L_nil ?_
     refine Q_then ?_
     refine R_condP rfl (fun q3 => ?_) (fun q3 => ?_)
     ·skip
      refine R_seq ?_
      refine R_region ?_
      refine L_val rfl rfl rfl (OpP.v (P_assign rfl rfl)) ?_
      refine L_nil ?_
      refine Q_then ?_
      refine R_ret ?_
      refine Q_then_ret ?_
      refine Q_block_ret ?_
      refine Q_then_ret ?_
      refine Q_then_ret ?_
      refine Q_block_ret ?_
      refine Q_then_ret ?_
      exact R_endV rfl rfl (.tmp rfl .nil) (by rw [show relE l r = 2 from firstE_hit h0 (show relBad l r i = 2 by unfold relBad; rw [← ex]; rw [if_neg (by rw [hp]; decide), if_pos (by omega)]) (by decide) (by omega)]; rfl)
     ·skip
      refine R_skip ?_
      refine Q_then ?_
      refine R_seq ?_
      refine R_seq ?_
      refine R_region ?_
      refine L_val rfl rfl rfl (OpP.v (P_move rfl rfl)) ?_
      refine L_val rfl rfl rfl (OpP.v (P_gtr rfl rfl rfl)) ?_
      refine L_nil ?_
      refine Q_then ?_
      refine R_condP rfl (fun q4 => ?_) (fun q4 => ?_)
      ·skip
       obtain ⟨y, ey⟩ : ∃ y, y = relAt r (i - 1) := ⟨_, rfl⟩
       have hy : r[i - 1]? = some y := by rw [ey]; exact relAt_get (by omega)
       refine R_seq ?_
       refine R_region ?_
       refine L_val rfl rfl rfl (OpP.v (P_fld0 rfl ty_fl_26_1 rfl)) ?_
       refine L_val rfl rfl rfl (V_load rfl rfl ty_sc_23 (Rd.blk .h1 rfl)) ?_
       refine L_val rfl rfl rfl (OpP.v (P_move rfl rfl)) ?_
       first | (refine L_val rfl rfl rfl (OpP.v (P_subN rfl rfl rfl (by simp only [fits]; omega))) ?_) | (refine L_val rfl rfl rfl (OpP.v (P_sub rfl rfl rfl)) ?_)
       refine L_val rfl rfl rfl (OpP.v (P_ixs (i - 1) rfl ty_sl_23 rfl rfl (by first | rfl | omega) (by omega))) ?_
       refine L_val rfl rfl rfl (V_loadAgg rfl rfl ty_ag_135 (rds_rc (Rds.row hrow rfl) hy) (rfl)) ?_
       refine L_op rfl (W_alloc rfl rfl rfl ty_ze_135 fun b6 => ?_)
       refine L_op rfl (W_storeAll rfl rfl rfl rfl ty_ag_135 (rfl) (Rec.one y) .h0 (rfl) ?_)
       refine L_nil ?_
       refine Q_then ?_
       refine R_seq ?_
       refine R_region ?_
       refine L_val rfl rfl rfl (OpP.v (P_fld0 rfl ty_fl_135_0 rfl)) ?_
       refine L_val rfl rfl rfl (V_load rfl rfl ty_sc_24 (Rd.blk .h1 rfl)) ?_
       refine L_val rfl rfl rfl (OpP.v (P_fld0 rfl ty_fl_135_0 rfl)) ?_
       refine L_val rfl rfl rfl (V_load rfl rfl ty_sc_24 (Rd.blk .h0 rfl)) ?_
       refine L_val rfl rfl rfl (OpP.v (P_lss rfl rfl rfl)) ?_
       refine E_bool (t := 53) rfl (fun u1 => ?_) (fun u1 => ?_)
       ·skip
        have u1 := of_decide_eq_true u1
        have hl42 : laterB x y = false := (laterB_no x y).2 (by omega)
        refine L_val rfl rfl rfl (OpP.v (P_move rfl rfl)) ?_
        refine L_no rfl rfl rfl ?_
        refine L_no rfl rfl rfl ?_
        refine L_no rfl rfl rfl ?_
        refine L_no rfl rfl rfl ?_
        refine L_no rfl rfl rfl ?_
        refine L_no rfl rfl rfl ?_
        refine L_no rfl rfl rfl ?_
        refine L_no rfl rfl rfl ?_
        refine L_no rfl rfl rfl ?_
        refine L_no rfl rfl rfl ?_
        refine L_no rfl rfl rfl ?_
        refine L_no rfl rfl rfl ?_
        refine L_val rfl rfl rfl (OpP.v (P_pick rfl rfl rfl)) ?_
        refine L_nil ?_
        refine Q_then ?_
        refine R_condT rfl ?_
        refine R_seq ?_
        refine R_region ?_
        refine L_val rfl rfl rfl (OpP.v (P_assign rfl rfl)) ?_
        refine L_nil ?_
        refine Q_then ?_
        refine R_ret ?_
        refine Q_then_ret ?_
        refine Q_block_ret ?_
        refine Q_then_ret ?_
        refine Q_then_ret ?_
        refine Q_block_ret ?_
        refine Q_then_ret ?_
        exact R_endV rfl rfl (.tmp rfl .nil) (by rw [show relE l r = 42 from firstE_hit h0 (show relBad l r i = 42 by unfold relBad; rw [← ex]; rw [if_neg (by rw [hp]; decide), if_neg (by omega), if_pos ⟨by omega, by rw [← ey]; exact hl42⟩]) (by decide) (by omega)]; rfl)
       ·skip
        have u1 := of_decide_eq_false u1
        refine L_val rfl rfl rfl (OpP.v (P_move rfl rfl)) ?_
        refine L_val rfl rfl rfl (OpP.v (P_fld0 rfl ty_fl_135_0 rfl)) ?_
        refine L_val rfl rfl rfl (V_load rfl rfl ty_sc_24 (Rd.blk .h1 rfl)) ?_
        refine L_val rfl rfl rfl (OpP.v (P_fld0 rfl ty_fl_135_0 rfl)) ?_
        refine L_val rfl rfl rfl (V_load rfl rfl ty_sc_24 (Rd.blk .h0 rfl)) ?_
        refine L_val rfl rfl rfl (OpP.v (P_eql rfl rfl rfl)) ?_
        refine E_bool (t := 59) rfl (fun u2 => ?_) (fun u2 => ?_)
        ·skip
         have u2 := of_decide_eq_true u2
         refine L_val rfl rfl rfl (OpP.v (P_move rfl rfl)) ?_
         refine L_val rfl rfl rfl (OpP.v (P_fld0 rfl ty_fl_135_1 rfl)) ?_
         refine L_val rfl rfl rfl (V_load rfl rfl ty_sc_27 (Rd.blk .h1 rfl)) ?_
         refine L_val rfl rfl rfl (OpP.v (P_fld0 rfl ty_fl_135_1 rfl)) ?_
         refine L_val rfl rfl rfl (V_load rfl rfl ty_sc_27 (Rd.blk .h0 rfl)) ?_
         refine L_val rfl rfl rfl (OpP.v (P_leq rfl rfl rfl)) ?_
         refine L_val rfl rfl rfl (OpP.v (P_pick rfl rfl rfl)) ?_
         refine L_val rfl rfl rfl (OpP.v (P_pick rfl rfl rfl)) ?_
         refine L_nil ?_
         refine Q_then ?_
         refine R_condP rfl (fun u3 => ?_) (fun u3 => ?_)
         ·skip
          have hl42 : laterB x y = false := (laterB_no x y).2 (by omega)
          refine R_seq ?_
          refine R_region ?_
          refine L_val rfl rfl rfl (OpP.v (P_assign rfl rfl)) ?_
          refine L_nil ?_
          refine Q_then ?_
          refine R_ret ?_
          refine Q_then_ret ?_
          refine Q_block_ret ?_
          refine Q_then_ret ?_
          refine Q_then_ret ?_
          refine Q_block_ret ?_
          refine Q_then_ret ?_
          exact R_endV rfl rfl (.tmp rfl .nil) (by rw [show relE l r = 42 from firstE_hit h0 (show relBad l r i = 42 by unfold relBad; rw [← ex]; rw [if_neg (by rw [hp]; decide), if_neg (by omega), if_pos ⟨by omega, by rw [← ey]; exact hl42⟩]) (by decide) (by omega)]; rfl)
         ·skip
          have hno : ¬ (0 < i ∧ laterB x (relAt r (i - 1)) = false) := by rw [← ey, laterB_no]; omega
          refine R_skip ?_
          refine Q_then ?_
          refine R_seq ?_
          refine R_region ?_
          refine L_val rfl rfl rfl (OpP.v (P_fld0 rfl ty_fl_135_3 rfl)) ?_
          refine L_val rfl rfl rfl (V_load rfl rfl ty_sc_24 (by first | exact Rd.blk .h0 rfl | exact Rd.blk .h1 rfl | exact Rd.blk .h2 rfl | exact Rd.blk .h3 rfl | exact Rd.blk .h4 rfl | exact Rd.blk .h5 rfl | exact Rd.blk .h6 rfl | exact Rd.blk .h7 rfl)) ?_
          refine L_val rfl rfl rfl (OpP.v (P_eql rfl rfl rfl)) ?_
          refine E_bool (t := 70) rfl (fun q6 => ?_) (fun q6 => ?_)
          ·skip
           have q6 := of_decide_eq_true q6
           refine L_val rfl rfl rfl (OpP.v (P_move rfl rfl)) ?_
           refine L_no rfl rfl rfl ?_
           refine L_no rfl rfl rfl ?_
           refine L_no rfl rfl rfl ?_
           refine L_val rfl rfl rfl (OpP.v (P_pick rfl rfl rfl)) ?_
           refine L_nil ?_
           refine Q_then ?_
           refine R_condT rfl ?_
           refine R_seq ?_
           refine R_region ?_
           refine L_val rfl rfl rfl (OpP.v (P_assign rfl rfl)) ?_
           refine L_nil ?_
           refine Q_then ?_
           refine R_ret ?_
           refine Q_block_ret ?_
           refine Q_then_ret ?_
           refine Q_then_ret ?_
           refine Q_block_ret ?_
           refine Q_then_ret ?_
           exact R_endV rfl rfl (.tmp rfl .nil) (by rw [show relE l r = 87 from firstE_hit h0 (show relBad l r i = 87 by unfold relBad; rw [← ex]; rw [if_neg (by rw [hp]; decide), if_neg (by omega), if_neg hno, if_pos (by rw [hms]; omega)]) (by decide) (by omega)]; rfl)
          ·skip
           have q6 := of_decide_eq_false q6
           refine L_val rfl rfl rfl (OpP.v (P_move rfl rfl)) ?_
           refine L_val rfl rfl rfl (OpP.v (P_fld0 rfl ty_fl_135_3 rfl)) ?_
           refine L_val rfl rfl rfl (V_load rfl rfl ty_sc_24 (by first | exact Rd.blk .h0 rfl | exact Rd.blk .h1 rfl | exact Rd.blk .h2 rfl | exact Rd.blk .h3 rfl | exact Rd.blk .h4 rfl | exact Rd.blk .h5 rfl | exact Rd.blk .h6 rfl | exact Rd.blk .h7 rfl)) ?_
           refine L_val rfl rfl rfl (OpP.v (P_gtr rfl rfl rfl)) ?_
           refine L_val rfl rfl rfl (OpP.v (P_pick rfl rfl rfl)) ?_
           refine L_nil ?_
           refine Q_then ?_
           refine R_condP rfl (fun q7 => ?_) (fun q7 => ?_)
           ·skip
            refine R_seq ?_
            refine R_region ?_
            refine L_val rfl rfl rfl (OpP.v (P_assign rfl rfl)) ?_
            refine L_nil ?_
            refine Q_then ?_
            refine R_ret ?_
            refine Q_block_ret ?_
            refine Q_then_ret ?_
            refine Q_then_ret ?_
            refine Q_block_ret ?_
            refine Q_then_ret ?_
            exact R_endV rfl rfl (.tmp rfl .nil) (by rw [show relE l r = 87 from firstE_hit h0 (show relBad l r i = 87 by unfold relBad; rw [← ex]; rw [if_neg (by rw [hp]; decide), if_neg (by omega), if_neg hno, if_pos (by rw [hms]; omega)]) (by decide) (by omega)]; rfl)
           ·skip
            refine R_skip ?_
            refine Q_block ?_
            refine Q_then ?_
            refine R_region ?_
            refine L_val rfl rfl rfl (OpP.v (P_move rfl rfl)) ?_
            first | (refine L_val rfl rfl rfl (OpP.v (P_addN rfl rfl rfl (by simp only [fits]; omega))) ?_) | (refine L_val rfl rfl rfl (OpP.v (P_add rfl rfl rfl)) ?_)
            refine L_val rfl rfl rfl (OpP.v (P_assign rfl rfl)) ?_
            refine L_nil ?_
            exact Q_round (i + 1) (by show (i + 1) ≤ r.length ∧ firstE (relBad l r) (i + 1) = 0; exact ⟨by omega, firstE_next h0 (by unfold relBad; rw [← ex, if_neg (by rw [hp]; decide), if_neg (by omega), if_neg hno, if_neg (by rw [hms]; omega)])⟩) (by show r.length - (i + 1) < r.length - i; omega) (by repeat (first | exact .nil | refine .cons rfl ?_ | refine .consE rfl (by first | rfl | (congr 1; omega) | (congr 1; push_cast; omega)) ?_)) (Weak.drop (Weak.drop (Weak.refl _)))
        ·skip
         have u2 := of_decide_eq_false u2
         have hno : ¬ (0 < i ∧ laterB x (relAt r (i - 1)) = false) := by rw [← ey, laterB_no]; omega
         refine L_val rfl rfl rfl (OpP.v (P_move rfl rfl)) ?_
         refine L_no rfl rfl rfl ?_
         refine L_no rfl rfl rfl ?_
         refine L_no rfl rfl rfl ?_
         refine L_no rfl rfl rfl ?_
         refine L_no rfl rfl rfl ?_
         refine L_val rfl rfl rfl (OpP.v (P_pick rfl rfl rfl)) ?_
         refine L_val rfl rfl rfl (OpP.v (P_pick rfl rfl rfl)) ?_
         refine L_nil ?_
         refine Q_then ?_
         refine R_condF rfl ?_
         refine R_skip ?_
         refine Q_then ?_
         refine R_seq ?_
         refine R_region ?_
         refine L_val rfl rfl rfl (OpP.v (P_fld0 rfl ty_fl_135_3 rfl)) ?_
         refine L_val rfl rfl rfl (V_load rfl rfl ty_sc_24 (by first | exact Rd.blk .h0 rfl | exact Rd.blk .h1 rfl | exact Rd.blk .h2 rfl | exact Rd.blk .h3 rfl | exact Rd.blk .h4 rfl | exact Rd.blk .h5 rfl | exact Rd.blk .h6 rfl | exact Rd.blk .h7 rfl)) ?_
         refine L_val rfl rfl rfl (OpP.v (P_eql rfl rfl rfl)) ?_
         refine E_bool (t := 70) rfl (fun q6 => ?_) (fun q6 => ?_)
         ·skip
          have q6 := of_decide_eq_true q6
          refine L_val rfl rfl rfl (OpP.v (P_move rfl rfl)) ?_
          refine L_no rfl rfl rfl ?_
          refine L_no rfl rfl rfl ?_
          refine L_no rfl rfl rfl ?_
          refine L_val rfl rfl rfl (OpP.v (P_pick rfl rfl rfl)) ?_
          refine L_nil ?_
          refine Q_then ?_
          refine R_condT rfl ?_
          refine R_seq ?_
          refine R_region ?_
          refine L_val rfl rfl rfl (OpP.v (P_assign rfl rfl)) ?_
          refine L_nil ?_
          refine Q_then ?_
          refine R_ret ?_
          refine Q_block_ret ?_
          refine Q_then_ret ?_
          refine Q_then_ret ?_
          refine Q_block_ret ?_
          refine Q_then_ret ?_
          exact R_endV rfl rfl (.tmp rfl .nil) (by rw [show relE l r = 87 from firstE_hit h0 (show relBad l r i = 87 by unfold relBad; rw [← ex]; rw [if_neg (by rw [hp]; decide), if_neg (by omega), if_neg hno, if_pos (by rw [hms]; omega)]) (by decide) (by omega)]; rfl)
         ·skip
          have q6 := of_decide_eq_false q6
          refine L_val rfl rfl rfl (OpP.v (P_move rfl rfl)) ?_
          refine L_val rfl rfl rfl (OpP.v (P_fld0 rfl ty_fl_135_3 rfl)) ?_
          refine L_val rfl rfl rfl (V_load rfl rfl ty_sc_24 (by first | exact Rd.blk .h0 rfl | exact Rd.blk .h1 rfl | exact Rd.blk .h2 rfl | exact Rd.blk .h3 rfl | exact Rd.blk .h4 rfl | exact Rd.blk .h5 rfl | exact Rd.blk .h6 rfl | exact Rd.blk .h7 rfl)) ?_
          refine L_val rfl rfl rfl (OpP.v (P_gtr rfl rfl rfl)) ?_
          refine L_val rfl rfl rfl (OpP.v (P_pick rfl rfl rfl)) ?_
          refine L_nil ?_
          refine Q_then ?_
          refine R_condP rfl (fun q7 => ?_) (fun q7 => ?_)
          ·skip
           refine R_seq ?_
           refine R_region ?_
           refine L_val rfl rfl rfl (OpP.v (P_assign rfl rfl)) ?_
           refine L_nil ?_
           refine Q_then ?_
           refine R_ret ?_
           refine Q_block_ret ?_
           refine Q_then_ret ?_
           refine Q_then_ret ?_
           refine Q_block_ret ?_
           refine Q_then_ret ?_
           exact R_endV rfl rfl (.tmp rfl .nil) (by rw [show relE l r = 87 from firstE_hit h0 (show relBad l r i = 87 by unfold relBad; rw [← ex]; rw [if_neg (by rw [hp]; decide), if_neg (by omega), if_neg hno, if_pos (by rw [hms]; omega)]) (by decide) (by omega)]; rfl)
          ·skip
           refine R_skip ?_
           refine Q_block ?_
           refine Q_then ?_
           refine R_region ?_
           refine L_val rfl rfl rfl (OpP.v (P_move rfl rfl)) ?_
           first | (refine L_val rfl rfl rfl (OpP.v (P_addN rfl rfl rfl (by simp only [fits]; omega))) ?_) | (refine L_val rfl rfl rfl (OpP.v (P_add rfl rfl rfl)) ?_)
           refine L_val rfl rfl rfl (OpP.v (P_assign rfl rfl)) ?_
           refine L_nil ?_
           exact Q_round (i + 1) (by show (i + 1) ≤ r.length ∧ firstE (relBad l r) (i + 1) = 0; exact ⟨by omega, firstE_next h0 (by unfold relBad; rw [← ex, if_neg (by rw [hp]; decide), if_neg (by omega), if_neg hno, if_neg (by rw [hms]; omega)])⟩) (by show r.length - (i + 1) < r.length - i; omega) (by repeat (first | exact .nil | refine .cons rfl ?_ | refine .consE rfl (by first | rfl | (congr 1; omega) | (congr 1; push_cast; omega)) ?_)) (Weak.drop (Weak.drop (Weak.refl _)))
      ·skip
       have hno : ¬ (0 < i ∧ laterB x (relAt r (i - 1)) = false) := by omega
       refine R_skip ?_
       refine Q_then ?_
       refine R_seq ?_
       refine R_region ?_
       refine L_val rfl rfl rfl (OpP.v (P_fld0 rfl ty_fl_135_3 rfl)) ?_
       refine L_val rfl rfl rfl (V_load rfl rfl ty_sc_24 (by first | exact Rd.blk .h0 rfl | exact Rd.blk .h1 rfl | exact Rd.blk .h2 rfl | exact Rd.blk .h3 rfl | exact Rd.blk .h4 rfl | exact Rd.blk .h5 rfl | exact Rd.blk .h6 rfl | exact Rd.blk .h7 rfl)) ?_
       refine L_val rfl rfl rfl (OpP.v (P_eql rfl rfl rfl)) ?_
       refine E_bool (t := 70) rfl (fun q6 => ?_) (fun q6 => ?_)
       ·skip
        have q6 := of_decide_eq_true q6
        refine L_val rfl rfl rfl (OpP.v (P_move rfl rfl)) ?_
        refine L_no rfl rfl rfl ?_
        refine L_no rfl rfl rfl ?_
        refine L_no rfl rfl rfl ?_
        refine L_val rfl rfl rfl (OpP.v (P_pick rfl rfl rfl)) ?_
        refine L_nil ?_
        refine Q_then ?_
        refine R_condT rfl ?_
        refine R_seq ?_
        refine R_region ?_
        refine L_val rfl rfl rfl (OpP.v (P_assign rfl rfl)) ?_
        refine L_nil ?_
        refine Q_then ?_
        refine R_ret ?_
        refine Q_block_ret ?_
        refine Q_then_ret ?_
        refine Q_then_ret ?_
        refine Q_block_ret ?_
        refine Q_then_ret ?_
        exact R_endV rfl rfl (.tmp rfl .nil) (by rw [show relE l r = 87 from firstE_hit h0 (show relBad l r i = 87 by unfold relBad; rw [← ex]; rw [if_neg (by rw [hp]; decide), if_neg (by omega), if_neg hno, if_pos (by rw [hms]; omega)]) (by decide) (by omega)]; rfl)
       ·skip
        have q6 := of_decide_eq_false q6
        refine L_val rfl rfl rfl (OpP.v (P_move rfl rfl)) ?_
        refine L_val rfl rfl rfl (OpP.v (P_fld0 rfl ty_fl_135_3 rfl)) ?_
        refine L_val rfl rfl rfl (V_load rfl rfl ty_sc_24 (by first | exact Rd.blk .h0 rfl | exact Rd.blk .h1 rfl | exact Rd.blk .h2 rfl | exact Rd.blk .h3 rfl | exact Rd.blk .h4 rfl | exact Rd.blk .h5 rfl | exact Rd.blk .h6 rfl | exact Rd.blk .h7 rfl)) ?_
        refine L_val rfl rfl rfl (OpP.v (P_gtr rfl rfl rfl)) ?_
        refine L_val rfl rfl rfl (OpP.v (P_pick rfl rfl rfl)) ?_
        refine L_nil ?_
        refine Q_then ?_
        refine R_condP rfl (fun q7 => ?_) (fun q7 => ?_)
        ·skip
         refine R_seq ?_
         refine R_region ?_
         refine L_val rfl rfl rfl (OpP.v (P_assign rfl rfl)) ?_
         refine L_nil ?_
         refine Q_then ?_
         refine R_ret ?_
         refine Q_block_ret ?_
         refine Q_then_ret ?_
         refine Q_then_ret ?_
         refine Q_block_ret ?_
         refine Q_then_ret ?_
         exact R_endV rfl rfl (.tmp rfl .nil) (by rw [show relE l r = 87 from firstE_hit h0 (show relBad l r i = 87 by unfold relBad; rw [← ex]; rw [if_neg (by rw [hp]; decide), if_neg (by omega), if_neg hno, if_pos (by rw [hms]; omega)]) (by decide) (by omega)]; rfl)
        ·skip
         refine R_skip ?_
         refine Q_block ?_
         refine Q_then ?_
         refine R_region ?_
         refine L_val rfl rfl rfl (OpP.v (P_move rfl rfl)) ?_
         first | (refine L_val rfl rfl rfl (OpP.v (P_addN rfl rfl rfl (by simp only [fits]; omega))) ?_) | (refine L_val rfl rfl rfl (OpP.v (P_add rfl rfl rfl)) ?_)
         refine L_val rfl rfl rfl (OpP.v (P_assign rfl rfl)) ?_
         refine L_nil ?_
         exact Q_round (i + 1) (by show (i + 1) ≤ r.length ∧ firstE (relBad l r) (i + 1) = 0; exact ⟨by omega, firstE_next h0 (by unfold relBad; rw [← ex, if_neg (by rw [hp]; decide), if_neg (by omega), if_neg hno, if_neg (by rw [hms]; omega)])⟩) (by show r.length - (i + 1) < r.length - i; omega) (by repeat (first | exact .nil | refine .cons rfl ?_ | refine .consE rfl (by first | rfl | (congr 1; omega) | (congr 1; push_cast; omega)) ?_)) (Weak.drop (Weak.refl _))
 ·skip
  have hin : i = r.length := by omega
  rw [hin] at h0
  refine R_exit ?_
  refine Q_then_exit ?_
  refine Q_then_exit ?_
  refine Q_block_eq ?_
  refine St.env (.cons (t := 2) rfl .nil) ?_
  refine Q_then ?_
  refine R_seq ?_
  refine R_region ?_
  refine L_val rfl rfl rfl (OpP.v (P_assign rfl rfl)) ?_
  refine L_nil ?_
  refine Q_then ?_
  refine R_ret ?_
  exact R_endV rfl rfl (.tmp rfl .nil) (by rw [show relE l r = 0 from h0]; rfl)
theorem rplace_ok {gl : Nat → Obj} (base : Option Addr) (c : Nat) (l : List Acc) (hc : l.length ≤ c)(hm : l.length ≤ 3518437208883) (r : Value) (hr : r.oneCell' = true) (bu su a : Int) : SpecV (cx gl) 68 [.agg (ledV (.slice base l.length c) r bu su).toArray, .int .u64 a] (fun w => Row w base (rc l)) (.int .i64 (idxG (isAz a) l)) := by
 refine Spec.enter (C := cx gl) Tryz.func68 rfl 26 rfl rfl fun w0 h0 hsep hsub hpre => ?_
 obtain rfl : h0 = Heap.none := hsep
 show St (cx gl) _ [(0, .agg (ledV (.slice base l.length c) r bu su).toArray), (1, .int .u64 a)] _ _
 refine R_seq ?_
 refine R_region ?_
 refine L_op rfl (W_box (ledV (.slice base l.length c) r bu su) rfl rfl rfl rfl rfl fun b2 => ?_)
 refine L_val rfl rfl rfl (OpP.v (P_assign rfl rfl)) ?_
 refine L_nil ?_
 refine St.env (.cons (t := 1) rfl (.cons (t := 2) rfl (.cons (t := 4) rfl .nil))) ?_
 refine Q_then ?_
 refine R_seq ?_
 refine R_seq ?_
 refine R_region ?_
 refine L_val rfl rfl rfl (OpP.v (P_assign rfl rfl)) ?_
 refine L_nil ?_
 refine Q_then ?_
 refine R_block ?_
 refine R_loopE (G := Nat) (.cons (t := 1) rfl (.cons (t := 2) rfl (.cons (t := 4) rfl .nil))) (fun g => [(5, .int .i64 (g : Int))]) (fun _ => _) (fun g => g ≤ l.length ∧ ∀ j m', j < g → l[j]? = some m' → isAz a m' = false) (fun g => l.length - g) (0) (by show (0) ≤ l.length ∧ ∀ j m', j < (0) → l[j]? = some m' → isAz a m' = false; exact ⟨Nat.zero_le _, fun j _ h => by omega⟩) (by repeat (first | exact .nil | refine .cons rfl ?_ | refine .consE rfl (by first | rfl | (congr 1; omega) | (congr 1; push_cast; omega)) ?_)) (Weak.refl _) ?_
 intro i hinv
 replace hinv : i ≤ l.length ∧ ∀ j m', j < i → l[j]? = some m' → isAz a m' = false := hinv
 show St (cx gl) _ ((5, .int .i64 (i : Int)) :: _) _ _
 obtain ⟨hi, h0⟩ := hinv
 refine R_seq ?_
 refine R_seq ?_
 refine R_region ?_
 refine L_val rfl rfl rfl (OpP.v (P_move rfl rfl)) ?_
 refine L_val rfl rfl rfl (OpP.v (P_fld0 rfl ty_fl_26_0 rfl)) ?_
 refine L_val rfl rfl rfl (V_load rfl rfl ty_sc_22 (Rd.blk .h0 rfl)) ?_
 refine L_val rfl rfl rfl (OpP.v (P_len rfl ty_sl_22 rfl)) ?_
 refine L_val rfl rfl rfl (OpP.v (P_lss rfl rfl rfl)) ?_
 refine L_nil ?_
 refine Q_then ?_
 refine R_condP rfl (fun hlt => ?_) (fun hlt => ?_)
 ·skip
  have hx0 := accAt_get (l := l) (i := i) (by omega)
  obtain ⟨x, ex⟩ : ∃ x, x = accAt l i := ⟨_, rfl⟩
  have hx : l[i]? = some x := by rw [ex]; exact hx0
  obtain ⟨pb, pj, rfl, hrow⟩ := hpre.some_ (by rw [rc_length]; show 0 < _ * 5; omega)
  refine R_skip ?_
  refine Q_then ?_
  refine R_seq ?_
  refine R_block ?_
  refine R_seq ?_
  refine R_region ?_
  refine L_val rfl rfl rfl (OpP.v (P_fld0 rfl ty_fl_26_0 rfl)) ?_
  refine L_val rfl rfl rfl (V_load rfl rfl ty_sc_22 (Rd.blk .h0 rfl)) ?_
  refine L_val rfl rfl rfl (OpP.v (P_move rfl rfl)) ?_
  refine L_val rfl rfl rfl (OpP.v (P_ixs (i) rfl ty_sl_22 rfl rfl (by first | rfl | omega) (by omega))) ?_
  refine L_val rfl rfl rfl (OpP.v (P_fld rfl ty_fl_38_0 rfl)) ?_
  refine L_val rfl rfl rfl (V_load rfl rfl ty_sc_27 (rd_rc (Rds.row hrow rfl) hx rfl)) ?_
  refine L_val rfl rfl rfl (OpP.v (P_move rfl rfl)) ?_
  refine L_val rfl rfl rfl (OpP.v (P_eql rfl rfl rfl)) ?_
  refine E_bool (t := 20) rfl (fun e1 => ?_) (fun e1 => ?_)
  ·skip
   have e1 := of_decide_eq_true e1
   refine L_val rfl rfl rfl (OpP.v (P_move rfl rfl)) ?_
   refine L_val rfl rfl rfl (OpP.v (P_move rfl rfl)) ?_
   refine L_val rfl rfl rfl (OpP.v (P_neq rfl rfl rfl)) ?_
   refine L_val rfl rfl rfl (OpP.v (P_pick rfl rfl rfl)) ?_
   refine L_nil ?_
   refine Q_then ?_
   refine R_condP rfl (fun e2 => ?_) (fun e2 => ?_)
   ·skip
    have hpx : isAz a x = true := by unfold isAz; rw [decide_eq_true e1, decide_eq_true e2]; rfl
    refine R_seq ?_
    refine R_region ?_
    refine L_val rfl rfl rfl (OpP.v (P_move rfl rfl)) ?_
    refine L_val rfl rfl rfl (OpP.v (P_assign rfl rfl)) ?_
    refine L_nil ?_
    refine Q_then ?_
    refine R_ret ?_
    refine Q_block_ret ?_
    refine Q_then_ret ?_
    refine Q_then_ret ?_
    refine Q_block_ret ?_
    refine Q_then_ret ?_
    exact R_endV rfl rfl (.tmp rfl .nil) (by rw [idxG_hit h0 hx hpx]; rfl)
   ·skip
    have hpx : isAz a x = false := by unfold isAz; rw [decide_eq_false (p := a ≠ 0) e2, Bool.and_false]
    refine R_skip ?_
    refine Q_block ?_
    refine Q_then ?_
    refine R_region ?_
    refine L_val rfl rfl rfl (OpP.v (P_move rfl rfl)) ?_
    first | (refine L_val rfl rfl rfl (OpP.v (P_addN rfl rfl rfl (by simp only [fits]; omega))) ?_) | (refine L_val rfl rfl rfl (OpP.v (P_add rfl rfl rfl)) ?_)
    refine L_val rfl rfl rfl (OpP.v (P_assign rfl rfl)) ?_
    refine L_nil ?_
    exact Q_round (i + 1) (by show (i + 1) ≤ l.length ∧ ∀ j m', j < (i + 1) → l[j]? = some m' → isAz a m' = false; exact ⟨by omega, no_next h0 hx hpx⟩) (by show l.length - (i + 1) < l.length - i; omega) (by repeat (first | exact .nil | refine .cons rfl ?_ | refine .consE rfl (by first | rfl | (congr 1; omega) | (congr 1; push_cast; omega)) ?_)) (Weak.refl _)
  ·skip
   have e1 := of_decide_eq_false e1
   have hpx : isAz a x = false := by unfold isAz; rw [decide_eq_false e1, Bool.false_and]
   refine L_val rfl rfl rfl (OpP.v (P_move rfl rfl)) ?_
   refine L_no rfl rfl rfl ?_
   refine L_no rfl rfl rfl ?_
   refine L_val rfl rfl rfl (OpP.v (P_pick rfl rfl rfl)) ?_
   refine L_nil ?_
   refine Q_then ?_
   refine R_condF rfl ?_
   refine R_skip ?_
   refine Q_block ?_
   refine Q_then ?_
   refine R_region ?_
   refine L_val rfl rfl rfl (OpP.v (P_move rfl rfl)) ?_
   first | (refine L_val rfl rfl rfl (OpP.v (P_addN rfl rfl rfl (by simp only [fits]; omega))) ?_) | (refine L_val rfl rfl rfl (OpP.v (P_add rfl rfl rfl)) ?_)
   refine L_val rfl rfl rfl (OpP.v (P_assign rfl rfl)) ?_
   refine L_nil ?_
   exact Q_round (i + 1) (by show (i + 1) ≤ l.length ∧ ∀ j m', j < (i + 1) → l[j]? = some m' → isAz a m' = false; exact ⟨by omega, no_next h0 hx hpx⟩) (by show l.length - (i + 1) < l.length - i; omega) (by repeat (first | exact .nil | refine .cons rfl ?_ | refine .consE rfl (by first | rfl | (congr 1; omega) | (congr 1; push_cast; omega)) ?_)) (Weak.refl _)
 ·skip
  have hin : i = l.length := by omega
  rw [hin] at h0
  refine R_exit ?_
  refine Q_then_exit ?_
  refine Q_then_exit ?_
  refine Q_block_eq ?_
  refine St.env (.cons (t := 4) rfl .nil) ?_
  refine Q_then ?_
  refine R_seq ?_
  refine R_region ?_
  refine L_val rfl rfl rfl (OpP.v (P_assign rfl rfl)) ?_
  refine L_nil ?_
  refine Q_then ?_
  refine R_ret ?_
  exact R_endV rfl rfl (.tmp rfl .nil) (by rw [idxG_none h0]; rfl)
theorem rfind_ok {gl : Nat → Obj} (base : Option Addr) (c : Nat) (l : List Acc) (hc : l.length ≤ c)(hm : l.length ≤ 3518437208883) (r : Value) (hr : r.oneCell' = true) (bu su a : Int) : SpecV (cx gl) 24 [.agg (ledV (.slice base l.length c) r bu su).toArray, .int .u64 a] (fun w => Row w base (rc l)) (findV l a) := by
 refine Spec.enter (C := cx gl) Tryz.func24 rfl 18 rfl rfl fun w0 h0 hsep hsub hpre => ?_
 obtain rfl : h0 = Heap.none := hsep
 show St (cx gl) _ [(0, .agg (ledV (.slice base l.length c) r bu su).toArray), (1, .int .u64 a)] _ _
 refine R_seq ?_
 refine R_region ?_
 refine L_op rfl (W_box (ledV (.slice base l.length c) r bu su) rfl rfl rfl rfl rfl fun b2 => ?_)
 refine L_op rfl (W_alloc rfl rfl rfl ty_ze_38 fun b4 => ?_)
 refine L_val rfl rfl rfl (OpP.v (P_assign rfl rfl)) ?_
 refine L_nil ?_
 refine St.env (.cons (t := 1) rfl (.cons (t := 2) rfl (.cons (t := 4) rfl (.cons (t := 5) rfl .nil)))) ?_
 refine Q_then ?_
 refine R_seq ?_
 refine R_region ?_
 refine L_val rfl rfl rfl (V_loadAgg rfl rfl ty_ag_26 (Rds.blk .h1) (rfl)) ?_
 refine L_val rfl rfl rfl (OpP.v (P_move rfl rfl)) ?_
 refine L_op rfl (W_callV rfl rfl rfl rfl fn_ca_68 (rplace_ok base c l hc hm r hr bu su a) (fun w nw => (Sn.row hpre rfl).rw_ w nw) ?_)
 refine L_val rfl rfl rfl (OpP.v (P_assign rfl rfl)) ?_
 refine L_nil ?_
 refine St.env (.cons (t := 2) rfl (.cons (t := 4) rfl (.cons (t := 5) rfl (.cons (t := 6) rfl .nil)))) ?_
 refine Q_then ?_
 refine R_seq ?_
 refine R_seq ?_
 refine R_region ?_
 refine L_val rfl rfl rfl (OpP.v (P_move rfl rfl)) ?_
 refine L_val rfl rfl rfl (OpP.v (P_lss rfl rfl rfl)) ?_
 refine L_nil ?_
 refine St.env (.cons (t := 2) rfl (.cons (t := 4) rfl (.cons (t := 5) rfl (.cons (t := 6) rfl (.cons (t := 11) rfl .nil))))) ?_
 refine Q_then ?_
 refine R_condP rfl (fun hn => ?_) (fun hn => ?_)
 ·skip
  rw [isAz_idx] at hn
  have hno : idxG (isAc a) l < 0 ∨ a = 0 := by split at hn; exact .inr (by assumption); exact .inl hn
  refine R_seq ?_
  refine R_region ?_
  refine L_val rfl rfl rfl (OpP.v (P_buildStruct rfl ty_pl_38 ty_ze_38 rfl rfl (rfl))) ?_
  refine L_op rfl (W_storeAll rfl rfl rfl rfl ty_ag_38 (rfl) (Rec.one acc0) .h0 (rfl) ?_)
  refine L_val rfl rfl rfl (OpP.v (P_assign rfl rfl)) ?_
  refine L_nil ?_
  refine St.env (.cons (t := 2) rfl (.cons (t := 4) rfl (.cons (t := 5) rfl (.cons (t := 6) rfl .nil)))) ?_
  refine Q_then ?_
  refine R_ret ?_
  refine Q_then_ret ?_
  exact R_endV rfl rfl (.cell rfl (Rds.loadVar ty_ag_38 (Rds.blk .h0) rfl) (.tmp rfl .nil)) (by rw [findV_no hno]; rfl)
 ·skip
  obtain ⟨i, hi, hix⟩ := idxG_pos hn
  rw [isAz_idx] at hix
  have ha0 : a ≠ 0 := fun e => by rw [if_pos e] at hix; omega
  rw [if_neg ha0] at hix
  have hno : ¬ (idxG (isAc a) l < 0 ∨ a = 0) := by omega
  have hx := accAt_get hi
  obtain ⟨pb, pj, rfl, hrow⟩ := hpre.some_ (by rw [rc_length]; show 0 < _ * 5; omega)
  refine E_as (t := 6) (v' := .int .i64 (i : Int)) rfl (by rw [isAz_idx, if_neg ha0, hix]) ?_
  refine R_skip ?_
  refine Q_then ?_
  refine R_seq ?_
  refine R_region ?_
  refine L_val rfl rfl rfl (OpP.v (P_fld0 rfl ty_fl_26_0 rfl)) ?_
  refine L_val rfl rfl rfl (V_load rfl rfl ty_sc_22 (Rd.blk .h1 rfl)) ?_
  refine L_val rfl rfl rfl (OpP.v (P_move rfl rfl)) ?_
  refine L_val rfl rfl rfl (OpP.v (P_ixs (i) rfl ty_sl_22 rfl rfl (by first | rfl | omega) (by omega))) ?_
  refine L_val rfl rfl rfl (V_loadAgg rfl rfl ty_ag_38 (rds_rc (Rds.row hrow rfl) hx) (rfl)) ?_
  refine L_op rfl (W_storeAll rfl rfl rfl rfl ty_ag_38 (rfl) (Rec.one (accAt l i)) .h0 (rfl) ?_)
  refine L_val rfl rfl rfl (OpP.v (P_assign rfl rfl)) ?_
  refine L_nil ?_
  refine St.env (.cons (t := 4) rfl (.cons (t := 5) rfl .nil)) ?_
  refine Q_then ?_
  refine R_ret ?_
  exact R_endV rfl rfl (.cell rfl (Rds.loadVar ty_ag_38 (Rds.blk .h0) rfl) (.tmp rfl .nil)) (by rw [findV_yes hno, hix]; rfl)
end Go.Proofs.YtfhjhaogmdaepaaGreatDoor

/- The reference: New, Sound, Seats. Printed by gen.py. -/
set_option linter.unusedVariables false
set_option linter.unusedSimpArgs false
set_option maxRecDepth 100000
namespace Go.Proofs.YtfhjhaogmdaepaaGreatDoor
open Go Go.RowKit Go.Proofs
theorem rsound_ok {gl : Nat → Obj} (base : Option Addr) (c : Nat) (l : List Acc) (hc : l.length ≤ c)(hm : l.length ≤ 3518437208883)(hok : ∀ x ∈ l, x.ok)(base' : Option Addr) (c' : Nat) (r : List Rel) (hc' : r.length ≤ c') (hok' : ∀ x ∈ r, x.ok) (bu su : Int) (hbu : u64 bu) : SpecV (cx gl) 55 [.agg (ledV (.slice base l.length c) (.slice base' r.length c') bu su).toArray] (fun w => Row w base (rc l) ∧ Row w base' (rc r)) (.int .i64 (lsoundE ⟨l, r, bu, su⟩)) := by
 refine Spec.enter (C := cx gl) Tryz.func55 rfl 35 rfl rfl fun w0 h0 hsep hsub hpre => ?_
 obtain rfl : h0 = Heap.none := hsep
 show St (cx gl) _ [(0, .agg (ledV (.slice base l.length c) (.slice base' r.length c') bu su).toArray)] _ _
 have hms : MS = 1152921504606846975 := rfl
 refine R_seq ?_
 refine R_region ?_
 refine L_op rfl (W_box (ledV (.slice base l.length c) (.slice base' r.length c') bu su) rfl rfl rfl rfl rfl fun b1 => ?_)
 refine L_val rfl rfl rfl (OpP.v (P_assign rfl rfl)) ?_
 refine L_nil ?_
 refine St.env (.cons (t := 1) rfl (.cons (t := 2) rfl .nil)) ?_
 refine Q_then ?_
 refine R_seq ?_
 refine R_seq ?_
 refine R_region ?_
 refine L_val rfl rfl rfl (OpP.v (P_fld0 rfl ty_fl_26_0 rfl)) ?_
 refine L_val rfl rfl rfl (V_load rfl rfl ty_sc_22 (Rd.blk .h0 rfl)) ?_
 refine L_val rfl rfl rfl (OpP.v (P_len rfl ty_sl_22 rfl)) ?_
 refine L_val rfl rfl rfl (OpP.v (P_gtr rfl rfl rfl)) ?_
 refine E_bool (t := 7) rfl (fun hA => ?_) (fun hA => ?_)
 ·skip
  have hA := of_decide_eq_true hA
  refine L_val rfl rfl rfl (OpP.v (P_move rfl rfl)) ?_
  refine L_no rfl rfl rfl ?_
  refine L_no rfl rfl rfl ?_
  refine L_no rfl rfl rfl ?_
  refine L_no rfl rfl rfl ?_
  refine L_val rfl rfl rfl (OpP.v (P_pick rfl rfl rfl)) ?_
  refine L_nil ?_
  refine St.env (.cons (t := 1) rfl (.cons (t := 2) rfl (.cons (t := 13) rfl .nil))) ?_
  refine Q_then ?_
  refine R_condT rfl ?_
  refine R_seq ?_
  refine R_region ?_
  refine L_val rfl rfl rfl (OpP.v (P_assign rfl rfl)) ?_
  refine L_nil ?_
  refine St.env (.cons (t := 1) rfl (.cons (t := 2) rfl .nil)) ?_
  refine Q_then ?_
  refine R_ret ?_
  refine Q_then_ret ?_
  exact R_endV rfl rfl (.tmp rfl .nil) (by rw [show lsoundE ⟨l, r, bu, su⟩ = 86 from lsoundE_big (by show 65536 < l.length ∨ 65536 < r.length; omega)]; rfl)
 ·skip
  have hA := of_decide_eq_false hA
  have hA : ¬ 65536 < l.length := by omega
  refine L_val rfl rfl rfl (OpP.v (P_move rfl rfl)) ?_
  refine L_val rfl rfl rfl (OpP.v (P_fld0 rfl ty_fl_26_1 rfl)) ?_
  refine L_val rfl rfl rfl (V_load rfl rfl ty_sc_23 (Rd.blk .h0 rfl)) ?_
  refine L_val rfl rfl rfl (OpP.v (P_len rfl ty_sl_23 rfl)) ?_
  refine L_val rfl rfl rfl (OpP.v (P_gtr rfl rfl rfl)) ?_
  refine L_val rfl rfl rfl (OpP.v (P_pick rfl rfl rfl)) ?_
  refine L_nil ?_
  refine St.env (.cons (t := 1) rfl (.cons (t := 2) rfl (.cons (t := 13) rfl .nil))) ?_
  refine Q_then ?_
  refine R_condP rfl (fun hB => ?_) (fun hB => ?_)
  ·skip
   refine R_seq ?_
   refine R_region ?_
   refine L_val rfl rfl rfl (OpP.v (P_assign rfl rfl)) ?_
   refine L_nil ?_
   refine St.env (.cons (t := 1) rfl (.cons (t := 2) rfl .nil)) ?_
   refine Q_then ?_
   refine R_ret ?_
   refine Q_then_ret ?_
   exact R_endV rfl rfl (.tmp rfl .nil) (by rw [show lsoundE ⟨l, r, bu, su⟩ = 86 from lsoundE_big (by show 65536 < l.length ∨ 65536 < r.length; omega)]; rfl)
  ·skip
   have hB : ¬ 65536 < r.length := by omega
   refine R_skip ?_
   refine Q_then ?_
   refine R_seq ?_
   refine R_region ?_
   refine L_val rfl rfl rfl (OpP.v (P_fld0 rfl ty_fl_26_0 rfl)) ?_
   refine L_val rfl rfl rfl (V_load rfl rfl ty_sc_22 (Rd.blk .h0 rfl)) ?_
   refine L_op rfl (W_callV rfl rfl rfl rfl fn_ca_69 (racc_ok base c l hc hm) (fun w nw => (Sn.row hpre.1 rfl).rw_ w nw) ?_)
   refine E_as (t := 16) (v' := .int .i64 (accE l)) rfl (by unfold raccE; rw [if_neg hA]) ?_
   refine L_val rfl rfl rfl (OpP.v (P_assign rfl rfl)) ?_
   refine L_nil ?_
   refine St.env (.cons (t := 1) rfl (.cons (t := 2) rfl (.cons (t := 3) rfl .nil))) ?_
   refine Q_then ?_
   refine R_seq ?_
   refine R_seq ?_
   refine R_region ?_
   refine L_val rfl rfl rfl (OpP.v (P_move rfl rfl)) ?_
   refine L_val rfl rfl rfl (OpP.v (P_neq rfl rfl rfl)) ?_
   refine L_nil ?_
   refine St.env (.cons (t := 1) rfl (.cons (t := 2) rfl (.cons (t := 3) rfl (.cons (t := 18) rfl .nil)))) ?_
   refine Q_then ?_
   refine R_condP rfl (fun he => ?_) (fun he => ?_)
   ·skip
    refine R_seq ?_
    refine R_region ?_
    refine L_val rfl rfl rfl (OpP.v (P_move rfl rfl)) ?_
    refine L_val rfl rfl rfl (OpP.v (P_assign rfl rfl)) ?_
    refine L_nil ?_
    refine St.env (.cons (t := 1) rfl (.cons (t := 2) rfl (.cons (t := 3) rfl .nil))) ?_
    refine Q_then ?_
    refine R_ret ?_
    refine Q_then_ret ?_
    exact R_endV rfl rfl (.tmp rfl .nil) (by rw [show lsoundE ⟨l, r, bu, su⟩ = accE l from lsoundE_acc hA hB he]; rfl)
   ·skip
    have he : accE l = 0 := Classical.not_not.1 he
    refine R_skip ?_
    refine Q_then ?_
    refine R_seq ?_
    refine R_region ?_
    refine L_val rfl rfl rfl (V_loadAgg rfl rfl ty_ag_26 (Rds.blk .h0) (rfl)) ?_
    refine L_op rfl (W_callV rfl rfl rfl rfl fn_ca_124 (rrows_ok base c l hc hm base' c' r hc' (by omega) hok' bu su) (fun w nw => ⟨(Sn.row hpre.1 rfl).rw_ w nw, (Sn.row hpre.2 rfl).rw_ w nw⟩) ?_)
    refine L_val rfl rfl rfl (OpP.v (P_assign rfl rfl)) ?_
    refine L_nil ?_
    refine St.env (.cons (t := 1) rfl (.cons (t := 2) rfl (.cons (t := 3) rfl .nil))) ?_
    refine Q_then ?_
    refine R_seq ?_
    refine R_seq ?_
    refine R_region ?_
    refine L_val rfl rfl rfl (OpP.v (P_move rfl rfl)) ?_
    refine L_val rfl rfl rfl (OpP.v (P_neq rfl rfl rfl)) ?_
    refine L_nil ?_
    refine St.env (.cons (t := 1) rfl (.cons (t := 2) rfl (.cons (t := 3) rfl (.cons (t := 23) rfl .nil)))) ?_
    refine Q_then ?_
    refine R_condP rfl (fun hr => ?_) (fun hr => ?_)
    ·skip
     refine R_seq ?_
     refine R_region ?_
     refine L_val rfl rfl rfl (OpP.v (P_move rfl rfl)) ?_
     refine L_val rfl rfl rfl (OpP.v (P_assign rfl rfl)) ?_
     refine L_nil ?_
     refine St.env (.cons (t := 1) rfl (.cons (t := 2) rfl .nil)) ?_
     refine Q_then ?_
     refine R_ret ?_
     refine Q_then_ret ?_
     exact R_endV rfl rfl (.tmp rfl .nil) (by rw [show lsoundE ⟨l, r, bu, su⟩ = relE l r from lsoundE_rel hA hB he rfl hr]; rfl)
    ·skip
     have hr : relE l r = 0 := Classical.not_not.1 hr
     have hts := totC_spec hok hok' hbu.1
     refine R_skip ?_
     refine Q_then ?_
     refine R_seq ?_
     refine R_seq ?_
     refine R_open [(0, 0), (1, 1), (2, 0), (3, 0), (4, 1), (6, 0), (7, 1), (5, 2), (8, 0), (9, 0)] mixed (by kernel_rfl) (QOk.then (QOk.then QOk.body)) ?_
     refine O_pure rfl rfl rfl rfl (P_fld0 rfl ty_fl_26_3 rfl) ?_
     refine O_val rfl rfl rfl rfl (V_load rfl rfl ty_sc_24 (Rd.blk .h0 rfl)) ?_
     refine O_pure rfl rfl rfl rfl (P_gtr rfl rfl rfl) ?_
     refine E_bool (t := 27) rfl (fun q1 => ?_) (fun q1 => ?_)
     ·skip
      have q1 := of_decide_eq_true q1
      refine O_pure rfl rfl rfl rfl (P_move rfl rfl) ?_
      refine O_noX rfl rfl rfl rfl ?_
      refine O_no rfl rfl rfl rfl ?_
      refine O_noX rfl rfl rfl rfl ?_
      refine O_no2 rfl rfl rfl rfl ?_
      refine O_no rfl rfl rfl rfl ?_
      refine O_pure rfl rfl rfl rfl (P_pick rfl rfl rfl) ?_
      refine O_nil ?_
      refine St.env (.cons (t := 2) rfl (.cons (t := 34) rfl .nil)) ?_
      refine Q_then ?_
      refine R_condT rfl ?_
      refine R_seq ?_
      refine R_region ?_
      refine L_val rfl rfl rfl (OpP.v (P_assign rfl rfl)) ?_
      refine L_nil ?_
      refine St.env (.cons (t := 2) rfl .nil) ?_
      refine Q_then ?_
      refine R_ret ?_
      refine Q_then_ret ?_
      exact R_endV rfl rfl (.tmp rfl .nil) (by rw [show lsoundE ⟨l, r, bu, su⟩ = 87 from lsoundE_sum hA hB he hr (by show MS < su ∨ bu + sumA l + sumR r ≠ su; rw [hms] at hts ⊢; omega)]; rfl)
     ·skip
      have q1 := of_decide_eq_false q1
      refine O_pure rfl rfl rfl rfl (P_move rfl rfl) ?_
      refine O_val rfl rfl rfl rfl (V_loadAgg rfl rfl ty_ag_26 (Rds.blk .h0) (rfl)) ?_
      refine O_pure rfl rfl rfl rfl (P_fld0 rfl ty_fl_26_3 rfl) ?_
      refine O_val rfl rfl rfl rfl (V_load rfl rfl ty_sc_24 (Rd.blk .h0 rfl)) ?_
      refine O_keep rfl rfl (W_callV rfl rfl rfl rfl fn_ca_70 (rtot_ok base c l hc hm hok base' c' r hc' (by omega) hok' bu su hbu) (fun w nw => ⟨(Sn.row hpre.1 rfl).rw_ w nw, (Sn.row hpre.2 rfl).rw_ w nw⟩) (K_keep (Weak.refl _) ?_))
      refine O_pure rfl rfl rfl rfl (P_neq rfl rfl rfl) ?_
      refine O_pure rfl rfl rfl rfl (P_pick rfl rfl rfl) ?_
      refine O_nil ?_
      refine St.env (.cons (t := 2) rfl (.cons (t := 34) rfl .nil)) ?_
      refine Q_then ?_
      refine R_condP rfl (fun q2 => ?_) (fun q2 => ?_)
      ·skip
       refine R_seq ?_
       refine R_region ?_
       refine L_val rfl rfl rfl (OpP.v (P_assign rfl rfl)) ?_
       refine L_nil ?_
       refine St.env (.cons (t := 2) rfl .nil) ?_
       refine Q_then ?_
       refine R_ret ?_
       refine Q_then_ret ?_
       exact R_endV rfl rfl (.tmp rfl .nil) (by rw [show lsoundE ⟨l, r, bu, su⟩ = 87 from lsoundE_sum hA hB he hr (by show MS < su ∨ bu + sumA l + sumR r ≠ su; rw [hms] at hts ⊢; omega)]; rfl)
      ·skip
       refine R_skip ?_
       refine Q_then ?_
       refine R_seq ?_
       refine R_region ?_
       refine L_val rfl rfl rfl (OpP.v (P_assign rfl rfl)) ?_
       refine L_nil ?_
       refine St.env (.cons (t := 2) rfl .nil) ?_
       refine Q_then ?_
       refine R_ret ?_
       exact R_endV rfl rfl (.tmp rfl .nil) (by rw [show lsoundE ⟨l, r, bu, su⟩ = 0 from lsoundE_fine hA hB he hr (by show ¬ MS < su; rw [hms]; omega) (by show bu + sumA l + sumR r = su; rw [hms] at hts; omega)]; rfl)
end Go.Proofs.YtfhjhaogmdaepaaGreatDoor

/- Walks: Root. Printed by gen.py. -/
set_option linter.unusedVariables false
set_option linter.unusedSimpArgs false
set_option maxRecDepth 100000
namespace Go.Proofs.YtfhjhaogmdaepaaGreatDoor
open Go Go.RowKit Go.Proofs
def fB (L : Led) : List (List Int) := L.acc.map formB
def rootLE (L : Led) : Int := if lsoundE L ≠ 0 then lsoundE L else rootE (fB L)
def rootLD (L : Led) : List Int := if rootLE L ≠ 0 then List.replicate 32 0 else sha (1 :: (rootD (fB L) ++ sha (restB L.rel L.burnt L.sup)))
def rootLV (L : Led) : Value := .tuple #[.agg (ints .u8 (rootLD L)).toArray, .int .i64 (rootLE L)]
theorem rootLE_bad {L : Led} (h : lsoundE L ≠ 0) : rootLE L = lsoundE L := by unfold rootLE; rw [if_pos h]
theorem rootLE_of {L : Led} (h : lsoundE L = 0) : rootLE L = rootE (fB L) := by unfold rootLE; rw [if_neg (by rw [h]; simp)]
theorem rootLV_bad {L : Led} {e : Int} (h : rootLE L = e) (he : e ≠ 0) : rootLV L = .tuple #[.agg (ints .u8 (List.replicate 32 0)).toArray, .int .i64 e] := by
 unfold rootLV rootLD; rw [if_pos (by rw [h]; exact he), h]
theorem rootLV_fine {L : Led} (h : rootLE L = 0) : rootLV L = .tuple #[.agg (ints .u8 (sha (1 :: (rootD (fB L) ++ sha (restB L.rel L.burnt L.sup))))).toArray, .int .i64 0] := by
 unfold rootLV rootLD; rw [if_neg (by rw [h]; simp), h]
theorem rootLD_length (L : Led) : (rootLD L).length = 32 := by unfold rootLD; split; simp; exact sha_length _
theorem lroot_ok {gl : Nat → Obj} (hG : Globs gl) (base : Option Addr) (c : Nat) (l : List Acc) (hc : l.length ≤ c) (hm : l.length ≤ 3518437208800)(hok : ∀ x ∈ l, x.ok) (base' : Option Addr) (c' : Nat) (r : List Rel) (hc' : r.length ≤ c') (hok' : ∀ x ∈ r, x.ok) (bu su : Int) (hbu : u64 bu) (hsu : u64 su) : SpecV (cx gl) 10 [.agg (ledV (.slice base l.length c) (.slice base' r.length c') bu su).toArray] (fun w => Row w base (rc l) ∧ Row w base' (rc r)) (rootLV ⟨l, r, bu, su⟩) := by
 refine Spec.enter (C := cx gl) Tryz.func10 rfl 27 rfl rfl fun w0 h0 hsep hsub hpre => ?_
 obtain rfl : h0 = Heap.none := hsep
 show St (cx gl) _ [(0, .agg (ledV (.slice base l.length c) (.slice base' r.length c') bu su).toArray)] _ _
 refine R_seq ?_
 refine R_region ?_
 refine L_op rfl (W_box (ledV (.slice base l.length c) (.slice base' r.length c') bu su) rfl rfl rfl rfl rfl fun b1 => ?_)
 refine L_op rfl (W_alloc rfl rfl rfl ty_ze_29 fun b2 => ?_)
 refine L_val rfl rfl rfl (OpP.v (P_assign rfl rfl)) ?_
 refine L_nil ?_
 refine St.env (.cons (t := 1) rfl (.cons (t := 2) rfl (.cons (t := 3) rfl .nil))) ?_
 refine Q_then ?_
 refine R_seq ?_
 refine R_seq ?_
 refine R_region ?_
 refine L_val rfl rfl rfl (V_loadAgg rfl rfl ty_ag_26 (Rds.blk .h1) (rfl)) ?_
 refine L_op rfl (W_callV rfl rfl rfl rfl fn_ca_45 (lsound_ok base c l hc hok base' c' r hc' hok' bu su hbu hsu) (fun w nw => ⟨(Sn.row hpre.1 rfl).rw_ w nw, (Sn.row hpre.2 rfl).rw_ w nw⟩) ?_)
 refine L_val rfl rfl rfl (OpP.v (P_assign rfl rfl)) ?_
 refine L_nil ?_
 refine St.env (.cons (t := 1) rfl (.cons (t := 2) rfl (.cons (t := 3) rfl (.cons (t := 4) rfl .nil)))) ?_
 refine Q_then ?_
 refine R_seq ?_
 refine R_region ?_
 refine L_val rfl rfl rfl (OpP.v (P_move rfl rfl)) ?_
 refine L_val rfl rfl rfl (OpP.v (P_neq rfl rfl rfl)) ?_
 refine L_nil ?_
 refine St.env (.cons (t := 1) rfl (.cons (t := 2) rfl (.cons (t := 3) rfl (.cons (t := 4) rfl (.cons (t := 10) rfl .nil))))) ?_
 refine Q_then ?_
 refine R_condP rfl (fun he => ?_) (fun he => ?_)
 ·skip
  refine R_seq ?_
  refine R_region ?_
  refine L_val rfl rfl rfl (OpP.v (P_buildArrR rfl ty_ar_29 ty_ze_29 rfl rfl rfl (by first | decide | (simp only [List.length_cons, List.length_nil]; omega)) (by simp [Value.oneCell']))) ?_
  refine E_as (t := 11) (v' := .agg (ints .u8 (List.replicate 32 0)).toArray) rfl rfl ?_
  refine L_val rfl rfl rfl (OpP.v (P_move rfl rfl)) ?_
  refine L_op rfl (W_storeAll rfl rfl rfl rfl ty_ag_29 (rfl) (ints_one) .h0 (rfl) ?_)
  refine L_val rfl rfl rfl (OpP.v (P_assign rfl rfl)) ?_
  refine L_nil ?_
  refine St.env (.cons (t := 1) rfl (.cons (t := 2) rfl (.cons (t := 3) rfl .nil))) ?_
  refine Q_then ?_
  refine R_ret ?_
  refine Q_then_ret ?_
  exact R_endV rfl rfl (.cell rfl (Rds.loadVar ty_ag_29 (Rds.blk .h0) rfl) (.tmp rfl .nil)) (by rw [rootLV_bad (L := ⟨l, r, bu, su⟩) (e := lsoundE ⟨l, r, bu, su⟩) (rootLE_bad he) he]; rfl)
 ·skip
  have he : lsoundE ⟨l, r, bu, su⟩ = 0 := Classical.not_not.1 he
  have hF := ledFine_of he
  have hfew : l.length ≤ 65536 := hF.few
  have hfew' : r.length ≤ 65536 := hF.few'
  have hle := rootLE_of he
  refine R_skip ?_
  refine Q_then ?_
  refine R_seq ?_
  refine R_region ?_
  refine L_val rfl rfl rfl (V_loadAgg rfl rfl ty_ag_26 (Rds.blk .h1) (rfl)) ?_
  refine L_op rfl (W_call rfl rfl rfl rfl fn_ca_52 (forms_ok base c l hc hfew (.slice base' r.length c') rfl bu su) (Split.nil _) (fun w a b _ hb dj m => (Sn.row hpre.1 rfl).rw_ w ⟨_, hb, m.le (Heap.le_join_right dj)⟩) fun v1 rs1 ⟨qs, hq, e1⟩ => ?_)
  subst e1
  refine St.ownForm (p := [_]) fun ub uc huv huc => ?_
  subst huv
  have hql : (qs.map Ob.val).length = l.length := by rw [List.length_map]; exact hq.len
  have h9 := root_ok (gl := gl) hG ub uc (qs.map Ob.val) (qs.map Ob.xs) (by rw [List.length_map, List.length_map]) (by omega) (by omega)
  rw [hql, hq.1] at h9
  refine L_op rfl (W_callV rfl rfl rfl rfl fn_ca_51 (h9) (fun w nw => by have h8 := fam_items hq.2 .h0 .h1 w nw; rw [hq.1] at h8; exact h8) ?_)
  refine L_val rfl rfl rfl (OpP.v (P_move rfl rfl)) ?_
  refine L_val rfl rfl rfl (OpP.v (P_extract rfl rfl rfl)) ?_
  refine L_val rfl rfl rfl (OpP.v (P_extract rfl rfl rfl)) ?_
  refine L_op rfl (W_alloc rfl rfl rfl ty_ze_29 fun b5 => ?_)
  refine L_op rfl (W_storeAll rfl rfl rfl rfl ty_ag_29 (by rw [ints_length, rootD_length]) (ints_one) .h0 (by first | (rw [ints_length, rootD_length]; done) | (rw [ints_length, rootD_length]; rfl)) ?_)
  refine L_val rfl rfl rfl (OpP.v (P_assign rfl rfl)) ?_
  refine L_nil ?_
  refine St.env (.cons (t := 1) rfl (.cons (t := 2) rfl (.cons (t := 3) rfl (.cons (t := 5) rfl (.cons (t := 6) rfl .nil))))) ?_
  refine Q_then ?_
  refine R_seq ?_
  refine R_seq ?_
  refine R_region ?_
  refine L_val rfl rfl rfl (OpP.v (P_move rfl rfl)) ?_
  refine L_val rfl rfl rfl (OpP.v (P_neq rfl rfl rfl)) ?_
  refine L_nil ?_
  refine St.env (.cons (t := 1) rfl (.cons (t := 2) rfl (.cons (t := 3) rfl (.cons (t := 5) rfl (.cons (t := 6) rfl (.cons (t := 20) rfl .nil)))))) ?_
  refine Q_then ?_
  refine R_condP rfl (fun hr => ?_) (fun hr => ?_)
  ·skip
   refine R_seq ?_
   refine R_region ?_
   refine L_val rfl rfl rfl (OpP.v (P_buildArrR rfl ty_ar_29 ty_ze_29 rfl rfl rfl (by first | decide | (simp only [List.length_cons, List.length_nil]; omega)) (by simp [Value.oneCell']))) ?_
   refine E_as (t := 21) (v' := .agg (ints .u8 (List.replicate 32 0)).toArray) rfl rfl ?_
   refine L_val rfl rfl rfl (OpP.v (P_move rfl rfl)) ?_
   refine L_op rfl (W_storeAll rfl rfl rfl rfl ty_ag_29 (rfl) (ints_one) .h3 (rfl) ?_)
   refine L_val rfl rfl rfl (OpP.v (P_assign rfl rfl)) ?_
   refine L_nil ?_
   refine St.env (.cons (t := 1) rfl (.cons (t := 2) rfl (.cons (t := 3) rfl (.cons (t := 5) rfl .nil)))) ?_
   refine Q_then ?_
   refine R_ret ?_
   refine Q_then_ret ?_
   exact R_endV rfl rfl (.cell rfl (Rds.loadVar ty_ag_29 (Rds.blk .h3) rfl) (.tmp rfl .nil)) (by rw [rootLV_bad (L := ⟨l, r, bu, su⟩) (e := rootE (l.map formB)) (hle) hr]; rfl)
  ·skip
   have hr : rootE (l.map formB) = 0 := Classical.not_not.1 hr
   refine R_skip ?_
   refine Q_then ?_
   refine R_seq ?_
   refine R_open [(0, 1), (1, 1), (2, 2), (3, 2), (4, 3), (5, 0)] mixed (by kernel_rfl) (QOk.then QOk.body) ?_
   refine O_val rfl rfl rfl rfl (V_loadAgg rfl rfl ty_ag_29 (Rds.blk .h0) (by rw [ints_length, rootD_length])) ?_
   refine O_val rfl rfl rfl rfl (V_loadAgg rfl rfl ty_ag_26 (Rds.blk .h4) (rfl)) ?_
   refine O_keep rfl rfl (W_callV rfl rfl rfl rfl fn_ca_54 (rest_ok hG (.slice base l.length c) rfl base' c' r hc' hfew' bu su) ((Sn.row hpre.2 rfl).rw_) (K_keep (Weak.refl _) ?_))
   refine O_keep rfl rfl (W_callV rfl rfl rfl rfl fn_ca_53 (inner_ok hG (rootD (l.map formB)) (sha (restB r bu su)) (rootD_length _) (sha_length _)) (fun _ _ => trivial) (K_keep (Weak.refl _) ?_))
   refine O_new rfl rfl (W_storeAll rfl rfl rfl rfl ty_ag_29 (by rw [ints_length, sha_length]) (ints_one) .h3 (by first | (rw [ints_length, sha_length]; done) | (rw [ints_length, sha_length]; rfl)) (K_new ?_))
   refine O_pure rfl rfl rfl rfl (P_assign rfl rfl) ?_
   refine O_nil ?_
   refine St.env (.cons (t := 2) rfl (.cons (t := 3) rfl .nil)) ?_
   refine Q_then ?_
   refine R_ret ?_
   exact R_endV rfl rfl (.cell rfl (Rds.loadVar ty_ag_29 (Rds.blk .h3) (by rw [ints_length, sha_length])) (.tmp rfl .nil)) (by rw [rootLV_fine (L := ⟨l, r, bu, su⟩) (hle.trans hr)]; rfl)
theorem rlroot_ok {gl : Nat → Obj} (hG : GlobsR gl) (base : Option Addr) (c : Nat) (l : List Acc) (hc : l.length ≤ c) (hm : l.length ≤ 3518437208800)(hok : ∀ x ∈ l, x.ok) (base' : Option Addr) (c' : Nat) (r : List Rel) (hc' : r.length ≤ c') (hok' : ∀ x ∈ r, x.ok) (bu su : Int) (hbu : u64 bu) (hsu : u64 su) : SpecV (cx gl) 11 [.agg (ledV (.slice base l.length c) (.slice base' r.length c') bu su).toArray] (fun w => Row w base (rc l) ∧ Row w base' (rc r)) (rootLV ⟨l, r, bu, su⟩) := by
 refine Spec.enter (C := cx gl) Tryz.func11 rfl 29 rfl rfl fun w0 h0 hsep hsub hpre => ?_
 obtain rfl : h0 = Heap.none := hsep
 show St (cx gl) _ [(0, .agg (ledV (.slice base l.length c) (.slice base' r.length c') bu su).toArray)] _ _
 refine R_seq ?_
 refine R_region ?_
 refine L_op rfl (W_box (ledV (.slice base l.length c) (.slice base' r.length c') bu su) rfl rfl rfl rfl rfl fun b1 => ?_)
 refine L_op rfl (W_alloc rfl rfl rfl ty_ze_29 fun b2 => ?_)
 refine L_val rfl rfl rfl (OpP.v (P_assign rfl rfl)) ?_
 refine L_nil ?_
 refine St.env (.cons (t := 1) rfl (.cons (t := 2) rfl (.cons (t := 3) rfl .nil))) ?_
 refine Q_then ?_
 refine R_seq ?_
 refine R_region ?_
 refine L_val rfl rfl rfl (V_loadAgg rfl rfl ty_ag_26 (Rds.blk .h1) (rfl)) ?_
 refine L_op rfl (W_callV rfl rfl rfl rfl fn_ca_55 (rsound_ok base c l hc (by omega) hok base' c' r hc' hok' bu su hbu) (fun w nw => ⟨(Sn.row hpre.1 rfl).rw_ w nw, (Sn.row hpre.2 rfl).rw_ w nw⟩) ?_)
 refine L_val rfl rfl rfl (OpP.v (P_assign rfl rfl)) ?_
 refine L_nil ?_
 refine St.env (.cons (t := 1) rfl (.cons (t := 2) rfl (.cons (t := 3) rfl (.cons (t := 4) rfl .nil)))) ?_
 refine Q_then ?_
 refine R_seq ?_
 refine R_seq ?_
 refine R_region ?_
 refine L_val rfl rfl rfl (OpP.v (P_move rfl rfl)) ?_
 refine L_val rfl rfl rfl (OpP.v (P_neq rfl rfl rfl)) ?_
 refine L_nil ?_
 refine St.env (.cons (t := 1) rfl (.cons (t := 2) rfl (.cons (t := 3) rfl (.cons (t := 4) rfl (.cons (t := 10) rfl .nil))))) ?_
 refine Q_then ?_
 refine R_condP rfl (fun he => ?_) (fun he => ?_)
 ·skip
  refine R_seq ?_
  refine R_region ?_
  refine L_val rfl rfl rfl (OpP.v (P_buildArrR rfl ty_ar_29 ty_ze_29 rfl rfl rfl (by first | decide | (simp only [List.length_cons, List.length_nil]; omega)) (by simp [Value.oneCell']))) ?_
  refine E_as (t := 11) (v' := .agg (ints .u8 (List.replicate 32 0)).toArray) rfl rfl ?_
  refine L_val rfl rfl rfl (OpP.v (P_move rfl rfl)) ?_
  refine L_op rfl (W_storeAll rfl rfl rfl rfl ty_ag_29 (rfl) (ints_one) .h0 (rfl) ?_)
  refine L_val rfl rfl rfl (OpP.v (P_assign rfl rfl)) ?_
  refine L_nil ?_
  refine St.env (.cons (t := 1) rfl (.cons (t := 2) rfl (.cons (t := 3) rfl (.cons (t := 4) rfl .nil)))) ?_
  refine Q_then ?_
  refine R_ret ?_
  refine Q_then_ret ?_
  exact R_endV rfl rfl (.cell rfl (Rds.loadVar ty_ag_29 (Rds.blk .h0) rfl) (.tmp rfl .nil)) (by rw [rootLV_bad (L := ⟨l, r, bu, su⟩) (e := lsoundE ⟨l, r, bu, su⟩) (rootLE_bad he) he]; rfl)
 ·skip
  have he : lsoundE ⟨l, r, bu, su⟩ = 0 := Classical.not_not.1 he
  have hF := ledFine_of he
  have hfew : l.length ≤ 65536 := hF.few
  have hfew' : r.length ≤ 65536 := hF.few'
  have hle := rootLE_of he
  refine R_skip ?_
  refine Q_then ?_
  refine R_seq ?_
  refine R_region ?_
  refine L_val rfl rfl rfl (V_loadAgg rfl rfl ty_ag_26 (Rds.blk .h1) (rfl)) ?_
  refine L_op rfl (W_call rfl rfl rfl rfl fn_ca_14 (rforms_ok base c l hc hfew hok (.slice base' r.length c') rfl bu su) (Split.nil _) (fun w a b _ hb dj m => (Sn.row hpre.1 rfl).rw_ w ⟨_, hb, m.le (Heap.le_join_right dj)⟩) fun v1 rs1 ⟨qs, hq, e1⟩ => ?_)
  subst e1
  refine St.ownForm (p := [_]) fun ub uc huv huc => ?_
  subst huv
  have hql : (qs.map Ob.val).length = l.length := by rw [List.length_map]; exact hq.len
  have h9 := rroot_ok (gl := gl) hG ub uc (qs.map Ob.val) (qs.map Ob.xs) (by rw [List.length_map, List.length_map]) (by omega) (by omega)
  rw [hql, hq.1] at h9
  refine L_op rfl (W_callV rfl rfl rfl rfl fn_ca_13 (h9) (fun w nw => by have h8 := fam_items hq.2 .h0 .h1 w nw; rw [hq.1] at h8; exact h8) ?_)
  refine L_val rfl rfl rfl (OpP.v (P_move rfl rfl)) ?_
  refine L_val rfl rfl rfl (OpP.v (P_extract rfl rfl rfl)) ?_
  refine L_val rfl rfl rfl (OpP.v (P_extract rfl rfl rfl)) ?_
  refine L_op rfl (W_alloc rfl rfl rfl ty_ze_29 fun b5 => ?_)
  refine L_op rfl (W_storeAll rfl rfl rfl rfl ty_ag_29 (by rw [ints_length, rootD_length]) (ints_one) .h0 (by first | (rw [ints_length, rootD_length]; done) | (rw [ints_length, rootD_length]; rfl)) ?_)
  refine L_val rfl rfl rfl (OpP.v (P_assign rfl rfl)) ?_
  refine L_nil ?_
  refine St.env (.cons (t := 1) rfl (.cons (t := 2) rfl (.cons (t := 3) rfl (.cons (t := 4) rfl (.cons (t := 5) rfl .nil))))) ?_
  refine Q_then ?_
  refine R_seq ?_
  refine R_seq ?_
  refine R_region ?_
  refine L_val rfl rfl rfl (OpP.v (P_move rfl rfl)) ?_
  refine L_val rfl rfl rfl (OpP.v (P_neq rfl rfl rfl)) ?_
  refine L_nil ?_
  refine St.env (.cons (t := 1) rfl (.cons (t := 2) rfl (.cons (t := 3) rfl (.cons (t := 4) rfl (.cons (t := 5) rfl (.cons (t := 20) rfl .nil)))))) ?_
  refine Q_then ?_
  refine R_condP rfl (fun hr => ?_) (fun hr => ?_)
  ·skip
   refine R_seq ?_
   refine R_region ?_
   refine L_val rfl rfl rfl (OpP.v (P_buildArrR rfl ty_ar_29 ty_ze_29 rfl rfl rfl (by first | decide | (simp only [List.length_cons, List.length_nil]; omega)) (by simp [Value.oneCell']))) ?_
   refine E_as (t := 21) (v' := .agg (ints .u8 (List.replicate 32 0)).toArray) rfl rfl ?_
   refine L_val rfl rfl rfl (OpP.v (P_move rfl rfl)) ?_
   refine L_op rfl (W_storeAll rfl rfl rfl rfl ty_ag_29 (rfl) (ints_one) .h3 (rfl) ?_)
   refine L_val rfl rfl rfl (OpP.v (P_assign rfl rfl)) ?_
   refine L_nil ?_
   refine St.env (.cons (t := 1) rfl (.cons (t := 2) rfl (.cons (t := 3) rfl (.cons (t := 5) rfl .nil)))) ?_
   refine Q_then ?_
   refine R_ret ?_
   refine Q_then_ret ?_
   exact R_endV rfl rfl (.cell rfl (Rds.loadVar ty_ag_29 (Rds.blk .h3) rfl) (.tmp rfl .nil)) (by rw [rootLV_bad (L := ⟨l, r, bu, su⟩) (e := rootE (l.map formB)) (hle) hr]; rfl)
  ·skip
   have hr : rootE (l.map formB) = 0 := Classical.not_not.1 hr
   refine R_skip ?_
   refine Q_then ?_
   refine R_seq ?_
   refine R_region ?_
   refine L_val rfl rfl rfl (V_loadAgg rfl rfl ty_ag_26 (Rds.blk .h4) (rfl)) ?_
   refine L_op rfl (W_call rfl rfl rfl rfl fn_ca_18 (rrest_ok (.slice base l.length c) rfl base' c' r hc' hfew' hok' bu su hbu hsu) (Split.nil _) (fun w a b _ hb dj m => (Sn.row hpre.2 rfl).rw_ w ⟨_, hb, m.le (Heap.le_join_right dj)⟩) fun v2 rs2 (e2 : rs2 = _) => ?_)
   subst e2
   refine St.ownForm (p := []) fun vb vc hvv hvc => ?_
   subst hvv
   refine L_op rfl (W_callV rfl rfl rfl rfl fn_ca_17 (rsum_ok hG vb vc (restB r bu su) hvc (by rw [restB_length]; omega)) ((Sn.own .h0 rfl).rw_) ?_)
   refine L_op rfl (W_alloc rfl rfl rfl ty_ze_29 fun b6 => ?_)
   refine L_op rfl (W_storeAll rfl rfl rfl rfl ty_ag_29 (by rw [ints_length, sha_length]) (ints_one) .h0 (by first | (rw [ints_length, sha_length]; done) | (rw [ints_length, sha_length]; rfl)) ?_)
   refine L_nil ?_
   refine St.env (.cons (t := 2) rfl (.cons (t := 3) rfl (.cons (t := 5) rfl (.cons (t := 6) rfl .nil)))) ?_
   refine Q_then ?_
   refine R_seq ?_
   refine R_region ?_
   refine L_val rfl rfl rfl (V_loadAgg rfl rfl ty_ag_29 (Rds.blk .h2) (by rw [ints_length, rootD_length])) ?_
   refine L_val rfl rfl rfl (V_loadAgg rfl rfl ty_ag_29 (Rds.blk .h0) (by rw [ints_length, sha_length])) ?_
   refine L_op rfl (W_callV rfl rfl rfl rfl fn_ca_56 (rinner_ok hG (rootD (l.map formB)) (sha (restB r bu su)) (rootD_length _) (sha_length _)) (fun _ _ => trivial) ?_)
   refine L_op rfl (W_storeAll rfl rfl rfl rfl ty_ag_29 (by rw [ints_length, sha_length]) (ints_one) .h5 (by first | (rw [ints_length, sha_length]; done) | (rw [ints_length, sha_length]; rfl)) ?_)
   refine L_val rfl rfl rfl (OpP.v (P_assign rfl rfl)) ?_
   refine L_nil ?_
   refine St.env (.cons (t := 2) rfl (.cons (t := 3) rfl .nil)) ?_
   refine Q_then ?_
   refine R_ret ?_
   exact R_endV rfl rfl (.cell rfl (Rds.loadVar ty_ag_29 (Rds.blk .h5) (by rw [ints_length, sha_length])) (.tmp rfl .nil)) (by rw [rootLV_fine (L := ⟨l, r, bu, su⟩) (hle.trans hr)]; rfl)
end Go.Proofs.YtfhjhaogmdaepaaGreatDoor

/- Walks: Prove. Printed by gen.py. -/
set_option linter.unusedVariables false
set_option linter.unusedSimpArgs false
set_option maxRecDepth 100000
namespace Go.Proofs.YtfhjhaogmdaepaaGreatDoor
open Go Go.RowKit Go.Proofs
/-- A proof: total, index, path. -/
structure Pf where
 t : Int
 i : Int
 b : Option Addr
 c : Nat
 hs : List (List Int)
def Pf.cells (p : Pf) : List Value := [.int .i64 p.t, .int .i64 p.i, .slice p.b p.hs.length p.c]
theorem Pf.one (p : Pf) : ∀ v ∈ p.cells, v.oneCell' = true := by
 intro v hv; simp only [Pf.cells, List.mem_cons, List.not_mem_nil, or_false] at hv; rcases hv with rfl | rfl | rfl <;> rfl
instance : Rec Pf := ⟨Pf.cells, 3, fun _ => rfl, Pf.one⟩
def Pf.own (p : Pf) : HP := ownS 29 32 (.slice p.b p.hs.length p.c) p.hs.length (flat .u8 p.hs)
def Pf.core (p : Pf) : Int × Int × List (List Int) := (p.t, p.i, p.hs)
/-- A witness's cells. -/
def wiC (R : List Int) (u v : Value) : List Value := ints .u8 R ++ [u, v]
theorem wi_len {R : List Int} (h : R.length = 32) (u v : Value) : (wiC R u v).length = 34 := by unfold wiC; rw [List.length_append, ints_length, h]; rfl
theorem wi_1 {R : List Int} (h : R.length = 32) (u v : Value) : (wiC R u v)[32]? = some u := by unfold wiC; rw [List.getElem?_append_right (by rw [ints_length]; omega), ints_length, h]; rfl
theorem wi_2 {R : List Int} (h : R.length = 32) (u v : Value) : (wiC R u v)[33]? = some v := by unfold wiC; rw [List.getElem?_append_right (by rw [ints_length]; omega), ints_length, h]; rfl
theorem wi_set1 {R : List Int} (h : R.length = 32) (u v w : Value) : (wiC R u v).set 32 w = wiC R w v := by unfold wiC; rw [List.set_append_right _ _ (by rw [ints_length]; omega), ints_length, h]; rfl
theorem wi_set2 {R : List Int} (h : R.length = 32) (u v w : Value) : (wiC R u v).set 33 w = wiC R u w := by unfold wiC; rw [List.set_append_right _ _ (by rw [ints_length]; omega), ints_length, h]; rfl
theorem wi_one {R : List Int} {u v : Value} (hu : u.oneCell' = true) (hv : v.oneCell' = true) : ∀ x ∈ wiC R u v, x.oneCell' = true := by
 intro x hx; unfold wiC at hx
 rcases List.mem_append.1 hx with hx | hx
 ·exact ints_one x hx
 ·simp only [List.mem_cons, List.not_mem_nil, or_false] at hx; rcases hx with rfl | rfl <;> assumption
theorem wi_fill {R : List Int} (h : R.length = 32) : fillL [(0, 32), (32, 1), (33, 1)] (List.replicate 32 (.int .u8 0) ++ [.slice none 0 0, .slice none 0 0]) [(0, .agg (ints .u8 R).toArray)] = some (wiC R (.slice none 0 0) (.slice none 0 0)) := by
 have hs : (Value.agg (ints .u8 R).toArray).cells.size = 32 := by show (ints .u8 R).toArray.size = 32; rw [List.size_toArray, ints_length, h]
 have hc : (Value.agg (ints .u8 R).toArray).cells.toList = ints .u8 R := rfl
 unfold fillL
 simp only [List.getElem?_cons_zero]
 rw [if_pos ⟨hs, by simp⟩]
 unfold fillL
 rw [hc]; unfold splice wiC
 rw [ints_length, h]; rfl
theorem wi_sub {R : List Int} (h : R.length = 32) (u v : Value) (i : Nat) (x : Value) (hx : (ints .u8 R)[i]? = some x) : (wiC R u v)[0 + i]? = some x := by unfold wiC; rw [Nat.zero_add, List.getElem?_append_left (List.getElem?_eq_some_iff.1 hx).1]; exact hx
/-- Which accounts are shown. -/
def loI (l : List Acc) (a : Int) : Nat := if spotB l a = true then spotI l a else spotI l a - 1
def cntI (l : List Acc) (a : Int) : Nat := min (spotI l a + 1) l.length - loI l a
def ksL (l : List Acc) (a : Int) : List Nat := List.range' (loI l a) (cntI l a)
theorem ksL_len (l : List Acc) (a : Int) : (ksL l a).length = cntI l a := by unfold ksL; rw [List.length_range']
theorem ksL_at {l : List Acc} {a : Int} {n : Nat} (h : n < cntI l a) : (ksL l a)[n]? = some (loI l a + n) := by unfold ksL; rw [List.getElem?_range' h]; simp
theorem ksL_lt {l : List Acc} {a : Int} {n : Nat} (h : n < cntI l a) : loI l a + n < l.length := by unfold cntI at h; omega
theorem ksL_two (l : List Acc) (a : Int) : cntI l a ≤ 2 := by unfold cntI loI; split <;> omega
theorem ks_hit {l : List Acc} {a : Int} (h : spotB l a = true) : ksL l a = [spotI l a] := by
 have hlt : spotI l a < l.length := by unfold spotB at h; rw [Bool.and_eq_true, decide_eq_true_eq] at h; exact h.1
 unfold ksL cntI loI; rw [if_pos h, show min (spotI l a + 1) l.length - spotI l a = 1 by omega]; rfl
theorem ks_miss {l : List Acc} {a : Int} (h : spotB l a = false) : ksL l a = (if 0 < spotI l a then [spotI l a - 1] else []) ++ (if spotI l a < l.length then [spotI l a] else []) := by
 have hle := spotI_le l a
 unfold ksL cntI loI; rw [if_neg (by rw [h]; decide)]
 by_cases h1 : 0 < spotI l a
 ·by_cases h2 : spotI l a < l.length
  ·rw [if_pos h1, if_pos h2, show min (spotI l a + 1) l.length - (spotI l a - 1) = 2 by omega]
   show [spotI l a - 1, spotI l a - 1 + 1] = _; rw [show spotI l a - 1 + 1 = spotI l a by omega]; rfl
  ·rw [if_pos h1, if_neg h2, show min (spotI l a + 1) l.length - (spotI l a - 1) = 1 by omega]; rfl
 ·by_cases h2 : spotI l a < l.length
  ·rw [if_neg h1, if_pos h2, show min (spotI l a + 1) l.length - (spotI l a - 1) = 1 by omega, show spotI l a - 1 = spotI l a by omega]; rfl
  ·rw [if_neg h1, if_neg h2, show min (spotI l a + 1) l.length - (spotI l a - 1) = 0 by omega]; rfl
def wKs (L : Led) (a : Int) : List Nat := if lsoundE L = 0 then ksL L.acc a else []
def wRest (L : Led) : List Int := if lsoundE L = 0 then sha (restB L.rel L.burnt L.sup) else List.replicate 32 0
theorem wRest_length (L : Led) : (wRest L).length = 32 := by unfold wRest; split; exact sha_length _; simp
def accsOf (l : List Acc) (ks : List Nat) : List Acc := ks.map (accAt l)
def pfAt (l : List Acc) (k : Nat) : Int × Int × List (List Int) := (proveT (l.map formB) k, proveI (l.map formB) k, proveA (l.map formB) k)
structure PfsOk (l : List Acc) (ks : List Nat) (ps : List Pf) : Prop where
 core : ps.map Pf.core = ks.map (pfAt l)
 cap : ∀ p ∈ ps, p.hs.length ≤ p.c
theorem PfsOk.len {l : List Acc} {ks : List Nat} {ps : List Pf} (h : PfsOk l ks ps) : ps.length = ks.length := by have := congrArg List.length h.core; simpa using this
theorem PfsOk.snoc {l : List Acc} {ks : List Nat} {ps : List Pf} {n k : Nat} {p : Pf} (h : PfsOk l (ks.take n) ps) (hk : ks[n]? = some k) (hp : p.core = pfAt l k) (hc : p.hs.length ≤ p.c) : PfsOk l (ks.take (n + 1)) (ps ++ [p]) := by
 refine ⟨?_, fun x hx => ?_⟩
 ·rw [List.map_append, h.core, List.take_add_one, hk, List.map_append]; simp [hp]
 ·rcases List.mem_append.1 hx with hx | hx
  ·exact h.cap x hx
  ·obtain rfl := List.mem_singleton.1 hx; exact hc
theorem accsOf_snoc {l : List Acc} {ks : List Nat} {n k : Nat} (hk : ks[n]? = some k) : accsOf l (ks.take (n + 1)) = accsOf l (ks.take n) ++ [accAt l k] := by
 unfold accsOf; rw [List.take_add_one, hk, List.map_append]; rfl
theorem forms_small {l : List Acc} (h : l.length ≤ 65536) : bigL (l.map formB) = false := by
 unfold bigL anyBig
 rw [List.length_map, decide_eq_false (by omega), Bool.false_or]
 cases hh : (l.map formB).any fun x => decide (1048576 < x.length) with
 | false => rfl
 | true =>
  obtain ⟨x, hx, h2⟩ := List.any_eq_true.1 hh
  obtain ⟨y, _, rfl⟩ := List.mem_map.1 hx
  have := of_decide_eq_true h2
  rw [formB_length] at this; omega
theorem forms_prove {l : List Acc} (h : l.length ≤ 65536) {k : Nat} (hk : k < l.length) : proveE (l.map formB) k = 0 := by
 unfold proveE; rw [if_neg (by rw [forms_small h]; decide), if_pos ⟨by omega, by rw [List.length_map]; omega⟩]
set_option maxHeartbeats 1000000 in
theorem lprove_ok {gl : Nat → Obj} (hG : Globs gl) (base : Option Addr) (c : Nat) (l : List Acc) (hc : l.length ≤ c) (hm : l.length ≤ 3518437208800)(hok : ∀ x ∈ l, x.ok) (base' : Option Addr) (c' : Nat) (r : List Rel) (hc' : r.length ≤ c') (hok' : ∀ x ∈ r, x.ok) (bu su : Int) (hbu : u64 bu) (hsu : u64 su) (a : Int) : Spec (cx gl) 32 [.agg (ledV (.slice base l.length c) (.slice base' r.length c') bu su).toArray, .int .u64 a] (fun w _ => Row w base (rc l) ∧ Row w base' (rc r)) [] (fun v rs => ∃ (u pv : Value) (ps : List Pf), v = .tuple #[.agg (wiC (wRest (⟨l, r, bu, su⟩ : Led)) u pv).toArray, .int .i64 (lsoundE (⟨l, r, bu, su⟩ : Led))] ∧ PfsOk (⟨l, r, bu, su⟩ : Led).acc (wKs (⟨l, r, bu, su⟩ : Led) a) ps ∧ rs = [ownS 38 5 (u) ((wKs ⟨l, r, bu, su⟩ a).length) (rc (accsOf l (wKs ⟨l, r, bu, su⟩ a))), ownS 47 3 (pv) ((wKs ⟨l, r, bu, su⟩ a).length) (rc (ps)), fam Pf.own ps]) := by
 refine Spec.enter (C := cx gl) Tryz.func32 rfl 75 rfl rfl fun w0 h0 hsep hsub hpre => ?_
 obtain rfl : h0 = Heap.none := hsep
 show St (cx gl) _ [(0, .agg (ledV (.slice base l.length c) (.slice base' r.length c') bu su).toArray), (1, .int .u64 a)] _ _
 refine R_seq ?_
 refine R_region ?_
 refine L_op rfl (W_box (ledV (.slice base l.length c) (.slice base' r.length c') bu su) rfl rfl rfl rfl rfl fun b2 => ?_)
 refine L_op rfl (W_alloc rfl rfl rfl ty_ze_32 fun b4 => ?_)
 refine L_val rfl rfl rfl (OpP.v (P_assign rfl rfl)) ?_
 refine L_nil ?_
 refine St.env (.cons (t := 1) rfl (.cons (t := 2) rfl (.cons (t := 4) rfl (.cons (t := 5) rfl .nil)))) ?_
 refine Q_then ?_
 refine R_seq ?_
 refine R_seq ?_
 refine R_region ?_
 refine L_val rfl rfl rfl (V_loadAgg rfl rfl ty_ag_26 (Rds.blk .h1) (rfl)) ?_
 refine L_op rfl (W_callV rfl rfl rfl rfl fn_ca_45 (lsound_ok base c l hc hok base' c' r hc' hok' bu su hbu hsu) (fun w nw => ⟨(Sn.row hpre.1 rfl).rw_ w nw, (Sn.row hpre.2 rfl).rw_ w nw⟩) ?_)
 refine L_val rfl rfl rfl (OpP.v (P_assign rfl rfl)) ?_
 refine L_nil ?_
 refine St.env (.cons (t := 1) rfl (.cons (t := 2) rfl (.cons (t := 4) rfl (.cons (t := 5) rfl (.cons (t := 6) rfl .nil))))) ?_
 refine Q_then ?_
 refine R_seq ?_
 refine R_region ?_
 refine L_val rfl rfl rfl (OpP.v (P_move rfl rfl)) ?_
 refine L_val rfl rfl rfl (OpP.v (P_neq rfl rfl rfl)) ?_
 refine L_nil ?_
 refine St.env (.cons (t := 1) rfl (.cons (t := 2) rfl (.cons (t := 4) rfl (.cons (t := 5) rfl (.cons (t := 6) rfl (.cons (t := 18) rfl .nil)))))) ?_
 refine Q_then ?_
 refine R_condP rfl (fun he => ?_) (fun he => ?_)
 ·skip
  refine R_seq ?_
  refine R_region ?_
  refine L_val rfl rfl rfl (OpP.v (P_buildStruct rfl ty_pl_32 ty_ze_32 rfl rfl (rfl))) ?_
  refine E_as (t := 19) (v' := .agg (wiC (List.replicate 32 0) (.slice none 0 0) (.slice none 0 0)).toArray) rfl rfl ?_
  refine L_val rfl rfl rfl (OpP.v (P_move rfl rfl)) ?_
  refine L_op rfl (W_storeAll rfl rfl rfl rfl ty_ag_32 (rfl) (wi_one rfl rfl) .h0 (rfl) ?_)
  refine L_val rfl rfl rfl (OpP.v (P_assign rfl rfl)) ?_
  refine L_nil ?_
  refine St.env (.cons (t := 1) rfl (.cons (t := 2) rfl (.cons (t := 4) rfl (.cons (t := 5) rfl .nil)))) ?_
  refine Q_then ?_
  refine R_ret ?_
  refine Q_then_ret ?_
  exact R_end (rs2 := [ownS 38 5 (.slice none 0 0) (0) (rc (([] : List Acc))), ownS 47 3 (.slice none 0 0) (0) (rc (([] : List Pf))), fam Pf.own []]) rfl rfl (.cell rfl (Rds.loadVar ty_ag_32 (Rds.blk .h0) rfl) (.tmp rfl .nil)) (⟨.slice none 0 0, .slice none 0 0, [], by unfold wRest; rw [if_neg he]; rfl, by unfold wKs; rw [if_neg he]; exact ⟨rfl, fun p hp => by cases hp⟩, by unfold wKs; rw [if_neg he]; rfl⟩) (Weak.trans (Weak.famNil (f := Pf.own)) (Weak.trans (Weak.newNil (T := 47) (sz := 3)) (Weak.trans (Weak.newNil (T := 38) (sz := 5)) (Weak.keep (Weak.keep (Weak.keep (Weak.nil _)))))))
 ·skip
  have he : lsoundE ⟨l, r, bu, su⟩ = 0 := Classical.not_not.1 he
  have hF := ledFine_of he
  have hfew : l.length ≤ 65536 := hF.few
  have hfew' : r.length ≤ 65536 := hF.few'
  have hspl := spotI_le l a
  have hRl : (sha (restB r bu su)).length = 32 := sha_length _
  refine R_skip ?_
  refine Q_then ?_
  refine R_seq ?_
  refine R_region ?_
  refine L_val rfl rfl rfl (V_loadAgg rfl rfl ty_ag_26 (Rds.blk .h1) (rfl)) ?_
  refine L_op rfl (W_callV rfl rfl rfl rfl fn_ca_54 (rest_ok hG (.slice base l.length c) rfl base' c' r hc' hfew' bu su) ((Sn.row hpre.2 rfl).rw_) ?_)
  refine L_val rfl rfl rfl (OpP.v (P_buildStruct rfl ty_pl_32 ty_ze_32 rfl rfl (wi_fill hRl))) ?_
  refine L_op rfl (W_alloc rfl rfl rfl ty_ze_32 fun b7 => ?_)
  refine L_op rfl (W_storeAll rfl rfl rfl rfl ty_ag_32 (by rw [wi_len hRl]) (wi_one rfl rfl) .h0 (by first | (rw [wi_len hRl]; done) | (rw [wi_len hRl]; rfl)) ?_)
  refine L_nil ?_
  refine St.env (.cons (t := 1) rfl (.cons (t := 2) rfl (.cons (t := 4) rfl (.cons (t := 5) rfl (.cons (t := 7) rfl .nil))))) ?_
  refine Q_then ?_
  refine R_seq ?_
  refine R_region ?_
  refine L_val rfl rfl rfl (V_loadAgg rfl rfl ty_ag_26 (Rds.blk .h2) (rfl)) ?_
  refine L_val rfl rfl rfl (OpP.v (P_move rfl rfl)) ?_
  refine L_op rfl (W_callV rfl rfl rfl rfl fn_ca_90 (spot_ok base c l hc (by omega) (.slice base' r.length c') rfl bu su a) ((Sn.row hpre.1 rfl).rw_) ?_)
  refine L_val rfl rfl rfl (OpP.v (P_move rfl rfl)) ?_
  refine L_val rfl rfl rfl (OpP.v (P_extract rfl rfl rfl)) ?_
  refine L_val rfl rfl rfl (OpP.v (P_extract rfl rfl rfl)) ?_
  refine L_val rfl rfl rfl (OpP.v (P_assign rfl rfl)) ?_
  refine L_val rfl rfl rfl (OpP.v (P_assign rfl rfl)) ?_
  refine L_nil ?_
  refine St.env (.cons (t := 2) rfl (.cons (t := 4) rfl (.cons (t := 5) rfl (.cons (t := 7) rfl (.cons (t := 8) rfl (.cons (t := 9) rfl .nil)))))) ?_
  refine Q_then ?_
  refine R_seq ?_
  refine R_region ?_
  refine L_val rfl rfl rfl (OpP.v (P_move rfl rfl)) ?_
  first | (refine L_val rfl rfl rfl (OpP.v (P_subN rfl rfl rfl (by simp only [fits]; omega))) ?_) | (refine L_val rfl rfl rfl (OpP.v (P_sub rfl rfl rfl)) ?_)
  refine L_val rfl rfl rfl (OpP.v (P_move rfl rfl)) ?_
  refine L_val rfl rfl rfl (OpP.v (P_assign rfl rfl)) ?_
  refine L_val rfl rfl rfl (OpP.v (P_assign rfl rfl)) ?_
  refine L_nil ?_
  refine St.env (.cons (t := 2) rfl (.cons (t := 4) rfl (.cons (t := 5) rfl (.cons (t := 7) rfl (.cons (t := 8) rfl (.cons (t := 9) rfl (.cons (t := 10) rfl (.cons (t := 11) rfl .nil)))))))) ?_
  refine Q_then ?_
  refine R_joinE0 (G := Int) (.cons (t := 2) rfl (.cons (t := 4) rfl (.cons (t := 5) rfl (.cons (t := 7) rfl (.cons (t := 11) rfl .nil))))) (fun g => [(10, .int .i64 g)]) (fun g => (if 0 > g then 0 else g) = (loI l a : Nat)) ?_ ?_
  ·skip
   refine R_seq ?_
   refine R_region ?_
   refine L_val rfl rfl rfl (OpP.v (P_move rfl rfl)) ?_
   refine L_nil ?_
   refine St.env (.cons (t := 2) rfl (.cons (t := 4) rfl (.cons (t := 5) rfl (.cons (t := 7) rfl (.cons (t := 8) rfl (.cons (t := 10) rfl (.cons (t := 11) rfl (.cons (t := 33) rfl .nil)))))))) ?_
   refine Q_then ?_
   refine R_cond rfl (fun hB => ?_) (fun hB => ?_)
   ·skip
    refine R_region ?_
    refine L_val rfl rfl rfl (OpP.v (P_move rfl rfl)) ?_
    refine L_val rfl rfl rfl (OpP.v (P_assign rfl rfl)) ?_
    refine L_nil ?_
    refine St.env (.cons (t := 2) rfl (.cons (t := 4) rfl (.cons (t := 5) rfl (.cons (t := 7) rfl (.cons (t := 10) rfl (.cons (t := 11) rfl .nil)))))) ?_
    exact Q_meet ((spotI l a : Int)) (by show (if 0 > (spotI l a : Int) then 0 else (spotI l a : Int)) = (loI l a : Nat); rw [show loI l a = spotI l a by unfold loI; rw [if_pos hB]]; split <;> omega) (by repeat (first | exact .nil | refine .cons rfl ?_ | refine .consE rfl (by first | rfl | (congr 1; omega) | (congr 1; push_cast; omega)) ?_)) (Weak.refl _)
   ·skip
    refine R_skip ?_
    exact Q_meet (((spotI l a : Int) - 1)) (by show (if 0 > (spotI l a : Int) - 1 then 0 else (spotI l a : Int) - 1) = (loI l a : Nat); rw [show loI l a = spotI l a - 1 by unfold loI; rw [if_neg (by rw [hB]; decide)]]; split <;> omega) (by repeat (first | exact .nil | refine .cons rfl ?_ | refine .consE rfl (by first | rfl | (congr 1; omega) | (congr 1; push_cast; omega)) ?_)) (Weak.refl _)
  ·intro fi hinv
   replace hinv : (if 0 > fi then 0 else fi) = (loI l a : Nat) := hinv
   show St (cx gl) _ ((10, .int .i64 fi) :: _) _ _
   refine R_seq ?_
   refine R_seq ?_
   refine St.res (rs' := [blk b7 (wiC (sha (restB r bu su)) (.slice none 0 0) (.slice none 0 0)) 32, ownS 38 5 (.slice none 0 0) (0) (rc (accsOf l ((ksL l a).take (0)))), ownS 47 3 (.slice none 0 0) (0) (rc (([] : List Pf))), fam Pf.own (([] : List Pf)), blk b4 (wiC (List.replicate 32 0) (.slice none 0 0) (.slice none 0 0)) 32, blk b2 (ledV (.slice base l.length c) (.slice base' r.length c') bu su) 26]) (Weak.trans (Weak.trans (Weak.famNil (f := Pf.own)) (Weak.trans (Weak.newNil (T := 47) (sz := 3)) (Weak.newNil (T := 38) (sz := 5)))) (Weak.pick (p := [_, _, _]) (Weak.keep (Weak.keep (Weak.keep (Weak.keep (Weak.keep (Weak.nil _)))))))) ?_
   have hPz : PfsOk l ((ksL l a).take 0) [] := ⟨rfl, fun p hp => by cases hp⟩
   refine R_region ?_
   refine L_val rfl rfl rfl (OpP.v (P_move rfl rfl)) ?_
   refine L_val rfl rfl rfl (OpP.v (P_max2 rfl rfl rfl)) ?_
   refine E_as (t := 36) (v' := .int .i64 ((loI l a : Nat) : Int)) rfl (congrArg (Value.int .i64) hinv) ?_
   refine L_val rfl rfl rfl (OpP.v (P_assign rfl rfl)) ?_
   refine L_nil ?_
   refine St.env (.cons (t := 2) rfl (.cons (t := 4) rfl (.cons (t := 5) rfl (.cons (t := 7) rfl (.cons (t := 11) rfl (.cons (t := 12) rfl .nil)))))) ?_
   refine Q_then ?_
   refine R_block ?_
   refine R_loopE (G := Nat × Value × Value × List Pf) (.cons (t := 2) rfl (.cons (t := 4) rfl (.cons (t := 5) rfl (.cons (t := 7) rfl (.cons (t := 11) rfl .nil))))) (fun g => [(12, .int .i64 ((loI l a + g.1 : Nat) : Int))]) (fun g => [blk b7 (wiC (sha (restB r bu su)) (g.2.1) (g.2.2.1)) 32, ownS 38 5 (g.2.1) (g.1) (rc (accsOf l ((ksL l a).take (g.1)))), ownS 47 3 (g.2.2.1) (g.1) (rc (g.2.2.2)), fam Pf.own (g.2.2.2), blk b4 (wiC (List.replicate 32 0) (.slice none 0 0) (.slice none 0 0)) 32, blk b2 (ledV (.slice base l.length c) (.slice base' r.length c') bu su) 26]) (fun g => g.1 ≤ cntI l a ∧ PfsOk l ((ksL l a).take g.1) g.2.2.2) (fun g => cntI l a - g.1) (0, .slice none 0 0, .slice none 0 0, []) (by show (0) ≤ cntI l a ∧ PfsOk l ((ksL l a).take (0)) ([]); exact ⟨Nat.zero_le _, hPz⟩) (by repeat (first | exact .nil | refine .cons rfl ?_ | refine .consE rfl (by first | rfl | (congr 1; omega) | (congr 1; push_cast; omega)) ?_)) (Weak.refl _) ?_
   rintro ⟨n, u, pv, ps⟩ hinv
   replace hinv : n ≤ cntI l a ∧ PfsOk l ((ksL l a).take n) ps := hinv
   show St (cx gl) _ ((12, .int .i64 ((loI l a + n : Nat) : Int)) :: _) [blk b7 (wiC (sha (restB r bu su)) (u) (pv)) 32, ownS 38 5 (u) (n) (rc (accsOf l ((ksL l a).take (n)))), ownS 47 3 (pv) (n) (rc (ps)), fam Pf.own (ps), blk b4 (wiC (List.replicate 32 0) (.slice none 0 0) (.slice none 0 0)) 32, blk b2 (ledV (.slice base l.length c) (.slice base' r.length c') bu su) 26] _
   obtain ⟨hn, hps⟩ := hinv
   refine R_seq ?_
   refine R_seq ?_
   refine R_region ?_
   refine L_val rfl rfl rfl (OpP.v (P_move rfl rfl)) ?_
   refine L_val rfl rfl rfl (OpP.v (P_move rfl rfl)) ?_
   refine L_val rfl rfl rfl (OpP.v (P_fld0 rfl ty_fl_26_0 rfl)) ?_
   refine L_val rfl rfl rfl (V_load rfl rfl ty_sc_22 (Rd.blk .h5 rfl)) ?_
   refine L_val rfl rfl rfl (OpP.v (P_len rfl ty_sl_22 rfl)) ?_
   first | (refine L_val rfl rfl rfl (OpP.v (P_subN rfl rfl rfl (by simp only [fits]; omega))) ?_) | (refine L_val rfl rfl rfl (OpP.v (P_sub rfl rfl rfl)) ?_)
   refine L_val rfl rfl rfl (OpP.v (P_min2 rfl rfl rfl)) ?_
   refine L_val rfl rfl rfl (OpP.v (P_leq rfl rfl rfl)) ?_
   refine L_nil ?_
   refine Q_then ?_
   refine R_condP rfl (fun hlt => ?_) (fun hlt => ?_)
   ·skip
    have hnc : n < cntI l a := by unfold cntI; split at hlt <;> omega
    have hkn := ksL_at hnc
    have hkl := ksL_lt hnc
    have hpe := forms_prove hfew hkl
    have hc2 := ksL_two l a
    have hpl := hps.len
    have hx := accAt_get hkl
    obtain ⟨pb, pj, rfl, hrow⟩ := hpre.1.some_ (by rw [rc_length]; show 0 < _ * 5; omega)
    refine R_skip ?_
    refine Q_then ?_
    refine R_seq ?_
    refine R_block ?_
    refine R_seq ?_
    refine R_region ?_
    refine L_val rfl rfl rfl (V_loadAgg rfl rfl ty_ag_26 (Rds.blk .h5) (rfl)) ?_
    refine L_op rfl (W_call rfl rfl rfl rfl fn_ca_52 (forms_ok (some ⟨pb, pj, none⟩) c l hc hfew (.slice base' r.length c') rfl bu su) (Split.nil _) (fun w a b _ hb dj m => (Sn.row hpre.1 rfl).rw_ w ⟨_, hb, m.le (Heap.le_join_right dj)⟩) fun v1 rs1 ⟨qs, hq, e1⟩ => ?_)
    subst e1
    refine St.ownForm (p := [_]) fun ub uc huv huc => ?_
    subst huv
    have hql : (qs.map Ob.val).length = l.length := by rw [List.length_map]; exact hq.len
    have h9 := prove_ok (gl := gl) hG ub uc (qs.map Ob.val) (qs.map Ob.xs) ((loI l a + n : Nat) : Int) (by rw [List.length_map, List.length_map]) (by omega) (by omega)
    rw [hql, hq.1] at h9
    refine L_val rfl rfl rfl (OpP.v (P_move rfl rfl)) ?_
    refine L_op rfl (W_call rfl rfl rfl rfl fn_ca_91 (h9) (Split.nil _) (fun w a b _ hb dj m => by have h8 := fam_items hq.2 .h0 .h1 w ⟨_, hb, m.le (Heap.le_join_right dj)⟩; rw [hq.1] at h8; exact h8) fun v2 rs2 ⟨u2, e3, e4⟩ => ?_)
    subst e3; subst e4
    refine St.ownForm (p := []) fun pb' pc' hpv hpc => ?_
    subst hpv
    refine L_val rfl rfl rfl (OpP.v (P_move rfl rfl)) ?_
    refine L_val rfl rfl rfl (OpP.v (P_extract rfl rfl rfl)) ?_
    refine L_val rfl rfl rfl (OpP.v (P_extract rfl rfl rfl)) ?_
    refine L_op rfl (W_alloc rfl rfl rfl ty_ze_47 fun b13 => ?_)
    refine L_op rfl (W_storeAll rfl rfl rfl rfl ty_ag_47 (rfl) (Pf.one ⟨proveT (l.map formB) (loI l a + n : Nat), proveI (l.map formB) (loI l a + n : Nat), pb', pc', proveA (l.map formB) (loI l a + n : Nat)⟩) .h0 (rfl) ?_)
    refine L_val rfl rfl rfl (OpP.v (P_assign rfl rfl)) ?_
    refine L_nil ?_
    refine Q_then ?_
    refine R_seq ?_
    refine R_seq ?_
    refine St.res (rs' := [blk b13 ([.int .i64 (proveT (l.map formB) ((loI l a + n : Nat) : Int)), .int .i64 (proveI (l.map formB) ((loI l a + n : Nat) : Int)), .slice pb' (proveA (l.map formB) ((loI l a + n : Nat) : Int)).length pc']) 47, ownS 29 32 (.slice pb' (proveA (l.map formB) ((loI l a + n : Nat) : Int)).length pc') (proveA (l.map formB) ((loI l a + n : Nat) : Int)).length (flat .u8 (proveA (l.map formB) ((loI l a + n : Nat) : Int))), blk b7 (wiC (sha (restB r bu su)) (u) (pv)) 32, ownS 38 5 (u) (n) (rc (accsOf l ((ksL l a).take (n)))), ownS 47 3 (pv) (n) (rc (ps)), fam Pf.own (ps), blk b4 (wiC (List.replicate 32 0) (.slice none 0 0) (.slice none 0 0)) 32, blk b2 (ledV (.slice (some ⟨pb, pj, none⟩) l.length c) (.slice base' r.length c') bu su) 26]) (Weak.keep (Weak.keep (Weak.pick (p := [_, _]) (Weak.pick (p := [_, _]) (Weak.pick (p := [_, _]) (Weak.pick (p := [_, _]) (Weak.pick (p := [_, _]) (Weak.pick (p := [_, _]) (Weak.nil _))))))))) ?_
    refine R_region ?_
    refine L_val rfl rfl rfl (OpP.v (P_move rfl rfl)) ?_
    refine L_val rfl rfl rfl (OpP.v (P_neq rfl rfl rfl)) ?_
    refine E_false (t := 55) rfl (decide_eq_false (fun h => h hpe)) ?_
    refine L_nil ?_
    refine Q_then ?_
    refine R_condF rfl ?_
    refine R_skip ?_
    refine Q_then ?_
    refine R_seq ?_
    refine R_open [(0, 0), (1, 1), (2, 0), (3, 1), (4, 0), (5, 0), (6, 1), (7, 2), (8, 3), (9, 0), (10, 3)] mixed (by kernel_rfl) (QOk.then (QOk.block (QOk.then (QOk.then (QOk.block (QOk.then QOk.body)))))) ?_
    refine O_pure rfl rfl rfl rfl (P_fld0 rfl ty_fl_32_1 rfl) ?_
    refine O_val rfl rfl rfl rfl (V_load rfl rfl ty_sc_22 (Rd.blk .h2 (wi_1 hRl _ _))) ?_
    refine O_pure rfl rfl rfl rfl (P_fld0 rfl ty_fl_26_0 rfl) ?_
    refine O_val rfl rfl rfl rfl (V_load rfl rfl ty_sc_22 (Rd.blk .h7 rfl)) ?_
    refine O_pure rfl rfl rfl rfl (P_move rfl rfl) ?_
    refine O_pure rfl rfl rfl rfl (P_ixs (loI l a + n) rfl ty_sl_22 rfl rfl (by first | rfl | omega) (by omega)) ?_
    refine O_val rfl rfl rfl rfl (V_loadAgg rfl rfl ty_ag_38 (rds_rc (Rds.row hrow rfl) hx) (rfl)) ?_
    refine O_keep rfl rfl (W_lit (z := .nilIface) ((accAt l (loI l a + n)).cells) rfl rfl rfl ty_sl_22 ty_lz_22 rfl rfl rfl (by decide) (by decide) (by intro v hv; simp only [List.mem_singleton] at hv; subst hv; rfl) (rfl) fun b65 => (K_keep (Weak.drop (Weak.refl _)) ?_))
    refine O_new rfl rfl (W_append (p := [_, _, _, _]) rfl rfl rfl ty_sl_22 ty_ap_22 ty_src_22 rfl rfl rfl (Src.slice (sz := 5) (m := 1) (news := (accAt l (loI l a + n)).cells) (Rds.blk .h0) rfl (Rec.one (accAt l (loI l a + n)))) (by omega) (by simp only [maxLen]; omega) fun v66 => ?_)
    refine St.ownForm (p := [_, _, _, _]) fun ab2 ac2 hav hac => ?_
    subst hav
    refine K_new ?_
    refine O_pure rfl rfl rfl rfl (P_fld0 rfl ty_fl_32_1 rfl) ?_
    refine O_new rfl rfl (W_store rfl rfl rfl rfl ty_sc_22 rfl .h3 (by rw [wi_len hRl]; decide) (K_new ?_))
    refine O_nil ?_
    refine Q_then ?_
    refine St.res (rs' := [blk b13 ([.int .i64 (proveT (l.map formB) ((loI l a + n : Nat) : Int)), .int .i64 (proveI (l.map formB) ((loI l a + n : Nat) : Int)), .slice pb' (proveA (l.map formB) ((loI l a + n : Nat) : Int)).length pc']) 47, ownS 29 32 (.slice pb' (proveA (l.map formB) ((loI l a + n : Nat) : Int)).length pc') (proveA (l.map formB) ((loI l a + n : Nat) : Int)).length (flat .u8 (proveA (l.map formB) ((loI l a + n : Nat) : Int))), blk b7 (wiC (sha (restB r bu su)) (.slice ab2 (n + 1) ac2) pv) 32, ownS 38 5 (.slice ab2 (n + 1) ac2) (n + 1) (rc (accsOf l ((ksL l a).take (n + 1)))), ownS 47 3 (pv) (n) (rc (ps)), fam Pf.own (ps), blk b4 (wiC (List.replicate 32 0) (.slice none 0 0) (.slice none 0 0)) 32, blk b2 (ledV (.slice (some ⟨pb, pj, none⟩) l.length c) (.slice base' r.length c') bu su) 26]) (Weak.drop (Weak.keep (Weak.keep (by rw [wi_set1 hRl, accsOf_snoc hkn, rc_append, rc_single]; exact Weak.refl _)))) ?_
    refine R_region ?_
    refine L_val rfl rfl rfl (OpP.v (P_fld0 rfl ty_fl_32_2 rfl)) ?_
    refine L_val rfl rfl rfl (V_load rfl rfl ty_sc_30 (Rd.blk .h2 (wi_2 hRl _ _))) ?_
    refine L_val rfl rfl rfl (V_loadAgg rfl rfl ty_ag_47 (Rds.blk .h0) (rfl)) ?_
    refine L_op rfl (W_lit (z := .nilIface) ([.int .i64 (proveT (l.map formB) ((loI l a + n : Nat) : Int)), .int .i64 (proveI (l.map formB) ((loI l a + n : Nat) : Int)), .slice pb' (proveA (l.map formB) ((loI l a + n : Nat) : Int)).length pc']) rfl rfl rfl ty_sl_30 ty_lz_30 rfl rfl rfl (by decide) (by decide) (by intro v hv; simp only [List.mem_singleton] at hv; subst hv; rfl) (rfl) fun b71 => ?_)
    refine L_op rfl (W_append (p := [_, _, _, _, _]) rfl rfl rfl ty_sl_30 ty_ap_30 ty_src_30 rfl rfl rfl (Src.slice (sz := 3) (m := 1) (news := [.int .i64 (proveT (l.map formB) ((loI l a + n : Nat) : Int)), .int .i64 (proveI (l.map formB) ((loI l a + n : Nat) : Int)), .slice pb' (proveA (l.map formB) ((loI l a + n : Nat) : Int)).length pc']) (Rds.blk .h0) rfl (Pf.one ⟨proveT (l.map formB) (loI l a + n : Nat), proveI (l.map formB) (loI l a + n : Nat), pb', pc', proveA (l.map formB) (loI l a + n : Nat)⟩)) (by omega) (by simp only [maxLen]; omega) fun v72 => ?_)
    refine St.res (rs' := [blk b7 (wiC (sha (restB r bu su)) (.slice ab2 (n + 1) ac2) pv) 32, ownS 38 5 (.slice ab2 (n + 1) ac2) (n + 1) (rc (accsOf l ((ksL l a).take (n + 1)))), ownS 47 3 (v72) (n + 1) (rc (ps ++ [⟨proveT (l.map formB) (loI l a + n : Nat), proveI (l.map formB) (loI l a + n : Nat), pb', pc', proveA (l.map formB) (loI l a + n : Nat)⟩])), fam Pf.own (ps ++ [⟨proveT (l.map formB) (loI l a + n : Nat), proveI (l.map formB) (loI l a + n : Nat), pb', pc', proveA (l.map formB) (loI l a + n : Nat)⟩]), blk b4 (wiC (List.replicate 32 0) (.slice none 0 0) (.slice none 0 0)) 32, blk b2 (ledV (.slice (some ⟨pb, pj, none⟩) l.length c) (.slice base' r.length c') bu su) 26]) (Weak.drop (Weak.drop (Weak.trans (Weak.pick (p := [_]) (Weak.pick (p := [_]) (Weak.pick (p := [_]) (Weak.keep (Weak.keep (Weak.keep (Weak.keep (Weak.nil _)))))))) (Weak.trans (Weak.keep (Weak.keep (Weak.keep (Weak.famAdd (f := Pf.own) (x := ⟨proveT (l.map formB) (loI l a + n : Nat), proveI (l.map formB) (loI l a + n : Nat), pb', pc', proveA (l.map formB) (loI l a + n : Nat)⟩))))) (Weak.keep (Weak.keep (ownS.to1 rfl (by rw [rc_append, rc_single]; rfl)))))))) ?_
    refine St.ownForm (p := [_, _]) fun pb2 pc2 hpv2 hpc2 => ?_
    subst hpv2
    refine L_val rfl rfl rfl (OpP.v (P_fld0 rfl ty_fl_32_2 rfl)) ?_
    refine L_op rfl (W_store rfl rfl rfl rfl ty_sc_30 rfl .h0 (by rw [wi_len hRl]; decide) ?_)
    refine L_nil ?_
    refine Q_block ?_
    refine Q_then ?_
    refine R_region ?_
    refine L_val rfl rfl rfl (OpP.v (P_move rfl rfl)) ?_
    first | (refine L_val rfl rfl rfl (OpP.v (P_addN rfl rfl rfl (by simp only [fits]; omega))) ?_) | (refine L_val rfl rfl rfl (OpP.v (P_add rfl rfl rfl)) ?_)
    refine L_val rfl rfl rfl (OpP.v (P_assign rfl rfl)) ?_
    refine L_nil ?_
    exact Q_round (n + 1, .slice ab2 (n + 1) ac2, .slice pb2 (n + 1) pc2, ps ++ [⟨proveT (l.map formB) (loI l a + n : Nat), proveI (l.map formB) (loI l a + n : Nat), pb', pc', proveA (l.map formB) (loI l a + n : Nat)⟩]) (by show (n + 1) ≤ cntI l a ∧ PfsOk l ((ksL l a).take (n + 1)) (ps ++ [⟨proveT (l.map formB) (loI l a + n : Nat), proveI (l.map formB) (loI l a + n : Nat), pb', pc', proveA (l.map formB) (loI l a + n : Nat)⟩]); exact ⟨by omega, hps.snoc hkn rfl hpc⟩) (by show cntI l a - (n + 1) < cntI l a - n; omega) (by repeat (first | exact .nil | refine .cons rfl ?_ | refine .consE rfl (by first | rfl | (congr 1; omega) | (congr 1; push_cast; omega)) ?_)) (by rw [wi_set2 hRl]; exact Weak.refl _)
   ·skip
    have hnc : n = cntI l a := by
      have hsl := spotI_le l a
      have hll : loI l a ≤ spotI l a := by unfold loI; split <;> omega
      unfold cntI at hn ⊢
      split at hlt <;> omega
    have hkt : (ksL l a).take n = (ksL l a) := List.take_of_length_le (by rw [ksL_len]; omega)
    rw [hkt] at hps ⊢
    rw [hnc, ← ksL_len]
    refine St.hasFact .h1 (p := u.oneCell' = true) (fun h hh => by obtain ⟨_, _, e, _⟩ := hh.form; rw [e]; rfl) ?_
    intro hu1
    refine St.hasFact .h2 (p := pv.oneCell' = true) (fun h hh => by obtain ⟨_, _, e, _⟩ := hh.form; rw [e]; rfl) ?_
    intro hv1
    refine R_exit ?_
    refine Q_then_exit ?_
    refine Q_then_exit ?_
    refine Q_block_eq ?_
    refine St.env (.cons (t := 4) rfl (.cons (t := 5) rfl (.cons (t := 7) rfl .nil))) ?_
    refine Q_then ?_
    refine R_seq ?_
    refine R_region ?_
    refine L_val rfl rfl rfl (V_loadAgg rfl rfl ty_ag_32 (Rds.blk .h0) (by rw [wi_len hRl])) ?_
    refine L_op rfl (W_storeAll rfl rfl rfl rfl ty_ag_32 (by rw [wi_len hRl]) (wi_one (hu1) (hv1)) .h4 (by first | (rw [wi_len hRl]; done) | (rw [wi_len hRl]; rfl)) ?_)
    refine L_val rfl rfl rfl (OpP.v (P_assign rfl rfl)) ?_
    refine L_nil ?_
    refine St.env (.cons (t := 4) rfl (.cons (t := 5) rfl .nil)) ?_
    refine Q_then ?_
    refine R_ret ?_
    exact R_end (rs2 := _) rfl rfl (.cell rfl (Rds.loadVar ty_ag_32 (Rds.blk .h4) (by rw [wi_len hRl])) (.tmp rfl .nil)) (⟨u, pv, ps, by unfold wRest; rw [if_pos he, he] <;> rfl, by unfold wKs; rw [if_pos he]; exact hps, by unfold wKs; rw [if_pos he] <;> rfl⟩) (Weak.pick (p := [_]) (Weak.pick (p := [_]) (Weak.pick (p := [_]) (Weak.nil _))))
end Go.Proofs.YtfhjhaogmdaepaaGreatDoor

/- The twenty-first part of the program logic: structs of numbers and truth values are compared. -/
set_option linter.unusedVariables false
set_option linter.unusedSimpArgs false
set_option linter.unusedSectionVars false
namespace Go.Proofs.YtfhjhaogmdaepaaGreatDoor
open Go Go.RowKit
theorem Has.h10 {a b c d e f g i j k r s : HP} {t : List HP} : Has (a :: b :: c :: d :: e :: f :: g :: i :: j :: k :: r :: t) r s (a :: b :: c :: d :: e :: f :: g :: i :: j :: k :: s :: t) := Has.h9.cons
theorem Has.h11 {a b c d e f g i j k l r s : HP} {t : List HP} : Has (a :: b :: c :: d :: e :: f :: g :: i :: j :: k :: l :: r :: t) r s (a :: b :: c :: d :: e :: f :: g :: i :: j :: k :: l :: s :: t) := Has.h10.cons
theorem Has.h12 {a b c d e f g i j k l m r s : HP} {t : List HP} : Has (a :: b :: c :: d :: e :: f :: g :: i :: j :: k :: l :: m :: r :: t) r s (a :: b :: c :: d :: e :: f :: g :: i :: j :: k :: l :: m :: s :: t) := Has.h11.cons
/-- Two cells of one make: truth values (true), numbers (false). -/
def sk : Bool → Value → Value → Prop
 | false, x, y => ∃ k a b, x = .int k a ∧ y = .int k b
 | true, x, y => ∃ a b, x = .bool a ∧ y = .bool b
def fkB (P : Program) (b : Bool) (t : TypeId) : Bool := match b, P.underlying t with
 | false, some (.int _) => true
 | true, some .bool => true
 | _, _ => false
/-- The type's cells are numbers or truth values, as the list tells. -/
def seK (P : Program) (t : Nat) (ks : List Bool) : Bool := match P.underlying t with
 | some (.struct fs) => !P.stoodInHeld t && !P.eqGuardType P.depth t && (fs.toList.length == ks.length) && ((List.range ks.length).all fun i => match fs.toList[i]?, ks[i]? with | some f, some b => f.offset == i && (f.name != "_") && scB P f.type && fkB P b f.type | _, _ => false)
 | _ => false
theorem run_eqFields_k {P : Program} {w : World} (dp : Nat) : ∀ (fs : List Field) (ks : List Bool) (o : Nat) (xs ys : List Value), xs.length = fs.length → ys.length = fs.length → ks.length = fs.length → (∀ (i : Nat) (b : Bool) (x y : Value), ks[i]? = some b → xs[i]? = some x → ys[i]? = some y → sk b x y) →
  (∀ (i : Nat) (f : Field) (b : Bool), fs[i]? = some f → ks[i]? = some b → f.offset = o + i ∧ (f.name != "_") = true ∧ scB P f.type = true ∧ fkB P b f.type = true) →
  ∀ (px py : List Value), px.length = o → py.length = o → (Op.eqFields (dp + 1) (px ++ xs).toArray (py ++ ys).toArray fs).run P w = .ok (@decide (xs = ys) (Classical.propDecidable _)) w
 | [], ks, o, xs, ys, hx, hy, _, _, _, px, py, _, _ => by
  have : xs = [] := List.eq_nil_of_length_eq_zero hx
  have : ys = [] := List.eq_nil_of_length_eq_zero hy
  subst xs; subst ys
  simp [Op.eqFields]
 | f :: fs, kb :: ks, o, x :: xs, y :: ys, hx, hy, hkl, hk, hf, px, py, hpx, hpy => by
  obtain ⟨h1, h2, h3, h4⟩ := hf 0 f kb rfl rfl
  have hkk := hk 0 kb x y rfl rfl rfl
  have hname : f.name ≠ "_" := by simpa using h2
  have hone : x.oneCell' = true ∧ y.oneCell' = true := by
   cases kb with
   | false => obtain ⟨k, a, b, rfl, rfl⟩ := hkk; exact ⟨rfl, rfl⟩
   | true => obtain ⟨a, b, rfl, rfl⟩ := hkk; exact ⟨rfl, rfl⟩
  have e1 : (part f.type (px ++ x :: xs).toArray f.offset).run P w = .ok x w := by
   simp [part, run_isAgg_sc h3, h1, ← hpx]
  have e2 : (part f.type (py ++ y :: ys).toArray f.offset).run P w = .ok y w := by
   simp [part, run_isAgg_sc h3, h1, ← hpy]
  have e3 : (Op.equalIn (dp + 1) f.type x y).run P w = .ok (@decide (x = y) (Classical.propDecidable _)) w := by
   cases kb with
   | false =>
    obtain ⟨k', a, b, rfl, rfl⟩ := hkk
    obtain ⟨k, hk4⟩ : ∃ k, P.underlying f.type = some (.int k) := by
     unfold fkB at h4
     split at h4
     ·exact ⟨_, by assumption⟩
     ·contradiction
     ·cases h4
    rw [run_equalIn_int (P := P) w dp f.type k' k a b hk4]
    congr 1
    by_cases hab : a = b
    ·simp [hab]
    ·simp [hab]
   | true =>
    obtain ⟨a, b, rfl, rfl⟩ := hkk
    have hk4 : P.underlying f.type = some .bool := by
     unfold fkB at h4
     split at h4
     ·contradiction
     ·assumption
     ·cases h4
    rw [run_equalIn_bool' dp hk4]
    congr 1
    cases a <;> cases b <;> simp
  unfold Op.eqFields
  rw [if_pos hname]
  simp only [Sem.run_bind, e1, e2, e3, Result.andThen_ok]
  by_cases hab : x = y
  ·subst hab
   have ih := run_eqFields_k (P := P) (w := w) dp fs ks (o + 1) xs ys (by simpa using hx) (by simpa using hy) (by simpa using hkl) (fun i b x y hb hx hy => hk (i + 1) b x y hb hx hy) (fun i f b hf' hb => by
    obtain ⟨g1, g2⟩ := hf (i + 1) f b hf' hb
    exact ⟨by omega, g2⟩) (px ++ [x]) (py ++ [x]) (by simp [hpx]) (by simp [hpy])
   simp only [List.append_assoc, List.singleton_append] at ih
   simp only [decide_true, Bool.not_true, Bool.false_eq_true, if_false, ih]
   congr 1
   by_cases hxy : xs = ys
   ·subst hxy; simp
   ·have : ¬ (x :: xs = x :: ys) := by simpa using hxy
    simp [hxy, this]
  ·have : ¬ (x :: xs = y :: ys) := by simp [hab]
   simp [hab, this]
section
variable {C : Cx} {F : Fx} {l : Env} {rs rs' : List HP} {K : Act → World → Prop} {o : Oper} {Q : Exit → Act → World → Prop} {d : Nat}
theorem run_eqStructK {P : Program} {w : World} {t : Nat} {ks : List Bool} {xs ys : List Value} (ht : seK P t ks = true) (hx : xs.length = ks.length) (hy : ys.length = ks.length) (hk : ∀ (i : Nat) (b : Bool) (x y : Value), ks[i]? = some b → xs[i]? = some x → ys[i]? = some y → sk b x y) :
  (Op.equalIn 10000 t (.agg xs.toArray) (.agg ys.toArray)).run P w = .ok (@decide (xs = ys) (Classical.propDecidable _)) w ∧ P.eqGuardType P.depth t = false := by
 unfold seK at ht
 split at ht
 ·rename_i fs hfs
  simp only [Bool.and_eq_true, Bool.not_eq_true'] at ht
  obtain ⟨⟨⟨hp, hg⟩, hl⟩, hm⟩ := ht
  refine ⟨?_, hg⟩
  have hff : P.fieldsOf t = fs := by unfold Program.fieldsOf; rw [hfs]
  refine (run_equalIn_struct (P := P) w 9999 t xs.toArray ys.toArray (by rw [hff]; exact hfs) hp).trans ?_
  rw [hff]
  have hlen : fs.toList.length = ks.length := eq_of_beq hl
  refine run_eqFields_k (P := P) (w := w) 9998 fs.toList ks 0 xs ys (by omega) (by omega) (by omega) hk (fun i f b hf hb => ?_) [] [] rfl rfl
  have h2 := List.all_eq_true.1 hm i (by rw [List.mem_range]; exact (List.getElem?_eq_some_iff.1 hb).1)
  rw [hf, hb] at h2
  simp only [Bool.and_eq_true] at h2
  obtain ⟨⟨⟨h3, h4⟩, h5⟩, h6⟩ := h2
  exact ⟨by rw [eq_of_beq h3, Nat.zero_add], h4, h5, h6⟩
 ·cases ht
theorem P_eql_structK {t t' : Nat} (ks : List Bool) {x y : Operand} {xs ys : List Value} {b : Bool} (ho : o.op = .binOp .eql t x y t') (ht : seK C.P t ks = true) (hx : ev l x = some (.agg xs.toArray)) (hy : ev l y = some (.agg ys.toArray)) (h1 : xs.length = ks.length) (h2 : ys.length = ks.length)
  (hk : ∀ (i : Nat) (b : Bool) (x y : Value), ks[i]? = some b → xs[i]? = some x → ys[i]? = some y → sk b x y) (hb : b = true ↔ xs = ys) : OpP C F l o (.bool b) := fun a w r => by
 obtain ⟨h3, hg⟩ := run_eqStructK (P := C.P) (w := w) ht h1 h2 hk
 have e : @decide (xs = ys) (Classical.propDecidable _) = b := by
  by_cases h : xs = ys
  ·have := hb.2 h; rw [this]; simp [h]
  ·cases b with
   | true => exact absurd (hb.1 rfl) h
   | false => simp [h]
 rw [e] at h3
 simp only [execOp, ho, r.ev hx, r.ev hy, Sem.run_bind, run_eqGuard_agg w .eql t x y _ _ hg, Result.andThen_ok, run_eql_struct, h3, Sem.run_pure]
theorem P_neq_structK {t t' : Nat} (ks : List Bool) {x y : Operand} {xs ys : List Value} {b : Bool} (ho : o.op = .binOp .neq t x y t') (ht : seK C.P t ks = true) (hx : ev l x = some (.agg xs.toArray)) (hy : ev l y = some (.agg ys.toArray)) (h1 : xs.length = ks.length) (h2 : ys.length = ks.length)
  (hk : ∀ (i : Nat) (b : Bool) (x y : Value), ks[i]? = some b → xs[i]? = some x → ys[i]? = some y → sk b x y) (hb : b = false ↔ xs = ys) : OpP C F l o (.bool b) := fun a w r => by
 obtain ⟨h3, hg⟩ := run_eqStructK (P := C.P) (w := w) ht h1 h2 hk
 have e : @decide (xs = ys) (Classical.propDecidable _) = !b := by
  by_cases h : xs = ys
  ·have := hb.2 h; rw [this]; simp [h]
  ·cases b with
   | false => exact absurd (hb.1 rfl) h
   | true => simp [h]
 rw [e] at h3
 simp only [execOp, ho, r.ev hx, r.ev hy, Sem.run_bind, run_eqGuard_agg w .neq t x y _ _ hg, Result.andThen_ok, run_neq_struct, h3, Sem.run_pure, Bool.not_not]
end
end Go.Proofs.YtfhjhaogmdaepaaGreatDoor

/- Walks: the reference's Prove. Printed by gen.py. -/
set_option linter.unusedVariables false
set_option linter.unusedSimpArgs false
set_option maxRecDepth 100000
namespace Go.Proofs.YtfhjhaogmdaepaaGreatDoor
open Go Go.RowKit Go.Proofs
theorem spot_lin {l : List Acc} {a : Int} {j : Nat} (hf : AccFine l) (hj : j ≤ l.length) (h : ∀ m, m < j → (accAt l m).a < a) (he : j = l.length ∨ ¬ (accAt l j).a < a) : spotI l a = j := by
 obtain ⟨h1, h2⟩ := spot_fine hf a
 have hle := spotI_le l a
 rcases Nat.lt_trichotomy (spotI l a) j with h3 | h3 | h3
 ·have := h2 _ (Nat.le_refl _) (by omega); have := h _ h3; omega
 ·exact h3
 ·rcases he with he | he
  ·omega
  ·exact absurd (h1 _ h3) he
theorem az_hit {l : List Acc} {a : Int} (hf : AccFine l) (h : ¬ idxG (isAz a) l < 0) : spotB l a = true ∧ idxG (isAz a) l = (spotI l a : Nat) := by
 obtain ⟨i, hi, hix⟩ := idxG_pos h
 have hx := accAt_get hi
 have hp : isAz a (accAt l i) = true := by
  unfold idxG at hix
  cases h2 : l.findIdx? (isAz a) with
  | none => rw [h2] at hix; exact absurd hix (by show ¬ ((-1 : Int) = (i : Int)); omega)
  | some j =>
   rw [h2] at hix
   obtain ⟨hj, hp, _⟩ := List.findIdx?_eq_some_iff_getElem.1 h2
   obtain rfl : j = i := by have h9 : (j : Int) = (i : Int) := hix; omega
   rw [accAt_of (List.getElem?_eq_getElem hj)]; exact hp
 unfold isAz at hp
 rw [Bool.and_eq_true, decide_eq_true_eq] at hp
 exact ⟨(spotB_iff hf a).2 ⟨i, hi, hp.1⟩, by rw [hix, spotI_eq hf hi hp.1]⟩
theorem az_miss {l : List Acc} {a : Int} (hf : AccFine l) (h : idxG (isAz a) l < 0) : spotB l a = false := by
 cases hb : spotB l a with
 | false => rfl
 | true =>
  obtain ⟨i, hi, e⟩ := (spotB_iff hf a).1 hb
  have ha : a ≠ 0 := fun h0 => hf.no0 i hi (by rw [e, h0])
  rw [isAz_idx, if_neg ha] at h
  have h2 : idxG (isAc a) l = (i : Int) := idxG_hit (fun j m' hj hm' => by
   show isAc a m' = false
   refine decide_eq_false fun e2 => ?_
   have := hf.mono j i hj hi; rw [accAt_of hm', e] at this; omega) (accAt_get hi) (show isAc a (accAt l i) = true from decide_eq_true e)
  omega
set_option maxHeartbeats 4000000 in
theorem rlprove_ok {gl : Nat → Obj} (hG : GlobsR gl) (base : Option Addr) (c : Nat) (l : List Acc) (hc : l.length ≤ c) (hm : l.length ≤ 3518437208800)(hok : ∀ x ∈ l, x.ok) (base' : Option Addr) (c' : Nat) (r : List Rel) (hc' : r.length ≤ c') (hok' : ∀ x ∈ r, x.ok) (bu su : Int) (hbu : u64 bu) (hsu : u64 su) (a : Int) : Spec (cx gl) 33 [.agg (ledV (.slice base l.length c) (.slice base' r.length c') bu su).toArray, .int .u64 a] (fun w _ => Row w base (rc l) ∧ Row w base' (rc r)) [] (fun v rs => ∃ (u pv : Value) (ps : List Pf), v = .tuple #[.agg (wiC (wRest (⟨l, r, bu, su⟩ : Led)) u pv).toArray, .int .i64 (lsoundE (⟨l, r, bu, su⟩ : Led))] ∧ PfsOk (⟨l, r, bu, su⟩ : Led).acc (wKs (⟨l, r, bu, su⟩ : Led) a) ps ∧ rs = [ownS 38 5 (u) ((wKs ⟨l, r, bu, su⟩ a).length) (rc (accsOf l (wKs ⟨l, r, bu, su⟩ a))), ownS 47 3 (pv) ((wKs ⟨l, r, bu, su⟩ a).length) (rc (ps)), fam Pf.own ps]) := by
 refine Spec.enter (C := cx gl) Tryz.func33 rfl 104 rfl rfl fun w0 h0 hsep hsub hpre => ?_
 obtain rfl : h0 = Heap.none := hsep
 show St (cx gl) _ [(0, .agg (ledV (.slice base l.length c) (.slice base' r.length c') bu su).toArray), (1, .int .u64 a)] _ _
 refine R_seq ?_
 refine R_region ?_
 refine L_op rfl (W_box (ledV (.slice base l.length c) (.slice base' r.length c') bu su) rfl rfl rfl rfl rfl fun b2 => ?_)
 refine L_op rfl (W_alloc rfl rfl rfl ty_ze_32 fun b4 => ?_)
 refine L_val rfl rfl rfl (OpP.v (P_assign rfl rfl)) ?_
 refine L_nil ?_
 refine St.env (.cons (t := 1) rfl (.cons (t := 2) rfl (.cons (t := 4) rfl (.cons (t := 5) rfl .nil)))) ?_
 refine Q_then ?_
 refine R_seq ?_
 refine R_region ?_
 refine L_val rfl rfl rfl (V_loadAgg rfl rfl ty_ag_26 (Rds.blk .h1) (rfl)) ?_
 refine L_op rfl (W_callV rfl rfl rfl rfl fn_ca_55 (rsound_ok base c l hc (by omega) hok base' c' r hc' hok' bu su hbu) (fun w nw => ⟨(Sn.row hpre.1 rfl).rw_ w nw, (Sn.row hpre.2 rfl).rw_ w nw⟩) ?_)
 refine L_val rfl rfl rfl (OpP.v (P_assign rfl rfl)) ?_
 refine L_nil ?_
 refine St.env (.cons (t := 1) rfl (.cons (t := 2) rfl (.cons (t := 4) rfl (.cons (t := 5) rfl (.cons (t := 6) rfl .nil))))) ?_
 refine Q_then ?_
 refine R_seq ?_
 refine R_seq ?_
 refine R_region ?_
 refine L_val rfl rfl rfl (OpP.v (P_move rfl rfl)) ?_
 refine L_val rfl rfl rfl (OpP.v (P_neq rfl rfl rfl)) ?_
 refine L_nil ?_
 refine St.env (.cons (t := 1) rfl (.cons (t := 2) rfl (.cons (t := 4) rfl (.cons (t := 5) rfl (.cons (t := 6) rfl (.cons (t := 18) rfl .nil)))))) ?_
 refine Q_then ?_
 refine R_condP rfl (fun he => ?_) (fun he => ?_)
 ·skip
  refine R_seq ?_
  refine R_region ?_
  refine L_val rfl rfl rfl (OpP.v (P_buildStruct rfl ty_pl_32 ty_ze_32 rfl rfl (rfl))) ?_
  refine E_as (t := 19) (v' := .agg (wiC (List.replicate 32 0) (.slice none 0 0) (.slice none 0 0)).toArray) rfl rfl ?_
  refine L_val rfl rfl rfl (OpP.v (P_move rfl rfl)) ?_
  refine L_op rfl (W_storeAll rfl rfl rfl rfl ty_ag_32 (rfl) (wi_one rfl rfl) .h0 (rfl) ?_)
  refine L_val rfl rfl rfl (OpP.v (P_assign rfl rfl)) ?_
  refine L_nil ?_
  refine St.env (.cons (t := 1) rfl (.cons (t := 2) rfl (.cons (t := 4) rfl (.cons (t := 5) rfl .nil)))) ?_
  refine Q_then ?_
  refine R_ret ?_
  refine Q_then_ret ?_
  exact R_end (rs2 := [ownS 38 5 (.slice none 0 0) (0) (rc (([] : List Acc))), ownS 47 3 (.slice none 0 0) (0) (rc (([] : List Pf))), fam Pf.own []]) rfl rfl (.cell rfl (Rds.loadVar ty_ag_32 (Rds.blk .h0) rfl) (.tmp rfl .nil)) (⟨.slice none 0 0, .slice none 0 0, [], by unfold wRest; rw [if_neg he]; rfl, by unfold wKs; rw [if_neg he]; exact ⟨rfl, fun p hp => by cases hp⟩, by unfold wKs; rw [if_neg he]; rfl⟩) (Weak.trans (Weak.famNil (f := Pf.own)) (Weak.trans (Weak.newNil (T := 47) (sz := 3)) (Weak.trans (Weak.newNil (T := 38) (sz := 5)) (Weak.keep (Weak.keep (Weak.keep (Weak.nil _)))))))
 ·skip
  have he : lsoundE ⟨l, r, bu, su⟩ = 0 := Classical.not_not.1 he
  have hF := ledFine_of he
  have hfew : l.length ≤ 65536 := hF.few
  have hfew' : r.length ≤ 65536 := hF.few'
  have hspl := spotI_le l a
  have hRl : (sha (restB r bu su)).length = 32 := sha_length _
  have hf : AccFine l := accFine_of hF.acc
  refine R_skip ?_
  refine Q_then ?_
  refine R_seq ?_
  refine R_region ?_
  refine L_val rfl rfl rfl (V_loadAgg rfl rfl ty_ag_26 (Rds.blk .h1) (rfl)) ?_
  refine L_op rfl (W_call rfl rfl rfl rfl fn_ca_18 (rrest_ok (.slice base l.length c) rfl base' c' r hc' hfew' hok' bu su hbu hsu) (Split.nil _) (fun w a b _ hb dj m => (Sn.row hpre.2 rfl).rw_ w ⟨_, hb, m.le (Heap.le_join_right dj)⟩) fun v8 rs8 (e8 : rs8 = _) => ?_)
  subst e8
  refine St.ownForm (p := []) fun vb vc hvv hvc => ?_
  subst hvv
  refine L_op rfl (W_callV rfl rfl rfl rfl fn_ca_17 (rsum_ok hG vb vc (restB r bu su) hvc (by rw [restB_length]; omega)) ((Sn.own .h0 rfl).rw_) ?_)
  refine L_val rfl rfl rfl (OpP.v (P_buildStruct rfl ty_pl_32 ty_ze_32 rfl rfl (wi_fill hRl))) ?_
  refine L_op rfl (W_alloc rfl rfl rfl ty_ze_32 fun b7 => ?_)
  refine L_op rfl (W_storeAll rfl rfl rfl rfl ty_ag_32 (by rw [wi_len hRl]) (wi_one rfl rfl) .h0 (by first | (rw [wi_len hRl]; done) | (rw [wi_len hRl]; rfl)) ?_)
  refine L_nil ?_
  refine St.env (.cons (t := 1) rfl (.cons (t := 2) rfl (.cons (t := 4) rfl (.cons (t := 5) rfl (.cons (t := 7) rfl .nil))))) ?_
  refine Q_then ?_
  refine R_seq ?_
  refine R_region ?_
  refine L_val rfl rfl rfl (V_loadAgg rfl rfl ty_ag_26 (Rds.blk .h3) (rfl)) ?_
  refine L_op rfl (W_call rfl rfl rfl rfl fn_ca_14 (rforms_ok base c l hc hfew hok (.slice base' r.length c') rfl bu su) (Split.nil _) (fun w a b _ hb dj m => (Sn.row hpre.1 rfl).rw_ w ⟨_, hb, m.le (Heap.le_join_right dj)⟩) fun v1 rs1 ⟨qs, hq, e1⟩ => ?_)
  subst e1
  refine St.ownForm (p := [_]) fun ub uc huv huc => ?_
  subst huv
  refine L_val rfl rfl rfl (OpP.v (P_assign rfl rfl)) ?_
  refine L_nil ?_
  refine St.env (.cons (t := 1) rfl (.cons (t := 2) rfl (.cons (t := 4) rfl (.cons (t := 5) rfl (.cons (t := 7) rfl (.cons (t := 8) rfl .nil)))))) ?_
  refine Q_then ?_
  refine R_seq ?_
  refine R_region ?_
  refine L_val rfl rfl rfl (V_loadAgg rfl rfl ty_ag_26 (Rds.blk .h5) (rfl)) ?_
  refine L_val rfl rfl rfl (OpP.v (P_move rfl rfl)) ?_
  refine L_op rfl (W_callV rfl rfl rfl rfl fn_ca_68 (rplace_ok base c l hc (by omega) (.slice base' r.length c') rfl bu su a) ((Sn.row hpre.1 rfl).rw_) ?_)
  refine L_val rfl rfl rfl (OpP.v (P_assign rfl rfl)) ?_
  refine L_nil ?_
  refine St.env (.cons (t := 1) rfl (.cons (t := 2) rfl (.cons (t := 4) rfl (.cons (t := 5) rfl (.cons (t := 7) rfl (.cons (t := 8) rfl (.cons (t := 9) rfl .nil))))))) ?_
  refine Q_then ?_
  refine R_seq ?_
  refine St.res (rs' := [ownS 3 1 (.slice none 0 0) (0) (ints .i64 (([] : List Int))), blk b7 (wiC (sha (restB r bu su)) (.slice none 0 0) (.slice none 0 0)) 32, fam Ob.own qs, ownS 48 1 (.slice ub l.length uc) (l.length) (qs.map Ob.val), blk b4 (wiC (List.replicate 32 0) (.slice none 0 0) (.slice none 0 0)) 32, blk b2 (ledV (.slice base l.length c) (.slice base' r.length c') bu su) 26]) (Weak.trans (Weak.newNil (T := 3) (sz := 1)) (Weak.keep (Weak.pick (p := [_, _]) (Weak.keep (Weak.keep (Weak.pick (p := [_]) (Weak.pick (p := [_]) (Weak.nil _)))))))) ?_
  refine R_region ?_
  refine L_val rfl rfl rfl (OpP.v (P_assign rfl rfl)) ?_
  refine L_nil ?_
  refine Q_then ?_
  refine R_joinE (G := Value) (.cons (t := 2) rfl (.cons (t := 4) rfl (.cons (t := 5) rfl (.cons (t := 7) rfl (.cons (t := 8) rfl .nil))))) (fun g => [(10, g)]) (fun g => [ownS 3 1 (g) ((ksL l a).length) (ints .i64 ((ksL l a).map Int.ofNat)), blk b7 (wiC (sha (restB r bu su)) (.slice none 0 0) (.slice none 0 0)) 32, fam Ob.own qs, ownS 48 1 (.slice ub l.length uc) (l.length) (qs.map Ob.val), blk b4 (wiC (List.replicate 32 0) (.slice none 0 0) (.slice none 0 0)) 32, blk b2 (ledV (.slice base l.length c) (.slice base' r.length c') bu su) 26]) (fun g => True) ?_ ?_
  ·skip
   refine R_seq ?_
   refine R_region ?_
   refine L_val rfl rfl rfl (OpP.v (P_move rfl rfl)) ?_
   refine L_val rfl rfl rfl (OpP.v (P_geq rfl rfl rfl)) ?_
   refine L_nil ?_
   refine St.env (.cons (t := 1) rfl (.cons (t := 2) rfl (.cons (t := 4) rfl (.cons (t := 5) rfl (.cons (t := 7) rfl (.cons (t := 8) rfl (.cons (t := 9) rfl (.cons (t := 10) rfl (.cons (t := 31) rfl .nil))))))))) ?_
   refine Q_then ?_
   refine R_condP rfl (fun hpl => ?_) (fun hpl => ?_)
   ·skip
    obtain ⟨hB, hix⟩ := az_hit (a := a) hf (by omega)
    refine R_region ?_
    refine L_val rfl rfl rfl (OpP.v (P_move rfl rfl)) ?_
    refine L_val rfl rfl rfl (OpP.v (P_move rfl rfl)) ?_
    refine L_op rfl (W_lit (z := .nilIface) ([.int .i64 (idxG (isAz a) l)]) rfl rfl rfl ty_sl_162 ty_lz_162 rfl rfl rfl (by decide) (by decide) (by intro v hv; simp only [List.mem_singleton] at hv; subst hv; rfl) (rfl) fun b34 => ?_)
    refine L_op rfl (W_append (p := [_]) rfl rfl rfl ty_sl_162 ty_ap_162 ty_src_162 rfl rfl rfl (Src.slice (sz := 1) (m := 1) (news := [.int .i64 (idxG (isAz a) l)]) (Rds.blk .h0) rfl (by intro v hv; simp only [List.mem_singleton] at hv; subst hv; rfl)) (by omega) (by simp only [maxLen]; omega) fun v35 => ?_)
    refine L_val rfl rfl rfl (OpP.v (P_assign rfl rfl)) ?_
    refine L_nil ?_
    refine St.env (.cons (t := 2) rfl (.cons (t := 4) rfl (.cons (t := 5) rfl (.cons (t := 7) rfl (.cons (t := 8) rfl (.cons (t := 10) rfl .nil)))))) ?_
    exact Q_meet (v35) (trivial) (by repeat (first | exact .nil | refine .cons rfl ?_ | refine .consE rfl (by first | rfl | (congr 1; omega) | (congr 1; push_cast; omega)) ?_)) (by refine Weak.drop (ownS.to1 ?_ ?_); rw [ks_hit hB]; rfl; rw [ks_hit hB, hix]; rfl)
   ·skip
    have hB := az_miss (a := a) hf (by omega)
    refine R_seq ?_
    refine R_region ?_
    refine L_val rfl rfl rfl (OpP.v (P_assign rfl rfl)) ?_
    refine L_nil ?_
    refine St.env (.cons (t := 1) rfl (.cons (t := 2) rfl (.cons (t := 4) rfl (.cons (t := 5) rfl (.cons (t := 7) rfl (.cons (t := 8) rfl (.cons (t := 10) rfl (.cons (t := 11) rfl .nil)))))))) ?_
    refine Q_then ?_
    refine R_seq ?_
    refine R_block ?_
    refine R_loopE (G := Nat) (.cons (t := 1) rfl (.cons (t := 2) rfl (.cons (t := 4) rfl (.cons (t := 5) rfl (.cons (t := 7) rfl (.cons (t := 8) rfl (.cons (t := 10) rfl .nil))))))) (fun g => [(11, .int .i64 (g : Int))]) (fun _ => _) (fun g => g ≤ l.length ∧ ∀ m, m < g → (accAt l m).a < a) (fun g => l.length - g) (0) (by show (0) ≤ l.length ∧ ∀ m, m < (0) → (accAt l m).a < a; exact ⟨Nat.zero_le _, fun m h => by omega⟩) (by repeat (first | exact .nil | refine .cons rfl ?_ | refine .consE rfl (by first | rfl | (congr 1; omega) | (congr 1; push_cast; omega)) ?_)) (Weak.refl _) ?_
    intro j hinv
    replace hinv : j ≤ l.length ∧ ∀ m, m < j → (accAt l m).a < a := hinv
    show St (cx gl) _ ((11, .int .i64 (j : Int)) :: _) _ _
    obtain ⟨hj, hjl⟩ := hinv
    refine R_seq ?_
    refine R_seq ?_
    refine R_region ?_
    refine L_val rfl rfl rfl (OpP.v (P_move rfl rfl)) ?_
    refine L_val rfl rfl rfl (OpP.v (P_fld0 rfl ty_fl_26_0 rfl)) ?_
    refine L_val rfl rfl rfl (V_load rfl rfl ty_sc_22 (Rd.blk .h5 rfl)) ?_
    refine L_val rfl rfl rfl (OpP.v (P_len rfl ty_sl_22 rfl)) ?_
    refine L_val rfl rfl rfl (OpP.v (P_lss rfl rfl rfl)) ?_
    refine E_bool (t := 40) rfl (fun c1 => ?_) (fun c1 => ?_)
    ·skip
     have c1 : j < l.length := by have := of_decide_eq_true c1; omega
     have hxj := accAt_get c1
     obtain ⟨pb, pj, hbe, hrow⟩ := hpre.1.some_ (by rw [rc_length]; show 0 < _ * 5; omega)
     refine L_val rfl rfl rfl (OpP.v (P_move rfl rfl)) ?_
     refine L_val rfl rfl rfl (OpP.v (P_fld0 rfl ty_fl_26_0 rfl)) ?_
     refine L_val rfl rfl rfl (V_load rfl rfl ty_sc_22 (Rd.blk .h5 rfl)) ?_
     refine E_as (t := 43) (v' := .slice (some ⟨pb, pj, none⟩) l.length c) rfl (by rw [hbe]) ?_
     refine L_val rfl rfl rfl (OpP.v (P_move rfl rfl)) ?_
     refine L_val rfl rfl rfl (OpP.v (P_ixs (j) rfl ty_sl_22 rfl rfl (by first | rfl | omega) (by omega))) ?_
     refine L_val rfl rfl rfl (OpP.v (P_fld rfl ty_fl_38_0 rfl)) ?_
     refine L_val rfl rfl rfl (V_load rfl rfl ty_sc_27 (rd_rc (Rds.row hrow rfl) hxj rfl)) ?_
     refine L_val rfl rfl rfl (OpP.v (P_move rfl rfl)) ?_
     refine L_val rfl rfl rfl (OpP.v (P_lss rfl rfl rfl)) ?_
     refine L_val rfl rfl rfl (OpP.v (P_pick rfl rfl rfl)) ?_
     refine L_nil ?_
     refine Q_then ?_
     refine R_condP rfl (fun c2 => ?_) (fun c2 => ?_)
     ·skip
      refine R_skip ?_
      refine Q_then ?_
      refine R_block ?_
      refine R_region ?_
      refine L_val rfl rfl rfl (OpP.v (P_move rfl rfl)) ?_
      first | (refine L_val rfl rfl rfl (OpP.v (P_addN rfl rfl rfl (by simp only [fits]; omega))) ?_) | (refine L_val rfl rfl rfl (OpP.v (P_add rfl rfl rfl)) ?_)
      refine L_val rfl rfl rfl (OpP.v (P_assign rfl rfl)) ?_
      refine L_nil ?_
      refine Q_block ?_
      exact Q_round (j + 1) (by show (j + 1) ≤ l.length ∧ ∀ m, m < (j + 1) → (accAt l m).a < a; exact ⟨by omega, fun m hm => by rcases Nat.lt_or_ge m j with h8 | h8; exact hjl m h8; rw [show m = j by omega]; exact c2⟩) (by show l.length - (j + 1) < l.length - j; omega) (by repeat (first | exact .nil | refine .cons rfl ?_ | refine .consE rfl (by first | rfl | (congr 1; omega) | (congr 1; push_cast; omega)) ?_)) (Weak.refl _)
     ·skip
      have hsp := spot_lin hf hj hjl (.inr c2)
      refine R_exit ?_
      refine Q_then_exit ?_
      refine Q_then_exit ?_
      refine Q_block_eq ?_
      refine St.env (.cons (t := 2) rfl (.cons (t := 4) rfl (.cons (t := 5) rfl (.cons (t := 7) rfl (.cons (t := 8) rfl (.cons (t := 10) rfl (.cons (t := 11) rfl .nil))))))) ?_
      refine Q_then ?_
      refine R_seq ?_
      refine R_seq ?_
      refine R_region ?_
      refine L_val rfl rfl rfl (OpP.v (P_move rfl rfl)) ?_
      refine L_val rfl rfl rfl (OpP.v (P_gtr rfl rfl rfl)) ?_
      refine L_nil ?_
      refine St.env (.cons (t := 2) rfl (.cons (t := 4) rfl (.cons (t := 5) rfl (.cons (t := 7) rfl (.cons (t := 8) rfl (.cons (t := 10) rfl (.cons (t := 11) rfl (.cons (t := 54) rfl .nil)))))))) ?_
      refine Q_then ?_
      refine R_condP rfl (fun d1 => ?_) (fun d1 => ?_)
      ·skip
       have d1 : 0 < j := by omega
       refine R_region ?_
       refine L_val rfl rfl rfl (OpP.v (P_move rfl rfl)) ?_
       refine L_val rfl rfl rfl (OpP.v (P_move rfl rfl)) ?_
       first | (refine L_val rfl rfl rfl (OpP.v (P_subN rfl rfl rfl (by simp only [fits]; omega))) ?_) | (refine L_val rfl rfl rfl (OpP.v (P_sub rfl rfl rfl)) ?_)
       refine E_as (t := 57) (v' := .int .i64 ((j - 1 : Nat) : Int)) rfl (by congr 1; omega) ?_
       refine L_op rfl (W_lit (z := .nilIface) ([.int .i64 ((j - 1 : Nat) : Int)]) rfl rfl rfl ty_sl_162 ty_lz_162 rfl rfl rfl (by decide) (by decide) (by intro v hv; simp only [List.mem_singleton] at hv; subst hv; rfl) (rfl) fun b58 => ?_)
       refine L_op rfl (W_append (p := [_]) rfl rfl rfl ty_sl_162 ty_ap_162 ty_src_162 rfl rfl rfl (Src.slice (sz := 1) (m := 1) (news := [.int .i64 ((j - 1 : Nat) : Int)]) (Rds.blk .h0) rfl (by intro v hv; simp only [List.mem_singleton] at hv; subst hv; rfl)) (by omega) (by simp only [maxLen]; omega) fun v59 => ?_)
       refine St.res (rs' := [ownS 3 1 (v59) (1) (ints .i64 ([((j - 1 : Nat) : Int)])), blk b7 (wiC (sha (restB r bu su)) (.slice none 0 0) (.slice none 0 0)) 32, fam Ob.own qs, ownS 48 1 (.slice ub l.length uc) (l.length) (qs.map Ob.val), blk b4 (wiC (List.replicate 32 0) (.slice none 0 0) (.slice none 0 0)) 32, blk b2 (ledV (.slice base l.length c) (.slice base' r.length c') bu su) 26]) (Weak.drop (ownS.to1 rfl rfl)) ?_
       refine L_val rfl rfl rfl (OpP.v (P_assign rfl rfl)) ?_
       refine L_nil ?_
       refine St.env (.cons (t := 2) rfl (.cons (t := 4) rfl (.cons (t := 5) rfl (.cons (t := 7) rfl (.cons (t := 8) rfl (.cons (t := 10) rfl (.cons (t := 11) rfl .nil))))))) ?_
       refine Q_then ?_
       refine R_seq ?_
       refine R_region ?_
       refine L_val rfl rfl rfl (OpP.v (P_move rfl rfl)) ?_
       refine L_val rfl rfl rfl (OpP.v (P_fld0 rfl ty_fl_26_0 rfl)) ?_
       refine L_val rfl rfl rfl (V_load rfl rfl ty_sc_22 (Rd.blk .h5 rfl)) ?_
       refine L_val rfl rfl rfl (OpP.v (P_len rfl ty_sl_22 rfl)) ?_
       refine L_val rfl rfl rfl (OpP.v (P_lss rfl rfl rfl)) ?_
       refine L_nil ?_
       refine St.env (.cons (t := 2) rfl (.cons (t := 4) rfl (.cons (t := 5) rfl (.cons (t := 7) rfl (.cons (t := 8) rfl (.cons (t := 10) rfl (.cons (t := 11) rfl (.cons (t := 64) rfl .nil)))))))) ?_
       refine Q_then ?_
       refine R_condP rfl (fun d2 => ?_) (fun d2 => ?_)
       ·skip
        have d2 : j < l.length := by omega
        refine R_region ?_
        refine L_val rfl rfl rfl (OpP.v (P_move rfl rfl)) ?_
        refine L_val rfl rfl rfl (OpP.v (P_move rfl rfl)) ?_
        refine L_op rfl (W_lit (z := .nilIface) ([.int .i64 (j : Int)]) rfl rfl rfl ty_sl_162 ty_lz_162 rfl rfl rfl (by decide) (by decide) (by intro v hv; simp only [List.mem_singleton] at hv; subst hv; rfl) (rfl) fun b67 => ?_)
        refine L_op rfl (W_append (p := [_]) rfl rfl rfl ty_sl_162 ty_ap_162 ty_src_162 rfl rfl rfl (Src.slice (sz := 1) (m := 1) (news := [.int .i64 (j : Int)]) (Rds.blk .h0) rfl (by intro v hv; simp only [List.mem_singleton] at hv; subst hv; rfl)) (by omega) (by simp only [maxLen]; omega) fun v68 => ?_)
        refine L_val rfl rfl rfl (OpP.v (P_assign rfl rfl)) ?_
        refine L_nil ?_
        refine St.env (.cons (t := 2) rfl (.cons (t := 4) rfl (.cons (t := 5) rfl (.cons (t := 7) rfl (.cons (t := 8) rfl (.cons (t := 10) rfl .nil)))))) ?_
        have hks : ksL l a = [j - 1, j] := by
          rw [ks_miss hB, hsp]
          rw [if_pos d1, if_pos d2]
          rfl
        exact Q_meet (v68) (trivial) (by repeat (first | exact .nil | refine .cons rfl ?_ | refine .consE rfl (by first | rfl | (congr 1; omega) | (congr 1; push_cast; omega)) ?_)) (by refine Weak.drop (ownS.to1 ?_ ?_); rw [hks]; rfl; rw [hks]; rfl)
       ·skip
        have d2 : ¬ j < l.length := by omega
        refine R_skip ?_
        have hks : ksL l a = [j - 1] := by
          rw [ks_miss hB, hsp]
          rw [if_pos d1, if_neg d2]
          rfl
        exact Q_meet (v59) (trivial) (by repeat (first | exact .nil | refine .cons rfl ?_ | refine .consE rfl (by first | rfl | (congr 1; omega) | (congr 1; push_cast; omega)) ?_)) (by refine ownS.to1 ?_ ?_; rw [hks]; rfl; rw [hks]; rfl)
      ·skip
       have d1 : ¬ 0 < j := by omega
       refine R_skip ?_
       refine Q_then ?_
       refine R_seq ?_
       refine R_region ?_
       refine L_val rfl rfl rfl (OpP.v (P_move rfl rfl)) ?_
       refine L_val rfl rfl rfl (OpP.v (P_fld0 rfl ty_fl_26_0 rfl)) ?_
       refine L_val rfl rfl rfl (V_load rfl rfl ty_sc_22 (Rd.blk .h5 rfl)) ?_
       refine L_val rfl rfl rfl (OpP.v (P_len rfl ty_sl_22 rfl)) ?_
       refine L_val rfl rfl rfl (OpP.v (P_lss rfl rfl rfl)) ?_
       refine L_nil ?_
       refine St.env (.cons (t := 2) rfl (.cons (t := 4) rfl (.cons (t := 5) rfl (.cons (t := 7) rfl (.cons (t := 8) rfl (.cons (t := 10) rfl (.cons (t := 11) rfl (.cons (t := 64) rfl .nil)))))))) ?_
       refine Q_then ?_
       refine R_condP rfl (fun d2 => ?_) (fun d2 => ?_)
       ·skip
        have d2 : j < l.length := by omega
        refine R_region ?_
        refine L_val rfl rfl rfl (OpP.v (P_move rfl rfl)) ?_
        refine L_val rfl rfl rfl (OpP.v (P_move rfl rfl)) ?_
        refine L_op rfl (W_lit (z := .nilIface) ([.int .i64 (j : Int)]) rfl rfl rfl ty_sl_162 ty_lz_162 rfl rfl rfl (by decide) (by decide) (by intro v hv; simp only [List.mem_singleton] at hv; subst hv; rfl) (rfl) fun b67 => ?_)
        refine L_op rfl (W_append (p := [_]) rfl rfl rfl ty_sl_162 ty_ap_162 ty_src_162 rfl rfl rfl (Src.slice (sz := 1) (m := 1) (news := [.int .i64 (j : Int)]) (Rds.blk .h0) rfl (by intro v hv; simp only [List.mem_singleton] at hv; subst hv; rfl)) (by omega) (by simp only [maxLen]; omega) fun v68 => ?_)
        refine L_val rfl rfl rfl (OpP.v (P_assign rfl rfl)) ?_
        refine L_nil ?_
        refine St.env (.cons (t := 2) rfl (.cons (t := 4) rfl (.cons (t := 5) rfl (.cons (t := 7) rfl (.cons (t := 8) rfl (.cons (t := 10) rfl .nil)))))) ?_
        have hks : ksL l a = [j] := by
          rw [ks_miss hB, hsp]
          rw [if_neg d1, if_pos d2]
          rfl
        exact Q_meet (v68) (trivial) (by repeat (first | exact .nil | refine .cons rfl ?_ | refine .consE rfl (by first | rfl | (congr 1; omega) | (congr 1; push_cast; omega)) ?_)) (by refine Weak.drop (ownS.to1 ?_ ?_); rw [hks]; rfl; rw [hks]; rfl)
       ·skip
        have d2 : ¬ j < l.length := by omega
        refine R_skip ?_
        have hks : ksL l a = [] := by
          rw [ks_miss hB, hsp]
          rw [if_neg d1, if_neg d2]
          rfl
        exact Q_meet (.slice none 0 0) (trivial) (by repeat (first | exact .nil | refine .cons rfl ?_ | refine .consE rfl (by first | rfl | (congr 1; omega) | (congr 1; push_cast; omega)) ?_)) (by refine ownS.to1 ?_ ?_; rw [hks]; rfl; rw [hks]; rfl)
    ·skip
     have c1 := of_decide_eq_false c1
     have hsp := spot_lin hf hj hjl (.inl (by omega))
     refine L_val rfl rfl rfl (OpP.v (P_move rfl rfl)) ?_
     refine L_no rfl rfl rfl ?_
     refine L_no rfl rfl rfl ?_
     refine L_no rfl rfl rfl ?_
     refine L_no rfl rfl rfl ?_
     refine L_no rfl rfl rfl ?_
     refine L_no rfl rfl rfl ?_
     refine L_no rfl rfl rfl ?_
     refine L_no rfl rfl rfl ?_
     refine L_val rfl rfl rfl (OpP.v (P_pick rfl rfl rfl)) ?_
     refine L_nil ?_
     refine Q_then ?_
     refine R_condF rfl ?_
     refine R_exit ?_
     refine Q_then_exit ?_
     refine Q_then_exit ?_
     refine Q_block_eq ?_
     refine St.env (.cons (t := 2) rfl (.cons (t := 4) rfl (.cons (t := 5) rfl (.cons (t := 7) rfl (.cons (t := 8) rfl (.cons (t := 10) rfl (.cons (t := 11) rfl .nil))))))) ?_
     refine Q_then ?_
     refine R_seq ?_
     refine R_seq ?_
     refine R_region ?_
     refine L_val rfl rfl rfl (OpP.v (P_move rfl rfl)) ?_
     refine L_val rfl rfl rfl (OpP.v (P_gtr rfl rfl rfl)) ?_
     refine L_nil ?_
     refine St.env (.cons (t := 2) rfl (.cons (t := 4) rfl (.cons (t := 5) rfl (.cons (t := 7) rfl (.cons (t := 8) rfl (.cons (t := 10) rfl (.cons (t := 11) rfl (.cons (t := 54) rfl .nil)))))))) ?_
     refine Q_then ?_
     refine R_condP rfl (fun d1 => ?_) (fun d1 => ?_)
     ·skip
      have d1 : 0 < j := by omega
      refine R_region ?_
      refine L_val rfl rfl rfl (OpP.v (P_move rfl rfl)) ?_
      refine L_val rfl rfl rfl (OpP.v (P_move rfl rfl)) ?_
      first | (refine L_val rfl rfl rfl (OpP.v (P_subN rfl rfl rfl (by simp only [fits]; omega))) ?_) | (refine L_val rfl rfl rfl (OpP.v (P_sub rfl rfl rfl)) ?_)
      refine E_as (t := 57) (v' := .int .i64 ((j - 1 : Nat) : Int)) rfl (by congr 1; omega) ?_
      refine L_op rfl (W_lit (z := .nilIface) ([.int .i64 ((j - 1 : Nat) : Int)]) rfl rfl rfl ty_sl_162 ty_lz_162 rfl rfl rfl (by decide) (by decide) (by intro v hv; simp only [List.mem_singleton] at hv; subst hv; rfl) (rfl) fun b58 => ?_)
      refine L_op rfl (W_append (p := [_]) rfl rfl rfl ty_sl_162 ty_ap_162 ty_src_162 rfl rfl rfl (Src.slice (sz := 1) (m := 1) (news := [.int .i64 ((j - 1 : Nat) : Int)]) (Rds.blk .h0) rfl (by intro v hv; simp only [List.mem_singleton] at hv; subst hv; rfl)) (by omega) (by simp only [maxLen]; omega) fun v59 => ?_)
      refine St.res (rs' := [ownS 3 1 (v59) (1) (ints .i64 ([((j - 1 : Nat) : Int)])), blk b7 (wiC (sha (restB r bu su)) (.slice none 0 0) (.slice none 0 0)) 32, fam Ob.own qs, ownS 48 1 (.slice ub l.length uc) (l.length) (qs.map Ob.val), blk b4 (wiC (List.replicate 32 0) (.slice none 0 0) (.slice none 0 0)) 32, blk b2 (ledV (.slice base l.length c) (.slice base' r.length c') bu su) 26]) (Weak.drop (ownS.to1 rfl rfl)) ?_
      refine L_val rfl rfl rfl (OpP.v (P_assign rfl rfl)) ?_
      refine L_nil ?_
      refine St.env (.cons (t := 2) rfl (.cons (t := 4) rfl (.cons (t := 5) rfl (.cons (t := 7) rfl (.cons (t := 8) rfl (.cons (t := 10) rfl (.cons (t := 11) rfl .nil))))))) ?_
      refine Q_then ?_
      refine R_seq ?_
      refine R_region ?_
      refine L_val rfl rfl rfl (OpP.v (P_move rfl rfl)) ?_
      refine L_val rfl rfl rfl (OpP.v (P_fld0 rfl ty_fl_26_0 rfl)) ?_
      refine L_val rfl rfl rfl (V_load rfl rfl ty_sc_22 (Rd.blk .h5 rfl)) ?_
      refine L_val rfl rfl rfl (OpP.v (P_len rfl ty_sl_22 rfl)) ?_
      refine L_val rfl rfl rfl (OpP.v (P_lss rfl rfl rfl)) ?_
      refine L_nil ?_
      refine St.env (.cons (t := 2) rfl (.cons (t := 4) rfl (.cons (t := 5) rfl (.cons (t := 7) rfl (.cons (t := 8) rfl (.cons (t := 10) rfl (.cons (t := 11) rfl (.cons (t := 64) rfl .nil)))))))) ?_
      refine Q_then ?_
      refine R_condP rfl (fun d2 => ?_) (fun d2 => ?_)
      ·skip
       have d2 : j < l.length := by omega
       refine R_region ?_
       refine L_val rfl rfl rfl (OpP.v (P_move rfl rfl)) ?_
       refine L_val rfl rfl rfl (OpP.v (P_move rfl rfl)) ?_
       refine L_op rfl (W_lit (z := .nilIface) ([.int .i64 (j : Int)]) rfl rfl rfl ty_sl_162 ty_lz_162 rfl rfl rfl (by decide) (by decide) (by intro v hv; simp only [List.mem_singleton] at hv; subst hv; rfl) (rfl) fun b67 => ?_)
       refine L_op rfl (W_append (p := [_]) rfl rfl rfl ty_sl_162 ty_ap_162 ty_src_162 rfl rfl rfl (Src.slice (sz := 1) (m := 1) (news := [.int .i64 (j : Int)]) (Rds.blk .h0) rfl (by intro v hv; simp only [List.mem_singleton] at hv; subst hv; rfl)) (by omega) (by simp only [maxLen]; omega) fun v68 => ?_)
       refine L_val rfl rfl rfl (OpP.v (P_assign rfl rfl)) ?_
       refine L_nil ?_
       refine St.env (.cons (t := 2) rfl (.cons (t := 4) rfl (.cons (t := 5) rfl (.cons (t := 7) rfl (.cons (t := 8) rfl (.cons (t := 10) rfl .nil)))))) ?_
       have hks : ksL l a = [j - 1, j] := by
         rw [ks_miss hB, hsp]
         rw [if_pos d1, if_pos d2]
         rfl
       exact Q_meet (v68) (trivial) (by repeat (first | exact .nil | refine .cons rfl ?_ | refine .consE rfl (by first | rfl | (congr 1; omega) | (congr 1; push_cast; omega)) ?_)) (by refine Weak.drop (ownS.to1 ?_ ?_); rw [hks]; rfl; rw [hks]; rfl)
      ·skip
       have d2 : ¬ j < l.length := by omega
       refine R_skip ?_
       have hks : ksL l a = [j - 1] := by
         rw [ks_miss hB, hsp]
         rw [if_pos d1, if_neg d2]
         rfl
       exact Q_meet (v59) (trivial) (by repeat (first | exact .nil | refine .cons rfl ?_ | refine .consE rfl (by first | rfl | (congr 1; omega) | (congr 1; push_cast; omega)) ?_)) (by refine ownS.to1 ?_ ?_; rw [hks]; rfl; rw [hks]; rfl)
     ·skip
      have d1 : ¬ 0 < j := by omega
      refine R_skip ?_
      refine Q_then ?_
      refine R_seq ?_
      refine R_region ?_
      refine L_val rfl rfl rfl (OpP.v (P_move rfl rfl)) ?_
      refine L_val rfl rfl rfl (OpP.v (P_fld0 rfl ty_fl_26_0 rfl)) ?_
      refine L_val rfl rfl rfl (V_load rfl rfl ty_sc_22 (Rd.blk .h5 rfl)) ?_
      refine L_val rfl rfl rfl (OpP.v (P_len rfl ty_sl_22 rfl)) ?_
      refine L_val rfl rfl rfl (OpP.v (P_lss rfl rfl rfl)) ?_
      refine L_nil ?_
      refine St.env (.cons (t := 2) rfl (.cons (t := 4) rfl (.cons (t := 5) rfl (.cons (t := 7) rfl (.cons (t := 8) rfl (.cons (t := 10) rfl (.cons (t := 11) rfl (.cons (t := 64) rfl .nil)))))))) ?_
      refine Q_then ?_
      refine R_condP rfl (fun d2 => ?_) (fun d2 => ?_)
      ·skip
       have d2 : j < l.length := by omega
       refine R_region ?_
       refine L_val rfl rfl rfl (OpP.v (P_move rfl rfl)) ?_
       refine L_val rfl rfl rfl (OpP.v (P_move rfl rfl)) ?_
       refine L_op rfl (W_lit (z := .nilIface) ([.int .i64 (j : Int)]) rfl rfl rfl ty_sl_162 ty_lz_162 rfl rfl rfl (by decide) (by decide) (by intro v hv; simp only [List.mem_singleton] at hv; subst hv; rfl) (rfl) fun b67 => ?_)
       refine L_op rfl (W_append (p := [_]) rfl rfl rfl ty_sl_162 ty_ap_162 ty_src_162 rfl rfl rfl (Src.slice (sz := 1) (m := 1) (news := [.int .i64 (j : Int)]) (Rds.blk .h0) rfl (by intro v hv; simp only [List.mem_singleton] at hv; subst hv; rfl)) (by omega) (by simp only [maxLen]; omega) fun v68 => ?_)
       refine L_val rfl rfl rfl (OpP.v (P_assign rfl rfl)) ?_
       refine L_nil ?_
       refine St.env (.cons (t := 2) rfl (.cons (t := 4) rfl (.cons (t := 5) rfl (.cons (t := 7) rfl (.cons (t := 8) rfl (.cons (t := 10) rfl .nil)))))) ?_
       have hks : ksL l a = [j] := by
         rw [ks_miss hB, hsp]
         rw [if_neg d1, if_pos d2]
         rfl
       exact Q_meet (v68) (trivial) (by repeat (first | exact .nil | refine .cons rfl ?_ | refine .consE rfl (by first | rfl | (congr 1; omega) | (congr 1; push_cast; omega)) ?_)) (by refine Weak.drop (ownS.to1 ?_ ?_); rw [hks]; rfl; rw [hks]; rfl)
      ·skip
       have d2 : ¬ j < l.length := by omega
       refine R_skip ?_
       have hks : ksL l a = [] := by
         rw [ks_miss hB, hsp]
         rw [if_neg d1, if_neg d2]
         rfl
       exact Q_meet (.slice none 0 0) (trivial) (by repeat (first | exact .nil | refine .cons rfl ?_ | refine .consE rfl (by first | rfl | (congr 1; omega) | (congr 1; push_cast; omega)) ?_)) (by refine ownS.to1 ?_ ?_; rw [hks]; rfl; rw [hks]; rfl)
  ·intro w hinv
   replace hinv : True := hinv
   show St (cx gl) _ ((10, w) :: _) [ownS 3 1 (w) ((ksL l a).length) (ints .i64 ((ksL l a).map Int.ofNat)), blk b7 (wiC (sha (restB r bu su)) (.slice none 0 0) (.slice none 0 0)) 32, fam Ob.own qs, ownS 48 1 (.slice ub l.length uc) (l.length) (qs.map Ob.val), blk b4 (wiC (List.replicate 32 0) (.slice none 0 0) (.slice none 0 0)) 32, blk b2 (ledV (.slice base l.length c) (.slice base' r.length c') bu su) 26] _
   refine St.ownForm (p := []) fun jb jc hjv hjc => ?_
   subst hjv
   refine R_seq ?_
   refine R_seq ?_
   refine St.res (rs' := [blk b7 (wiC (sha (restB r bu su)) (.slice none 0 0) (.slice none 0 0)) 32, ownS 38 5 (.slice none 0 0) (0) (rc (accsOf l ((ksL l a).take (0)))), ownS 47 3 (.slice none 0 0) (0) (rc (([] : List Pf))), fam Pf.own (([] : List Pf)), ownS 3 1 (.slice jb (ksL l a).length jc) ((ksL l a).length) (ints .i64 ((ksL l a).map Int.ofNat)), fam Ob.own qs, ownS 48 1 (.slice ub l.length uc) (l.length) (qs.map Ob.val), blk b4 (wiC (List.replicate 32 0) (.slice none 0 0) (.slice none 0 0)) 32, blk b2 (ledV (.slice base l.length c) (.slice base' r.length c') bu su) 26]) (Weak.trans (Weak.trans (Weak.famNil (f := Pf.own)) (Weak.trans (Weak.newNil (T := 47) (sz := 3)) (Weak.newNil (T := 38) (sz := 5)))) (Weak.pick (p := [_, _, _, _]) (Weak.keep (Weak.keep (Weak.keep (Weak.keep (Weak.keep (Weak.keep (Weak.keep (Weak.keep (Weak.nil _))))))))))) ?_
   have hPz : PfsOk l ((ksL l a).take 0) [] := ⟨rfl, fun p hp => by cases hp⟩
   refine R_region ?_
   refine L_val rfl rfl rfl (OpP.v (P_assign rfl rfl)) ?_
   refine L_nil ?_
   refine Q_then ?_
   refine R_block ?_
   refine R_loopE (G := Nat × Value × Value × List Pf) (.cons (t := 2) rfl (.cons (t := 4) rfl (.cons (t := 5) rfl (.cons (t := 7) rfl (.cons (t := 8) rfl (.cons (t := 10) rfl .nil)))))) (fun g => [(12, .int .i64 (g.1 : Int))]) (fun g => [blk b7 (wiC (sha (restB r bu su)) (g.2.1) (g.2.2.1)) 32, ownS 38 5 (g.2.1) (g.1) (rc (accsOf l ((ksL l a).take (g.1)))), ownS 47 3 (g.2.2.1) (g.1) (rc (g.2.2.2)), fam Pf.own (g.2.2.2), ownS 3 1 (.slice jb (ksL l a).length jc) ((ksL l a).length) (ints .i64 ((ksL l a).map Int.ofNat)), fam Ob.own qs, ownS 48 1 (.slice ub l.length uc) (l.length) (qs.map Ob.val), blk b4 (wiC (List.replicate 32 0) (.slice none 0 0) (.slice none 0 0)) 32, blk b2 (ledV (.slice base l.length c) (.slice base' r.length c') bu su) 26]) (fun g => g.1 ≤ cntI l a ∧ PfsOk l ((ksL l a).take g.1) g.2.2.2) (fun g => cntI l a - g.1) (0, .slice none 0 0, .slice none 0 0, []) (by show (0) ≤ cntI l a ∧ PfsOk l ((ksL l a).take (0)) ([]); exact ⟨Nat.zero_le _, hPz⟩) (by repeat (first | exact .nil | refine .cons rfl ?_ | refine .consE rfl (by first | rfl | (congr 1; omega) | (congr 1; push_cast; omega)) ?_)) (Weak.refl _) ?_
   rintro ⟨n, u, pv, ps⟩ hinv
   replace hinv : n ≤ cntI l a ∧ PfsOk l ((ksL l a).take n) ps := hinv
   show St (cx gl) _ ((12, .int .i64 (n : Int)) :: _) [blk b7 (wiC (sha (restB r bu su)) (u) (pv)) 32, ownS 38 5 (u) (n) (rc (accsOf l ((ksL l a).take (n)))), ownS 47 3 (pv) (n) (rc (ps)), fam Pf.own (ps), ownS 3 1 (.slice jb (ksL l a).length jc) ((ksL l a).length) (ints .i64 ((ksL l a).map Int.ofNat)), fam Ob.own qs, ownS 48 1 (.slice ub l.length uc) (l.length) (qs.map Ob.val), blk b4 (wiC (List.replicate 32 0) (.slice none 0 0) (.slice none 0 0)) 32, blk b2 (ledV (.slice base l.length c) (.slice base' r.length c') bu su) 26] _
   obtain ⟨hn, hps⟩ := hinv
   refine R_seq ?_
   refine R_seq ?_
   refine R_region ?_
   refine L_val rfl rfl rfl (OpP.v (P_move rfl rfl)) ?_
   refine L_val rfl rfl rfl (OpP.v (P_move rfl rfl)) ?_
   refine L_val rfl rfl rfl (OpP.v (P_len rfl ty_sl_162 rfl)) ?_
   refine L_val rfl rfl rfl (OpP.v (P_lss rfl rfl rfl)) ?_
   refine L_nil ?_
   refine Q_then ?_
   refine R_condP rfl (fun hlt => ?_) (fun hlt => ?_)
   ·skip
    have hkl0 := ksL_len l a
    have hnc : n < cntI l a := by omega
    have hkn := ksL_at hnc
    have hkl := ksL_lt hnc
    have hpe := forms_prove hfew hkl
    have hc2 := ksL_two l a
    have hpl := hps.len
    have hx := accAt_get hkl
    have hki : (ints .i64 ((ksL l a).map Int.ofNat))[n]? = some (.int .i64 ((loI l a + n : Nat) : Int)) := by simp [ints, hkn]
    obtain ⟨pb, pj, rfl, hrow⟩ := hpre.1.some_ (by rw [rc_length]; show 0 < _ * 5; omega)
    refine St.ownSome (p := [_, _, _, _]) (by omega) fun jp jc' hjv hjc' => ?_
    obtain rfl : jb = some ⟨jp, 0, none⟩ := by simp only [Value.slice.injEq] at hjv; exact hjv.1
    have hql : (qs.map Ob.val).length = l.length := by rw [List.length_map]; exact hq.len
    have h9 := rprove_ok (gl := gl) hG ub uc (qs.map Ob.val) (qs.map Ob.xs) ((loI l a + n : Nat) : Int) (by rw [List.length_map, List.length_map]) (by omega) (by omega)
    rw [hql, hq.1] at h9
    refine R_skip ?_
    refine Q_then ?_
    refine R_seq ?_
    refine R_block ?_
    refine R_seq ?_
    refine R_region ?_
    refine L_val rfl rfl rfl (OpP.v (P_move rfl rfl)) ?_
    refine L_val rfl rfl rfl (OpP.v (P_move rfl rfl)) ?_
    refine L_val rfl rfl rfl (OpP.v (P_move rfl rfl)) ?_
    refine L_val rfl rfl rfl (OpP.v (P_ixs (n) rfl ty_sl_162 rfl rfl (by first | rfl | omega) (by omega))) ?_
    refine L_val rfl rfl rfl (V_load rfl rfl ty_sc_3 (rd_own1 .h4 hki)) ?_
    refine L_op rfl (W_call rfl rfl rfl rfl fn_ca_92 (h9) (Split.nil _) (fun w a b _ hb dj m => by have h8 := fam_items hq.2 .h5 .h6 w ⟨_, hb, m.le (Heap.le_join_right dj)⟩; rw [hq.1] at h8; exact h8) fun v2 rs2 ⟨u2, e3, e4⟩ => ?_)
    subst e3; subst e4
    refine St.ownForm (p := []) fun pb' pc' hpv hpc => ?_
    subst hpv
    refine L_val rfl rfl rfl (OpP.v (P_move rfl rfl)) ?_
    refine L_val rfl rfl rfl (OpP.v (P_extract rfl rfl rfl)) ?_
    refine L_val rfl rfl rfl (OpP.v (P_extract rfl rfl rfl)) ?_
    refine L_op rfl (W_alloc rfl rfl rfl ty_ze_47 fun b13 => ?_)
    refine L_op rfl (W_storeAll rfl rfl rfl rfl ty_ag_47 (rfl) (Pf.one ⟨proveT (l.map formB) (loI l a + n : Nat), proveI (l.map formB) (loI l a + n : Nat), pb', pc', proveA (l.map formB) (loI l a + n : Nat)⟩) .h0 (rfl) ?_)
    refine L_val rfl rfl rfl (OpP.v (P_assign rfl rfl)) ?_
    refine L_nil ?_
    refine St.env (.cons (t := 2) rfl (.cons (t := 4) rfl (.cons (t := 5) rfl (.cons (t := 7) rfl (.cons (t := 8) rfl (.cons (t := 10) rfl (.cons (t := 12) rfl (.cons (t := 13) rfl (.cons (t := 69) rfl (.cons (t := 70) rfl (.cons (t := 71) rfl (.cons (t := 72) rfl (.cons (t := 75) rfl (.cons (t := 76) rfl (.cons (t := 77) rfl (.cons (t := 78) rfl (.cons (t := 79) rfl (.cons (t := 80) rfl (.cons (t := 81) rfl (.cons (t := 82) rfl (.cons (t := 83) rfl .nil))))))))))))))))))))) ?_
    refine Q_then ?_
    refine R_seq ?_
    refine R_open [(0, 0), (1, 1), (2, 0), (3, 1), (4, 0), (5, 0), (6, 0), (7, 1), (8, 0), (9, 1), (10, 2), (11, 3), (12, 0), (13, 3)] mixed (by kernel_rfl) (QOk.then (QOk.block (QOk.then (QOk.then (QOk.block (QOk.then QOk.body)))))) ?_
    refine O_pure rfl rfl rfl rfl (P_fld0 rfl ty_fl_32_1 rfl) ?_
    refine O_val rfl rfl rfl rfl (V_load rfl rfl ty_sc_22 (Rd.blk .h2 (wi_1 hRl _ _))) ?_
    refine O_pure rfl rfl rfl rfl (P_fld0 rfl ty_fl_26_0 rfl) ?_
    refine O_val rfl rfl rfl rfl (V_load rfl rfl ty_sc_22 (Rd.blk .h10 rfl)) ?_
    refine O_pure rfl rfl rfl rfl (P_move rfl rfl) ?_
    refine O_pure rfl rfl rfl rfl (P_move rfl rfl) ?_
    refine O_pure rfl rfl rfl rfl (P_ixs (n) rfl ty_sl_162 rfl rfl (by first | rfl | omega) (by omega)) ?_
    refine O_val rfl rfl rfl rfl (V_load rfl rfl ty_sc_3 (rd_own1 .h6 hki)) ?_
    refine O_pure rfl rfl rfl rfl (P_ixs (loI l a + n) rfl ty_sl_22 rfl rfl (by first | rfl | omega) (by omega)) ?_
    refine O_val rfl rfl rfl rfl (V_loadAgg rfl rfl ty_ag_38 (rds_rc (Rds.row hrow rfl) hx) (rfl)) ?_
    refine O_keep rfl rfl (W_lit (z := .nilIface) ((accAt l (loI l a + n)).cells) rfl rfl rfl ty_sl_22 ty_lz_22 rfl rfl rfl (by decide) (by decide) (by intro v hv; simp only [List.mem_singleton] at hv; subst hv; rfl) (rfl) fun b94 => (K_keep (Weak.drop (Weak.refl _)) ?_))
    refine O_new rfl rfl (W_append (p := [_, _, _, _]) rfl rfl rfl ty_sl_22 ty_ap_22 ty_src_22 rfl rfl rfl (Src.slice (sz := 5) (m := 1) (news := (accAt l (loI l a + n)).cells) (Rds.blk .h0) rfl (Rec.one (accAt l (loI l a + n)))) (by omega) (by simp only [maxLen]; omega) fun v95 => ?_)
    refine St.ownForm (p := [_, _, _, _]) fun ab2 ac2 hav hac => ?_
    subst hav
    refine K_new ?_
    refine O_pure rfl rfl rfl rfl (P_fld0 rfl ty_fl_32_1 rfl) ?_
    refine O_new rfl rfl (W_store rfl rfl rfl rfl ty_sc_22 rfl .h3 (by rw [wi_len hRl]; decide) (K_new ?_))
    refine O_nil ?_
    refine Q_then ?_
    refine St.res (rs' := [blk b13 ([.int .i64 (proveT (l.map formB) ((loI l a + n : Nat) : Int)), .int .i64 (proveI (l.map formB) ((loI l a + n : Nat) : Int)), .slice pb' (proveA (l.map formB) ((loI l a + n : Nat) : Int)).length pc']) 47, ownS 29 32 (.slice pb' (proveA (l.map formB) ((loI l a + n : Nat) : Int)).length pc') (proveA (l.map formB) ((loI l a + n : Nat) : Int)).length (flat .u8 (proveA (l.map formB) ((loI l a + n : Nat) : Int))), blk b7 (wiC (sha (restB r bu su)) (.slice ab2 (n + 1) ac2) (pv)) 32, ownS 38 5 (.slice ab2 (n + 1) ac2) (n + 1) (rc (accsOf l ((ksL l a).take (n + 1)))), ownS 47 3 (pv) (n) (rc (ps)), fam Pf.own (ps), ownS 3 1 (.slice (some ⟨jp, 0, none⟩) (ksL l a).length jc) ((ksL l a).length) (ints .i64 ((ksL l a).map Int.ofNat)), fam Ob.own qs, ownS 48 1 (.slice ub l.length uc) (l.length) (qs.map Ob.val), blk b4 (wiC (List.replicate 32 0) (.slice none 0 0) (.slice none 0 0)) 32, blk b2 (ledV (.slice (some ⟨pb, pj, none⟩) l.length c) (.slice base' r.length c') bu su) 26]) (Weak.drop (Weak.keep (Weak.keep (by rw [wi_set1 hRl, accsOf_snoc hkn, rc_append, rc_single]; exact Weak.refl _)))) ?_
    refine R_region ?_
    refine L_val rfl rfl rfl (OpP.v (P_fld0 rfl ty_fl_32_2 rfl)) ?_
    refine L_val rfl rfl rfl (V_load rfl rfl ty_sc_30 (Rd.blk .h2 (wi_2 hRl _ _))) ?_
    refine L_val rfl rfl rfl (V_loadAgg rfl rfl ty_ag_47 (Rds.blk .h0) (rfl)) ?_
    refine L_op rfl (W_lit (z := .nilIface) ([.int .i64 (proveT (l.map formB) ((loI l a + n : Nat) : Int)), .int .i64 (proveI (l.map formB) ((loI l a + n : Nat) : Int)), .slice pb' (proveA (l.map formB) ((loI l a + n : Nat) : Int)).length pc']) rfl rfl rfl ty_sl_30 ty_lz_30 rfl rfl rfl (by decide) (by decide) (by intro v hv; simp only [List.mem_singleton] at hv; subst hv; rfl) (rfl) fun b100 => ?_)
    refine L_op rfl (W_append (p := [_, _, _, _, _]) rfl rfl rfl ty_sl_30 ty_ap_30 ty_src_30 rfl rfl rfl (Src.slice (sz := 3) (m := 1) (news := [.int .i64 (proveT (l.map formB) ((loI l a + n : Nat) : Int)), .int .i64 (proveI (l.map formB) ((loI l a + n : Nat) : Int)), .slice pb' (proveA (l.map formB) ((loI l a + n : Nat) : Int)).length pc']) (Rds.blk .h0) rfl (Pf.one ⟨proveT (l.map formB) (loI l a + n : Nat), proveI (l.map formB) (loI l a + n : Nat), pb', pc', proveA (l.map formB) (loI l a + n : Nat)⟩)) (by omega) (by simp only [maxLen]; omega) fun v101 => ?_)
    refine St.res (rs' := [blk b7 (wiC (sha (restB r bu su)) (.slice ab2 (n + 1) ac2) (pv)) 32, ownS 38 5 (.slice ab2 (n + 1) ac2) (n + 1) (rc (accsOf l ((ksL l a).take (n + 1)))), ownS 47 3 (v101) (n + 1) (rc (ps ++ [⟨proveT (l.map formB) (loI l a + n : Nat), proveI (l.map formB) (loI l a + n : Nat), pb', pc', proveA (l.map formB) (loI l a + n : Nat)⟩])), fam Pf.own (ps ++ [⟨proveT (l.map formB) (loI l a + n : Nat), proveI (l.map formB) (loI l a + n : Nat), pb', pc', proveA (l.map formB) (loI l a + n : Nat)⟩]), ownS 3 1 (.slice (some ⟨jp, 0, none⟩) (ksL l a).length jc) ((ksL l a).length) (ints .i64 ((ksL l a).map Int.ofNat)), fam Ob.own qs, ownS 48 1 (.slice ub l.length uc) (l.length) (qs.map Ob.val), blk b4 (wiC (List.replicate 32 0) (.slice none 0 0) (.slice none 0 0)) 32, blk b2 (ledV (.slice (some ⟨pb, pj, none⟩) l.length c) (.slice base' r.length c') bu su) 26]) (Weak.drop (Weak.drop (Weak.trans (Weak.pick (p := [_]) (Weak.pick (p := [_]) (Weak.pick (p := [_]) (Weak.keep (Weak.keep (Weak.keep (Weak.keep (Weak.keep (Weak.keep (Weak.keep (Weak.nil _))))))))))) (Weak.trans (Weak.keep (Weak.keep (Weak.keep (Weak.famAdd (f := Pf.own) (x := ⟨proveT (l.map formB) (loI l a + n : Nat), proveI (l.map formB) (loI l a + n : Nat), pb', pc', proveA (l.map formB) (loI l a + n : Nat)⟩))))) (Weak.keep (Weak.keep (ownS.to1 rfl (by rw [rc_append, rc_single]; rfl)))))))) ?_
    refine St.ownForm (p := [_, _]) fun pb2 pc2 hpv2 hpc2 => ?_
    subst hpv2
    refine L_val rfl rfl rfl (OpP.v (P_fld0 rfl ty_fl_32_2 rfl)) ?_
    refine L_op rfl (W_store rfl rfl rfl rfl ty_sc_30 rfl .h0 (by rw [wi_len hRl]; decide) ?_)
    refine L_nil ?_
    refine Q_block ?_
    refine Q_then ?_
    refine R_region ?_
    refine L_val rfl rfl rfl (OpP.v (P_move rfl rfl)) ?_
    first | (refine L_val rfl rfl rfl (OpP.v (P_addN rfl rfl rfl (by simp only [fits]; omega))) ?_) | (refine L_val rfl rfl rfl (OpP.v (P_add rfl rfl rfl)) ?_)
    refine L_val rfl rfl rfl (OpP.v (P_assign rfl rfl)) ?_
    refine L_nil ?_
    exact Q_round (n + 1, .slice ab2 (n + 1) ac2, .slice pb2 (n + 1) pc2, ps ++ [⟨proveT (l.map formB) (loI l a + n : Nat), proveI (l.map formB) (loI l a + n : Nat), pb', pc', proveA (l.map formB) (loI l a + n : Nat)⟩]) (by show (n + 1) ≤ cntI l a ∧ PfsOk l ((ksL l a).take (n + 1)) (ps ++ [⟨proveT (l.map formB) (loI l a + n : Nat), proveI (l.map formB) (loI l a + n : Nat), pb', pc', proveA (l.map formB) (loI l a + n : Nat)⟩]); exact ⟨by omega, hps.snoc hkn rfl hpc⟩) (by show cntI l a - (n + 1) < cntI l a - n; omega) (by repeat (first | exact .nil | refine .cons rfl ?_ | refine .consE rfl (by first | rfl | (congr 1; omega) | (congr 1; push_cast; omega)) ?_)) (by rw [wi_set2 hRl]; exact Weak.refl _)
   ·skip
    have hkl0 := ksL_len l a
    have hnc : n = cntI l a := by omega
    have hkt : (ksL l a).take n = (ksL l a) := List.take_of_length_le (by omega)
    rw [hkt] at hps ⊢
    rw [hnc, ← hkl0]
    refine St.hasFact .h1 (p := u.oneCell' = true) (fun h hh => by obtain ⟨_, _, e, _⟩ := hh.form; rw [e]; rfl) ?_
    intro hu1
    refine St.hasFact .h2 (p := pv.oneCell' = true) (fun h hh => by obtain ⟨_, _, e, _⟩ := hh.form; rw [e]; rfl) ?_
    intro hv1
    refine R_exit ?_
    refine Q_then_exit ?_
    refine Q_then_exit ?_
    refine Q_block_eq ?_
    refine St.env (.cons (t := 4) rfl (.cons (t := 5) rfl (.cons (t := 7) rfl .nil))) ?_
    refine Q_then ?_
    refine R_seq ?_
    refine R_region ?_
    refine L_val rfl rfl rfl (V_loadAgg rfl rfl ty_ag_32 (Rds.blk .h0) (by rw [wi_len hRl])) ?_
    refine L_op rfl (W_storeAll rfl rfl rfl rfl ty_ag_32 (by rw [wi_len hRl]) (wi_one (hu1) (hv1)) .h7 (by first | (rw [wi_len hRl]; done) | (rw [wi_len hRl]; rfl)) ?_)
    refine L_val rfl rfl rfl (OpP.v (P_assign rfl rfl)) ?_
    refine L_nil ?_
    refine St.env (.cons (t := 4) rfl (.cons (t := 5) rfl .nil)) ?_
    refine Q_then ?_
    refine R_ret ?_
    exact R_end (rs2 := _) rfl rfl (.cell rfl (Rds.loadVar ty_ag_32 (Rds.blk .h7) (by rw [wi_len hRl])) (.tmp rfl .nil)) (⟨u, pv, ps, by unfold wRest; rw [if_pos he, he] <;> rfl, by unfold wKs; rw [if_pos he]; exact hps, by unfold wKs; rw [if_pos he] <;> rfl⟩) (Weak.pick (p := [_]) (Weak.pick (p := [_]) (Weak.pick (p := [_]) (Weak.nil _))))
end Go.Proofs.YtfhjhaogmdaepaaGreatDoor

/- sameLedger, sameMembers. Printed by gen.py. -/
set_option linter.unusedVariables false
set_option linter.unusedSimpArgs false
set_option maxRecDepth 100000
namespace Go.Proofs.YtfhjhaogmdaepaaGreatDoor
open Go Go.RowKit Go.Proofs
theorem acc_kind (x y : Acc) : ∀ (i : Nat) (b : Bool) (u v : Value), ([false, false, false, false, true] : List Bool)[i]? = some b → x.cells[i]? = some u → y.cells[i]? = some v → sk b u v
 | 0, _, _, _, hb, h, h' => by cases hb; cases h; cases h'; exact ⟨_, _, _, rfl, rfl⟩
 | 1, _, _, _, hb, h, h' => by cases hb; cases h; cases h'; exact ⟨_, _, _, rfl, rfl⟩
 | 2, _, _, _, hb, h, h' => by cases hb; cases h; cases h'; exact ⟨_, _, _, rfl, rfl⟩
 | 3, _, _, _, hb, h, h' => by cases hb; cases h; cases h'; exact ⟨_, _, _, rfl, rfl⟩
 | 4, _, _, _, hb, h, h' => by cases hb; cases h; cases h'; exact ⟨_, _, rfl, rfl⟩
 | _ + 5, _, _, _, hb, _, _ => by cases hb
theorem rel_kind (x y : Rel) : ∀ (i : Nat) (b : Bool) (u v : Value), ([false, false, false, false] : List Bool)[i]? = some b → x.cells[i]? = some u → y.cells[i]? = some v → sk b u v
 | 0, _, _, _, hb, h, h' => by cases hb; cases h; cases h'; exact ⟨_, _, _, rfl, rfl⟩
 | 1, _, _, _, hb, h, h' => by cases hb; cases h; cases h'; exact ⟨_, _, _, rfl, rfl⟩
 | 2, _, _, _, hb, h, h' => by cases hb; cases h; cases h'; exact ⟨_, _, _, rfl, rfl⟩
 | 3, _, _, _, hb, h, h' => by cases hb; cases h; cases h'; exact ⟨_, _, _, rfl, rfl⟩
 | _ + 4, _, _, _, hb, _, _ => by cases hb
theorem se_acc : seK Tryz.prog 38 [false, false, false, false, true] = true := by kernel_rfl
theorem se_rel : seK Tryz.prog 135 [false, false, false, false] = true := by kernel_rfl
theorem sameL_ok {gl : Nat → Obj} (base base' bas2 bas2' : Option Addr) (c c' c2 c2' : Nat) (l : List Acc) (r : List Rel) (bu su : Int) (hc : l.length ≤ c) (hc' : r.length ≤ c') (hc2 : l.length ≤ c2) (hc2' : r.length ≤ c2') (hm : l.length ≤ 9223372036854775000) (hm' : r.length ≤ 9223372036854775000) : SpecV (cx gl) 34 [.agg (ledV (.slice base l.length c) (.slice base' r.length c') bu su).toArray, .agg (ledV (.slice bas2 l.length c2) (.slice bas2' r.length c2') bu su).toArray] (fun w => Row w base (rc l) ∧ Row w base' (rc r) ∧ Row w bas2 (rc l) ∧ Row w bas2' (rc r)) (.bool true) := by
 refine Spec.enter (C := cx gl) Tryz.func34 rfl 73 rfl rfl fun w0 h0 hsep hsub hpre => ?_
 obtain rfl : h0 = Heap.none := hsep
 show St (cx gl) _ [(0, .agg (ledV (.slice base l.length c) (.slice base' r.length c') bu su).toArray), (1, .agg (ledV (.slice bas2 l.length c2) (.slice bas2' r.length c2') bu su).toArray)] _ _
 refine R_seq ?_
 refine R_region ?_
 refine L_op rfl (W_box (ledV (.slice base l.length c) (.slice base' r.length c') bu su) rfl rfl rfl rfl rfl fun b2 => ?_)
 refine L_op rfl (W_box (ledV (.slice bas2 l.length c2) (.slice bas2' r.length c2') bu su) rfl rfl rfl rfl rfl fun b3 => ?_)
 refine L_val rfl rfl rfl (OpP.v (P_assign rfl rfl)) ?_
 refine L_nil ?_
 refine St.env (.cons (t := 2) rfl (.cons (t := 3) rfl (.cons (t := 4) rfl .nil))) ?_
 refine Q_then ?_
 refine R_seq ?_
 refine R_seq ?_
 refine R_region ?_
 refine L_val rfl rfl rfl (OpP.v (P_fld0 rfl ty_fl_26_2 rfl)) ?_
 refine L_val rfl rfl rfl (V_load rfl rfl ty_sc_24 (Rd.blk .h1 rfl)) ?_
 refine L_val rfl rfl rfl (OpP.v (P_fld0 rfl ty_fl_26_2 rfl)) ?_
 refine L_val rfl rfl rfl (V_load rfl rfl ty_sc_24 (Rd.blk .h0 rfl)) ?_
 refine L_val rfl rfl rfl (OpP.v (P_neq rfl rfl rfl)) ?_
 refine E_false (t := 11) rfl (by simp) ?_
 refine L_val rfl rfl rfl (OpP.v (P_move rfl rfl)) ?_
 refine L_val rfl rfl rfl (OpP.v (P_fld0 rfl ty_fl_26_3 rfl)) ?_
 refine L_val rfl rfl rfl (V_load rfl rfl ty_sc_24 (Rd.blk .h1 rfl)) ?_
 refine L_val rfl rfl rfl (OpP.v (P_fld0 rfl ty_fl_26_3 rfl)) ?_
 refine L_val rfl rfl rfl (V_load rfl rfl ty_sc_24 (Rd.blk .h0 rfl)) ?_
 refine L_val rfl rfl rfl (OpP.v (P_neq rfl rfl rfl)) ?_
 refine E_false (t := 17) rfl (by simp) ?_
 refine L_val rfl rfl rfl (OpP.v (P_pick rfl rfl rfl)) ?_
 refine L_val rfl rfl rfl (OpP.v (P_move rfl rfl)) ?_
 refine L_val rfl rfl rfl (OpP.v (P_fld0 rfl ty_fl_26_0 rfl)) ?_
 refine L_val rfl rfl rfl (V_load rfl rfl ty_sc_22 (Rd.blk .h1 rfl)) ?_
 refine L_val rfl rfl rfl (OpP.v (P_len rfl ty_sl_22 rfl)) ?_
 refine L_val rfl rfl rfl (OpP.v (P_fld0 rfl ty_fl_26_0 rfl)) ?_
 refine L_val rfl rfl rfl (V_load rfl rfl ty_sc_22 (Rd.blk .h0 rfl)) ?_
 refine L_val rfl rfl rfl (OpP.v (P_len rfl ty_sl_22 rfl)) ?_
 refine L_val rfl rfl rfl (OpP.v (P_neq rfl rfl rfl)) ?_
 refine E_false (t := 26) rfl (by simp) ?_
 refine L_val rfl rfl rfl (OpP.v (P_pick rfl rfl rfl)) ?_
 refine L_val rfl rfl rfl (OpP.v (P_move rfl rfl)) ?_
 refine L_val rfl rfl rfl (OpP.v (P_fld0 rfl ty_fl_26_1 rfl)) ?_
 refine L_val rfl rfl rfl (V_load rfl rfl ty_sc_23 (Rd.blk .h1 rfl)) ?_
 refine L_val rfl rfl rfl (OpP.v (P_len rfl ty_sl_23 rfl)) ?_
 refine L_val rfl rfl rfl (OpP.v (P_fld0 rfl ty_fl_26_1 rfl)) ?_
 refine L_val rfl rfl rfl (V_load rfl rfl ty_sc_23 (Rd.blk .h0 rfl)) ?_
 refine L_val rfl rfl rfl (OpP.v (P_len rfl ty_sl_23 rfl)) ?_
 refine L_val rfl rfl rfl (OpP.v (P_neq rfl rfl rfl)) ?_
 refine E_false (t := 35) rfl (by simp) ?_
 refine L_val rfl rfl rfl (OpP.v (P_pick rfl rfl rfl)) ?_
 refine L_nil ?_
 refine St.env (.cons (t := 2) rfl (.cons (t := 3) rfl (.cons (t := 4) rfl (.cons (t := 36) rfl .nil)))) ?_
 refine Q_then ?_
 refine R_condF rfl ?_
 refine R_skip ?_
 refine Q_then ?_
 refine R_seq ?_
 refine R_seq ?_
 refine R_region ?_
 refine L_val rfl rfl rfl (OpP.v (P_assign rfl rfl)) ?_
 refine L_nil ?_
 refine St.env (.cons (t := 2) rfl (.cons (t := 3) rfl (.cons (t := 4) rfl (.cons (t := 5) rfl .nil)))) ?_
 refine Q_then ?_
 refine R_block ?_
 refine R_loopE (G := Nat) (.cons (t := 2) rfl (.cons (t := 3) rfl (.cons (t := 4) rfl .nil))) (fun g => [(5, .int .i64 (g : Int))]) (fun _ => _) (fun g => g ≤ l.length) (fun g => l.length - g) (0) (Nat.zero_le _) (by repeat (first | exact .nil | refine .cons rfl ?_ | refine .consE rfl (by first | rfl | (congr 1; omega) | (congr 1; push_cast; omega)) ?_)) (Weak.refl _) ?_
 intro i hinv
 replace hinv : i ≤ l.length := hinv
 show St (cx gl) _ ((5, .int .i64 (i : Int)) :: _) _ _
 refine R_seq ?_
 refine R_seq ?_
 refine R_region ?_
 refine L_val rfl rfl rfl (OpP.v (P_move rfl rfl)) ?_
 refine L_val rfl rfl rfl (OpP.v (P_fld0 rfl ty_fl_26_0 rfl)) ?_
 refine L_val rfl rfl rfl (V_load rfl rfl ty_sc_22 (Rd.blk .h1 rfl)) ?_
 refine L_val rfl rfl rfl (OpP.v (P_len rfl ty_sl_22 rfl)) ?_
 refine L_val rfl rfl rfl (OpP.v (P_lss rfl rfl rfl)) ?_
 refine L_nil ?_
 refine Q_then ?_
 refine R_condP rfl (fun hlt => ?_) (fun hlt => ?_)
 ·skip
  have hi : i < l.length := by omega
  have hx := accAt_get hi
  obtain ⟨p1, p2, p3, p4⟩ := hpre
  obtain ⟨p1b, p1j, rfl, p1r⟩ := p1.some_ (by rw [rc_length]; show 0 < _ * 5; omega)
  obtain ⟨p3b, p3j, rfl, p3r⟩ := p3.some_ (by rw [rc_length]; show 0 < _ * 5; omega)
  refine R_skip ?_
  refine Q_then ?_
  refine R_seq ?_
  refine R_block ?_
  refine R_seq ?_
  refine R_open [(0, 0), (1, 1), (2, 0), (3, 0), (4, 1), (5, 0), (6, 1), (7, 0), (8, 0), (9, 1), (10, 0)] mixed (by kernel_rfl) (QOk.then (QOk.block (QOk.then (QOk.then (QOk.block (QOk.then QOk.body)))))) ?_
  refine O_pure rfl rfl rfl rfl (P_fld0 rfl ty_fl_26_0 rfl) ?_
  refine O_val rfl rfl rfl rfl (V_load rfl rfl ty_sc_22 (Rd.blk .h1 rfl)) ?_
  refine O_pure rfl rfl rfl rfl (P_move rfl rfl) ?_
  refine O_pure rfl rfl rfl rfl (P_ixs (i) rfl ty_sl_22 rfl rfl (by first | rfl | omega) (by omega)) ?_
  refine O_val rfl rfl rfl rfl (V_loadAgg rfl rfl ty_ag_38 (rds_rc (Rds.row p1r rfl) hx) (rfl)) ?_
  refine O_pure rfl rfl rfl rfl (P_fld0 rfl ty_fl_26_0 rfl) ?_
  refine O_val rfl rfl rfl rfl (V_load rfl rfl ty_sc_22 (Rd.blk .h0 rfl)) ?_
  refine O_pure rfl rfl rfl rfl (P_move rfl rfl) ?_
  refine O_pure rfl rfl rfl rfl (P_ixs (i) rfl ty_sl_22 rfl rfl (by first | rfl | omega) (by omega)) ?_
  refine O_val rfl rfl rfl rfl (V_loadAgg rfl rfl ty_ag_38 (rds_rc (Rds.row p3r rfl) hx) (rfl)) ?_
  refine O_pure rfl rfl rfl rfl (P_neq_structK (b := false) [false, false, false, false, true] rfl se_acc rfl rfl rfl rfl (acc_kind (accAt l i) (accAt l i)) ⟨fun _ => rfl, fun _ => rfl⟩) ?_
  refine E_false (t := 54) rfl (rfl) ?_
  refine O_nil ?_
  refine Q_then ?_
  refine R_condF rfl ?_
  refine R_skip ?_
  refine Q_block ?_
  refine Q_then ?_
  refine R_region ?_
  refine L_val rfl rfl rfl (OpP.v (P_move rfl rfl)) ?_
  first | (refine L_val rfl rfl rfl (OpP.v (P_addN rfl rfl rfl (by simp only [fits]; omega))) ?_) | (refine L_val rfl rfl rfl (OpP.v (P_add rfl rfl rfl)) ?_)
  refine L_val rfl rfl rfl (OpP.v (P_assign rfl rfl)) ?_
  refine L_nil ?_
  exact Q_round (i + 1) (by show i + 1 ≤ l.length; omega) (by show l.length - (i + 1) < l.length - i; omega) (by repeat (first | exact .nil | refine .cons rfl ?_ | refine .consE rfl (by first | rfl | (congr 1; omega) | (congr 1; push_cast; omega)) ?_)) (Weak.refl _)
 ·skip
  refine R_exit ?_
  refine Q_then_exit ?_
  refine Q_then_exit ?_
  refine Q_block_eq ?_
  refine St.env (.cons (t := 2) rfl (.cons (t := 3) rfl (.cons (t := 4) rfl .nil))) ?_
  refine Q_then ?_
  refine R_seq ?_
  refine R_seq ?_
  refine R_region ?_
  refine L_val rfl rfl rfl (OpP.v (P_assign rfl rfl)) ?_
  refine L_nil ?_
  refine Q_then ?_
  refine R_block ?_
  refine R_loopE (G := Nat) (.cons (t := 2) rfl (.cons (t := 3) rfl (.cons (t := 4) rfl .nil))) (fun g => [(6, .int .i64 (g : Int))]) (fun _ => _) (fun g => g ≤ r.length) (fun g => r.length - g) (0) (Nat.zero_le _) (by repeat (first | exact .nil | refine .cons rfl ?_ | refine .consE rfl (by first | rfl | (congr 1; omega) | (congr 1; push_cast; omega)) ?_)) (Weak.refl _) ?_
  intro i hinv
  replace hinv : i ≤ r.length := hinv
  show St (cx gl) _ ((6, .int .i64 (i : Int)) :: _) _ _
  refine R_seq ?_
  refine R_seq ?_
  refine R_region ?_
  refine L_val rfl rfl rfl (OpP.v (P_move rfl rfl)) ?_
  refine L_val rfl rfl rfl (OpP.v (P_fld0 rfl ty_fl_26_1 rfl)) ?_
  refine L_val rfl rfl rfl (V_load rfl rfl ty_sc_23 (Rd.blk .h1 rfl)) ?_
  refine L_val rfl rfl rfl (OpP.v (P_len rfl ty_sl_23 rfl)) ?_
  refine L_val rfl rfl rfl (OpP.v (P_lss rfl rfl rfl)) ?_
  refine L_nil ?_
  refine Q_then ?_
  refine R_condP rfl (fun hlt => ?_) (fun hlt => ?_)
  ·skip
   have hi : i < r.length := by omega
   have hx := relAt_get hi
   obtain ⟨p1, p2, p3, p4⟩ := hpre
   obtain ⟨p2b, p2j, rfl, p2r⟩ := p2.some_ (by rw [rc_length]; show 0 < _ * 4; omega)
   obtain ⟨p4b, p4j, rfl, p4r⟩ := p4.some_ (by rw [rc_length]; show 0 < _ * 4; omega)
   refine R_skip ?_
   refine Q_then ?_
   refine R_seq ?_
   refine R_block ?_
   refine R_seq ?_
   refine R_open [(0, 0), (1, 1), (2, 0), (3, 0), (4, 1), (5, 0), (6, 1), (7, 0), (8, 0), (9, 1), (10, 0)] mixed (by kernel_rfl) (QOk.then (QOk.block (QOk.then (QOk.then (QOk.block (QOk.then QOk.body)))))) ?_
   refine O_pure rfl rfl rfl rfl (P_fld0 rfl ty_fl_26_1 rfl) ?_
   refine O_val rfl rfl rfl rfl (V_load rfl rfl ty_sc_23 (Rd.blk .h1 rfl)) ?_
   refine O_pure rfl rfl rfl rfl (P_move rfl rfl) ?_
   refine O_pure rfl rfl rfl rfl (P_ixs (i) rfl ty_sl_23 rfl rfl (by first | rfl | omega) (by omega)) ?_
   refine O_val rfl rfl rfl rfl (V_loadAgg rfl rfl ty_ag_135 (rds_rc (Rds.row p2r rfl) hx) (rfl)) ?_
   refine O_pure rfl rfl rfl rfl (P_fld0 rfl ty_fl_26_1 rfl) ?_
   refine O_val rfl rfl rfl rfl (V_load rfl rfl ty_sc_23 (Rd.blk .h0 rfl)) ?_
   refine O_pure rfl rfl rfl rfl (P_move rfl rfl) ?_
   refine O_pure rfl rfl rfl rfl (P_ixs (i) rfl ty_sl_23 rfl rfl (by first | rfl | omega) (by omega)) ?_
   refine O_val rfl rfl rfl rfl (V_loadAgg rfl rfl ty_ag_135 (rds_rc (Rds.row p4r rfl) hx) (rfl)) ?_
   refine O_pure rfl rfl rfl rfl (P_neq_structK (b := false) [false, false, false, false] rfl se_rel rfl rfl rfl rfl (rel_kind (relAt r i) (relAt r i)) ⟨fun _ => rfl, fun _ => rfl⟩) ?_
   refine E_false (t := 72) rfl (rfl) ?_
   refine O_nil ?_
   refine Q_then ?_
   refine R_condF rfl ?_
   refine R_skip ?_
   refine Q_block ?_
   refine Q_then ?_
   refine R_region ?_
   refine L_val rfl rfl rfl (OpP.v (P_move rfl rfl)) ?_
   first | (refine L_val rfl rfl rfl (OpP.v (P_addN rfl rfl rfl (by simp only [fits]; omega))) ?_) | (refine L_val rfl rfl rfl (OpP.v (P_add rfl rfl rfl)) ?_)
   refine L_val rfl rfl rfl (OpP.v (P_assign rfl rfl)) ?_
   refine L_nil ?_
   exact Q_round (i + 1) (by show i + 1 ≤ r.length; omega) (by show r.length - (i + 1) < r.length - i; omega) (by repeat (first | exact .nil | refine .cons rfl ?_ | refine .consE rfl (by first | rfl | (congr 1; omega) | (congr 1; push_cast; omega)) ?_)) (Weak.refl _)
  ·skip
   refine R_exit ?_
   refine Q_then_exit ?_
   refine Q_then_exit ?_
   refine Q_block_eq ?_
   refine St.env (.cons (t := 4) rfl .nil) ?_
   refine Q_then ?_
   refine R_seq ?_
   refine R_region ?_
   refine L_val rfl rfl rfl (OpP.v (P_assign rfl rfl)) ?_
   refine L_nil ?_
   refine Q_then ?_
   refine R_ret ?_
   exact R_endV rfl rfl (.tmp rfl .nil) (rfl)
end Go.Proofs.YtfhjhaogmdaepaaGreatDoor

/- Walks: list, listKept. Printed by gen.py. -/
set_option linter.unusedVariables false
set_option linter.unusedSimpArgs false
set_option maxRecDepth 100000
namespace Go.Proofs.YtfhjhaogmdaepaaGreatDoor
open Go Go.RowKit Go.Proofs
/-- An item that was copied with two marks behind it: its block, its room, its bytes, what lies behind. -/
structure Rm where
 b : Nat
 cap : Nat
 x : List Int
 junk : List Value
def Rm.full (q : Rm) : Value := .slice (some ⟨q.b, 0, none⟩) (q.x.length + 2) q.cap
def Rm.cell (q : Rm) : Nat × List Value × Nat := (q.b, ints .u8 (q.x ++ [201, 202]) ++ q.junk, 5)
section
variable {C : Cx} {F : Fx} {rs : List HP}
theorem Rm.bytes {qs : List Rm} {q : Rm} {i : Nat} (m : Has rs (pile (qs.map Rm.cell)) (pile (qs.map Rm.cell)) rs) (hq : qs[i]? = some q) : Sn C F rs (some ⟨q.b, 0, none⟩) (ints .u8 (q.x ++ [201, 202]) ++ q.junk) :=
 Sn.ofPile (i := i) (T := 5) m (by rw [List.getElem?_map, hq]; rfl)
end
end Go.Proofs.YtfhjhaogmdaepaaGreatDoor

/- Walks: listKept, DigestProves. Printed by gen.py. -/
set_option linter.unusedVariables false
set_option linter.unusedSimpArgs false
set_option maxRecDepth 100000
namespace Go.Proofs.YtfhjhaogmdaepaaGreatDoor
open Go Go.RowKit Go.Proofs
theorem wayH_le : ∀ (m : Nat) (l : List (List Int)) (i : Nat), l.length ≤ m → (wayH l i).length ≤ l.length := by
 intro m
 induction m with
 | zero => intro l i h; rw [wayH_one (by omega)]; simp
 | succ m ih =>
  intro l i h
  by_cases h1 : l.length ≤ 1
  ·rw [wayH_one h1]; simp
  ·have h2 := splitN_lt (n := l.length) (by omega)
   have h3 := splitN_pos (n := l.length) (by omega)
   by_cases hk : i < splitN l.length
   ·rw [wayH_left (by omega) hk, List.length_append, List.length_singleton]
    have := ih (l.take (splitN l.length)) i (by rw [List.length_take]; omega)
    rw [List.length_take] at this; omega
   ·rw [wayH_right (by omega) hk, List.length_append, List.length_singleton]
    have := ih (l.drop (splitN l.length)) (i - splitN l.length) (by rw [List.length_drop]; omega)
    rw [List.length_drop] at this; omega
theorem proveA_le (xss : List (List Int)) (at_ : Int) (h : xss.length ≤ 1048576) : (proveA xss at_).length ≤ 1048576 := by
 unfold proveA
 split
 ·have := wayH_le _ (leaves xss) at_.toNat (Nat.le_refl _)
  rw [leaves_length] at this; omega
 ·exact Nat.zero_le _
theorem proveA_len (xss : List (List Int)) (at_ : Int) : ∀ h ∈ proveA xss at_, h.length = 32 := by
 unfold proveA
 split
 ·exact wayH_len (leaves_len xss) _
 ·exact fun _ h => by cases h
theorem prove_verifies {xss : List (List Int)} {i : Nat} {x : List Int} (hk : proveE xss (i : Int) = 0) (hx : xss[i]? = some x) : verE (rootD xss) (proveT xss i) (proveI xss i) (proveA xss i) x = 0 := by
 have hB : bigL xss = false := by
  cases hq : bigL xss with
  | false => rfl
  | true => rw [proveE_big hq] at hk; cases hk
 obtain ⟨g1, _, g3⟩ := bigL_false hB
 have hlt := (List.getElem?_eq_some_iff.1 hx).1
 have hT : proveT xss i = (xss.length : Int) := by unfold proveT; rw [if_pos hk]
 have hI : proveI xss i = (i : Int) := by unfold proveI; rw [if_pos hk]
 have hA : proveA xss i = wayH (leaves xss) i := by unfold proveA; rw [if_pos hk]; simp
 rw [hT, hI, hA]
 have hl : (wayH (leaves xss) i).length = (turnsH xss.length i).length := by rw [wayH_length _ _ _ (Nat.le_refl _), leaves_length]
 have hpe : pathE (xss.length : Int) (i : Int) (wayH (leaves xss) i) x = 0 := by
  unfold pathE
  rw [if_neg (by have := g3 x (List.mem_of_getElem? hx); omega), fitsB_in (by omega) g1 hlt, decide_eq_true hl, if_pos rfl]
 have hlead := lead_way _ (leaves xss) i (leafH x) (Nat.le_refl _) (by unfold leaves; rw [List.getElem?_map, hx]; rfl)
 rw [leaves_length] at hlead
 unfold verE pathD
 rw [if_pos hpe, if_pos hpe]
 simp only [Int.toNat_natCast, hlead]
 rw [if_pos (by unfold rootD rootH; rw [hB]; rfl)]
end Go.Proofs.YtfhjhaogmdaepaaGreatDoor

/- Walks: sameProof, sameWitness. Printed by gen.py. -/
set_option linter.unusedVariables false
set_option linter.unusedSimpArgs false
set_option maxRecDepth 100000
namespace Go.Proofs.YtfhjhaogmdaepaaGreatDoor
open Go Go.RowKit Go.Proofs
theorem core_at {ps qs : List Pf} (h : ps.map Pf.core = qs.map Pf.core) {i : Nat} {p : Pf} (hp : ps[i]? = some p) : ∃ b c, qs[i]? = some ⟨p.t, p.i, b, c, p.hs⟩ := by
 have h2 := congrArg (fun l => l[i]?) h
 simp only [List.getElem?_map, hp, Option.map_some] at h2
 obtain ⟨q, hq, e⟩ := Option.map_eq_some_iff.1 h2.symm
 obtain ⟨t, j, b, c, hs⟩ := q
 unfold Pf.core at e
 simp only [Prod.mk.injEq] at e
 obtain ⟨rfl, rfl, rfl⟩ := e
 exact ⟨b, c, hq⟩
/-- Witness rows ac the world shows them. -/
structure WitRow (w : World) (ub : Option Addr) (ac : List Acc) (pb : Option Addr) (ps : List Pf) : Prop where
 acc : Row w ub (rc ac)
 pfs : Row w pb (rc ps)
 path : ∀ p ∈ ps, Row w p.b (flat .u8 p.hs)
theorem fam_wit {C : Cx} {F : Fx} {rs : List HP} {ub pb : Option Addr} {uc pc n m : Nat} {ac : List Acc} {ps : List Pf} (m1 : Has rs (ownS 38 5 (.slice ub n uc) n (rc ac)) (ownS 38 5 (.slice ub n uc) n (rc ac)) rs) (m2 : Has rs (ownS 47 3 (.slice pb m pc) m (rc ps)) (ownS 47 3 (.slice pb m pc) m (rc ps)) rs) (m3 : Has rs (fam Pf.own ps) (fam Pf.own ps) rs) : ∀ w, Now C F rs w → WitRow w ub ac pb ps := fun w nw =>
 ⟨(Sn.own m1 rfl).rw_ w nw, (Sn.own m2 rfl).rw_ w nw, fun p hp => by
  obtain ⟨i, hi, e⟩ := List.mem_iff_getElem.1 hp
  exact (Sn.fam m3 (show ps[i]? = some p by rw [List.getElem?_eq_getElem hi, e]) fun rs m => Sn.own m rfl).rw_ w nw⟩
theorem WitRow.now {C : Cx} {F : Fx} {rs : List HP} {ub pb : Option Addr} {ac : List Acc} {ps : List Pf} (h : WitRow F.w ub ac pb ps) (hf : F.h = Heap.none) : ∀ w, Now C F rs w → WitRow w ub ac pb ps := fun w nw =>
 ⟨(Sn.row h.acc hf).rw_ w nw, (Sn.row h.pfs hf).rw_ w nw, fun p hp => (Sn.row (h.path p hp) hf).rw_ w nw⟩
theorem sameP_ok {gl : Nat → Obj} (total index : Int) (b1 : Option Addr) (c1 : Nat) (b2' : Option Addr) (c2 : Nat) (hs : List (List Int)) (hh : ∀ h ∈ hs, h.length = 32) (hm : hs.length ≤ 70368744177664) : SpecV (cx gl) 93 [.agg [.int .i64 total, .int .i64 index, .slice b1 hs.length c1].toArray, .agg [.int .i64 total, .int .i64 index, .slice b2' hs.length c2].toArray] (fun w => Row w b1 (flat .u8 hs) ∧ Row w b2' (flat .u8 hs)) (.bool true) := by
 refine Spec.enter (C := cx gl) Tryz.func93 rfl 45 rfl rfl fun w0 h0 hsep hsub hpre => ?_
 obtain rfl : h0 = Heap.none := hsep
 show St (cx gl) _ [(0, .agg [.int .i64 total, .int .i64 index, .slice b1 hs.length c1].toArray), (1, .agg [.int .i64 total, .int .i64 index, .slice b2' hs.length c2].toArray)] _ _
 refine R_seq ?_
 refine R_region ?_
 refine L_op rfl (W_box ([.int .i64 total, .int .i64 index, .slice b1 hs.length c1]) rfl rfl rfl rfl rfl fun b2 => ?_)
 refine L_op rfl (W_box ([.int .i64 total, .int .i64 index, .slice b2' hs.length c2]) rfl rfl rfl rfl rfl fun b3 => ?_)
 refine L_val rfl rfl rfl (OpP.v (P_assign rfl rfl)) ?_
 refine L_nil ?_
 refine St.env (.cons (t := 2) rfl (.cons (t := 3) rfl (.cons (t := 4) rfl .nil))) ?_
 refine Q_then ?_
 refine R_seq ?_
 refine R_seq ?_
 refine R_region ?_
 refine L_val rfl rfl rfl (OpP.v (P_fld0 rfl ty_fl_47_0 rfl)) ?_
 refine L_val rfl rfl rfl (V_load rfl rfl ty_sc_3 (Rd.blk .h1 rfl)) ?_
 refine L_val rfl rfl rfl (OpP.v (P_fld0 rfl ty_fl_47_0 rfl)) ?_
 refine L_val rfl rfl rfl (V_load rfl rfl ty_sc_3 (Rd.blk .h0 rfl)) ?_
 refine L_val rfl rfl rfl (OpP.v (P_neq rfl rfl rfl)) ?_
 refine E_false (t := 10) rfl (decide_eq_false (by simp)) ?_
 refine L_val rfl rfl rfl (OpP.v (P_move rfl rfl)) ?_
 refine L_val rfl rfl rfl (OpP.v (P_fld0 rfl ty_fl_47_1 rfl)) ?_
 refine L_val rfl rfl rfl (V_load rfl rfl ty_sc_3 (Rd.blk .h1 rfl)) ?_
 refine L_val rfl rfl rfl (OpP.v (P_fld0 rfl ty_fl_47_1 rfl)) ?_
 refine L_val rfl rfl rfl (V_load rfl rfl ty_sc_3 (Rd.blk .h0 rfl)) ?_
 refine L_val rfl rfl rfl (OpP.v (P_neq rfl rfl rfl)) ?_
 refine E_false (t := 16) rfl (decide_eq_false (by simp)) ?_
 refine L_val rfl rfl rfl (OpP.v (P_pick rfl rfl rfl)) ?_
 refine L_val rfl rfl rfl (OpP.v (P_move rfl rfl)) ?_
 refine L_val rfl rfl rfl (OpP.v (P_fld0 rfl ty_fl_47_2 rfl)) ?_
 refine L_val rfl rfl rfl (V_load rfl rfl ty_sc_45 (Rd.blk .h1 rfl)) ?_
 refine L_val rfl rfl rfl (OpP.v (P_len rfl ty_sl_45 rfl)) ?_
 refine L_val rfl rfl rfl (OpP.v (P_fld0 rfl ty_fl_47_2 rfl)) ?_
 refine L_val rfl rfl rfl (V_load rfl rfl ty_sc_45 (Rd.blk .h0 rfl)) ?_
 refine L_val rfl rfl rfl (OpP.v (P_len rfl ty_sl_45 rfl)) ?_
 refine L_val rfl rfl rfl (OpP.v (P_neq rfl rfl rfl)) ?_
 refine E_false (t := 25) rfl (decide_eq_false (by simp)) ?_
 refine L_val rfl rfl rfl (OpP.v (P_pick rfl rfl rfl)) ?_
 refine L_nil ?_
 refine St.env (.cons (t := 2) rfl (.cons (t := 3) rfl (.cons (t := 4) rfl (.cons (t := 26) rfl .nil)))) ?_
 refine Q_then ?_
 refine R_condF rfl ?_
 refine R_skip ?_
 refine Q_then ?_
 refine R_seq ?_
 refine R_seq ?_
 refine R_region ?_
 refine L_val rfl rfl rfl (OpP.v (P_assign rfl rfl)) ?_
 refine L_nil ?_
 refine St.env (.cons (t := 2) rfl (.cons (t := 3) rfl (.cons (t := 4) rfl (.cons (t := 5) rfl .nil)))) ?_
 refine Q_then ?_
 refine R_block ?_
 refine R_loopE (G := Nat) (.cons (t := 2) rfl (.cons (t := 3) rfl (.cons (t := 4) rfl .nil))) (fun g => [(5, .int .i64 (g : Int))]) (fun _ => _) (fun g => g ≤ hs.length) (fun g => hs.length - g) (0) (Nat.zero_le _) (by repeat (first | exact .nil | refine .cons rfl ?_ | refine .consE rfl (by first | rfl | (congr 1; omega) | (congr 1; push_cast; omega)) ?_)) (Weak.refl _) ?_
 intro k hinv
 replace hinv : k ≤ hs.length := hinv
 show St (cx gl) _ ((5, .int .i64 (k : Int)) :: _) _ _
 refine R_seq ?_
 refine R_seq ?_
 refine R_region ?_
 refine L_val rfl rfl rfl (OpP.v (P_move rfl rfl)) ?_
 refine L_val rfl rfl rfl (OpP.v (P_fld0 rfl ty_fl_47_2 rfl)) ?_
 refine L_val rfl rfl rfl (V_load rfl rfl ty_sc_45 (Rd.blk .h1 rfl)) ?_
 refine L_val rfl rfl rfl (OpP.v (P_len rfl ty_sl_45 rfl)) ?_
 refine L_val rfl rfl rfl (OpP.v (P_lss rfl rfl rfl)) ?_
 refine L_nil ?_
 refine Q_then ?_
 refine R_condP rfl (fun hlt => ?_) (fun hlt => ?_)
 ·skip
  obtain ⟨a, hax⟩ : ∃ a, hs[k]? = some a := ⟨_, List.getElem?_eq_getElem (by omega)⟩
  have hal : a.length = 32 := hh a (List.mem_of_getElem? hax)
  obtain ⟨pa, ja, rfl, hrowa⟩ := hpre.1.some_ (by rw [flat_length hh]; omega)
  obtain ⟨pb, jb, rfl, hrowb⟩ := hpre.2.some_ (by rw [flat_length hh]; omega)
  refine R_skip ?_
  refine Q_then ?_
  refine R_seq ?_
  refine R_block ?_
  refine R_seq ?_
  refine R_open [(0, 0), (1, 1), (2, 0), (3, 0), (4, 1), (5, 0), (6, 1), (7, 0), (8, 0), (9, 1), (10, 0)] mixed (by kernel_rfl) (QOk.then (QOk.block (QOk.then (QOk.then (QOk.block (QOk.then QOk.body)))))) ?_
  refine O_pure rfl rfl rfl rfl (P_fld0 rfl ty_fl_47_2 rfl) ?_
  refine O_val rfl rfl rfl rfl (V_load rfl rfl ty_sc_45 (Rd.blk .h1 rfl)) ?_
  refine O_pure rfl rfl rfl rfl (P_move rfl rfl) ?_
  refine O_pure rfl rfl rfl rfl (P_ixs (k) rfl ty_sl_45 rfl rfl (by first | rfl | omega) (by omega)) ?_
  refine O_val rfl rfl rfl rfl (V_loadAgg rfl rfl ty_ag_29 ((Rds.row hrowa rfl).part (k * 32) fun j v hv => flat_at hh hax j v hv) (by rw [ints_length, hal])) ?_
  refine O_pure rfl rfl rfl rfl (P_fld0 rfl ty_fl_47_2 rfl) ?_
  refine O_val rfl rfl rfl rfl (V_load rfl rfl ty_sc_45 (Rd.blk .h0 rfl)) ?_
  refine O_pure rfl rfl rfl rfl (P_move rfl rfl) ?_
  refine O_pure rfl rfl rfl rfl (P_ixs (k) rfl ty_sl_45 rfl rfl (by first | rfl | omega) (by omega)) ?_
  refine O_val rfl rfl rfl rfl (V_loadAgg rfl rfl ty_ag_29 ((Rds.row hrowb rfl).part (k * 32) fun j v hv => flat_at hh hax j v hv) (by rw [ints_length, hal])) ?_
  refine O_pure rfl rfl rfl rfl (P_neArr rfl rfl rfl ty_un_29 ty_int_5 ty_sc_5 ty_eg_29 (hal) (hal)) ?_
  refine E_false (t := 44) rfl (decide_eq_false (by simp)) ?_
  refine O_nil ?_
  refine Q_then ?_
  refine R_condF rfl ?_
  refine R_skip ?_
  refine Q_block ?_
  refine Q_then ?_
  refine R_region ?_
  refine L_val rfl rfl rfl (OpP.v (P_move rfl rfl)) ?_
  first | (refine L_val rfl rfl rfl (OpP.v (P_addN rfl rfl rfl (by simp only [fits]; omega))) ?_) | (refine L_val rfl rfl rfl (OpP.v (P_add rfl rfl rfl)) ?_)
  refine L_val rfl rfl rfl (OpP.v (P_assign rfl rfl)) ?_
  refine L_nil ?_
  exact Q_round (k + 1) (by show k + 1 ≤ hs.length; omega) (by show hs.length - (k + 1) < hs.length - k; omega) (by repeat (first | exact .nil | refine .cons rfl ?_ | refine .consE rfl (by first | rfl | (congr 1; omega) | (congr 1; push_cast; omega)) ?_)) (Weak.refl _)
 ·skip
  refine R_exit ?_
  refine Q_then_exit ?_
  refine Q_then_exit ?_
  refine Q_block_eq ?_
  refine St.env (.cons (t := 4) rfl .nil) ?_
  refine Q_then ?_
  refine R_seq ?_
  refine R_region ?_
  refine L_val rfl rfl rfl (OpP.v (P_assign rfl rfl)) ?_
  refine L_nil ?_
  refine Q_then ?_
  refine R_ret ?_
  exact R_endV rfl rfl (.tmp rfl .nil) (rfl)
theorem sameW_ok {gl : Nat → Obj} (R : List Int) (hR : R.length = 32) (ub ub2 pb qb : Option Addr) (uc uc2 pc qc : Nat) (ac : List Acc) (ps qs : List Pf) (h1 : ac.length ≤ uc) (h2 : ac.length ≤ uc2) (h3 : ps.length ≤ pc) (h4 : qs.length ≤ qc) (ha : ac.length ≤ 2) (hcore : ps.map Pf.core = qs.map Pf.core) (h32 : ∀ p ∈ ps, ∀ h ∈ p.hs, h.length = 32) (hms : ∀ p ∈ ps, p.hs.length ≤ 70368744177664) (hpl : ps.length ≤ 2) : SpecV (cx gl) 37 [.agg (wiC R (.slice ub ac.length uc) (.slice pb ps.length pc)).toArray, .agg (wiC R (.slice ub2 ac.length uc2) (.slice qb qs.length qc)).toArray] (fun w => WitRow w ub ac pb ps ∧ WitRow w ub2 ac qb qs) (.bool true) := by
 refine Spec.enter (C := cx gl) Tryz.func37 rfl 69 rfl rfl fun w0 h0 hsep hsub hpre => ?_
 obtain rfl : h0 = Heap.none := hsep
 show St (cx gl) _ [(0, .agg (wiC R (.slice ub ac.length uc) (.slice pb ps.length pc)).toArray), (1, .agg (wiC R (.slice ub2 ac.length uc2) (.slice qb qs.length qc)).toArray)] _ _
 have hql : qs.length = ps.length := by have := congrArg List.length hcore; simpa using this.symm
 refine R_seq ?_
 refine R_region ?_
 refine L_op rfl (W_box (wiC R (.slice ub ac.length uc) (.slice pb ps.length pc)) rfl rfl rfl rfl rfl fun b2 => ?_)
 refine L_op rfl (W_box (wiC R (.slice ub2 ac.length uc2) (.slice qb qs.length qc)) rfl rfl rfl rfl rfl fun b3 => ?_)
 refine L_val rfl rfl rfl (OpP.v (P_assign rfl rfl)) ?_
 refine L_nil ?_
 refine St.env (.cons (t := 2) rfl (.cons (t := 3) rfl (.cons (t := 4) rfl .nil))) ?_
 refine Q_then ?_
 refine R_seq ?_
 refine R_seq ?_
 refine R_region ?_
 refine L_val rfl rfl rfl (OpP.v (P_fld0 rfl ty_fl_32_0 rfl)) ?_
 refine L_val rfl rfl rfl (V_loadAgg rfl rfl ty_ag_29 ((Rds.blk .h1).part 0 (wi_sub hR _ _)) (by rw [ints_length, hR])) ?_
 refine L_val rfl rfl rfl (OpP.v (P_fld0 rfl ty_fl_32_0 rfl)) ?_
 refine L_val rfl rfl rfl (V_loadAgg rfl rfl ty_ag_29 ((Rds.blk .h0).part 0 (wi_sub hR _ _)) (by rw [ints_length, hR])) ?_
 refine L_val rfl rfl rfl (OpP.v (P_neArr rfl rfl rfl ty_un_29 ty_int_5 ty_sc_5 ty_eg_29 (hR) (hR))) ?_
 refine E_false (t := 12) rfl (decide_eq_false (by simp)) ?_
 refine L_val rfl rfl rfl (OpP.v (P_move rfl rfl)) ?_
 refine L_val rfl rfl rfl (OpP.v (P_fld0 rfl ty_fl_32_1 rfl)) ?_
 refine L_val rfl rfl rfl (V_load rfl rfl ty_sc_22 (Rd.blk .h1 (wi_1 hR _ _))) ?_
 refine L_val rfl rfl rfl (OpP.v (P_len rfl ty_sl_22 rfl)) ?_
 refine L_val rfl rfl rfl (OpP.v (P_fld0 rfl ty_fl_32_1 rfl)) ?_
 refine L_val rfl rfl rfl (V_load rfl rfl ty_sc_22 (Rd.blk .h0 (wi_1 hR _ _))) ?_
 refine L_val rfl rfl rfl (OpP.v (P_len rfl ty_sl_22 rfl)) ?_
 refine L_val rfl rfl rfl (OpP.v (P_neq rfl rfl rfl)) ?_
 refine E_false (t := 20) rfl (decide_eq_false (by simp)) ?_
 refine L_val rfl rfl rfl (OpP.v (P_pick rfl rfl rfl)) ?_
 refine L_val rfl rfl rfl (OpP.v (P_move rfl rfl)) ?_
 refine L_val rfl rfl rfl (OpP.v (P_fld0 rfl ty_fl_32_2 rfl)) ?_
 refine L_val rfl rfl rfl (V_load rfl rfl ty_sc_30 (Rd.blk .h1 (wi_2 hR _ _))) ?_
 refine L_val rfl rfl rfl (OpP.v (P_len rfl ty_sl_30 rfl)) ?_
 refine L_val rfl rfl rfl (OpP.v (P_fld0 rfl ty_fl_32_2 rfl)) ?_
 refine L_val rfl rfl rfl (V_load rfl rfl ty_sc_30 (Rd.blk .h0 (wi_2 hR _ _))) ?_
 refine L_val rfl rfl rfl (OpP.v (P_len rfl ty_sl_30 rfl)) ?_
 refine E_as (t := 28) (v' := .int .i64 (ps.length : Int)) rfl (by rw [hql]) ?_
 refine L_val rfl rfl rfl (OpP.v (P_neq rfl rfl rfl)) ?_
 refine E_false (t := 29) rfl (decide_eq_false (by simp)) ?_
 refine L_val rfl rfl rfl (OpP.v (P_pick rfl rfl rfl)) ?_
 refine L_nil ?_
 refine St.env (.cons (t := 2) rfl (.cons (t := 3) rfl (.cons (t := 4) rfl (.cons (t := 30) rfl .nil)))) ?_
 refine Q_then ?_
 refine R_condF rfl ?_
 refine R_skip ?_
 refine Q_then ?_
 refine R_seq ?_
 refine R_seq ?_
 refine R_region ?_
 refine L_val rfl rfl rfl (OpP.v (P_assign rfl rfl)) ?_
 refine L_nil ?_
 refine St.env (.cons (t := 2) rfl (.cons (t := 3) rfl (.cons (t := 4) rfl (.cons (t := 5) rfl .nil)))) ?_
 refine Q_then ?_
 refine R_block ?_
 refine R_loopE (G := Nat) (.cons (t := 2) rfl (.cons (t := 3) rfl (.cons (t := 4) rfl .nil))) (fun g => [(5, .int .i64 (g : Int))]) (fun _ => _) (fun g => g ≤ ac.length) (fun g => ac.length - g) (0) (Nat.zero_le _) (by repeat (first | exact .nil | refine .cons rfl ?_ | refine .consE rfl (by first | rfl | (congr 1; omega) | (congr 1; push_cast; omega)) ?_)) (Weak.refl _) ?_
 intro i hinv
 replace hinv : i ≤ ac.length := hinv
 show St (cx gl) _ ((5, .int .i64 (i : Int)) :: _) _ _
 refine R_seq ?_
 refine R_seq ?_
 refine R_region ?_
 refine L_val rfl rfl rfl (OpP.v (P_move rfl rfl)) ?_
 refine L_val rfl rfl rfl (OpP.v (P_fld0 rfl ty_fl_32_1 rfl)) ?_
 refine L_val rfl rfl rfl (V_load rfl rfl ty_sc_22 (Rd.blk .h1 (wi_1 hR _ _))) ?_
 refine L_val rfl rfl rfl (OpP.v (P_len rfl ty_sl_22 rfl)) ?_
 refine L_val rfl rfl rfl (OpP.v (P_lss rfl rfl rfl)) ?_
 refine L_nil ?_
 refine Q_then ?_
 refine R_condP rfl (fun hlt => ?_) (fun hlt => ?_)
 ·skip
  have hi : i < ac.length := by omega
  obtain ⟨x, hx⟩ : ∃ x, ac[i]? = some x := ⟨_, List.getElem?_eq_getElem hi⟩
  obtain ⟨⟨p1, p2, p5⟩, ⟨p3, p4, p6⟩⟩ := hpre
  obtain ⟨p1b, p1j, rfl, p1r⟩ := p1.some_ (by rw [rc_length]; show 0 < _ * 5; omega)
  obtain ⟨p3b, p3j, rfl, p3r⟩ := p3.some_ (by rw [rc_length]; show 0 < _ * 5; omega)
  refine R_skip ?_
  refine Q_then ?_
  refine R_seq ?_
  refine R_block ?_
  refine R_seq ?_
  refine R_open [(0, 0), (1, 1), (2, 0), (3, 0), (4, 1), (5, 0), (6, 1), (7, 0), (8, 0), (9, 1), (10, 0)] mixed (by kernel_rfl) (QOk.then (QOk.block (QOk.then (QOk.then (QOk.block (QOk.then QOk.body)))))) ?_
  refine O_pure rfl rfl rfl rfl (P_fld0 rfl ty_fl_32_1 rfl) ?_
  refine O_val rfl rfl rfl rfl (V_load rfl rfl ty_sc_22 (Rd.blk .h1 (wi_1 hR _ _))) ?_
  refine O_pure rfl rfl rfl rfl (P_move rfl rfl) ?_
  refine O_pure rfl rfl rfl rfl (P_ixs (i) rfl ty_sl_22 rfl rfl (by first | rfl | omega) (by omega)) ?_
  refine O_val rfl rfl rfl rfl (V_loadAgg rfl rfl ty_ag_38 (rds_rc (Rds.row p1r rfl) hx) (rfl)) ?_
  refine O_pure rfl rfl rfl rfl (P_fld0 rfl ty_fl_32_1 rfl) ?_
  refine O_val rfl rfl rfl rfl (V_load rfl rfl ty_sc_22 (Rd.blk .h0 (wi_1 hR _ _))) ?_
  refine O_pure rfl rfl rfl rfl (P_move rfl rfl) ?_
  refine O_pure rfl rfl rfl rfl (P_ixs (i) rfl ty_sl_22 rfl rfl (by first | rfl | omega) (by omega)) ?_
  refine O_val rfl rfl rfl rfl (V_loadAgg rfl rfl ty_ag_38 (rds_rc (Rds.row p3r rfl) hx) (rfl)) ?_
  refine O_pure rfl rfl rfl rfl (P_neq_structK (b := false) [false, false, false, false, true] rfl se_acc rfl rfl rfl rfl (acc_kind x x) ⟨fun _ => rfl, fun _ => rfl⟩) ?_
  refine E_false (t := 48) rfl (rfl) ?_
  refine O_nil ?_
  refine Q_then ?_
  refine R_condF rfl ?_
  refine R_skip ?_
  refine Q_block ?_
  refine Q_then ?_
  refine R_region ?_
  refine L_val rfl rfl rfl (OpP.v (P_move rfl rfl)) ?_
  first | (refine L_val rfl rfl rfl (OpP.v (P_addN rfl rfl rfl (by simp only [fits]; omega))) ?_) | (refine L_val rfl rfl rfl (OpP.v (P_add rfl rfl rfl)) ?_)
  refine L_val rfl rfl rfl (OpP.v (P_assign rfl rfl)) ?_
  refine L_nil ?_
  exact Q_round (i + 1) (by show i + 1 ≤ ac.length; omega) (by show ac.length - (i + 1) < ac.length - i; omega) (by repeat (first | exact .nil | refine .cons rfl ?_ | refine .consE rfl (by first | rfl | (congr 1; omega) | (congr 1; push_cast; omega)) ?_)) (Weak.refl _)
 ·skip
  refine R_exit ?_
  refine Q_then_exit ?_
  refine Q_then_exit ?_
  refine Q_block_eq ?_
  refine St.env (.cons (t := 2) rfl (.cons (t := 3) rfl (.cons (t := 4) rfl .nil))) ?_
  refine Q_then ?_
  refine R_seq ?_
  refine R_seq ?_
  refine R_region ?_
  refine L_val rfl rfl rfl (OpP.v (P_assign rfl rfl)) ?_
  refine L_nil ?_
  refine Q_then ?_
  refine R_block ?_
  refine R_loopE (G := Nat) (.cons (t := 2) rfl (.cons (t := 3) rfl (.cons (t := 4) rfl .nil))) (fun g => [(6, .int .i64 (g : Int))]) (fun _ => _) (fun g => g ≤ ps.length) (fun g => ps.length - g) (0) (Nat.zero_le _) (by repeat (first | exact .nil | refine .cons rfl ?_ | refine .consE rfl (by first | rfl | (congr 1; omega) | (congr 1; push_cast; omega)) ?_)) (Weak.refl _) ?_
  intro j hinv
  replace hinv : j ≤ ps.length := hinv
  show St (cx gl) _ ((6, .int .i64 (j : Int)) :: _) _ _
  refine R_seq ?_
  refine R_seq ?_
  refine R_region ?_
  refine L_val rfl rfl rfl (OpP.v (P_move rfl rfl)) ?_
  refine L_val rfl rfl rfl (OpP.v (P_fld0 rfl ty_fl_32_2 rfl)) ?_
  refine L_val rfl rfl rfl (V_load rfl rfl ty_sc_30 (Rd.blk .h1 (wi_2 hR _ _))) ?_
  refine L_val rfl rfl rfl (OpP.v (P_len rfl ty_sl_30 rfl)) ?_
  refine L_val rfl rfl rfl (OpP.v (P_lss rfl rfl rfl)) ?_
  refine L_nil ?_
  refine Q_then ?_
  refine R_condP rfl (fun hlt => ?_) (fun hlt => ?_)
  ·skip
   have hj : j < ps.length := by omega
   obtain ⟨p, hp⟩ : ∃ p, ps[j]? = some p := ⟨_, List.getElem?_eq_getElem hj⟩
   obtain ⟨fb, fc, hq⟩ := core_at hcore hp
   have hpm := List.mem_of_getElem? hp
   have hqm := List.mem_of_getElem? hq
   obtain ⟨⟨p1, p2, p5⟩, ⟨p3, p4, p6⟩⟩ := hpre
   obtain ⟨p2b, p2j, rfl, p2r⟩ := p2.some_ (by rw [rc_length]; show 0 < _ * 3; omega)
   obtain ⟨p4b, p4j, rfl, p4r⟩ := p4.some_ (by rw [rc_length]; show 0 < _ * 3; omega)
   refine R_skip ?_
   refine Q_then ?_
   refine R_seq ?_
   refine R_block ?_
   refine R_seq ?_
   refine R_open [(0, 0), (1, 1), (2, 0), (3, 0), (4, 1), (5, 0), (6, 1), (7, 0), (8, 0), (9, 1), (10, 2), (11, 0)] mixed (by kernel_rfl) (QOk.then (QOk.block (QOk.then (QOk.then (QOk.block (QOk.then QOk.body)))))) ?_
   refine O_pure rfl rfl rfl rfl (P_fld0 rfl ty_fl_32_2 rfl) ?_
   refine O_val rfl rfl rfl rfl (V_load rfl rfl ty_sc_30 (Rd.blk .h1 (wi_2 hR _ _))) ?_
   refine O_pure rfl rfl rfl rfl (P_move rfl rfl) ?_
   refine O_pure rfl rfl rfl rfl (P_ixs (j) rfl ty_sl_30 rfl rfl (by first | rfl | omega) (by omega)) ?_
   refine O_val rfl rfl rfl rfl (V_loadAgg rfl rfl ty_ag_47 (rds_rc (Rds.row p2r rfl) hp) (rfl)) ?_
   refine O_pure rfl rfl rfl rfl (P_fld0 rfl ty_fl_32_2 rfl) ?_
   refine O_val rfl rfl rfl rfl (V_load rfl rfl ty_sc_30 (Rd.blk .h0 (wi_2 hR _ _))) ?_
   refine O_pure rfl rfl rfl rfl (P_move rfl rfl) ?_
   refine O_pure rfl rfl rfl rfl (P_ixs (j) rfl ty_sl_30 rfl rfl (by first | rfl | omega) (by omega)) ?_
   refine O_val rfl rfl rfl rfl (V_loadAgg rfl rfl ty_ag_47 (rds_rc (Rds.row p4r rfl) hq) (rfl)) ?_
   refine O_keep rfl rfl (W_callV rfl rfl rfl rfl fn_ca_93 (sameP_ok p.t p.i p.b p.c fb fc p.hs (h32 p hpm) (hms p hpm)) (fun w nw => ⟨(Sn.row (p5 p hpm) rfl).rw_ w nw, (Sn.row (p6 _ hqm) rfl).rw_ w nw⟩) (K_keep (Weak.refl _) ?_))
   refine E_true (t := 66) rfl (rfl) ?_
   refine O_pure rfl rfl rfl rfl (P_assign rfl rfl) ?_
   refine O_nil ?_
   refine Q_then ?_
   refine R_seq ?_
   refine R_region ?_
   refine L_val rfl rfl rfl (OpP.v (P_move rfl rfl)) ?_
   refine L_val rfl rfl rfl (OpP.v (P_not rfl rfl)) ?_
   refine L_nil ?_
   refine Q_then ?_
   refine R_condF rfl ?_
   refine R_skip ?_
   refine Q_block ?_
   refine Q_then ?_
   refine R_region ?_
   refine L_val rfl rfl rfl (OpP.v (P_move rfl rfl)) ?_
   first | (refine L_val rfl rfl rfl (OpP.v (P_addN rfl rfl rfl (by simp only [fits]; omega))) ?_) | (refine L_val rfl rfl rfl (OpP.v (P_add rfl rfl rfl)) ?_)
   refine L_val rfl rfl rfl (OpP.v (P_assign rfl rfl)) ?_
   refine L_nil ?_
   exact Q_round (j + 1) (by show j + 1 ≤ ps.length; omega) (by show ps.length - (j + 1) < ps.length - j; omega) (by repeat (first | exact .nil | refine .cons rfl ?_ | refine .consE rfl (by first | rfl | (congr 1; omega) | (congr 1; push_cast; omega)) ?_)) (Weak.refl _)
  ·skip
   refine R_exit ?_
   refine Q_then_exit ?_
   refine Q_then_exit ?_
   refine Q_block_eq ?_
   refine St.env (.cons (t := 4) rfl .nil) ?_
   refine Q_then ?_
   refine R_seq ?_
   refine R_region ?_
   refine L_val rfl rfl rfl (OpP.v (P_assign rfl rfl)) ?_
   refine L_nil ?_
   refine Q_then ?_
   refine R_ret ?_
   exact R_endV rfl rfl (.tmp rfl .nil) (rfl)
end Go.Proofs.YtfhjhaogmdaepaaGreatDoor

/- Walks: leads, between, Verify. Printed by gen.py. -/
set_option linter.unusedVariables false
set_option linter.unusedSimpArgs false
set_option maxRecDepth 100000
namespace Go.Proofs.YtfhjhaogmdaepaaGreatDoor
open Go Go.RowKit Go.Proofs
def pE (x : Acc) (p : Pf) : Int := pathE p.t p.i p.hs (formB x)
def pD (x : Acc) (p : Pf) : List Int := pathD p.t p.i p.hs (formB x)
theorem pD_length (x : Acc) (p : Pf) : (pD x p).length = 32 := pathD_length _ _ _ _
def leadE (root R : List Int) (x : Acc) (p : Pf) : Int := if pE x p = 0 ∧ sha (1 :: (pD x p ++ R)) ≠ root then 21 else pE x p
/-- A proof that the world holds. -/
structure PfIn (p : Pf) : Prop where
 len : ∀ h ∈ p.hs, h.length = 32
 few : p.hs.length ≤ 70368744177664
 cap : p.hs.length ≤ p.c
theorem leads_ok {gl : Nat → Obj} (hG : Globs gl) (root R : List Int) (hroot : root.length = 32) (hR : R.length = 32) (ub pb : Option Addr) (uc pc : Nat) (ac : List Acc) (ps : List Pf) (hc : ac.length ≤ uc) (hpc : ps.length ≤ pc) (hps : ∀ p ∈ ps, PfIn p) (i : Nat) (x : Acc) (p : Pf) (hx : ac[i]? = some x) (hp : ps[i]? = some p) (hi : i < ac.length) (hj : i < ps.length) : SpecV (cx gl) 57 [.agg (ints .u8 (root)).toArray, .agg (wiC R (.slice ub ac.length uc) (.slice pb ps.length pc)).toArray, .int .i64 (i : Int)] (fun w => WitRow w ub ac pb ps) (.tuple #[.agg (ints .u8 (pD x p)).toArray, .int .i64 (leadE root R x p)]) := by
 refine Spec.enter (C := cx gl) Tryz.func57 rfl 37 rfl rfl fun w0 h0 hsep hsub hpre => ?_
 obtain rfl : h0 = Heap.none := hsep
 show St (cx gl) _ [(0, .agg (ints .u8 (root)).toArray), (1, .agg (wiC R (.slice ub ac.length uc) (.slice pb ps.length pc)).toArray), (2, .int .i64 (i : Int))] _ _
 obtain ⟨p1, p2, p3⟩ := hpre
 obtain ⟨ab, aj, rfl, har⟩ := p1.some_ (by rw [rc_length]; show 0 < _ * 5; omega)
 obtain ⟨qb, qj, rfl, hqr⟩ := p2.some_ (by rw [rc_length]; show 0 < _ * 3; omega)
 have hpm := List.mem_of_getElem? hp
 obtain ⟨g1, g2, g3⟩ := hps p hpm
 have hfl := formB_length x
 refine R_seq ?_
 refine R_region ?_
 refine L_op rfl (W_box (ints .u8 root) rfl rfl rfl rfl rfl fun b3 => ?_)
 refine L_op rfl (W_box (wiC R (.slice (some ⟨ab, aj, none⟩) ac.length uc) (.slice (some ⟨qb, qj, none⟩) ps.length pc)) rfl rfl rfl rfl rfl fun b4 => ?_)
 refine L_op rfl (W_alloc rfl rfl rfl ty_ze_29 fun b6 => ?_)
 refine L_val rfl rfl rfl (OpP.v (P_assign rfl rfl)) ?_
 refine L_nil ?_
 refine St.env (.cons (t := 2) rfl (.cons (t := 3) rfl (.cons (t := 4) rfl (.cons (t := 6) rfl (.cons (t := 7) rfl .nil))))) ?_
 refine Q_then ?_
 refine R_seq ?_
 refine T_open (.op 0 0 (.op 1 1 (.op 2 0 (.op 3 0 (.op 4 1 (.op 5 0 (.op 6 1 (.op 7 0 (.op 8 0 (.op 9 1 (.two 10 15 (.two 11 15 (.op 12 0 (.op 13 0 (.op 14 0 (.op 15 2 (.op 16 3 (.op 17 0 .nil)))))) (.op 11 2 (.op 12 0 (.op 13 0 (.op 14 0 (.op 16 3 (.op 17 0 .nil))))))) (.op 10 2 (.op 11 2 (.op 12 0 (.op 13 0 (.op 14 0 (.op 16 3 (.op 17 0 .nil)))))))))))))))))) mixed (by kernel_rfl) (QOk.then QOk.body) ?_
 refine T_pure rfl rfl rfl rfl (P_fld0 rfl ty_fl_32_2 rfl) ?_
 refine T_val rfl rfl rfl rfl (V_load rfl rfl ty_sc_30 (Rd.blk .h1 (wi_2 hR _ _))) ?_
 refine T_pure rfl rfl rfl rfl (P_move rfl rfl) ?_
 refine T_pure rfl rfl rfl rfl (P_ixs (i) rfl ty_sl_30 rfl rfl (by first | rfl | omega) (by omega)) ?_
 refine T_val rfl rfl rfl rfl (V_loadAgg rfl rfl ty_ag_47 (rds_rc (Rds.row hqr rfl) hp) (rfl)) ?_
 refine T_pure rfl rfl rfl rfl (P_fld0 rfl ty_fl_32_1 rfl) ?_
 refine T_val rfl rfl rfl rfl (V_load rfl rfl ty_sc_22 (Rd.blk .h1 (wi_1 hR _ _))) ?_
 refine T_pure rfl rfl rfl rfl (P_move rfl rfl) ?_
 refine T_pure rfl rfl rfl rfl (P_ixs (i) rfl ty_sl_22 rfl rfl (by first | rfl | omega) (by omega)) ?_
 refine T_val rfl rfl rfl rfl (V_loadAgg rfl rfl ty_ag_38 (rds_rc (Rds.row har rfl) hx) (rfl)) ?_
 refine T_two ?_ ?_
 ·skip
  refine T_keep rfl rfl (W_call rfl rfl rfl rfl fn_ca_118 (form_ok x) (Split.nil _) (fun _ _ _ _ _ _ _ => trivial) fun v1 rs1 (e1 : rs1 = _) => ?_)
  subst e1
  refine St.ownForm (p := []) fun ib ic hiv hic => ?_
  subst hiv
  have hic : (formB x).length ≤ ic := by omega
  rw [← hfl]
  refine K_keepT (Weak.drop (Weak.refl _)) ?_
  refine T_two ?_ ?_
  ·skip
   refine T_keep rfl rfl (W_callV rfl rfl rfl rfl fn_ca_125 (path_ok hG p.t p.i p.b p.c p.hs ib ic (formB x) g1 g3 g2 hic) (by first | exact fun w nw => ⟨(Sn.row (p3 p hpm) rfl).rw_ w nw, (Sn.own .h0 rfl).rw_ w nw⟩ | exact fun w nw => ⟨(Sn.row (p3 p hpm) rfl).rw_ w nw, (Sn.own .h1 rfl).rw_ w nw⟩) (K_keepT (Weak.refl _) ?_))
   refine T_pure rfl rfl rfl rfl (P_move rfl rfl) ?_
   refine T_pure rfl rfl rfl rfl (P_extract rfl rfl rfl) ?_
   refine T_pure rfl rfl rfl rfl (P_extract rfl rfl rfl) ?_
   refine T_keep rfl rfl (W_alloc rfl rfl rfl ty_ze_29 fun b8 => (K_keepT (Weak.drop (Weak.refl _)) ?_))
   first | (refine T_new rfl rfl (W_storeAll rfl rfl rfl rfl ty_ag_29 (by rw [ints_length, pathD_length]) (ints_one) .h0 (by first | (rw [ints_length, pathD_length]; done) | (rw [ints_length, pathD_length]; rfl)) (K_newT ?_))) | (refine T_new rfl rfl (W_storeAll rfl rfl rfl rfl ty_ag_29 (by rw [ints_length, pathD_length]) (ints_one) .h1 (by first | (rw [ints_length, pathD_length]; done) | (rw [ints_length, pathD_length]; rfl)) (K_newT ?_))) | (refine T_new rfl rfl (W_storeAll rfl rfl rfl rfl ty_ag_29 (by rw [ints_length, pathD_length]) (ints_one) .h2 (by first | (rw [ints_length, pathD_length]; done) | (rw [ints_length, pathD_length]; rfl)) (K_newT ?_))) | (refine T_new rfl rfl (W_storeAll rfl rfl rfl rfl ty_ag_29 (by rw [ints_length, pathD_length]) (ints_one) .h3 (by first | (rw [ints_length, pathD_length]; done) | (rw [ints_length, pathD_length]; rfl)) (K_newT ?_))) | (refine T_new rfl rfl (W_storeAll rfl rfl rfl rfl ty_ag_29 (by rw [ints_length, pathD_length]) (ints_one) .h4 (by first | (rw [ints_length, pathD_length]; done) | (rw [ints_length, pathD_length]; rfl)) (K_newT ?_))) | (refine T_new rfl rfl (W_storeAll rfl rfl rfl rfl ty_ag_29 (by rw [ints_length, pathD_length]) (ints_one) .h5 (by first | (rw [ints_length, pathD_length]; done) | (rw [ints_length, pathD_length]; rfl)) (K_newT ?_))) | (refine T_new rfl rfl (W_storeAll rfl rfl rfl rfl ty_ag_29 (by rw [ints_length, pathD_length]) (ints_one) .h6 (by first | (rw [ints_length, pathD_length]; done) | (rw [ints_length, pathD_length]; rfl)) (K_newT ?_))) | (refine T_new rfl rfl (W_storeAll rfl rfl rfl rfl ty_ag_29 (by rw [ints_length, pathD_length]) (ints_one) .h7 (by first | (rw [ints_length, pathD_length]; done) | (rw [ints_length, pathD_length]; rfl)) (K_newT ?_)))
   refine T_pure rfl rfl rfl rfl (P_assign rfl rfl) ?_
   refine T_nil ?_
   refine St.env (.cons (t := 3) rfl (.cons (t := 4) rfl (.cons (t := 6) rfl (.cons (t := 7) rfl (.cons (t := 8) rfl (.cons (t := 9) rfl .nil)))))) ?_
   refine Q_then ?_
   refine R_seq ?_
   refine R_seq ?_
   refine R_open [(0, 0), (1, 0), (2, 0), (3, 1), (4, 0), (5, 1), (7, 1), (6, 2), (8, 0), (9, 0)] mixed (by kernel_rfl) (QOk.then (QOk.then QOk.body)) ?_
   refine O_pure rfl rfl rfl rfl (P_move rfl rfl) ?_
   refine O_pure rfl rfl rfl rfl (P_eql rfl rfl rfl) ?_
   refine E_bool (t := 26) rfl (fun he => ?_) (fun he => ?_)
   ·skip
    have he := of_decide_eq_true he
    refine O_pure rfl rfl rfl rfl (P_move rfl rfl) ?_
    refine O_val rfl rfl rfl rfl (V_loadAgg rfl rfl ty_ag_29 (by first | exact Rds.blk .h0 | exact Rds.blk .h1) (by rw [ints_length, pathD_length])) ?_
    refine O_pure rfl rfl rfl rfl (P_fld0 rfl ty_fl_32_0 rfl) ?_
    refine O_val rfl rfl rfl rfl (V_loadAgg rfl rfl ty_ag_29 (by first | exact (Rds.blk .h2).part 0 (wi_sub hR _ _) | exact (Rds.blk .h3).part 0 (wi_sub hR _ _)) (by rw [ints_length, hR])) ?_
    refine O_val rfl rfl rfl rfl (V_loadAgg rfl rfl ty_ag_29 (by first | exact Rds.blk .h3 | exact Rds.blk .h4) (by rw [ints_length, hroot])) ?_
    refine O_keep rfl rfl (W_callV rfl rfl rfl rfl fn_ca_53 (inner_ok hG (pD x p) R (pD_length _ _) hR) (fun _ _ => trivial) (K_keep (Weak.refl _) ?_))
    refine O_pure rfl rfl rfl rfl (P_neArr rfl rfl rfl ty_un_29 ty_int_5 ty_sc_5 ty_eg_29 (sha_length _) (hroot)) ?_
    refine O_pure rfl rfl rfl rfl (P_pick rfl rfl rfl) ?_
    refine O_nil ?_
    refine St.env (.cons (t := 6) rfl (.cons (t := 7) rfl (.cons (t := 8) rfl (.cons (t := 9) rfl (.cons (t := 34) rfl .nil))))) ?_
    refine Q_then ?_
    refine R_condP rfl (fun hn => ?_) (fun hn => ?_)
    ·skip
     refine R_region ?_
     refine L_val rfl rfl rfl (OpP.v (P_assign rfl rfl)) ?_
     refine L_nil ?_
     refine St.env (.cons (t := 6) rfl (.cons (t := 7) rfl (.cons (t := 8) rfl (.cons (t := 9) rfl .nil)))) ?_
     refine Q_then ?_
     refine R_seq ?_
     refine R_region ?_
     refine L_val rfl rfl rfl (V_loadAgg rfl rfl ty_ag_29 (by first | exact Rds.blk .h0 | exact Rds.blk .h1) (by rw [ints_length, pathD_length])) ?_
     refine L_val rfl rfl rfl (OpP.v (P_move rfl rfl)) ?_
     refine L_op rfl (W_storeAll rfl rfl rfl rfl ty_ag_29 (by rw [ints_length, pathD_length]) (ints_one) .h2 (by first | (rw [ints_length, pathD_length]; done) | (rw [ints_length, pathD_length]; rfl)) ?_)
     refine L_val rfl rfl rfl (OpP.v (P_assign rfl rfl)) ?_
     refine L_nil ?_
     refine St.env (.cons (t := 6) rfl (.cons (t := 7) rfl .nil)) ?_
     refine Q_then ?_
     refine R_ret ?_
     exact R_endV rfl rfl (.cell rfl (Rds.loadVar ty_ag_29 (Rds.blk .h2) (by rw [ints_length, pathD_length])) (.tmp rfl .nil)) (by unfold leadE pE pD; first | (rw [if_pos ⟨he, hn⟩]; rfl) | (rw [if_neg (fun h9 => hn h9.2)]; rfl) | (rw [if_neg (fun h9 => he h9.1)]; rfl))
    ·skip
     refine R_skip ?_
     refine Q_then ?_
     refine R_seq ?_
     refine R_region ?_
     refine L_val rfl rfl rfl (V_loadAgg rfl rfl ty_ag_29 (by first | exact Rds.blk .h0 | exact Rds.blk .h1) (by rw [ints_length, pathD_length])) ?_
     refine L_val rfl rfl rfl (OpP.v (P_move rfl rfl)) ?_
     refine L_op rfl (W_storeAll rfl rfl rfl rfl ty_ag_29 (by rw [ints_length, pathD_length]) (ints_one) .h2 (by first | (rw [ints_length, pathD_length]; done) | (rw [ints_length, pathD_length]; rfl)) ?_)
     refine L_val rfl rfl rfl (OpP.v (P_assign rfl rfl)) ?_
     refine L_nil ?_
     refine St.env (.cons (t := 6) rfl (.cons (t := 7) rfl .nil)) ?_
     refine Q_then ?_
     refine R_ret ?_
     exact R_endV rfl rfl (.cell rfl (Rds.loadVar ty_ag_29 (Rds.blk .h2) (by rw [ints_length, pathD_length])) (.tmp rfl .nil)) (by unfold leadE pE pD; first | (rw [if_pos ⟨he, hn⟩]; rfl) | (rw [if_neg (fun h9 => hn h9.2)]; rfl) | (rw [if_neg (fun h9 => he h9.1)]; rfl))
   ·skip
    have he := of_decide_eq_false he
    refine O_pure rfl rfl rfl rfl (P_move rfl rfl) ?_
    refine O_noX rfl rfl rfl rfl ?_
    refine O_no rfl rfl rfl rfl ?_
    refine O_noX rfl rfl rfl rfl ?_
    refine O_noX rfl rfl rfl rfl ?_
    refine O_no2 rfl rfl rfl rfl ?_
    refine O_no rfl rfl rfl rfl ?_
    refine O_pure rfl rfl rfl rfl (P_pick rfl rfl rfl) ?_
    refine O_nil ?_
    refine St.env (.cons (t := 6) rfl (.cons (t := 7) rfl (.cons (t := 8) rfl (.cons (t := 9) rfl (.cons (t := 34) rfl .nil))))) ?_
    refine Q_then ?_
    refine R_condF rfl ?_
    refine R_skip ?_
    refine Q_then ?_
    refine R_seq ?_
    refine R_region ?_
    refine L_val rfl rfl rfl (V_loadAgg rfl rfl ty_ag_29 (by first | exact Rds.blk .h0 | exact Rds.blk .h1) (by rw [ints_length, pathD_length])) ?_
    refine L_val rfl rfl rfl (OpP.v (P_move rfl rfl)) ?_
    refine L_op rfl (W_storeAll rfl rfl rfl rfl ty_ag_29 (by rw [ints_length, pathD_length]) (ints_one) .h2 (by first | (rw [ints_length, pathD_length]; done) | (rw [ints_length, pathD_length]; rfl)) ?_)
    refine L_val rfl rfl rfl (OpP.v (P_assign rfl rfl)) ?_
    refine L_nil ?_
    refine St.env (.cons (t := 6) rfl (.cons (t := 7) rfl .nil)) ?_
    refine Q_then ?_
    refine R_ret ?_
    exact R_endV rfl rfl (.cell rfl (Rds.loadVar ty_ag_29 (Rds.blk .h2) (by rw [ints_length, pathD_length])) (.tmp rfl .nil)) (by unfold leadE pE pD; first | (rw [if_pos ⟨he, hn⟩]; rfl) | (rw [if_neg (fun h9 => hn h9.2)]; rfl) | (rw [if_neg (fun h9 => he h9.1)]; rfl))
  ·skip
   refine T_keep rfl rfl (W_alloc rfl rfl rfl ty_ze_29 fun b8 => (K_keepT (Weak.drop (Weak.refl _)) ?_))
   refine T_keep rfl rfl (W_callV rfl rfl rfl rfl fn_ca_125 (path_ok hG p.t p.i p.b p.c p.hs ib ic (formB x) g1 g3 g2 hic) (by first | exact fun w nw => ⟨(Sn.row (p3 p hpm) rfl).rw_ w nw, (Sn.own .h0 rfl).rw_ w nw⟩ | exact fun w nw => ⟨(Sn.row (p3 p hpm) rfl).rw_ w nw, (Sn.own .h1 rfl).rw_ w nw⟩) (K_keepT (Weak.refl _) ?_))
   refine T_pure rfl rfl rfl rfl (P_move rfl rfl) ?_
   refine T_pure rfl rfl rfl rfl (P_extract rfl rfl rfl) ?_
   refine T_pure rfl rfl rfl rfl (P_extract rfl rfl rfl) ?_
   first | (refine T_new rfl rfl (W_storeAll rfl rfl rfl rfl ty_ag_29 (by rw [ints_length, pathD_length]) (ints_one) .h0 (by first | (rw [ints_length, pathD_length]; done) | (rw [ints_length, pathD_length]; rfl)) (K_newT ?_))) | (refine T_new rfl rfl (W_storeAll rfl rfl rfl rfl ty_ag_29 (by rw [ints_length, pathD_length]) (ints_one) .h1 (by first | (rw [ints_length, pathD_length]; done) | (rw [ints_length, pathD_length]; rfl)) (K_newT ?_))) | (refine T_new rfl rfl (W_storeAll rfl rfl rfl rfl ty_ag_29 (by rw [ints_length, pathD_length]) (ints_one) .h2 (by first | (rw [ints_length, pathD_length]; done) | (rw [ints_length, pathD_length]; rfl)) (K_newT ?_))) | (refine T_new rfl rfl (W_storeAll rfl rfl rfl rfl ty_ag_29 (by rw [ints_length, pathD_length]) (ints_one) .h3 (by first | (rw [ints_length, pathD_length]; done) | (rw [ints_length, pathD_length]; rfl)) (K_newT ?_))) | (refine T_new rfl rfl (W_storeAll rfl rfl rfl rfl ty_ag_29 (by rw [ints_length, pathD_length]) (ints_one) .h4 (by first | (rw [ints_length, pathD_length]; done) | (rw [ints_length, pathD_length]; rfl)) (K_newT ?_))) | (refine T_new rfl rfl (W_storeAll rfl rfl rfl rfl ty_ag_29 (by rw [ints_length, pathD_length]) (ints_one) .h5 (by first | (rw [ints_length, pathD_length]; done) | (rw [ints_length, pathD_length]; rfl)) (K_newT ?_))) | (refine T_new rfl rfl (W_storeAll rfl rfl rfl rfl ty_ag_29 (by rw [ints_length, pathD_length]) (ints_one) .h6 (by first | (rw [ints_length, pathD_length]; done) | (rw [ints_length, pathD_length]; rfl)) (K_newT ?_))) | (refine T_new rfl rfl (W_storeAll rfl rfl rfl rfl ty_ag_29 (by rw [ints_length, pathD_length]) (ints_one) .h7 (by first | (rw [ints_length, pathD_length]; done) | (rw [ints_length, pathD_length]; rfl)) (K_newT ?_)))
   refine T_pure rfl rfl rfl rfl (P_assign rfl rfl) ?_
   refine T_nil ?_
   refine St.env (.cons (t := 3) rfl (.cons (t := 4) rfl (.cons (t := 6) rfl (.cons (t := 7) rfl (.cons (t := 8) rfl (.cons (t := 9) rfl .nil)))))) ?_
   refine Q_then ?_
   refine R_seq ?_
   refine R_seq ?_
   refine R_open [(0, 0), (1, 0), (2, 0), (3, 1), (4, 0), (5, 1), (7, 1), (6, 2), (8, 0), (9, 0)] mixed (by kernel_rfl) (QOk.then (QOk.then QOk.body)) ?_
   refine O_pure rfl rfl rfl rfl (P_move rfl rfl) ?_
   refine O_pure rfl rfl rfl rfl (P_eql rfl rfl rfl) ?_
   refine E_bool (t := 26) rfl (fun he => ?_) (fun he => ?_)
   ·skip
    have he := of_decide_eq_true he
    refine O_pure rfl rfl rfl rfl (P_move rfl rfl) ?_
    refine O_val rfl rfl rfl rfl (V_loadAgg rfl rfl ty_ag_29 (by first | exact Rds.blk .h0 | exact Rds.blk .h1) (by rw [ints_length, pathD_length])) ?_
    refine O_pure rfl rfl rfl rfl (P_fld0 rfl ty_fl_32_0 rfl) ?_
    refine O_val rfl rfl rfl rfl (V_loadAgg rfl rfl ty_ag_29 (by first | exact (Rds.blk .h2).part 0 (wi_sub hR _ _) | exact (Rds.blk .h3).part 0 (wi_sub hR _ _)) (by rw [ints_length, hR])) ?_
    refine O_val rfl rfl rfl rfl (V_loadAgg rfl rfl ty_ag_29 (by first | exact Rds.blk .h3 | exact Rds.blk .h4) (by rw [ints_length, hroot])) ?_
    refine O_keep rfl rfl (W_callV rfl rfl rfl rfl fn_ca_53 (inner_ok hG (pD x p) R (pD_length _ _) hR) (fun _ _ => trivial) (K_keep (Weak.refl _) ?_))
    refine O_pure rfl rfl rfl rfl (P_neArr rfl rfl rfl ty_un_29 ty_int_5 ty_sc_5 ty_eg_29 (sha_length _) (hroot)) ?_
    refine O_pure rfl rfl rfl rfl (P_pick rfl rfl rfl) ?_
    refine O_nil ?_
    refine St.env (.cons (t := 6) rfl (.cons (t := 7) rfl (.cons (t := 8) rfl (.cons (t := 9) rfl (.cons (t := 34) rfl .nil))))) ?_
    refine Q_then ?_
    refine R_condP rfl (fun hn => ?_) (fun hn => ?_)
    ·skip
     refine R_region ?_
     refine L_val rfl rfl rfl (OpP.v (P_assign rfl rfl)) ?_
     refine L_nil ?_
     refine St.env (.cons (t := 6) rfl (.cons (t := 7) rfl (.cons (t := 8) rfl (.cons (t := 9) rfl .nil)))) ?_
     refine Q_then ?_
     refine R_seq ?_
     refine R_region ?_
     refine L_val rfl rfl rfl (V_loadAgg rfl rfl ty_ag_29 (by first | exact Rds.blk .h0 | exact Rds.blk .h1) (by rw [ints_length, pathD_length])) ?_
     refine L_val rfl rfl rfl (OpP.v (P_move rfl rfl)) ?_
     refine L_op rfl (W_storeAll rfl rfl rfl rfl ty_ag_29 (by rw [ints_length, pathD_length]) (ints_one) .h2 (by first | (rw [ints_length, pathD_length]; done) | (rw [ints_length, pathD_length]; rfl)) ?_)
     refine L_val rfl rfl rfl (OpP.v (P_assign rfl rfl)) ?_
     refine L_nil ?_
     refine St.env (.cons (t := 6) rfl (.cons (t := 7) rfl .nil)) ?_
     refine Q_then ?_
     refine R_ret ?_
     exact R_endV rfl rfl (.cell rfl (Rds.loadVar ty_ag_29 (Rds.blk .h2) (by rw [ints_length, pathD_length])) (.tmp rfl .nil)) (by unfold leadE pE pD; first | (rw [if_pos ⟨he, hn⟩]; rfl) | (rw [if_neg (fun h9 => hn h9.2)]; rfl) | (rw [if_neg (fun h9 => he h9.1)]; rfl))
    ·skip
     refine R_skip ?_
     refine Q_then ?_
     refine R_seq ?_
     refine R_region ?_
     refine L_val rfl rfl rfl (V_loadAgg rfl rfl ty_ag_29 (by first | exact Rds.blk .h0 | exact Rds.blk .h1) (by rw [ints_length, pathD_length])) ?_
     refine L_val rfl rfl rfl (OpP.v (P_move rfl rfl)) ?_
     refine L_op rfl (W_storeAll rfl rfl rfl rfl ty_ag_29 (by rw [ints_length, pathD_length]) (ints_one) .h2 (by first | (rw [ints_length, pathD_length]; done) | (rw [ints_length, pathD_length]; rfl)) ?_)
     refine L_val rfl rfl rfl (OpP.v (P_assign rfl rfl)) ?_
     refine L_nil ?_
     refine St.env (.cons (t := 6) rfl (.cons (t := 7) rfl .nil)) ?_
     refine Q_then ?_
     refine R_ret ?_
     exact R_endV rfl rfl (.cell rfl (Rds.loadVar ty_ag_29 (Rds.blk .h2) (by rw [ints_length, pathD_length])) (.tmp rfl .nil)) (by unfold leadE pE pD; first | (rw [if_pos ⟨he, hn⟩]; rfl) | (rw [if_neg (fun h9 => hn h9.2)]; rfl) | (rw [if_neg (fun h9 => he h9.1)]; rfl))
   ·skip
    have he := of_decide_eq_false he
    refine O_pure rfl rfl rfl rfl (P_move rfl rfl) ?_
    refine O_noX rfl rfl rfl rfl ?_
    refine O_no rfl rfl rfl rfl ?_
    refine O_noX rfl rfl rfl rfl ?_
    refine O_noX rfl rfl rfl rfl ?_
    refine O_no2 rfl rfl rfl rfl ?_
    refine O_no rfl rfl rfl rfl ?_
    refine O_pure rfl rfl rfl rfl (P_pick rfl rfl rfl) ?_
    refine O_nil ?_
    refine St.env (.cons (t := 6) rfl (.cons (t := 7) rfl (.cons (t := 8) rfl (.cons (t := 9) rfl (.cons (t := 34) rfl .nil))))) ?_
    refine Q_then ?_
    refine R_condF rfl ?_
    refine R_skip ?_
    refine Q_then ?_
    refine R_seq ?_
    refine R_region ?_
    refine L_val rfl rfl rfl (V_loadAgg rfl rfl ty_ag_29 (by first | exact Rds.blk .h0 | exact Rds.blk .h1) (by rw [ints_length, pathD_length])) ?_
    refine L_val rfl rfl rfl (OpP.v (P_move rfl rfl)) ?_
    refine L_op rfl (W_storeAll rfl rfl rfl rfl ty_ag_29 (by rw [ints_length, pathD_length]) (ints_one) .h2 (by first | (rw [ints_length, pathD_length]; done) | (rw [ints_length, pathD_length]; rfl)) ?_)
    refine L_val rfl rfl rfl (OpP.v (P_assign rfl rfl)) ?_
    refine L_nil ?_
    refine St.env (.cons (t := 6) rfl (.cons (t := 7) rfl .nil)) ?_
    refine Q_then ?_
    refine R_ret ?_
    exact R_endV rfl rfl (.cell rfl (Rds.loadVar ty_ag_29 (Rds.blk .h2) (by rw [ints_length, pathD_length])) (.tmp rfl .nil)) (by unfold leadE pE pD; first | (rw [if_pos ⟨he, hn⟩]; rfl) | (rw [if_neg (fun h9 => hn h9.2)]; rfl) | (rw [if_neg (fun h9 => he h9.1)]; rfl))
 ·skip
  refine T_keep rfl rfl (W_alloc rfl rfl rfl ty_ze_29 fun b8 => (K_keepT (Weak.drop (Weak.refl _)) ?_))
  refine T_keep rfl rfl (W_call rfl rfl rfl rfl fn_ca_118 (form_ok x) (Split.nil _) (fun _ _ _ _ _ _ _ => trivial) fun v1 rs1 (e1 : rs1 = _) => ?_)
  subst e1
  refine St.ownForm (p := []) fun ib ic hiv hic => ?_
  subst hiv
  have hic : (formB x).length ≤ ic := by omega
  rw [← hfl]
  refine K_keepT (Weak.drop (Weak.refl _)) ?_
  refine T_keep rfl rfl (W_callV rfl rfl rfl rfl fn_ca_125 (path_ok hG p.t p.i p.b p.c p.hs ib ic (formB x) g1 g3 g2 hic) (by first | exact fun w nw => ⟨(Sn.row (p3 p hpm) rfl).rw_ w nw, (Sn.own .h0 rfl).rw_ w nw⟩ | exact fun w nw => ⟨(Sn.row (p3 p hpm) rfl).rw_ w nw, (Sn.own .h1 rfl).rw_ w nw⟩) (K_keepT (Weak.refl _) ?_))
  refine T_pure rfl rfl rfl rfl (P_move rfl rfl) ?_
  refine T_pure rfl rfl rfl rfl (P_extract rfl rfl rfl) ?_
  refine T_pure rfl rfl rfl rfl (P_extract rfl rfl rfl) ?_
  first | (refine T_new rfl rfl (W_storeAll rfl rfl rfl rfl ty_ag_29 (by rw [ints_length, pathD_length]) (ints_one) .h0 (by first | (rw [ints_length, pathD_length]; done) | (rw [ints_length, pathD_length]; rfl)) (K_newT ?_))) | (refine T_new rfl rfl (W_storeAll rfl rfl rfl rfl ty_ag_29 (by rw [ints_length, pathD_length]) (ints_one) .h1 (by first | (rw [ints_length, pathD_length]; done) | (rw [ints_length, pathD_length]; rfl)) (K_newT ?_))) | (refine T_new rfl rfl (W_storeAll rfl rfl rfl rfl ty_ag_29 (by rw [ints_length, pathD_length]) (ints_one) .h2 (by first | (rw [ints_length, pathD_length]; done) | (rw [ints_length, pathD_length]; rfl)) (K_newT ?_))) | (refine T_new rfl rfl (W_storeAll rfl rfl rfl rfl ty_ag_29 (by rw [ints_length, pathD_length]) (ints_one) .h3 (by first | (rw [ints_length, pathD_length]; done) | (rw [ints_length, pathD_length]; rfl)) (K_newT ?_))) | (refine T_new rfl rfl (W_storeAll rfl rfl rfl rfl ty_ag_29 (by rw [ints_length, pathD_length]) (ints_one) .h4 (by first | (rw [ints_length, pathD_length]; done) | (rw [ints_length, pathD_length]; rfl)) (K_newT ?_))) | (refine T_new rfl rfl (W_storeAll rfl rfl rfl rfl ty_ag_29 (by rw [ints_length, pathD_length]) (ints_one) .h5 (by first | (rw [ints_length, pathD_length]; done) | (rw [ints_length, pathD_length]; rfl)) (K_newT ?_))) | (refine T_new rfl rfl (W_storeAll rfl rfl rfl rfl ty_ag_29 (by rw [ints_length, pathD_length]) (ints_one) .h6 (by first | (rw [ints_length, pathD_length]; done) | (rw [ints_length, pathD_length]; rfl)) (K_newT ?_))) | (refine T_new rfl rfl (W_storeAll rfl rfl rfl rfl ty_ag_29 (by rw [ints_length, pathD_length]) (ints_one) .h7 (by first | (rw [ints_length, pathD_length]; done) | (rw [ints_length, pathD_length]; rfl)) (K_newT ?_)))
  refine T_pure rfl rfl rfl rfl (P_assign rfl rfl) ?_
  refine T_nil ?_
  refine St.env (.cons (t := 3) rfl (.cons (t := 4) rfl (.cons (t := 6) rfl (.cons (t := 7) rfl (.cons (t := 8) rfl (.cons (t := 9) rfl .nil)))))) ?_
  refine Q_then ?_
  refine R_seq ?_
  refine R_seq ?_
  refine R_open [(0, 0), (1, 0), (2, 0), (3, 1), (4, 0), (5, 1), (7, 1), (6, 2), (8, 0), (9, 0)] mixed (by kernel_rfl) (QOk.then (QOk.then QOk.body)) ?_
  refine O_pure rfl rfl rfl rfl (P_move rfl rfl) ?_
  refine O_pure rfl rfl rfl rfl (P_eql rfl rfl rfl) ?_
  refine E_bool (t := 26) rfl (fun he => ?_) (fun he => ?_)
  ·skip
   have he := of_decide_eq_true he
   refine O_pure rfl rfl rfl rfl (P_move rfl rfl) ?_
   refine O_val rfl rfl rfl rfl (V_loadAgg rfl rfl ty_ag_29 (by first | exact Rds.blk .h0 | exact Rds.blk .h1) (by rw [ints_length, pathD_length])) ?_
   refine O_pure rfl rfl rfl rfl (P_fld0 rfl ty_fl_32_0 rfl) ?_
   refine O_val rfl rfl rfl rfl (V_loadAgg rfl rfl ty_ag_29 (by first | exact (Rds.blk .h2).part 0 (wi_sub hR _ _) | exact (Rds.blk .h3).part 0 (wi_sub hR _ _)) (by rw [ints_length, hR])) ?_
   refine O_val rfl rfl rfl rfl (V_loadAgg rfl rfl ty_ag_29 (by first | exact Rds.blk .h3 | exact Rds.blk .h4) (by rw [ints_length, hroot])) ?_
   refine O_keep rfl rfl (W_callV rfl rfl rfl rfl fn_ca_53 (inner_ok hG (pD x p) R (pD_length _ _) hR) (fun _ _ => trivial) (K_keep (Weak.refl _) ?_))
   refine O_pure rfl rfl rfl rfl (P_neArr rfl rfl rfl ty_un_29 ty_int_5 ty_sc_5 ty_eg_29 (sha_length _) (hroot)) ?_
   refine O_pure rfl rfl rfl rfl (P_pick rfl rfl rfl) ?_
   refine O_nil ?_
   refine St.env (.cons (t := 6) rfl (.cons (t := 7) rfl (.cons (t := 8) rfl (.cons (t := 9) rfl (.cons (t := 34) rfl .nil))))) ?_
   refine Q_then ?_
   refine R_condP rfl (fun hn => ?_) (fun hn => ?_)
   ·skip
    refine R_region ?_
    refine L_val rfl rfl rfl (OpP.v (P_assign rfl rfl)) ?_
    refine L_nil ?_
    refine St.env (.cons (t := 6) rfl (.cons (t := 7) rfl (.cons (t := 8) rfl (.cons (t := 9) rfl .nil)))) ?_
    refine Q_then ?_
    refine R_seq ?_
    refine R_region ?_
    refine L_val rfl rfl rfl (V_loadAgg rfl rfl ty_ag_29 (by first | exact Rds.blk .h0 | exact Rds.blk .h1) (by rw [ints_length, pathD_length])) ?_
    refine L_val rfl rfl rfl (OpP.v (P_move rfl rfl)) ?_
    refine L_op rfl (W_storeAll rfl rfl rfl rfl ty_ag_29 (by rw [ints_length, pathD_length]) (ints_one) .h2 (by first | (rw [ints_length, pathD_length]; done) | (rw [ints_length, pathD_length]; rfl)) ?_)
    refine L_val rfl rfl rfl (OpP.v (P_assign rfl rfl)) ?_
    refine L_nil ?_
    refine St.env (.cons (t := 6) rfl (.cons (t := 7) rfl .nil)) ?_
    refine Q_then ?_
    refine R_ret ?_
    exact R_endV rfl rfl (.cell rfl (Rds.loadVar ty_ag_29 (Rds.blk .h2) (by rw [ints_length, pathD_length])) (.tmp rfl .nil)) (by unfold leadE pE pD; first | (rw [if_pos ⟨he, hn⟩]; rfl) | (rw [if_neg (fun h9 => hn h9.2)]; rfl) | (rw [if_neg (fun h9 => he h9.1)]; rfl))
   ·skip
    refine R_skip ?_
    refine Q_then ?_
    refine R_seq ?_
    refine R_region ?_
    refine L_val rfl rfl rfl (V_loadAgg rfl rfl ty_ag_29 (by first | exact Rds.blk .h0 | exact Rds.blk .h1) (by rw [ints_length, pathD_length])) ?_
    refine L_val rfl rfl rfl (OpP.v (P_move rfl rfl)) ?_
    refine L_op rfl (W_storeAll rfl rfl rfl rfl ty_ag_29 (by rw [ints_length, pathD_length]) (ints_one) .h2 (by first | (rw [ints_length, pathD_length]; done) | (rw [ints_length, pathD_length]; rfl)) ?_)
    refine L_val rfl rfl rfl (OpP.v (P_assign rfl rfl)) ?_
    refine L_nil ?_
    refine St.env (.cons (t := 6) rfl (.cons (t := 7) rfl .nil)) ?_
    refine Q_then ?_
    refine R_ret ?_
    exact R_endV rfl rfl (.cell rfl (Rds.loadVar ty_ag_29 (Rds.blk .h2) (by rw [ints_length, pathD_length])) (.tmp rfl .nil)) (by unfold leadE pE pD; first | (rw [if_pos ⟨he, hn⟩]; rfl) | (rw [if_neg (fun h9 => hn h9.2)]; rfl) | (rw [if_neg (fun h9 => he h9.1)]; rfl))
  ·skip
   have he := of_decide_eq_false he
   refine O_pure rfl rfl rfl rfl (P_move rfl rfl) ?_
   refine O_noX rfl rfl rfl rfl ?_
   refine O_no rfl rfl rfl rfl ?_
   refine O_noX rfl rfl rfl rfl ?_
   refine O_noX rfl rfl rfl rfl ?_
   refine O_no2 rfl rfl rfl rfl ?_
   refine O_no rfl rfl rfl rfl ?_
   refine O_pure rfl rfl rfl rfl (P_pick rfl rfl rfl) ?_
   refine O_nil ?_
   refine St.env (.cons (t := 6) rfl (.cons (t := 7) rfl (.cons (t := 8) rfl (.cons (t := 9) rfl (.cons (t := 34) rfl .nil))))) ?_
   refine Q_then ?_
   refine R_condF rfl ?_
   refine R_skip ?_
   refine Q_then ?_
   refine R_seq ?_
   refine R_region ?_
   refine L_val rfl rfl rfl (V_loadAgg rfl rfl ty_ag_29 (by first | exact Rds.blk .h0 | exact Rds.blk .h1) (by rw [ints_length, pathD_length])) ?_
   refine L_val rfl rfl rfl (OpP.v (P_move rfl rfl)) ?_
   refine L_op rfl (W_storeAll rfl rfl rfl rfl ty_ag_29 (by rw [ints_length, pathD_length]) (ints_one) .h2 (by first | (rw [ints_length, pathD_length]; done) | (rw [ints_length, pathD_length]; rfl)) ?_)
   refine L_val rfl rfl rfl (OpP.v (P_assign rfl rfl)) ?_
   refine L_nil ?_
   refine St.env (.cons (t := 6) rfl (.cons (t := 7) rfl .nil)) ?_
   refine Q_then ?_
   refine R_ret ?_
   exact R_endV rfl rfl (.cell rfl (Rds.loadVar ty_ag_29 (Rds.blk .h2) (by rw [ints_length, pathD_length])) (.tmp rfl .nil)) (by unfold leadE pE pD; first | (rw [if_pos ⟨he, hn⟩]; rfl) | (rw [if_neg (fun h9 => hn h9.2)]; rfl) | (rw [if_neg (fun h9 => he h9.1)]; rfl))
end Go.Proofs.YtfhjhaogmdaepaaGreatDoor
