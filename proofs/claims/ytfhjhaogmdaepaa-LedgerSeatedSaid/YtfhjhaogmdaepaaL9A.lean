/- The reference: accounts, sums, rows, places. Printed by gen.py. -/
import Derived.Test.YtfhjhaogmdaepaaL8D
set_option linter.unusedVariables false
set_option linter.unusedSimpArgs false
set_option maxRecDepth 100000
namespace Go.Proofs.Ytfhjhaogmdaepaa
open Go Go.RowKit Go.Proofs
def raccE (l : List Acc) : Int := if 65536 < l.length then 86 else accE l
/-- Balances and bonds, one by one. -/
def sumL (l : List Acc) : List Int := l.flatMap fun x => [x.bal, x.bond]
theorem sumL_snoc {l : List Acc} {i : Nat} {x : Acc} (h : l[i]? = some x) : sumL (l.take (i + 1)) = sumL (l.take i) ++ [x.bal, x.bond] := by
  unfold sumL; rw [List.take_add_one, h, List.flatMap_append]; rfl
theorem sumL_sum (l : List Acc) : (sumL l).sum = sumA l := by
  induction l with
  | nil => rfl
  | cons x l ih => rw [sumA_cons, ← ih]; show x.bal + (x.bond + (sumL l).sum) = _; omega
theorem sumL_nn {l : List Acc} (h : ∀ x ∈ l, x.ok) : ∀ y ∈ sumL l, 0 ≤ y := by
  intro y hy
  obtain ⟨x, hx, hy⟩ := List.mem_flatMap.1 hy
  simp only [List.mem_cons, List.not_mem_nil, or_false] at hy
  obtain ⟨_, ⟨h2, _⟩, ⟨h3, _⟩, _⟩ := h x hx
  rcases hy with rfl | rfl <;> assumption
theorem amts_nn {l : List Rel} (h : ∀ x ∈ l, x.ok) : ∀ y ∈ l.map Rel.amt, 0 ≤ y := by
  intro y hy
  obtain ⟨x, hx, rfl⟩ := List.mem_map.1 hy
  exact (h x hx).2.2.2.1
theorem amts_snoc {l : List Rel} {i : Nat} {x : Rel} (h : l[i]? = some x) : (l.take (i + 1)).map Rel.amt = (l.take i).map Rel.amt ++ [x.amt] := by
  rw [List.take_add_one, h, List.map_append]; rfl
theorem addC_nn {t x : Int} (ht : 0 ≤ t) (hx : 0 ≤ x) : 0 ≤ addC t x := by
  unfold addC; split
  · decide
  · omega
theorem capF_nn : ∀ (l : List Int) (t : Int), (∀ x ∈ l, 0 ≤ x) → 0 ≤ t → 0 ≤ capF t l
  | [], _, _, h => h
  | x :: l, t, hl, h => capF_nn l _ (fun y hy => hl y (by simp [hy])) (addC_nn h (hl x (by simp)))
/-- What the document's sum answers. -/
def totC (l : List Acc) (r : List Rel) (bu : Int) : Int := capF (capF (addC 0 bu) (sumL l)) (r.map Rel.amt)
theorem totC_spec {l : List Acc} {r : List Rel} {bu : Int} (hl : ∀ x ∈ l, x.ok) (hr : ∀ x ∈ r, x.ok) (hb : 0 ≤ bu) : (totC l r bu ≤ MS ↔ bu + sumA l + sumR r ≤ MS) ∧ (totC l r bu ≤ MS → totC l r bu = bu + sumA l + sumR r) := by
  have h := capF_spec (l := bu :: (sumL l ++ r.map Rel.amt)) (fun x hx => by
    rcases List.mem_cons.1 hx with rfl | hx
    · exact hb
    · rcases List.mem_append.1 hx with hx | hx
      · exact sumL_nn hl x hx
      · exact amts_nn hr x hx) 0 (Int.le_refl _)
  have e : capF 0 (bu :: (sumL l ++ r.map Rel.amt)) = totC l r bu := by
    show capF (addC 0 bu) (sumL l ++ r.map Rel.amt) = _
    rw [capF_app]; rfl
  have e2 : (0 : Int) + (bu :: (sumL l ++ r.map Rel.amt)).sum = bu + sumA l + sumR r := by
    rw [List.sum_cons, List.sum_append, sumL_sum]; show 0 + (bu + (sumA l + sumR r)) = _; omega
  rw [e, e2] at h
  exact h
theorem laterB_no (x y : Rel) : laterB x y = false ↔ ¬ (y.h < x.h ∨ (x.h = y.h ∧ y.a < x.a)) := by
  unfold laterB
  rw [← Bool.not_eq_true, Bool.or_eq_true, Bool.and_eq_true, decide_eq_true_eq, decide_eq_true_eq, decide_eq_true_eq]
def isAz (a : Int) (x : Acc) : Bool := decide (x.a = a) && decide (a ≠ 0)
theorem isAz_idx (l : List Acc) (a : Int) : idxG (isAz a) l = if a = 0 then -1 else idxG (isAc a) l := by
  split
  · rename_i h
    exact idxG_none fun j m' _ _ => by unfold isAz; rw [decide_eq_false (p := a ≠ 0) (fun h9 => h9 h), Bool.and_false]
  · rename_i h
    have : isAz a = isAc a := by funext x; unfold isAz isAc; rw [decide_eq_true h, Bool.and_true]
    rw [this]
def findA (l : List Acc) (a : Int) : Acc := if idxG (isAc a) l < 0 then acc0 else accAt l (idxG (isAc a) l).toNat
theorem findA_at {l : List Acc} {a : Int} {i : Nat} (h : idxG (isAc a) l = (i : Int)) : findA l a = accAt l i := by
  unfold findA; rw [if_neg (by omega), h]; rfl
theorem findA_no {l : List Acc} {a : Int} (h : idxG (isAc a) l = -1) : findA l a = acc0 := by unfold findA; rw [if_pos (by omega)]
theorem radd_ok {gl : Nat → Obj} (t x : Int) (ht : 0 ≤ t) (hx : 0 ≤ x) : SpecV (cx gl) 38 [.int .u64 t, .int .u64 x] noPre (.int .u64 (addC t x)) := by
  refine Spec.enter (C := cx gl) Try.func38 rfl 14 rfl rfl fun w0 h0 hsep hsub hpre => ?_
  obtain rfl : h0 = Heap.none := hsep
  show St (cx gl) _ [(0, .int .u64 t), (1, .int .u64 x)] _ _
  have hms : MS = 1152921504606846975 := rfl
  refine R_seq ?_
  refine R_region ?_
  refine L_val rfl rfl rfl (OpP.v (P_assign rfl rfl)) ?_
  refine L_nil ?_
  refine Q_then ?_
  refine R_seq ?_
  refine R_seq ?_
  refine R_region ?_
  refine L_val rfl rfl rfl (OpP.v (P_move rfl rfl)) ?_
  refine L_val rfl rfl rfl (OpP.v (P_gtr rfl rfl rfl)) ?_
  refine E_bool (t := 6) rfl (fun q1 => ?_) (fun q1 => ?_)
  · skip
    have q1 := of_decide_eq_true q1
    refine L_val rfl rfl rfl (OpP.v (P_move rfl rfl)) ?_
    refine L_no rfl rfl rfl ?_
    refine L_no rfl rfl rfl ?_
    refine L_val rfl rfl rfl (OpP.v (P_pick rfl rfl rfl)) ?_
    refine L_nil ?_
    refine St.env (.cons (t := 0) rfl (.cons (t := 1) rfl (.cons (t := 4) rfl (.cons (t := 10) rfl .nil)))) ?_
    refine Q_then ?_
    refine R_condT rfl ?_
    refine R_seq ?_
    refine R_region ?_
    refine L_val rfl rfl rfl (OpP.v (P_assign rfl rfl)) ?_
    refine L_nil ?_
    refine St.env (.cons (t := 0) rfl (.cons (t := 1) rfl (.cons (t := 4) rfl .nil))) ?_
    refine Q_then ?_
    refine R_ret ?_
    refine Q_then_ret ?_
    exact R_endV rfl rfl (.tmp rfl .nil) (by unfold addC; rw [if_pos (by rw [hms]; omega)]; rfl)
  · skip
    have q1 := of_decide_eq_false q1
    refine L_val rfl rfl rfl (OpP.v (P_move rfl rfl)) ?_
    refine L_val rfl rfl rfl (OpP.v (P_move rfl rfl)) ?_
    refine L_val rfl rfl rfl (OpP.v (P_gtr rfl rfl rfl)) ?_
    refine L_val rfl rfl rfl (OpP.v (P_pick rfl rfl rfl)) ?_
    refine L_nil ?_
    refine St.env (.cons (t := 0) rfl (.cons (t := 1) rfl (.cons (t := 4) rfl (.cons (t := 10) rfl .nil)))) ?_
    refine Q_then ?_
    refine R_condP rfl (fun q2 => ?_) (fun q2 => ?_)
    · skip
      refine R_seq ?_
      refine R_region ?_
      refine L_val rfl rfl rfl (OpP.v (P_assign rfl rfl)) ?_
      refine L_nil ?_
      refine St.env (.cons (t := 0) rfl (.cons (t := 1) rfl (.cons (t := 4) rfl .nil))) ?_
      refine Q_then ?_
      refine R_ret ?_
      refine Q_then_ret ?_
      exact R_endV rfl rfl (.tmp rfl .nil) (by unfold addC; rw [if_pos (by rw [hms]; omega)]; rfl)
    · skip
      refine R_skip ?_
      refine Q_then ?_
      refine R_seq ?_
      refine R_region ?_
      refine L_val rfl rfl rfl (OpP.v (P_move rfl rfl)) ?_
      refine L_val rfl rfl rfl (OpP.v (P_move rfl rfl)) ?_
      refine L_val rfl rfl rfl (OpP.v (P_addN rfl rfl rfl (by simp only [fits]; omega))) ?_
      refine L_val rfl rfl rfl (OpP.v (P_assign rfl rfl)) ?_
      refine L_nil ?_
      refine St.env (.cons (t := 4) rfl .nil) ?_
      refine Q_then ?_
      refine R_ret ?_
      exact R_endV rfl rfl (.tmp rfl .nil) (by unfold addC; rw [if_neg (by rw [hms]; omega)]; rfl)
theorem racc_ok {gl : Nat → Obj} (base : Option Addr) (c : Nat) (l : List Acc) (hc : l.length ≤ c) (hm : l.length ≤ 3518437208883) : SpecV (cx gl) 22 [.slice base l.length c] (fun w => Row w base (rc l)) (.int .i64 (raccE l)) := by
  refine Spec.enter (C := cx gl) Try.func22 rfl 49 rfl rfl fun w0 h0 hsep hsub hpre => ?_
  obtain rfl : h0 = Heap.none := hsep
  show St (cx gl) _ [(0, .slice base l.length c)] _ _
  have hms : MS = 1152921504606846975 := rfl
  refine R_seq ?_
  refine R_region ?_
  refine L_val rfl rfl rfl (OpP.v (P_assign rfl rfl)) ?_
  refine L_nil ?_
  refine Q_then ?_
  refine R_seq ?_
  refine R_seq ?_
  refine R_region ?_
  refine L_val rfl rfl rfl (OpP.v (P_move rfl rfl)) ?_
  refine L_val rfl rfl rfl (OpP.v (P_len rfl ty_sl_22 rfl)) ?_
  refine L_val rfl rfl rfl (OpP.v (P_gtr rfl rfl rfl)) ?_
  refine L_nil ?_
  refine St.env (.cons (t := 0) rfl (.cons (t := 2) rfl (.cons (t := 6) rfl .nil))) ?_
  refine Q_then ?_
  refine R_condP rfl (fun hbig => ?_) (fun hbig => ?_)
  · skip
    refine R_seq ?_
    refine R_region ?_
    refine L_val rfl rfl rfl (OpP.v (P_assign rfl rfl)) ?_
    refine L_nil ?_
    refine St.env (.cons (t := 0) rfl (.cons (t := 2) rfl .nil)) ?_
    refine Q_then ?_
    refine R_ret ?_
    refine Q_then_ret ?_
    exact R_endV rfl rfl (.tmp rfl .nil) (by unfold raccE; rw [if_pos (by omega)]; rfl)
  · skip
    have hbig : ¬ 65536 < l.length := by omega
    refine R_skip ?_
    refine Q_then ?_
    refine R_seq ?_
    refine R_seq ?_
    refine R_region ?_
    refine L_val rfl rfl rfl (OpP.v (P_assign rfl rfl)) ?_
    refine L_nil ?_
    refine St.env (.cons (t := 0) rfl (.cons (t := 2) rfl (.cons (t := 3) rfl .nil))) ?_
    refine Q_then ?_
    refine R_block ?_
    refine R_loopE (G := Nat) (.cons (t := 0) rfl (.cons (t := 2) rfl .nil)) (fun g => [(3, .int .i64 (g : Int))]) (fun _ => _) (fun g => g ≤ l.length ∧ firstE (accBad l) g = 0) (fun g => l.length - g) (0) (by show (0) ≤ l.length ∧ firstE (accBad l) (0) = 0; exact ⟨Nat.zero_le _, rfl⟩) (by repeat (first | exact .nil | refine .cons rfl ?_ | refine .consE rfl (by first | rfl | (congr 1; omega) | (congr 1; push_cast; omega)) ?_)) (Weak.refl _) ?_
    intro i hinv
    replace hinv : i ≤ l.length ∧ firstE (accBad l) i = 0 := hinv
    show St (cx gl) _ ((3, .int .i64 (i : Int)) :: _) _ _
    obtain ⟨hi, h0⟩ := hinv
    refine R_seq ?_
    refine R_seq ?_
    refine R_region ?_
    refine L_val rfl rfl rfl (OpP.v (P_move rfl rfl)) ?_
    refine L_val rfl rfl rfl (OpP.v (P_move rfl rfl)) ?_
    refine L_val rfl rfl rfl (OpP.v (P_len rfl ty_sl_22 rfl)) ?_
    refine L_val rfl rfl rfl (OpP.v (P_lss rfl rfl rfl)) ?_
    refine L_nil ?_
    refine Q_then ?_
    refine R_condP rfl (fun hlt => ?_) (fun hlt => ?_)
    · skip
      have hx0 := accAt_get (l := l) (i := i) (by omega)
      obtain ⟨x, ex⟩ : ∃ x, x = accAt l i := ⟨_, rfl⟩
      have hx : l[i]? = some x := by rw [ex]; exact hx0
      obtain ⟨pb, pj, rfl, hrow⟩ := hpre.some_ (by rw [rc_length]; show 0 < _ * 5; omega)
      refine R_skip ?_
      refine Q_then ?_
      refine R_seq ?_
      refine R_block ?_
      refine R_seq ?_
      refine R_seq ?_
      refine R_region ?_
      refine L_val rfl rfl rfl (OpP.v (P_move rfl rfl)) ?_
      refine L_val rfl rfl rfl (OpP.v (P_move rfl rfl)) ?_
      refine L_val rfl rfl rfl (OpP.v (P_ixs (i) rfl ty_sl_22 rfl rfl (by first | rfl | omega) (by omega))) ?_
      refine L_val rfl rfl rfl (OpP.v (P_fld rfl ty_fl_39_0 rfl)) ?_
      refine L_val rfl rfl rfl (V_load rfl rfl ty_sc_35 (rd_rc (Rds.row hrow rfl) hx rfl)) ?_
      refine L_val rfl rfl rfl (OpP.v (P_eql rfl rfl rfl)) ?_
      refine L_nil ?_
      refine Q_then ?_
      refine R_condP rfl (fun ha => ?_) (fun ha => ?_)
      · skip
        refine R_seq ?_
        refine R_region ?_
        refine L_val rfl rfl rfl (OpP.v (P_assign rfl rfl)) ?_
        refine L_nil ?_
        refine Q_then ?_
        refine R_ret ?_
        refine Q_then_ret ?_
        refine Q_block_ret ?_
        refine Q_then_ret ?_
        refine Q_then_ret ?_
        refine Q_block_ret ?_
        refine Q_then_ret ?_
        exact R_endV rfl rfl (.tmp rfl .nil) (by unfold raccE; rw [if_neg hbig, show accE l = 85 from firstE_hit h0 (show accBad l i = 85 by unfold accBad; rw [← ex]; rw [if_pos ha]) (by decide) (by omega)]; rfl)
      · skip
        refine R_skip ?_
        refine Q_then ?_
        refine R_seq ?_
        refine R_seq ?_
        refine R_open [(0, 0), (1, 0), (2, 0), (3, 0), (4, 0), (5, 0), (6, 0), (7, 1), (8, 0), (9, 0), (10, 0), (11, 0), (12, 0), (13, 1), (14, 0), (15, 0)] mixed (by kernel_rfl) (QOk.then (QOk.then (QOk.block (QOk.then (QOk.then (QOk.block (QOk.then QOk.body))))))) ?_
        refine O_pure rfl rfl rfl rfl (P_move rfl rfl) ?_
        refine O_pure rfl rfl rfl rfl (P_gtr rfl rfl rfl) ?_
        refine E_bool (t := 20) rfl (fun hi0 => ?_) (fun hi0 => ?_)
        · skip
          have hi0 : 0 < i := by have := of_decide_eq_true hi0; omega
          obtain ⟨y, ey⟩ : ∃ y, y = accAt l (i - 1) := ⟨_, rfl⟩
          have hy : l[i - 1]? = some y := by rw [ey]; exact accAt_get (by omega)
          refine O_pure rfl rfl rfl rfl (P_move rfl rfl) ?_
          refine O_pure rfl rfl rfl rfl (P_move rfl rfl) ?_
          refine O_pure rfl rfl rfl rfl (P_move rfl rfl) ?_
          refine O_pure rfl rfl rfl rfl (P_ixs (i) rfl ty_sl_22 rfl rfl (by first | rfl | omega) (by omega)) ?_
          refine O_pure rfl rfl rfl rfl (P_fld rfl ty_fl_39_0 rfl) ?_
          refine O_val rfl rfl rfl rfl (V_load rfl rfl ty_sc_35 (rd_rc (Rds.row hrow rfl) hx rfl)) ?_
          refine O_pure rfl rfl rfl rfl (P_move rfl rfl) ?_
          refine O_pure rfl rfl rfl rfl (P_move rfl rfl) ?_
          first | (refine O_pure rfl rfl rfl rfl (P_subN rfl rfl rfl (by simp only [fits]; omega)) ?_) | (refine O_pure rfl rfl rfl rfl (P_sub rfl rfl rfl) ?_)
          refine O_pure rfl rfl rfl rfl (P_ixs (i - 1) rfl ty_sl_22 rfl rfl (by first | rfl | omega) (by omega)) ?_
          refine O_pure rfl rfl rfl rfl (P_fld rfl ty_fl_39_0 rfl) ?_
          refine O_val rfl rfl rfl rfl (V_load rfl rfl ty_sc_35 (rd_rc (Rds.row hrow rfl) hy rfl)) ?_
          refine O_pure rfl rfl rfl rfl (P_leq rfl rfl rfl) ?_
          refine O_pure rfl rfl rfl rfl (P_pick rfl rfl rfl) ?_
          refine O_nil ?_
          refine Q_then ?_
          refine R_condP rfl (fun hle => ?_) (fun hle => ?_)
          · skip
            refine R_seq ?_
            refine R_region ?_
            refine L_val rfl rfl rfl (OpP.v (P_assign rfl rfl)) ?_
            refine L_nil ?_
            refine Q_then ?_
            refine R_ret ?_
            refine Q_then_ret ?_
            refine Q_block_ret ?_
            refine Q_then_ret ?_
            refine Q_then_ret ?_
            refine Q_block_ret ?_
            refine Q_then_ret ?_
            exact R_endV rfl rfl (.tmp rfl .nil) (by unfold raccE; rw [if_neg hbig, show accE l = 42 from firstE_hit h0 (show accBad l i = 42 by unfold accBad; rw [← ex]; rw [if_neg ha, if_pos ⟨hi0, by rw [← ey]; exact hle⟩]) (by decide) (by omega)]; rfl)
          · skip
            have hn42 : ¬ (0 < i ∧ x.a ≤ (accAt l (i - 1)).a) := by rw [← ey]; omega
            refine R_skip ?_
            refine Q_then ?_
            refine R_seq ?_
            refine R_region ?_
            refine L_val rfl rfl rfl (OpP.v (P_move rfl rfl)) ?_
            refine L_val rfl rfl rfl (OpP.v (P_move rfl rfl)) ?_
            refine L_val rfl rfl rfl (OpP.v (P_ixs (i) rfl ty_sl_22 rfl rfl (by first | rfl | omega) (by omega))) ?_
            refine L_val rfl rfl rfl (OpP.v (P_fld rfl ty_fl_39_1 rfl)) ?_
            refine L_val rfl rfl rfl (V_load rfl rfl ty_sc_23 (rd_rc (Rds.row hrow rfl) hx rfl)) ?_
            refine L_val rfl rfl rfl (OpP.v (P_gtr rfl rfl rfl)) ?_
            refine E_bool (t := 40) rfl (fun hb => ?_) (fun hb => ?_)
            · skip
              have hb := of_decide_eq_true hb
              refine L_val rfl rfl rfl (OpP.v (P_move rfl rfl)) ?_
              refine L_no rfl rfl rfl ?_
              refine L_no rfl rfl rfl ?_
              refine L_no rfl rfl rfl ?_
              refine L_no rfl rfl rfl ?_
              refine L_no rfl rfl rfl ?_
              refine L_no rfl rfl rfl ?_
              refine L_val rfl rfl rfl (OpP.v (P_pick rfl rfl rfl)) ?_
              refine L_nil ?_
              refine Q_then ?_
              refine R_condT rfl ?_
              refine R_seq ?_
              refine R_region ?_
              refine L_val rfl rfl rfl (OpP.v (P_assign rfl rfl)) ?_
              refine L_nil ?_
              refine Q_then ?_
              refine R_ret ?_
              refine Q_block_ret ?_
              refine Q_then_ret ?_
              refine Q_then_ret ?_
              refine Q_block_ret ?_
              refine Q_then_ret ?_
              exact R_endV rfl rfl (.tmp rfl .nil) (by unfold raccE; rw [if_neg hbig, show accE l = 87 from firstE_hit h0 (show accBad l i = 87 by unfold accBad; rw [← ex]; rw [if_neg ha, if_neg hn42, if_pos (by rw [hms]; omega)]) (by decide) (by omega)]; rfl)
            · skip
              have hb := of_decide_eq_false hb
              refine L_val rfl rfl rfl (OpP.v (P_move rfl rfl)) ?_
              refine L_val rfl rfl rfl (OpP.v (P_move rfl rfl)) ?_
              refine L_val rfl rfl rfl (OpP.v (P_move rfl rfl)) ?_
              refine L_val rfl rfl rfl (OpP.v (P_ixs (i) rfl ty_sl_22 rfl rfl (by first | rfl | omega) (by omega))) ?_
              refine L_val rfl rfl rfl (OpP.v (P_fld rfl ty_fl_39_2 rfl)) ?_
              refine L_val rfl rfl rfl (V_load rfl rfl ty_sc_23 (rd_rc (Rds.row hrow rfl) hx rfl)) ?_
              refine L_val rfl rfl rfl (OpP.v (P_gtr rfl rfl rfl)) ?_
              refine L_val rfl rfl rfl (OpP.v (P_pick rfl rfl rfl)) ?_
              refine L_nil ?_
              refine Q_then ?_
              refine R_condP rfl (fun hd => ?_) (fun hd => ?_)
              · skip
                refine R_seq ?_
                refine R_region ?_
                refine L_val rfl rfl rfl (OpP.v (P_assign rfl rfl)) ?_
                refine L_nil ?_
                refine Q_then ?_
                refine R_ret ?_
                refine Q_block_ret ?_
                refine Q_then_ret ?_
                refine Q_then_ret ?_
                refine Q_block_ret ?_
                refine Q_then_ret ?_
                exact R_endV rfl rfl (.tmp rfl .nil) (by unfold raccE; rw [if_neg hbig, show accE l = 87 from firstE_hit h0 (show accBad l i = 87 by unfold accBad; rw [← ex]; rw [if_neg ha, if_neg hn42, if_pos (by rw [hms]; omega)]) (by decide) (by omega)]; rfl)
              · skip
                refine R_skip ?_
                refine Q_block ?_
                refine Q_then ?_
                refine R_region ?_
                refine L_val rfl rfl rfl (OpP.v (P_move rfl rfl)) ?_
                first | (refine L_val rfl rfl rfl (OpP.v (P_addN rfl rfl rfl (by simp only [fits]; omega))) ?_) | (refine L_val rfl rfl rfl (OpP.v (P_add rfl rfl rfl)) ?_)
                refine L_val rfl rfl rfl (OpP.v (P_assign rfl rfl)) ?_
                refine L_nil ?_
                exact Q_round (i + 1) (by show (i + 1) ≤ l.length ∧ firstE (accBad l) (i + 1) = 0; exact ⟨by omega, firstE_next h0 (by unfold accBad; rw [← ex, if_neg ha, if_neg hn42, if_neg (by rw [hms]; omega)])⟩) (by show l.length - (i + 1) < l.length - i; omega) (by repeat (first | exact .nil | refine .cons rfl ?_ | refine .consE rfl (by first | rfl | (congr 1; omega) | (congr 1; push_cast; omega)) ?_)) (Weak.refl _)
        · skip
          have hi0 : ¬ 0 < i := by have := of_decide_eq_false hi0; omega
          have hn42 : ¬ (0 < i ∧ x.a ≤ (accAt l (i - 1)).a) := by omega
          refine O_pure rfl rfl rfl rfl (P_move rfl rfl) ?_
          refine O_no rfl rfl rfl rfl ?_
          refine O_no rfl rfl rfl rfl ?_
          refine O_no rfl rfl rfl rfl ?_
          refine O_no rfl rfl rfl rfl ?_
          refine O_noX rfl rfl rfl rfl ?_
          refine O_no rfl rfl rfl rfl ?_
          refine O_no rfl rfl rfl rfl ?_
          refine O_no rfl rfl rfl rfl ?_
          refine O_no rfl rfl rfl rfl ?_
          refine O_no rfl rfl rfl rfl ?_
          refine O_noX rfl rfl rfl rfl ?_
          refine O_no rfl rfl rfl rfl ?_
          refine O_pure rfl rfl rfl rfl (P_pick rfl rfl rfl) ?_
          refine O_nil ?_
          refine Q_then ?_
          refine R_condF rfl ?_
          refine R_skip ?_
          refine Q_then ?_
          refine R_seq ?_
          refine R_region ?_
          refine L_val rfl rfl rfl (OpP.v (P_move rfl rfl)) ?_
          refine L_val rfl rfl rfl (OpP.v (P_move rfl rfl)) ?_
          refine L_val rfl rfl rfl (OpP.v (P_ixs (i) rfl ty_sl_22 rfl rfl (by first | rfl | omega) (by omega))) ?_
          refine L_val rfl rfl rfl (OpP.v (P_fld rfl ty_fl_39_1 rfl)) ?_
          refine L_val rfl rfl rfl (V_load rfl rfl ty_sc_23 (rd_rc (Rds.row hrow rfl) hx rfl)) ?_
          refine L_val rfl rfl rfl (OpP.v (P_gtr rfl rfl rfl)) ?_
          refine E_bool (t := 40) rfl (fun hb => ?_) (fun hb => ?_)
          · skip
            have hb := of_decide_eq_true hb
            refine L_val rfl rfl rfl (OpP.v (P_move rfl rfl)) ?_
            refine L_no rfl rfl rfl ?_
            refine L_no rfl rfl rfl ?_
            refine L_no rfl rfl rfl ?_
            refine L_no rfl rfl rfl ?_
            refine L_no rfl rfl rfl ?_
            refine L_no rfl rfl rfl ?_
            refine L_val rfl rfl rfl (OpP.v (P_pick rfl rfl rfl)) ?_
            refine L_nil ?_
            refine Q_then ?_
            refine R_condT rfl ?_
            refine R_seq ?_
            refine R_region ?_
            refine L_val rfl rfl rfl (OpP.v (P_assign rfl rfl)) ?_
            refine L_nil ?_
            refine Q_then ?_
            refine R_ret ?_
            refine Q_block_ret ?_
            refine Q_then_ret ?_
            refine Q_then_ret ?_
            refine Q_block_ret ?_
            refine Q_then_ret ?_
            exact R_endV rfl rfl (.tmp rfl .nil) (by unfold raccE; rw [if_neg hbig, show accE l = 87 from firstE_hit h0 (show accBad l i = 87 by unfold accBad; rw [← ex]; rw [if_neg ha, if_neg hn42, if_pos (by rw [hms]; omega)]) (by decide) (by omega)]; rfl)
          · skip
            have hb := of_decide_eq_false hb
            refine L_val rfl rfl rfl (OpP.v (P_move rfl rfl)) ?_
            refine L_val rfl rfl rfl (OpP.v (P_move rfl rfl)) ?_
            refine L_val rfl rfl rfl (OpP.v (P_move rfl rfl)) ?_
            refine L_val rfl rfl rfl (OpP.v (P_ixs (i) rfl ty_sl_22 rfl rfl (by first | rfl | omega) (by omega))) ?_
            refine L_val rfl rfl rfl (OpP.v (P_fld rfl ty_fl_39_2 rfl)) ?_
            refine L_val rfl rfl rfl (V_load rfl rfl ty_sc_23 (rd_rc (Rds.row hrow rfl) hx rfl)) ?_
            refine L_val rfl rfl rfl (OpP.v (P_gtr rfl rfl rfl)) ?_
            refine L_val rfl rfl rfl (OpP.v (P_pick rfl rfl rfl)) ?_
            refine L_nil ?_
            refine Q_then ?_
            refine R_condP rfl (fun hd => ?_) (fun hd => ?_)
            · skip
              refine R_seq ?_
              refine R_region ?_
              refine L_val rfl rfl rfl (OpP.v (P_assign rfl rfl)) ?_
              refine L_nil ?_
              refine Q_then ?_
              refine R_ret ?_
              refine Q_block_ret ?_
              refine Q_then_ret ?_
              refine Q_then_ret ?_
              refine Q_block_ret ?_
              refine Q_then_ret ?_
              exact R_endV rfl rfl (.tmp rfl .nil) (by unfold raccE; rw [if_neg hbig, show accE l = 87 from firstE_hit h0 (show accBad l i = 87 by unfold accBad; rw [← ex]; rw [if_neg ha, if_neg hn42, if_pos (by rw [hms]; omega)]) (by decide) (by omega)]; rfl)
            · skip
              refine R_skip ?_
              refine Q_block ?_
              refine Q_then ?_
              refine R_region ?_
              refine L_val rfl rfl rfl (OpP.v (P_move rfl rfl)) ?_
              first | (refine L_val rfl rfl rfl (OpP.v (P_addN rfl rfl rfl (by simp only [fits]; omega))) ?_) | (refine L_val rfl rfl rfl (OpP.v (P_add rfl rfl rfl)) ?_)
              refine L_val rfl rfl rfl (OpP.v (P_assign rfl rfl)) ?_
              refine L_nil ?_
              exact Q_round (i + 1) (by show (i + 1) ≤ l.length ∧ firstE (accBad l) (i + 1) = 0; exact ⟨by omega, firstE_next h0 (by unfold accBad; rw [← ex, if_neg ha, if_neg hn42, if_neg (by rw [hms]; omega)])⟩) (by show l.length - (i + 1) < l.length - i; omega) (by repeat (first | exact .nil | refine .cons rfl ?_ | refine .consE rfl (by first | rfl | (congr 1; omega) | (congr 1; push_cast; omega)) ?_)) (Weak.refl _)
    · skip
      have hin : i = l.length := by omega
      rw [hin] at h0
      refine R_exit ?_
      refine Q_then_exit ?_
      refine Q_then_exit ?_
      refine Q_block_eq ?_
      refine St.env (.cons (t := 2) rfl .nil) ?_
      refine Q_then ?_
      refine R_seq ?_
      refine R_region ?_
      refine L_val rfl rfl rfl (OpP.v (P_assign rfl rfl)) ?_
      refine L_nil ?_
      refine Q_then ?_
      refine R_ret ?_
      exact R_endV rfl rfl (.tmp rfl .nil) (by unfold raccE; rw [if_neg hbig, show accE l = 0 from h0]; rfl)
theorem rsum_ok {gl : Nat → Obj} (base : Option Addr) (c : Nat) (l : List Acc) (hc : l.length ≤ c)(hm : l.length ≤ 3518437208883)(hok : ∀ x ∈ l, x.ok)(base' : Option Addr) (c' : Nat) (r : List Rel) (hc' : r.length ≤ c')(hm' : r.length ≤ 4398046511104) (hok' : ∀ x ∈ r, x.ok) (bu su : Int) (hbu : u64 bu) : SpecV (cx gl) 23 [.agg (ledV (.slice base l.length c) (.slice base' r.length c') bu su).toArray] (fun w => Row w base (rc l) ∧ Row w base' (rc r)) (.int .u64 (totC l r bu)) := by
  refine Spec.enter (C := cx gl) Try.func23 rfl 48 rfl rfl fun w0 h0 hsep hsub hpre => ?_
  obtain rfl : h0 = Heap.none := hsep
  show St (cx gl) _ [(0, .agg (ledV (.slice base l.length c) (.slice base' r.length c') bu su).toArray)] _ _
  refine R_seq ?_
  refine R_region ?_
  refine L_op rfl (W_box (ledV (.slice base l.length c) (.slice base' r.length c') bu su) rfl rfl rfl rfl rfl fun b1 => ?_)
  refine L_val rfl rfl rfl (OpP.v (P_assign rfl rfl)) ?_
  refine L_nil ?_
  refine St.env (.cons (t := 1) rfl (.cons (t := 2) rfl .nil)) ?_
  refine Q_then ?_
  refine R_seq ?_
  refine R_region ?_
  refine L_val rfl rfl rfl (OpP.v (P_fld0 rfl ty_fl_29_2 rfl)) ?_
  refine L_val rfl rfl rfl (V_load rfl rfl ty_sc_23 (Rd.blk .h0 rfl)) ?_
  refine L_op rfl (W_callV rfl rfl rfl rfl fn_ca_38 (radd_ok 0 bu (Int.le_refl _) hbu.1) (fun _ _ => trivial) ?_)
  refine L_val rfl rfl rfl (OpP.v (P_assign rfl rfl)) ?_
  refine L_nil ?_
  refine St.env (.cons (t := 1) rfl (.cons (t := 2) rfl (.cons (t := 3) rfl .nil))) ?_
  refine Q_then ?_
  refine R_seq ?_
  refine R_seq ?_
  refine R_region ?_
  refine L_val rfl rfl rfl (OpP.v (P_assign rfl rfl)) ?_
  refine L_nil ?_
  refine Q_then ?_
  refine R_block ?_
  have hn0 : 0 ≤ addC 0 bu := addC_nn (Int.le_refl _) hbu.1
  refine R_loopE (G := Nat) (.cons (t := 1) rfl (.cons (t := 2) rfl .nil)) (fun g => [(3, .int .u64 (capF (addC 0 bu) (sumL (l.take (g))))), (4, .int .i64 (g : Int))]) (fun _ => _) (fun g => g ≤ l.length) (fun g => l.length - g) (0) (Nat.zero_le _) (by repeat (first | exact .nil | refine .cons rfl ?_ | refine .consE rfl (by first | rfl | (congr 1; omega) | (congr 1; push_cast; omega)) ?_)) (Weak.refl _) ?_
  intro i hinv
  replace hinv : i ≤ l.length := hinv
  show St (cx gl) _ ((3, .int .u64 (capF (addC 0 bu) (sumL (l.take (i))))) :: (4, .int .i64 (i : Int)) :: _) _ _
  refine R_seq ?_
  refine R_seq ?_
  refine R_region ?_
  refine L_val rfl rfl rfl (OpP.v (P_move rfl rfl)) ?_
  refine L_val rfl rfl rfl (OpP.v (P_fld0 rfl ty_fl_29_0 rfl)) ?_
  refine L_val rfl rfl rfl (V_load rfl rfl ty_sc_22 (Rd.blk .h0 rfl)) ?_
  refine L_val rfl rfl rfl (OpP.v (P_len rfl ty_sl_22 rfl)) ?_
  refine L_val rfl rfl rfl (OpP.v (P_lss rfl rfl rfl)) ?_
  refine L_nil ?_
  refine Q_then ?_
  refine R_condP rfl (fun hlt => ?_) (fun hlt => ?_)
  · skip
    have hi : i ≤ l.length := hinv
    have hx0 := accAt_get (l := l) (i := i) (by omega)
    obtain ⟨x, ex⟩ : ∃ x, x = accAt l i := ⟨_, rfl⟩
    have hx : l[i]? = some x := by rw [ex]; exact hx0
    obtain ⟨pb, pj, rfl, hrow⟩ := hpre.1.some_ (by rw [rc_length]; show 0 < _ * 5; omega)
    obtain ⟨ha1, hb1, hb2, hb3⟩ := hok x (List.mem_of_getElem? hx)
    have hn1 : 0 ≤ capF (addC 0 bu) (sumL (l.take (i))) := capF_nn _ _ (sumL_nn fun y hy => hok y (List.mem_of_mem_take hy)) hn0
    refine R_skip ?_
    refine Q_then ?_
    refine R_seq ?_
    refine R_block ?_
    refine R_seq ?_
    refine R_region ?_
    refine L_val rfl rfl rfl (OpP.v (P_move rfl rfl)) ?_
    refine L_val rfl rfl rfl (OpP.v (P_fld0 rfl ty_fl_29_0 rfl)) ?_
    refine L_val rfl rfl rfl (V_load rfl rfl ty_sc_22 (Rd.blk .h0 rfl)) ?_
    refine L_val rfl rfl rfl (OpP.v (P_move rfl rfl)) ?_
    refine L_val rfl rfl rfl (OpP.v (P_ixs (i) rfl ty_sl_22 rfl rfl (by first | rfl | omega) (by omega))) ?_
    refine L_val rfl rfl rfl (OpP.v (P_fld rfl ty_fl_39_1 rfl)) ?_
    refine L_val rfl rfl rfl (V_load rfl rfl ty_sc_23 (rd_rc (Rds.row hrow rfl) hx rfl)) ?_
    refine L_op rfl (W_callV rfl rfl rfl rfl fn_ca_38 (radd_ok (capF (addC 0 bu) (sumL (l.take (i)))) x.bal hn1 hb1.1) (fun _ _ => trivial) ?_)
    refine L_val rfl rfl rfl (OpP.v (P_assign rfl rfl)) ?_
    refine L_nil ?_
    refine Q_then ?_
    refine R_region ?_
    refine L_val rfl rfl rfl (OpP.v (P_move rfl rfl)) ?_
    refine L_val rfl rfl rfl (OpP.v (P_fld0 rfl ty_fl_29_0 rfl)) ?_
    refine L_val rfl rfl rfl (V_load rfl rfl ty_sc_22 (Rd.blk .h0 rfl)) ?_
    refine L_val rfl rfl rfl (OpP.v (P_move rfl rfl)) ?_
    refine L_val rfl rfl rfl (OpP.v (P_ixs (i) rfl ty_sl_22 rfl rfl (by first | rfl | omega) (by omega))) ?_
    refine L_val rfl rfl rfl (OpP.v (P_fld rfl ty_fl_39_2 rfl)) ?_
    refine L_val rfl rfl rfl (V_load rfl rfl ty_sc_23 (rd_rc (Rds.row hrow rfl) hx rfl)) ?_
    refine L_op rfl (W_callV rfl rfl rfl rfl fn_ca_38 (radd_ok (addC (capF (addC 0 bu) (sumL (l.take (i)))) x.bal) x.bond (addC_nn hn1 hb1.1) hb2.1) (fun _ _ => trivial) ?_)
    refine E_as (t := 31) (v' := .int .u64 (capF (addC 0 bu) (sumL (l.take (i + 1))))) rfl (by rw [sumL_snoc hx, capF_app]; rfl) ?_
    refine L_val rfl rfl rfl (OpP.v (P_assign rfl rfl)) ?_
    refine L_nil ?_
    refine Q_block ?_
    refine Q_then ?_
    refine R_region ?_
    refine L_val rfl rfl rfl (OpP.v (P_move rfl rfl)) ?_
    first | (refine L_val rfl rfl rfl (OpP.v (P_addN rfl rfl rfl (by simp only [fits]; omega))) ?_) | (refine L_val rfl rfl rfl (OpP.v (P_add rfl rfl rfl)) ?_)
    refine L_val rfl rfl rfl (OpP.v (P_assign rfl rfl)) ?_
    refine L_nil ?_
    exact Q_round (i + 1) (by show i + 1 ≤ l.length; omega) (by show l.length - (i + 1) < l.length - i; omega) (by repeat (first | exact .nil | refine .cons rfl ?_ | refine .consE rfl (by first | rfl | (congr 1; omega) | (congr 1; push_cast; omega)) ?_)) (Weak.refl _)
  · skip
    have hi : i ≤ l.length := hinv
    have hin : i = l.length := by omega
    rw [hin, List.take_length]
    refine R_exit ?_
    refine Q_then_exit ?_
    refine Q_then_exit ?_
    refine Q_block_eq ?_
    refine St.env (.cons (t := 1) rfl (.cons (t := 2) rfl (.cons (t := 3) rfl .nil))) ?_
    refine Q_then ?_
    refine R_seq ?_
    refine R_seq ?_
    refine R_region ?_
    refine L_val rfl rfl rfl (OpP.v (P_assign rfl rfl)) ?_
    refine L_nil ?_
    refine Q_then ?_
    refine R_block ?_
    refine R_loopE (G := Nat) (.cons (t := 1) rfl (.cons (t := 2) rfl .nil)) (fun g => [(3, .int .u64 (capF (capF (addC 0 bu) (sumL l)) ((r.take (g)).map Rel.amt))), (5, .int .i64 (g : Int))]) (fun _ => _) (fun g => g ≤ r.length) (fun g => r.length - g) (0) (Nat.zero_le _) (by repeat (first | exact .nil | refine .cons rfl ?_ | refine .consE rfl (by first | rfl | (congr 1; omega) | (congr 1; push_cast; omega)) ?_)) (Weak.refl _) ?_
    intro i hinv
    replace hinv : i ≤ r.length := hinv
    show St (cx gl) _ ((3, .int .u64 (capF (capF (addC 0 bu) (sumL l)) ((r.take (i)).map Rel.amt))) :: (5, .int .i64 (i : Int)) :: _) _ _
    refine R_seq ?_
    refine R_seq ?_
    refine R_region ?_
    refine L_val rfl rfl rfl (OpP.v (P_move rfl rfl)) ?_
    refine L_val rfl rfl rfl (OpP.v (P_fld0 rfl ty_fl_29_1 rfl)) ?_
    refine L_val rfl rfl rfl (V_load rfl rfl ty_sc_27 (Rd.blk .h0 rfl)) ?_
    refine L_val rfl rfl rfl (OpP.v (P_len rfl ty_sl_27 rfl)) ?_
    refine L_val rfl rfl rfl (OpP.v (P_lss rfl rfl rfl)) ?_
    refine L_nil ?_
    refine Q_then ?_
    refine R_condP rfl (fun hlt => ?_) (fun hlt => ?_)
    · skip
      have hi : i ≤ r.length := hinv
      have hx0 := relAt_get (l := r) (i := i) (by omega)
      obtain ⟨x, ex⟩ : ∃ x, x = relAt r i := ⟨_, rfl⟩
      have hx : r[i]? = some x := by rw [ex]; exact hx0
      obtain ⟨pb, pj, rfl, hrow⟩ := hpre.2.some_ (by rw [rc_length]; show 0 < _ * 4; omega)
      obtain ⟨ha1, hb1, hb2, hb3⟩ := hok' x (List.mem_of_getElem? hx)
      have hn2 : 0 ≤ capF (capF (addC 0 bu) (sumL l)) ((r.take (i)).map Rel.amt) := capF_nn _ _ (amts_nn fun y hy => hok' y (List.mem_of_mem_take hy)) (capF_nn _ _ (sumL_nn hok) hn0)
      refine R_skip ?_
      refine Q_then ?_
      refine R_seq ?_
      refine R_block ?_
      refine R_region ?_
      refine L_val rfl rfl rfl (OpP.v (P_move rfl rfl)) ?_
      refine L_val rfl rfl rfl (OpP.v (P_fld0 rfl ty_fl_29_1 rfl)) ?_
      refine L_val rfl rfl rfl (V_load rfl rfl ty_sc_27 (Rd.blk .h0 rfl)) ?_
      refine L_val rfl rfl rfl (OpP.v (P_move rfl rfl)) ?_
      refine L_val rfl rfl rfl (OpP.v (P_ixs (i) rfl ty_sl_27 rfl rfl (by first | rfl | omega) (by omega))) ?_
      refine L_val rfl rfl rfl (OpP.v (P_fld rfl ty_fl_62_3 rfl)) ?_
      refine L_val rfl rfl rfl (V_load rfl rfl ty_sc_23 (rd_rc (Rds.row hrow rfl) hx rfl)) ?_
      refine L_op rfl (W_callV rfl rfl rfl rfl fn_ca_38 (radd_ok (capF (capF (addC 0 bu) (sumL l)) ((r.take (i)).map Rel.amt)) x.amt hn2 hb3.1) (fun _ _ => trivial) ?_)
      refine E_as (t := 46) (v' := .int .u64 (capF (capF (addC 0 bu) (sumL l)) ((r.take (i + 1)).map Rel.amt))) rfl (by rw [amts_snoc hx, capF_app]; rfl) ?_
      refine L_val rfl rfl rfl (OpP.v (P_assign rfl rfl)) ?_
      refine L_nil ?_
      refine Q_block ?_
      refine Q_then ?_
      refine R_region ?_
      refine L_val rfl rfl rfl (OpP.v (P_move rfl rfl)) ?_
      first | (refine L_val rfl rfl rfl (OpP.v (P_addN rfl rfl rfl (by simp only [fits]; omega))) ?_) | (refine L_val rfl rfl rfl (OpP.v (P_add rfl rfl rfl)) ?_)
      refine L_val rfl rfl rfl (OpP.v (P_assign rfl rfl)) ?_
      refine L_nil ?_
      exact Q_round (i + 1) (by show i + 1 ≤ r.length; omega) (by show r.length - (i + 1) < r.length - i; omega) (by repeat (first | exact .nil | refine .cons rfl ?_ | refine .consE rfl (by first | rfl | (congr 1; omega) | (congr 1; push_cast; omega)) ?_)) (Weak.refl _)
    · skip
      have hi : i ≤ r.length := hinv
      have hin : i = r.length := by omega
      rw [hin, List.take_length]
      refine R_exit ?_
      refine Q_then_exit ?_
      refine Q_then_exit ?_
      refine Q_block_eq ?_
      refine St.env (.cons (t := 2) rfl (.cons (t := 3) rfl .nil)) ?_
      refine Q_then ?_
      refine R_seq ?_
      refine R_region ?_
      refine L_val rfl rfl rfl (OpP.v (P_move rfl rfl)) ?_
      refine L_val rfl rfl rfl (OpP.v (P_assign rfl rfl)) ?_
      refine L_nil ?_
      refine St.env (.cons (t := 2) rfl .nil) ?_
      refine Q_then ?_
      refine R_ret ?_
      exact R_endV rfl rfl (.tmp rfl .nil) (rfl)
theorem has_ok {gl : Nat → Obj} (a : Int) (base : Option Addr) (c : Nat) (l : List Acc) (hc : l.length ≤ c) (hm : l.length ≤ 3518437208883) : SpecV (cx gl) 46 [.slice base l.length c, .int .u64 a] (fun w => Row w base (rc l)) (.bool (spotB l a)) := by
  refine Spec.enter (C := cx gl) Try.func46 rfl 40 rfl rfl fun w0 h0 hsep hsub hpre => ?_
  obtain rfl : h0 = Heap.none := hsep
  show St (cx gl) _ [(0, .slice base l.length c), (1, .int .u64 a)] _ _
  refine R_seq ?_
  refine R_region ?_
  refine L_val rfl rfl rfl (OpP.v (P_assign rfl rfl)) ?_
  refine L_nil ?_
  refine Q_then ?_
  refine R_seq ?_
  refine R_region ?_
  refine L_val rfl rfl rfl (OpP.v (P_assign rfl rfl)) ?_
  refine L_nil ?_
  refine Q_then ?_
  refine R_seq ?_
  refine R_region ?_
  refine L_val rfl rfl rfl (OpP.v (P_move rfl rfl)) ?_
  refine L_val rfl rfl rfl (OpP.v (P_len rfl ty_sl_22 rfl)) ?_
  refine L_val rfl rfl rfl (OpP.v (P_assign rfl rfl)) ?_
  refine L_nil ?_
  refine St.env (.cons (t := 0) rfl (.cons (t := 1) rfl (.cons (t := 4) rfl (.cons (t := 5) rfl (.cons (t := 6) rfl .nil))))) ?_
  refine Q_then ?_
  refine R_seq ?_
  refine R_block ?_
  refine R_loopE (G := Nat × Nat) (.cons (t := 0) rfl (.cons (t := 1) rfl (.cons (t := 4) rfl .nil))) (fun g => [(5, .int .i64 ((g.1 : Nat) : Int)), (6, .int .i64 ((g.2 : Nat) : Int))]) (fun _ => _) (fun g => g.1 ≤ g.2 ∧ g.2 ≤ l.length ∧ spotI l a = bsN (fun i => decide ((accAt l i).a < a)) g.1 g.2) (fun g => g.2 - g.1) (0, l.length) (by show (0) ≤ (l.length) ∧ (l.length) ≤ l.length ∧ spotI l a = bsN (fun i => decide ((accAt l i).a < a)) (0) (l.length); exact ⟨Nat.zero_le _, Nat.le_refl _, rfl⟩) (by repeat (first | exact .nil | refine .cons rfl ?_ | refine .consE rfl (by first | rfl | (congr 1; omega) | (congr 1; push_cast; omega)) ?_)) (Weak.refl _) ?_
  rintro ⟨lo, hi⟩ hinv
  replace hinv : lo ≤ hi ∧ hi ≤ l.length ∧ spotI l a = bsN (fun i => decide ((accAt l i).a < a)) lo hi := hinv
  show St (cx gl) _ ((5, .int .i64 ((lo : Nat) : Int)) :: (6, .int .i64 ((hi : Nat) : Int)) :: _) _ _
  obtain ⟨h1, h2, h3⟩ := hinv
  refine R_seq ?_
  refine R_seq ?_
  refine R_region ?_
  refine L_val rfl rfl rfl (OpP.v (P_move rfl rfl)) ?_
  refine L_val rfl rfl rfl (OpP.v (P_move rfl rfl)) ?_
  refine L_val rfl rfl rfl (OpP.v (P_lss rfl rfl rfl)) ?_
  refine L_nil ?_
  refine Q_then ?_
  refine R_condP rfl (fun hlt => ?_) (fun hlt => ?_)
  · skip
    have hx := accAt_get (l := l) (i := (lo + hi) / 2) (by omega)
    obtain ⟨pb, pj, rfl, hrow⟩ := hpre.some_ (by rw [rc_length]; show 0 < _ * 5; omega)
    refine R_skip ?_
    refine Q_then ?_
    refine R_block ?_
    refine R_seq ?_
    refine R_region ?_
    refine L_val rfl rfl rfl (OpP.v (P_move rfl rfl)) ?_
    refine L_val rfl rfl rfl (OpP.v (P_move rfl rfl)) ?_
    first | (refine L_val rfl rfl rfl (OpP.v (P_addN rfl rfl rfl (by simp only [fits]; omega))) ?_) | (refine L_val rfl rfl rfl (OpP.v (P_add rfl rfl rfl)) ?_)
    refine L_val rfl rfl rfl (OpP.v (P_quo rfl rfl rfl (by omega))) ?_
    refine E_as (t := 16) (v' := .int .i64 (((lo + hi) / 2 : Nat) : Int)) rfl (by congr 1; rw [Int.tdiv_eq_ediv_of_nonneg (by omega), wrap_fits (by simp only [fits]; omega)]; omega) ?_
    refine L_val rfl rfl rfl (OpP.v (P_assign rfl rfl)) ?_
    refine L_nil ?_
    refine Q_then ?_
    refine R_seq ?_
    refine R_region ?_
    refine L_val rfl rfl rfl (OpP.v (P_move rfl rfl)) ?_
    refine L_val rfl rfl rfl (OpP.v (P_move rfl rfl)) ?_
    refine L_val rfl rfl rfl (OpP.v (P_ixs ((lo + hi) / 2) rfl ty_sl_22 rfl rfl (by first | rfl | omega) (by omega))) ?_
    refine L_val rfl rfl rfl (OpP.v (P_fld rfl ty_fl_39_0 rfl)) ?_
    refine L_val rfl rfl rfl (V_load rfl rfl ty_sc_35 (rd_rc (Rds.row hrow rfl) hx rfl)) ?_
    refine L_val rfl rfl rfl (OpP.v (P_move rfl rfl)) ?_
    refine L_val rfl rfl rfl (OpP.v (P_lss rfl rfl rfl)) ?_
    refine L_nil ?_
    refine Q_then ?_
    refine R_condP rfl (fun hb => ?_) (fun hb => ?_)
    · skip
      refine R_region ?_
      refine L_val rfl rfl rfl (OpP.v (P_move rfl rfl)) ?_
      first | (refine L_val rfl rfl rfl (OpP.v (P_addN rfl rfl rfl (by simp only [fits]; omega))) ?_) | (refine L_val rfl rfl rfl (OpP.v (P_add rfl rfl rfl)) ?_)
      refine L_val rfl rfl rfl (OpP.v (P_assign rfl rfl)) ?_
      refine L_nil ?_
      refine Q_block ?_
      exact Q_round ((lo + hi) / 2 + 1, hi) (by show ((lo + hi) / 2 + 1) ≤ (hi) ∧ (hi) ≤ l.length ∧ spotI l a = bsN (fun i => decide ((accAt l i).a < a)) ((lo + hi) / 2 + 1) (hi); exact ⟨by omega, h2, by rw [h3]; exact bsN_up (by omega) (decide_eq_true hb)⟩) (by show hi - ((lo + hi) / 2 + 1) < hi - lo; omega) (by repeat (first | exact .nil | refine .cons rfl ?_ | refine .consE rfl (by first | rfl | (congr 1; omega) | (congr 1; push_cast; omega)) ?_)) (Weak.refl _)
    · skip
      refine R_region ?_
      refine L_val rfl rfl rfl (OpP.v (P_move rfl rfl)) ?_
      refine L_val rfl rfl rfl (OpP.v (P_assign rfl rfl)) ?_
      refine L_nil ?_
      refine Q_block ?_
      exact Q_round (lo, (lo + hi) / 2) (by show (lo) ≤ ((lo + hi) / 2) ∧ ((lo + hi) / 2) ≤ l.length ∧ spotI l a = bsN (fun i => decide ((accAt l i).a < a)) (lo) ((lo + hi) / 2); exact ⟨by omega, by omega, by rw [h3]; exact bsN_down (by omega) (decide_eq_false hb)⟩) (by show (lo + hi) / 2 - lo < hi - lo; omega) (by repeat (first | exact .nil | refine .cons rfl ?_ | refine .consE rfl (by first | rfl | (congr 1; omega) | (congr 1; push_cast; omega)) ?_)) (Weak.refl _)
  · skip
    have hin : hi = lo := by omega
    have hsp : spotI l a = lo := by rw [h3]; exact bsN_end (by omega)
    refine R_exit ?_
    refine Q_then_exit ?_
    refine Q_then_exit ?_
    refine Q_block_eq ?_
    refine St.env (.cons (t := 0) rfl (.cons (t := 1) rfl (.cons (t := 4) rfl (.cons (t := 5) rfl .nil)))) ?_
    refine Q_then ?_
    refine R_seq ?_
    refine R_region ?_
    refine L_val rfl rfl rfl (OpP.v (P_move rfl rfl)) ?_
    refine L_val rfl rfl rfl (OpP.v (P_move rfl rfl)) ?_
    refine L_val rfl rfl rfl (OpP.v (P_len rfl ty_sl_22 rfl)) ?_
    refine L_val rfl rfl rfl (OpP.v (P_lss rfl rfl rfl)) ?_
    refine E_bool (t := 30) rfl (fun hl2 => ?_) (fun hl2 => ?_)
    · skip
      have hl2 : lo < l.length := by have := of_decide_eq_true hl2; omega
      have hx := accAt_get hl2
      obtain ⟨pb, pj, rfl, hrow⟩ := hpre.some_ (by rw [rc_length]; show 0 < _ * 5; omega)
      refine L_val rfl rfl rfl (OpP.v (P_move rfl rfl)) ?_
      refine L_val rfl rfl rfl (OpP.v (P_move rfl rfl)) ?_
      refine L_val rfl rfl rfl (OpP.v (P_move rfl rfl)) ?_
      refine L_val rfl rfl rfl (OpP.v (P_ixs (lo) rfl ty_sl_22 rfl rfl (by first | rfl | omega) (by omega))) ?_
      refine L_val rfl rfl rfl (OpP.v (P_fld rfl ty_fl_39_0 rfl)) ?_
      refine L_val rfl rfl rfl (V_load rfl rfl ty_sc_35 (rd_rc (Rds.row hrow rfl) hx rfl)) ?_
      refine L_val rfl rfl rfl (OpP.v (P_move rfl rfl)) ?_
      refine L_val rfl rfl rfl (OpP.v (P_eql rfl rfl rfl)) ?_
      refine L_val rfl rfl rfl (OpP.v (P_pick rfl rfl rfl)) ?_
      refine L_val rfl rfl rfl (OpP.v (P_assign rfl rfl)) ?_
      refine L_nil ?_
      refine St.env (.cons (t := 4) rfl .nil) ?_
      refine Q_then ?_
      refine R_ret ?_
      exact R_endV rfl rfl (.tmp rfl .nil) (by unfold spotB; rw [hsp]; first | (rw [decide_eq_false hl2]; rfl) | (rw [decide_eq_true hl2, Bool.true_and]; rfl))
    · skip
      have hl2 : ¬ lo < l.length := by have := of_decide_eq_false hl2; omega
      refine L_val rfl rfl rfl (OpP.v (P_move rfl rfl)) ?_
      refine L_no rfl rfl rfl ?_
      refine L_no rfl rfl rfl ?_
      refine L_no rfl rfl rfl ?_
      refine L_no rfl rfl rfl ?_
      refine L_no rfl rfl rfl ?_
      refine L_no rfl rfl rfl ?_
      refine L_no rfl rfl rfl ?_
      refine L_val rfl rfl rfl (OpP.v (P_pick rfl rfl rfl)) ?_
      refine L_val rfl rfl rfl (OpP.v (P_assign rfl rfl)) ?_
      refine L_nil ?_
      refine St.env (.cons (t := 4) rfl .nil) ?_
      refine Q_then ?_
      refine R_ret ?_
      exact R_endV rfl rfl (.tmp rfl .nil) (by unfold spotB; rw [hsp]; first | (rw [decide_eq_false hl2]; rfl) | (rw [decide_eq_true hl2, Bool.true_and]; rfl))
theorem rrows_ok {gl : Nat → Obj} (base : Option Addr) (c : Nat) (l : List Acc) (hc : l.length ≤ c)(hm : l.length ≤ 3518437208883)(base' : Option Addr) (c' : Nat) (r : List Rel) (hc' : r.length ≤ c')(hm' : r.length ≤ 4398046511104) (hok' : ∀ x ∈ r, x.ok) (bu su : Int) : SpecV (cx gl) 36 [.agg (ledV (.slice base l.length c) (.slice base' r.length c') bu su).toArray] (fun w => Row w base (rc l) ∧ Row w base' (rc r)) (.int .i64 (relE l r)) := by
  refine Spec.enter (C := cx gl) Try.func36 rfl 76 rfl rfl fun w0 h0 hsep hsub hpre => ?_
  obtain rfl : h0 = Heap.none := hsep
  show St (cx gl) _ [(0, .agg (ledV (.slice base l.length c) (.slice base' r.length c') bu su).toArray)] _ _
  have hms : MS = 1152921504606846975 := rfl
  refine R_seq ?_
  refine R_region ?_
  refine L_op rfl (W_box (ledV (.slice base l.length c) (.slice base' r.length c') bu su) rfl rfl rfl rfl rfl fun b1 => ?_)
  refine L_val rfl rfl rfl (OpP.v (P_assign rfl rfl)) ?_
  refine L_nil ?_
  refine St.env (.cons (t := 1) rfl (.cons (t := 2) rfl .nil)) ?_
  refine Q_then ?_
  refine R_seq ?_
  refine R_seq ?_
  refine R_region ?_
  refine L_val rfl rfl rfl (OpP.v (P_assign rfl rfl)) ?_
  refine L_nil ?_
  refine Q_then ?_
  refine R_block ?_
  refine R_loopE (G := Nat) (.cons (t := 1) rfl (.cons (t := 2) rfl .nil)) (fun g => [(3, .int .i64 (g : Int))]) (fun _ => _) (fun g => g ≤ r.length ∧ firstE (relBad l r) g = 0) (fun g => r.length - g) (0) (by show (0) ≤ r.length ∧ firstE (relBad l r) (0) = 0; exact ⟨Nat.zero_le _, rfl⟩) (by repeat (first | exact .nil | refine .cons rfl ?_ | refine .consE rfl (by first | rfl | (congr 1; omega) | (congr 1; push_cast; omega)) ?_)) (Weak.refl _) ?_
  intro i hinv
  replace hinv : i ≤ r.length ∧ firstE (relBad l r) i = 0 := hinv
  show St (cx gl) _ ((3, .int .i64 (i : Int)) :: _) _ _
  obtain ⟨hi, h0⟩ := hinv
  refine R_seq ?_
  refine R_seq ?_
  refine R_region ?_
  refine L_val rfl rfl rfl (OpP.v (P_move rfl rfl)) ?_
  refine L_val rfl rfl rfl (OpP.v (P_fld0 rfl ty_fl_29_1 rfl)) ?_
  refine L_val rfl rfl rfl (V_load rfl rfl ty_sc_27 (Rd.blk .h0 rfl)) ?_
  refine L_val rfl rfl rfl (OpP.v (P_len rfl ty_sl_27 rfl)) ?_
  refine L_val rfl rfl rfl (OpP.v (P_lss rfl rfl rfl)) ?_
  refine L_nil ?_
  refine Q_then ?_
  refine R_condP rfl (fun hlt => ?_) (fun hlt => ?_)
  · skip
    have hx0 := relAt_get (l := r) (i := i) (by omega)
    obtain ⟨x, ex⟩ : ∃ x, x = relAt r i := ⟨_, rfl⟩
    have hx : r[i]? = some x := by rw [ex]; exact hx0
    obtain ⟨pb, pj, rfl, hrow⟩ := hpre.2.some_ (by rw [rc_length]; show 0 < _ * 4; omega)
    obtain ⟨hx1, hx2, hx3, hx4⟩ := hok' x (List.mem_of_getElem? hx)
    refine R_skip ?_
    refine Q_then ?_
    refine R_seq ?_
    refine R_block ?_
    refine R_seq ?_
    refine R_region ?_
    refine L_val rfl rfl rfl (OpP.v (P_fld0 rfl ty_fl_29_1 rfl)) ?_
    refine L_val rfl rfl rfl (V_load rfl rfl ty_sc_27 (Rd.blk .h0 rfl)) ?_
    refine L_val rfl rfl rfl (OpP.v (P_move rfl rfl)) ?_
    refine L_val rfl rfl rfl (OpP.v (P_ixs (i) rfl ty_sl_27 rfl rfl (by first | rfl | omega) (by omega))) ?_
    refine L_val rfl rfl rfl (V_loadAgg rfl rfl ty_ag_62 (rds_rc (Rds.row hrow rfl) hx) (rfl)) ?_
    refine L_op rfl (W_alloc rfl rfl rfl ty_ze_62 fun b4 => ?_)
    refine L_op rfl (W_storeAll rfl rfl rfl rfl ty_ag_62 (rfl) (Rec.one x) .h0 (rfl) ?_)
    refine L_nil ?_
    refine Q_then ?_
    refine R_seq ?_
    refine R_region ?_
    refine L_val rfl rfl rfl (OpP.v (P_fld0 rfl ty_fl_29_0 rfl)) ?_
    refine L_val rfl rfl rfl (V_load rfl rfl ty_sc_22 (Rd.blk .h1 rfl)) ?_
    refine L_val rfl rfl rfl (OpP.v (P_fld0 rfl ty_fl_62_1 rfl)) ?_
    refine L_val rfl rfl rfl (V_load rfl rfl ty_sc_35 (Rd.blk .h0 rfl)) ?_
    refine L_op rfl (W_callV rfl rfl rfl rfl fn_ca_46 (has_ok x.a base c l hc hm) (fun w nw => (Sn.row hpre.1 rfl).rw_ w nw) ?_)
    refine L_val rfl rfl rfl (OpP.v (P_assign rfl rfl)) ?_
    refine L_nil ?_
    refine Q_then ?_
    refine R_seq ?_
    refine R_seq ?_
    refine R_region ?_
    refine L_val rfl rfl rfl (OpP.v (P_move rfl rfl)) ?_
    refine L_val rfl rfl rfl (OpP.v (P_not rfl rfl)) ?_
    refine L_nil ?_
    refine Q_then ?_
    refine R_cond rfl (fun hp => ?_) (fun hp => ?_)
    · skip
      have hp : spotB l x.a = false := by simpa using hp
      refine R_seq ?_
      refine R_region ?_
      refine L_val rfl rfl rfl (OpP.v (P_assign rfl rfl)) ?_
      refine L_nil ?_
      refine Q_then ?_
      refine R_ret ?_
      refine Q_then_ret ?_
      refine Q_block_ret ?_
      refine Q_then_ret ?_
      refine Q_then_ret ?_
      refine Q_block_ret ?_
      refine Q_then_ret ?_
      exact R_endV rfl rfl (.tmp rfl .nil) (by rw [show relE l r = 85 from firstE_hit h0 (show relBad l r i = 85 by unfold relBad; rw [← ex]; rw [if_pos hp]) (by decide) (by omega)]; rfl)
    · skip
      have hp : spotB l x.a = true := by simpa using hp
      refine R_skip ?_
      refine Q_then ?_
      refine R_seq ?_
      refine R_seq ?_
      refine R_region ?_
      refine L_val rfl rfl rfl (OpP.v (P_fld0 rfl ty_fl_62_2 rfl)) ?_
      refine L_val rfl rfl rfl (V_load rfl rfl ty_sc_23 (Rd.blk .h0 rfl)) ?_
      refine L_val rfl rfl rfl (OpP.v (P_gtr rfl rfl rfl)) ?_
      refine E_bool (t := 28) rfl (fun q1 => ?_) (fun q1 => ?_)
      · skip
        have q1 := of_decide_eq_true q1
        refine L_val rfl rfl rfl (OpP.v (P_move rfl rfl)) ?_
        refine L_no rfl rfl rfl ?_
        refine L_no rfl rfl rfl ?_
        refine L_no rfl rfl rfl ?_
        refine L_no rfl rfl rfl ?_
        refine L_no rfl rfl rfl ?_
        refine L_val rfl rfl rfl (OpP.v (P_pick rfl rfl rfl)) ?_
        refine L_val rfl rfl rfl (OpP.v (P_move rfl rfl)) ?_
        refine L_no rfl rfl rfl ?_
        refine L_no rfl rfl rfl ?_
        refine L_no rfl rfl rfl ?_
        refine L_val rfl rfl rfl (OpP.v (P_pick rfl rfl rfl)) ?_
        refine L_nil ?_
        refine Q_then ?_
        refine R_condT rfl ?_
        refine R_seq ?_
        refine R_region ?_
        refine L_val rfl rfl rfl (OpP.v (P_assign rfl rfl)) ?_
        refine L_nil ?_
        refine Q_then ?_
        refine R_ret ?_
        refine Q_then_ret ?_
        refine Q_block_ret ?_
        refine Q_then_ret ?_
        refine Q_then_ret ?_
        refine Q_block_ret ?_
        refine Q_then_ret ?_
        exact R_endV rfl rfl (.tmp rfl .nil) (by rw [show relE l r = 2 from firstE_hit h0 (show relBad l r i = 2 by unfold relBad; rw [← ex]; rw [if_neg (by rw [hp]; decide), if_pos (by omega)]) (by decide) (by omega)]; rfl)
      · skip
        have q1 := of_decide_eq_false q1
        refine L_val rfl rfl rfl (OpP.v (P_move rfl rfl)) ?_
        refine L_val rfl rfl rfl (OpP.v (P_fld0 rfl ty_fl_62_0 rfl)) ?_
        refine L_val rfl rfl rfl (V_load rfl rfl ty_sc_23 (Rd.blk .h0 rfl)) ?_
        refine L_val rfl rfl rfl (OpP.v (P_fld0 rfl ty_fl_62_2 rfl)) ?_
        refine L_val rfl rfl rfl (V_load rfl rfl ty_sc_23 (Rd.blk .h0 rfl)) ?_
        refine L_val rfl rfl rfl (OpP.v (P_lss rfl rfl rfl)) ?_
        refine E_bool (t := 34) rfl (fun q2 => ?_) (fun q2 => ?_)
        · skip
          have q2 := of_decide_eq_true q2
          refine L_val rfl rfl rfl (OpP.v (P_pick rfl rfl rfl)) ?_
          refine L_val rfl rfl rfl (OpP.v (P_move rfl rfl)) ?_
          refine L_no rfl rfl rfl ?_
          refine L_no rfl rfl rfl ?_
          refine L_no rfl rfl rfl ?_
          refine L_val rfl rfl rfl (OpP.v (P_pick rfl rfl rfl)) ?_
          refine L_nil ?_
          refine Q_then ?_
          refine R_condT rfl ?_
          refine R_seq ?_
          refine R_region ?_
          refine L_val rfl rfl rfl (OpP.v (P_assign rfl rfl)) ?_
          refine L_nil ?_
          refine Q_then ?_
          refine R_ret ?_
          refine Q_then_ret ?_
          refine Q_block_ret ?_
          refine Q_then_ret ?_
          refine Q_then_ret ?_
          refine Q_block_ret ?_
          refine Q_then_ret ?_
          exact R_endV rfl rfl (.tmp rfl .nil) (by rw [show relE l r = 2 from firstE_hit h0 (show relBad l r i = 2 by unfold relBad; rw [← ex]; rw [if_neg (by rw [hp]; decide), if_pos (by omega)]) (by decide) (by omega)]; rfl)
        · skip
          have q2 := of_decide_eq_false q2
          refine L_val rfl rfl rfl (OpP.v (P_pick rfl rfl rfl)) ?_
          refine L_val rfl rfl rfl (OpP.v (P_move rfl rfl)) ?_
          refine L_val rfl rfl rfl (OpP.v (P_fld0 rfl ty_fl_62_0 rfl)) ?_
          refine L_val rfl rfl rfl (V_load rfl rfl ty_sc_23 (Rd.blk .h0 rfl)) ?_
          refine L_val rfl rfl rfl (OpP.v (P_gtr rfl rfl rfl)) ?_
          refine L_val rfl rfl rfl (OpP.v (P_pick rfl rfl rfl)) ?_
          refine L_nil ?_
          refine Q_then ?_
          refine R_condP rfl (fun q3 => ?_) (fun q3 => ?_)
          · skip
            refine R_seq ?_
            refine R_region ?_
            refine L_val rfl rfl rfl (OpP.v (P_assign rfl rfl)) ?_
            refine L_nil ?_
            refine Q_then ?_
            refine R_ret ?_
            refine Q_then_ret ?_
            refine Q_block_ret ?_
            refine Q_then_ret ?_
            refine Q_then_ret ?_
            refine Q_block_ret ?_
            refine Q_then_ret ?_
            exact R_endV rfl rfl (.tmp rfl .nil) (by rw [show relE l r = 2 from firstE_hit h0 (show relBad l r i = 2 by unfold relBad; rw [← ex]; rw [if_neg (by rw [hp]; decide), if_pos (by omega)]) (by decide) (by omega)]; rfl)
          · skip
            refine R_skip ?_
            refine Q_then ?_
            refine R_seq ?_
            refine R_seq ?_
            refine R_region ?_
            refine L_val rfl rfl rfl (OpP.v (P_move rfl rfl)) ?_
            refine L_val rfl rfl rfl (OpP.v (P_gtr rfl rfl rfl)) ?_
            refine L_nil ?_
            refine Q_then ?_
            refine R_condP rfl (fun q4 => ?_) (fun q4 => ?_)
            · skip
              obtain ⟨y, ey⟩ : ∃ y, y = relAt r (i - 1) := ⟨_, rfl⟩
              have hy : r[i - 1]? = some y := by rw [ey]; exact relAt_get (by omega)
              refine R_seq ?_
              refine R_region ?_
              refine L_val rfl rfl rfl (OpP.v (P_fld0 rfl ty_fl_29_1 rfl)) ?_
              refine L_val rfl rfl rfl (V_load rfl rfl ty_sc_27 (Rd.blk .h1 rfl)) ?_
              refine L_val rfl rfl rfl (OpP.v (P_move rfl rfl)) ?_
              first | (refine L_val rfl rfl rfl (OpP.v (P_subN rfl rfl rfl (by simp only [fits]; omega))) ?_) | (refine L_val rfl rfl rfl (OpP.v (P_sub rfl rfl rfl)) ?_)
              refine L_val rfl rfl rfl (OpP.v (P_ixs (i - 1) rfl ty_sl_27 rfl rfl (by first | rfl | omega) (by omega))) ?_
              refine L_val rfl rfl rfl (V_loadAgg rfl rfl ty_ag_62 (rds_rc (Rds.row hrow rfl) hy) (rfl)) ?_
              refine L_op rfl (W_alloc rfl rfl rfl ty_ze_62 fun b6 => ?_)
              refine L_op rfl (W_storeAll rfl rfl rfl rfl ty_ag_62 (rfl) (Rec.one y) .h0 (rfl) ?_)
              refine L_nil ?_
              refine Q_then ?_
              refine R_seq ?_
              refine R_region ?_
              refine L_val rfl rfl rfl (OpP.v (P_fld0 rfl ty_fl_62_0 rfl)) ?_
              refine L_val rfl rfl rfl (V_load rfl rfl ty_sc_23 (Rd.blk .h1 rfl)) ?_
              refine L_val rfl rfl rfl (OpP.v (P_fld0 rfl ty_fl_62_0 rfl)) ?_
              refine L_val rfl rfl rfl (V_load rfl rfl ty_sc_23 (Rd.blk .h0 rfl)) ?_
              refine L_val rfl rfl rfl (OpP.v (P_lss rfl rfl rfl)) ?_
              refine E_bool (t := 53) rfl (fun u1 => ?_) (fun u1 => ?_)
              · skip
                have u1 := of_decide_eq_true u1
                have hl42 : laterB x y = false := (laterB_no x y).2 (by omega)
                refine L_val rfl rfl rfl (OpP.v (P_move rfl rfl)) ?_
                refine L_no rfl rfl rfl ?_
                refine L_no rfl rfl rfl ?_
                refine L_no rfl rfl rfl ?_
                refine L_no rfl rfl rfl ?_
                refine L_no rfl rfl rfl ?_
                refine L_no rfl rfl rfl ?_
                refine L_no rfl rfl rfl ?_
                refine L_no rfl rfl rfl ?_
                refine L_no rfl rfl rfl ?_
                refine L_no rfl rfl rfl ?_
                refine L_no rfl rfl rfl ?_
                refine L_no rfl rfl rfl ?_
                refine L_val rfl rfl rfl (OpP.v (P_pick rfl rfl rfl)) ?_
                refine L_nil ?_
                refine Q_then ?_
                refine R_condT rfl ?_
                refine R_seq ?_
                refine R_region ?_
                refine L_val rfl rfl rfl (OpP.v (P_assign rfl rfl)) ?_
                refine L_nil ?_
                refine Q_then ?_
                refine R_ret ?_
                refine Q_then_ret ?_
                refine Q_block_ret ?_
                refine Q_then_ret ?_
                refine Q_then_ret ?_
                refine Q_block_ret ?_
                refine Q_then_ret ?_
                exact R_endV rfl rfl (.tmp rfl .nil) (by rw [show relE l r = 42 from firstE_hit h0 (show relBad l r i = 42 by unfold relBad; rw [← ex]; rw [if_neg (by rw [hp]; decide), if_neg (by omega), if_pos ⟨by omega, by rw [← ey]; exact hl42⟩]) (by decide) (by omega)]; rfl)
              · skip
                have u1 := of_decide_eq_false u1
                refine L_val rfl rfl rfl (OpP.v (P_move rfl rfl)) ?_
                refine L_val rfl rfl rfl (OpP.v (P_fld0 rfl ty_fl_62_0 rfl)) ?_
                refine L_val rfl rfl rfl (V_load rfl rfl ty_sc_23 (Rd.blk .h1 rfl)) ?_
                refine L_val rfl rfl rfl (OpP.v (P_fld0 rfl ty_fl_62_0 rfl)) ?_
                refine L_val rfl rfl rfl (V_load rfl rfl ty_sc_23 (Rd.blk .h0 rfl)) ?_
                refine L_val rfl rfl rfl (OpP.v (P_eql rfl rfl rfl)) ?_
                refine E_bool (t := 59) rfl (fun u2 => ?_) (fun u2 => ?_)
                · skip
                  have u2 := of_decide_eq_true u2
                  refine L_val rfl rfl rfl (OpP.v (P_move rfl rfl)) ?_
                  refine L_val rfl rfl rfl (OpP.v (P_fld0 rfl ty_fl_62_1 rfl)) ?_
                  refine L_val rfl rfl rfl (V_load rfl rfl ty_sc_35 (Rd.blk .h1 rfl)) ?_
                  refine L_val rfl rfl rfl (OpP.v (P_fld0 rfl ty_fl_62_1 rfl)) ?_
                  refine L_val rfl rfl rfl (V_load rfl rfl ty_sc_35 (Rd.blk .h0 rfl)) ?_
                  refine L_val rfl rfl rfl (OpP.v (P_leq rfl rfl rfl)) ?_
                  refine L_val rfl rfl rfl (OpP.v (P_pick rfl rfl rfl)) ?_
                  refine L_val rfl rfl rfl (OpP.v (P_pick rfl rfl rfl)) ?_
                  refine L_nil ?_
                  refine Q_then ?_
                  refine R_condP rfl (fun u3 => ?_) (fun u3 => ?_)
                  · skip
                    have hl42 : laterB x y = false := (laterB_no x y).2 (by omega)
                    refine R_seq ?_
                    refine R_region ?_
                    refine L_val rfl rfl rfl (OpP.v (P_assign rfl rfl)) ?_
                    refine L_nil ?_
                    refine Q_then ?_
                    refine R_ret ?_
                    refine Q_then_ret ?_
                    refine Q_block_ret ?_
                    refine Q_then_ret ?_
                    refine Q_then_ret ?_
                    refine Q_block_ret ?_
                    refine Q_then_ret ?_
                    exact R_endV rfl rfl (.tmp rfl .nil) (by rw [show relE l r = 42 from firstE_hit h0 (show relBad l r i = 42 by unfold relBad; rw [← ex]; rw [if_neg (by rw [hp]; decide), if_neg (by omega), if_pos ⟨by omega, by rw [← ey]; exact hl42⟩]) (by decide) (by omega)]; rfl)
                  · skip
                    have hno : ¬ (0 < i ∧ laterB x (relAt r (i - 1)) = false) := by rw [← ey, laterB_no]; omega
                    refine R_skip ?_
                    refine Q_then ?_
                    refine R_seq ?_
                    refine R_region ?_
                    refine L_val rfl rfl rfl (OpP.v (P_fld0 rfl ty_fl_62_3 rfl)) ?_
                    refine L_val rfl rfl rfl (V_load rfl rfl ty_sc_23 (by first | exact Rd.blk .h0 rfl | exact Rd.blk .h1 rfl | exact Rd.blk .h2 rfl | exact Rd.blk .h3 rfl | exact Rd.blk .h4 rfl | exact Rd.blk .h5 rfl | exact Rd.blk .h6 rfl | exact Rd.blk .h7 rfl)) ?_
                    refine L_val rfl rfl rfl (OpP.v (P_eql rfl rfl rfl)) ?_
                    refine E_bool (t := 70) rfl (fun q6 => ?_) (fun q6 => ?_)
                    · skip
                      have q6 := of_decide_eq_true q6
                      refine L_val rfl rfl rfl (OpP.v (P_move rfl rfl)) ?_
                      refine L_no rfl rfl rfl ?_
                      refine L_no rfl rfl rfl ?_
                      refine L_no rfl rfl rfl ?_
                      refine L_val rfl rfl rfl (OpP.v (P_pick rfl rfl rfl)) ?_
                      refine L_nil ?_
                      refine Q_then ?_
                      refine R_condT rfl ?_
                      refine R_seq ?_
                      refine R_region ?_
                      refine L_val rfl rfl rfl (OpP.v (P_assign rfl rfl)) ?_
                      refine L_nil ?_
                      refine Q_then ?_
                      refine R_ret ?_
                      refine Q_block_ret ?_
                      refine Q_then_ret ?_
                      refine Q_then_ret ?_
                      refine Q_block_ret ?_
                      refine Q_then_ret ?_
                      exact R_endV rfl rfl (.tmp rfl .nil) (by rw [show relE l r = 87 from firstE_hit h0 (show relBad l r i = 87 by unfold relBad; rw [← ex]; rw [if_neg (by rw [hp]; decide), if_neg (by omega), if_neg hno, if_pos (by rw [hms]; omega)]) (by decide) (by omega)]; rfl)
                    · skip
                      have q6 := of_decide_eq_false q6
                      refine L_val rfl rfl rfl (OpP.v (P_move rfl rfl)) ?_
                      refine L_val rfl rfl rfl (OpP.v (P_fld0 rfl ty_fl_62_3 rfl)) ?_
                      refine L_val rfl rfl rfl (V_load rfl rfl ty_sc_23 (by first | exact Rd.blk .h0 rfl | exact Rd.blk .h1 rfl | exact Rd.blk .h2 rfl | exact Rd.blk .h3 rfl | exact Rd.blk .h4 rfl | exact Rd.blk .h5 rfl | exact Rd.blk .h6 rfl | exact Rd.blk .h7 rfl)) ?_
                      refine L_val rfl rfl rfl (OpP.v (P_gtr rfl rfl rfl)) ?_
                      refine L_val rfl rfl rfl (OpP.v (P_pick rfl rfl rfl)) ?_
                      refine L_nil ?_
                      refine Q_then ?_
                      refine R_condP rfl (fun q7 => ?_) (fun q7 => ?_)
                      · skip
                        refine R_seq ?_
                        refine R_region ?_
                        refine L_val rfl rfl rfl (OpP.v (P_assign rfl rfl)) ?_
                        refine L_nil ?_
                        refine Q_then ?_
                        refine R_ret ?_
                        refine Q_block_ret ?_
                        refine Q_then_ret ?_
                        refine Q_then_ret ?_
                        refine Q_block_ret ?_
                        refine Q_then_ret ?_
                        exact R_endV rfl rfl (.tmp rfl .nil) (by rw [show relE l r = 87 from firstE_hit h0 (show relBad l r i = 87 by unfold relBad; rw [← ex]; rw [if_neg (by rw [hp]; decide), if_neg (by omega), if_neg hno, if_pos (by rw [hms]; omega)]) (by decide) (by omega)]; rfl)
                      · skip
                        refine R_skip ?_
                        refine Q_block ?_
                        refine Q_then ?_
                        refine R_region ?_
                        refine L_val rfl rfl rfl (OpP.v (P_move rfl rfl)) ?_
                        first | (refine L_val rfl rfl rfl (OpP.v (P_addN rfl rfl rfl (by simp only [fits]; omega))) ?_) | (refine L_val rfl rfl rfl (OpP.v (P_add rfl rfl rfl)) ?_)
                        refine L_val rfl rfl rfl (OpP.v (P_assign rfl rfl)) ?_
                        refine L_nil ?_
                        exact Q_round (i + 1) (by show (i + 1) ≤ r.length ∧ firstE (relBad l r) (i + 1) = 0; exact ⟨by omega, firstE_next h0 (by unfold relBad; rw [← ex, if_neg (by rw [hp]; decide), if_neg (by omega), if_neg hno, if_neg (by rw [hms]; omega)])⟩) (by show r.length - (i + 1) < r.length - i; omega) (by repeat (first | exact .nil | refine .cons rfl ?_ | refine .consE rfl (by first | rfl | (congr 1; omega) | (congr 1; push_cast; omega)) ?_)) (Weak.drop (Weak.drop (Weak.refl _)))
                · skip
                  have u2 := of_decide_eq_false u2
                  have hno : ¬ (0 < i ∧ laterB x (relAt r (i - 1)) = false) := by rw [← ey, laterB_no]; omega
                  refine L_val rfl rfl rfl (OpP.v (P_move rfl rfl)) ?_
                  refine L_no rfl rfl rfl ?_
                  refine L_no rfl rfl rfl ?_
                  refine L_no rfl rfl rfl ?_
                  refine L_no rfl rfl rfl ?_
                  refine L_no rfl rfl rfl ?_
                  refine L_val rfl rfl rfl (OpP.v (P_pick rfl rfl rfl)) ?_
                  refine L_val rfl rfl rfl (OpP.v (P_pick rfl rfl rfl)) ?_
                  refine L_nil ?_
                  refine Q_then ?_
                  refine R_condF rfl ?_
                  refine R_skip ?_
                  refine Q_then ?_
                  refine R_seq ?_
                  refine R_region ?_
                  refine L_val rfl rfl rfl (OpP.v (P_fld0 rfl ty_fl_62_3 rfl)) ?_
                  refine L_val rfl rfl rfl (V_load rfl rfl ty_sc_23 (by first | exact Rd.blk .h0 rfl | exact Rd.blk .h1 rfl | exact Rd.blk .h2 rfl | exact Rd.blk .h3 rfl | exact Rd.blk .h4 rfl | exact Rd.blk .h5 rfl | exact Rd.blk .h6 rfl | exact Rd.blk .h7 rfl)) ?_
                  refine L_val rfl rfl rfl (OpP.v (P_eql rfl rfl rfl)) ?_
                  refine E_bool (t := 70) rfl (fun q6 => ?_) (fun q6 => ?_)
                  · skip
                    have q6 := of_decide_eq_true q6
                    refine L_val rfl rfl rfl (OpP.v (P_move rfl rfl)) ?_
                    refine L_no rfl rfl rfl ?_
                    refine L_no rfl rfl rfl ?_
                    refine L_no rfl rfl rfl ?_
                    refine L_val rfl rfl rfl (OpP.v (P_pick rfl rfl rfl)) ?_
                    refine L_nil ?_
                    refine Q_then ?_
                    refine R_condT rfl ?_
                    refine R_seq ?_
                    refine R_region ?_
                    refine L_val rfl rfl rfl (OpP.v (P_assign rfl rfl)) ?_
                    refine L_nil ?_
                    refine Q_then ?_
                    refine R_ret ?_
                    refine Q_block_ret ?_
                    refine Q_then_ret ?_
                    refine Q_then_ret ?_
                    refine Q_block_ret ?_
                    refine Q_then_ret ?_
                    exact R_endV rfl rfl (.tmp rfl .nil) (by rw [show relE l r = 87 from firstE_hit h0 (show relBad l r i = 87 by unfold relBad; rw [← ex]; rw [if_neg (by rw [hp]; decide), if_neg (by omega), if_neg hno, if_pos (by rw [hms]; omega)]) (by decide) (by omega)]; rfl)
                  · skip
                    have q6 := of_decide_eq_false q6
                    refine L_val rfl rfl rfl (OpP.v (P_move rfl rfl)) ?_
                    refine L_val rfl rfl rfl (OpP.v (P_fld0 rfl ty_fl_62_3 rfl)) ?_
                    refine L_val rfl rfl rfl (V_load rfl rfl ty_sc_23 (by first | exact Rd.blk .h0 rfl | exact Rd.blk .h1 rfl | exact Rd.blk .h2 rfl | exact Rd.blk .h3 rfl | exact Rd.blk .h4 rfl | exact Rd.blk .h5 rfl | exact Rd.blk .h6 rfl | exact Rd.blk .h7 rfl)) ?_
                    refine L_val rfl rfl rfl (OpP.v (P_gtr rfl rfl rfl)) ?_
                    refine L_val rfl rfl rfl (OpP.v (P_pick rfl rfl rfl)) ?_
                    refine L_nil ?_
                    refine Q_then ?_
                    refine R_condP rfl (fun q7 => ?_) (fun q7 => ?_)
                    · skip
                      refine R_seq ?_
                      refine R_region ?_
                      refine L_val rfl rfl rfl (OpP.v (P_assign rfl rfl)) ?_
                      refine L_nil ?_
                      refine Q_then ?_
                      refine R_ret ?_
                      refine Q_block_ret ?_
                      refine Q_then_ret ?_
                      refine Q_then_ret ?_
                      refine Q_block_ret ?_
                      refine Q_then_ret ?_
                      exact R_endV rfl rfl (.tmp rfl .nil) (by rw [show relE l r = 87 from firstE_hit h0 (show relBad l r i = 87 by unfold relBad; rw [← ex]; rw [if_neg (by rw [hp]; decide), if_neg (by omega), if_neg hno, if_pos (by rw [hms]; omega)]) (by decide) (by omega)]; rfl)
                    · skip
                      refine R_skip ?_
                      refine Q_block ?_
                      refine Q_then ?_
                      refine R_region ?_
                      refine L_val rfl rfl rfl (OpP.v (P_move rfl rfl)) ?_
                      first | (refine L_val rfl rfl rfl (OpP.v (P_addN rfl rfl rfl (by simp only [fits]; omega))) ?_) | (refine L_val rfl rfl rfl (OpP.v (P_add rfl rfl rfl)) ?_)
                      refine L_val rfl rfl rfl (OpP.v (P_assign rfl rfl)) ?_
                      refine L_nil ?_
                      exact Q_round (i + 1) (by show (i + 1) ≤ r.length ∧ firstE (relBad l r) (i + 1) = 0; exact ⟨by omega, firstE_next h0 (by unfold relBad; rw [← ex, if_neg (by rw [hp]; decide), if_neg (by omega), if_neg hno, if_neg (by rw [hms]; omega)])⟩) (by show r.length - (i + 1) < r.length - i; omega) (by repeat (first | exact .nil | refine .cons rfl ?_ | refine .consE rfl (by first | rfl | (congr 1; omega) | (congr 1; push_cast; omega)) ?_)) (Weak.drop (Weak.drop (Weak.refl _)))
            · skip
              have hno : ¬ (0 < i ∧ laterB x (relAt r (i - 1)) = false) := by omega
              refine R_skip ?_
              refine Q_then ?_
              refine R_seq ?_
              refine R_region ?_
              refine L_val rfl rfl rfl (OpP.v (P_fld0 rfl ty_fl_62_3 rfl)) ?_
              refine L_val rfl rfl rfl (V_load rfl rfl ty_sc_23 (by first | exact Rd.blk .h0 rfl | exact Rd.blk .h1 rfl | exact Rd.blk .h2 rfl | exact Rd.blk .h3 rfl | exact Rd.blk .h4 rfl | exact Rd.blk .h5 rfl | exact Rd.blk .h6 rfl | exact Rd.blk .h7 rfl)) ?_
              refine L_val rfl rfl rfl (OpP.v (P_eql rfl rfl rfl)) ?_
              refine E_bool (t := 70) rfl (fun q6 => ?_) (fun q6 => ?_)
              · skip
                have q6 := of_decide_eq_true q6
                refine L_val rfl rfl rfl (OpP.v (P_move rfl rfl)) ?_
                refine L_no rfl rfl rfl ?_
                refine L_no rfl rfl rfl ?_
                refine L_no rfl rfl rfl ?_
                refine L_val rfl rfl rfl (OpP.v (P_pick rfl rfl rfl)) ?_
                refine L_nil ?_
                refine Q_then ?_
                refine R_condT rfl ?_
                refine R_seq ?_
                refine R_region ?_
                refine L_val rfl rfl rfl (OpP.v (P_assign rfl rfl)) ?_
                refine L_nil ?_
                refine Q_then ?_
                refine R_ret ?_
                refine Q_block_ret ?_
                refine Q_then_ret ?_
                refine Q_then_ret ?_
                refine Q_block_ret ?_
                refine Q_then_ret ?_
                exact R_endV rfl rfl (.tmp rfl .nil) (by rw [show relE l r = 87 from firstE_hit h0 (show relBad l r i = 87 by unfold relBad; rw [← ex]; rw [if_neg (by rw [hp]; decide), if_neg (by omega), if_neg hno, if_pos (by rw [hms]; omega)]) (by decide) (by omega)]; rfl)
              · skip
                have q6 := of_decide_eq_false q6
                refine L_val rfl rfl rfl (OpP.v (P_move rfl rfl)) ?_
                refine L_val rfl rfl rfl (OpP.v (P_fld0 rfl ty_fl_62_3 rfl)) ?_
                refine L_val rfl rfl rfl (V_load rfl rfl ty_sc_23 (by first | exact Rd.blk .h0 rfl | exact Rd.blk .h1 rfl | exact Rd.blk .h2 rfl | exact Rd.blk .h3 rfl | exact Rd.blk .h4 rfl | exact Rd.blk .h5 rfl | exact Rd.blk .h6 rfl | exact Rd.blk .h7 rfl)) ?_
                refine L_val rfl rfl rfl (OpP.v (P_gtr rfl rfl rfl)) ?_
                refine L_val rfl rfl rfl (OpP.v (P_pick rfl rfl rfl)) ?_
                refine L_nil ?_
                refine Q_then ?_
                refine R_condP rfl (fun q7 => ?_) (fun q7 => ?_)
                · skip
                  refine R_seq ?_
                  refine R_region ?_
                  refine L_val rfl rfl rfl (OpP.v (P_assign rfl rfl)) ?_
                  refine L_nil ?_
                  refine Q_then ?_
                  refine R_ret ?_
                  refine Q_block_ret ?_
                  refine Q_then_ret ?_
                  refine Q_then_ret ?_
                  refine Q_block_ret ?_
                  refine Q_then_ret ?_
                  exact R_endV rfl rfl (.tmp rfl .nil) (by rw [show relE l r = 87 from firstE_hit h0 (show relBad l r i = 87 by unfold relBad; rw [← ex]; rw [if_neg (by rw [hp]; decide), if_neg (by omega), if_neg hno, if_pos (by rw [hms]; omega)]) (by decide) (by omega)]; rfl)
                · skip
                  refine R_skip ?_
                  refine Q_block ?_
                  refine Q_then ?_
                  refine R_region ?_
                  refine L_val rfl rfl rfl (OpP.v (P_move rfl rfl)) ?_
                  first | (refine L_val rfl rfl rfl (OpP.v (P_addN rfl rfl rfl (by simp only [fits]; omega))) ?_) | (refine L_val rfl rfl rfl (OpP.v (P_add rfl rfl rfl)) ?_)
                  refine L_val rfl rfl rfl (OpP.v (P_assign rfl rfl)) ?_
                  refine L_nil ?_
                  exact Q_round (i + 1) (by show (i + 1) ≤ r.length ∧ firstE (relBad l r) (i + 1) = 0; exact ⟨by omega, firstE_next h0 (by unfold relBad; rw [← ex, if_neg (by rw [hp]; decide), if_neg (by omega), if_neg hno, if_neg (by rw [hms]; omega)])⟩) (by show r.length - (i + 1) < r.length - i; omega) (by repeat (first | exact .nil | refine .cons rfl ?_ | refine .consE rfl (by first | rfl | (congr 1; omega) | (congr 1; push_cast; omega)) ?_)) (Weak.drop (Weak.refl _))
  · skip
    have hin : i = r.length := by omega
    rw [hin] at h0
    refine R_exit ?_
    refine Q_then_exit ?_
    refine Q_then_exit ?_
    refine Q_block_eq ?_
    refine St.env (.cons (t := 2) rfl .nil) ?_
    refine Q_then ?_
    refine R_seq ?_
    refine R_region ?_
    refine L_val rfl rfl rfl (OpP.v (P_assign rfl rfl)) ?_
    refine L_nil ?_
    refine Q_then ?_
    refine R_ret ?_
    exact R_endV rfl rfl (.tmp rfl .nil) (by rw [show relE l r = 0 from h0]; rfl)
theorem rplace_ok {gl : Nat → Obj} (base : Option Addr) (c : Nat) (l : List Acc) (hc : l.length ≤ c)(hm : l.length ≤ 3518437208883) (r : Value) (hr : r.oneCell' = true) (bu su a : Int) : SpecV (cx gl) 37 [.agg (ledV (.slice base l.length c) r bu su).toArray, .int .u64 a] (fun w => Row w base (rc l)) (.int .i64 (idxG (isAz a) l)) := by
  refine Spec.enter (C := cx gl) Try.func37 rfl 26 rfl rfl fun w0 h0 hsep hsub hpre => ?_
  obtain rfl : h0 = Heap.none := hsep
  show St (cx gl) _ [(0, .agg (ledV (.slice base l.length c) r bu su).toArray), (1, .int .u64 a)] _ _
  refine R_seq ?_
  refine R_region ?_
  refine L_op rfl (W_box (ledV (.slice base l.length c) r bu su) rfl rfl rfl rfl rfl fun b2 => ?_)
  refine L_val rfl rfl rfl (OpP.v (P_assign rfl rfl)) ?_
  refine L_nil ?_
  refine St.env (.cons (t := 1) rfl (.cons (t := 2) rfl (.cons (t := 4) rfl .nil))) ?_
  refine Q_then ?_
  refine R_seq ?_
  refine R_seq ?_
  refine R_region ?_
  refine L_val rfl rfl rfl (OpP.v (P_assign rfl rfl)) ?_
  refine L_nil ?_
  refine Q_then ?_
  refine R_block ?_
  refine R_loopE (G := Nat) (.cons (t := 1) rfl (.cons (t := 2) rfl (.cons (t := 4) rfl .nil))) (fun g => [(5, .int .i64 (g : Int))]) (fun _ => _) (fun g => g ≤ l.length ∧ ∀ j m', j < g → l[j]? = some m' → isAz a m' = false) (fun g => l.length - g) (0) (by show (0) ≤ l.length ∧ ∀ j m', j < (0) → l[j]? = some m' → isAz a m' = false; exact ⟨Nat.zero_le _, fun j _ h => by omega⟩) (by repeat (first | exact .nil | refine .cons rfl ?_ | refine .consE rfl (by first | rfl | (congr 1; omega) | (congr 1; push_cast; omega)) ?_)) (Weak.refl _) ?_
  intro i hinv
  replace hinv : i ≤ l.length ∧ ∀ j m', j < i → l[j]? = some m' → isAz a m' = false := hinv
  show St (cx gl) _ ((5, .int .i64 (i : Int)) :: _) _ _
  obtain ⟨hi, h0⟩ := hinv
  refine R_seq ?_
  refine R_seq ?_
  refine R_region ?_
  refine L_val rfl rfl rfl (OpP.v (P_move rfl rfl)) ?_
  refine L_val rfl rfl rfl (OpP.v (P_fld0 rfl ty_fl_29_0 rfl)) ?_
  refine L_val rfl rfl rfl (V_load rfl rfl ty_sc_22 (Rd.blk .h0 rfl)) ?_
  refine L_val rfl rfl rfl (OpP.v (P_len rfl ty_sl_22 rfl)) ?_
  refine L_val rfl rfl rfl (OpP.v (P_lss rfl rfl rfl)) ?_
  refine L_nil ?_
  refine Q_then ?_
  refine R_condP rfl (fun hlt => ?_) (fun hlt => ?_)
  · skip
    have hx0 := accAt_get (l := l) (i := i) (by omega)
    obtain ⟨x, ex⟩ : ∃ x, x = accAt l i := ⟨_, rfl⟩
    have hx : l[i]? = some x := by rw [ex]; exact hx0
    obtain ⟨pb, pj, rfl, hrow⟩ := hpre.some_ (by rw [rc_length]; show 0 < _ * 5; omega)
    refine R_skip ?_
    refine Q_then ?_
    refine R_seq ?_
    refine R_block ?_
    refine R_seq ?_
    refine R_region ?_
    refine L_val rfl rfl rfl (OpP.v (P_fld0 rfl ty_fl_29_0 rfl)) ?_
    refine L_val rfl rfl rfl (V_load rfl rfl ty_sc_22 (Rd.blk .h0 rfl)) ?_
    refine L_val rfl rfl rfl (OpP.v (P_move rfl rfl)) ?_
    refine L_val rfl rfl rfl (OpP.v (P_ixs (i) rfl ty_sl_22 rfl rfl (by first | rfl | omega) (by omega))) ?_
    refine L_val rfl rfl rfl (OpP.v (P_fld rfl ty_fl_39_0 rfl)) ?_
    refine L_val rfl rfl rfl (V_load rfl rfl ty_sc_35 (rd_rc (Rds.row hrow rfl) hx rfl)) ?_
    refine L_val rfl rfl rfl (OpP.v (P_move rfl rfl)) ?_
    refine L_val rfl rfl rfl (OpP.v (P_eql rfl rfl rfl)) ?_
    refine E_bool (t := 20) rfl (fun e1 => ?_) (fun e1 => ?_)
    · skip
      have e1 := of_decide_eq_true e1
      refine L_val rfl rfl rfl (OpP.v (P_move rfl rfl)) ?_
      refine L_val rfl rfl rfl (OpP.v (P_move rfl rfl)) ?_
      refine L_val rfl rfl rfl (OpP.v (P_neq rfl rfl rfl)) ?_
      refine L_val rfl rfl rfl (OpP.v (P_pick rfl rfl rfl)) ?_
      refine L_nil ?_
      refine Q_then ?_
      refine R_condP rfl (fun e2 => ?_) (fun e2 => ?_)
      · skip
        have hpx : isAz a x = true := by unfold isAz; rw [decide_eq_true e1, decide_eq_true e2]; rfl
        refine R_seq ?_
        refine R_region ?_
        refine L_val rfl rfl rfl (OpP.v (P_move rfl rfl)) ?_
        refine L_val rfl rfl rfl (OpP.v (P_assign rfl rfl)) ?_
        refine L_nil ?_
        refine Q_then ?_
        refine R_ret ?_
        refine Q_block_ret ?_
        refine Q_then_ret ?_
        refine Q_then_ret ?_
        refine Q_block_ret ?_
        refine Q_then_ret ?_
        exact R_endV rfl rfl (.tmp rfl .nil) (by rw [idxG_hit h0 hx hpx]; rfl)
      · skip
        have hpx : isAz a x = false := by unfold isAz; rw [decide_eq_false (p := a ≠ 0) e2, Bool.and_false]
        refine R_skip ?_
        refine Q_block ?_
        refine Q_then ?_
        refine R_region ?_
        refine L_val rfl rfl rfl (OpP.v (P_move rfl rfl)) ?_
        first | (refine L_val rfl rfl rfl (OpP.v (P_addN rfl rfl rfl (by simp only [fits]; omega))) ?_) | (refine L_val rfl rfl rfl (OpP.v (P_add rfl rfl rfl)) ?_)
        refine L_val rfl rfl rfl (OpP.v (P_assign rfl rfl)) ?_
        refine L_nil ?_
        exact Q_round (i + 1) (by show (i + 1) ≤ l.length ∧ ∀ j m', j < (i + 1) → l[j]? = some m' → isAz a m' = false; exact ⟨by omega, no_next h0 hx hpx⟩) (by show l.length - (i + 1) < l.length - i; omega) (by repeat (first | exact .nil | refine .cons rfl ?_ | refine .consE rfl (by first | rfl | (congr 1; omega) | (congr 1; push_cast; omega)) ?_)) (Weak.refl _)
    · skip
      have e1 := of_decide_eq_false e1
      have hpx : isAz a x = false := by unfold isAz; rw [decide_eq_false e1, Bool.false_and]
      refine L_val rfl rfl rfl (OpP.v (P_move rfl rfl)) ?_
      refine L_no rfl rfl rfl ?_
      refine L_no rfl rfl rfl ?_
      refine L_val rfl rfl rfl (OpP.v (P_pick rfl rfl rfl)) ?_
      refine L_nil ?_
      refine Q_then ?_
      refine R_condF rfl ?_
      refine R_skip ?_
      refine Q_block ?_
      refine Q_then ?_
      refine R_region ?_
      refine L_val rfl rfl rfl (OpP.v (P_move rfl rfl)) ?_
      first | (refine L_val rfl rfl rfl (OpP.v (P_addN rfl rfl rfl (by simp only [fits]; omega))) ?_) | (refine L_val rfl rfl rfl (OpP.v (P_add rfl rfl rfl)) ?_)
      refine L_val rfl rfl rfl (OpP.v (P_assign rfl rfl)) ?_
      refine L_nil ?_
      exact Q_round (i + 1) (by show (i + 1) ≤ l.length ∧ ∀ j m', j < (i + 1) → l[j]? = some m' → isAz a m' = false; exact ⟨by omega, no_next h0 hx hpx⟩) (by show l.length - (i + 1) < l.length - i; omega) (by repeat (first | exact .nil | refine .cons rfl ?_ | refine .consE rfl (by first | rfl | (congr 1; omega) | (congr 1; push_cast; omega)) ?_)) (Weak.refl _)
  · skip
    have hin : i = l.length := by omega
    rw [hin] at h0
    refine R_exit ?_
    refine Q_then_exit ?_
    refine Q_then_exit ?_
    refine Q_block_eq ?_
    refine St.env (.cons (t := 4) rfl .nil) ?_
    refine Q_then ?_
    refine R_seq ?_
    refine R_region ?_
    refine L_val rfl rfl rfl (OpP.v (P_assign rfl rfl)) ?_
    refine L_nil ?_
    refine Q_then ?_
    refine R_ret ?_
    exact R_endV rfl rfl (.tmp rfl .nil) (by rw [idxG_none h0]; rfl)
theorem lfind_ok {gl : Nat → Obj} (base : Option Addr) (c : Nat) (l : List Acc) (hc : l.length ≤ c)(hm : l.length ≤ 3518437208883) (r : Value) (hr : r.oneCell' = true) (bu su a : Int) : SpecV (cx gl) 9 [.agg (ledV (.slice base l.length c) r bu su).toArray, .int .u64 a] (fun w => Row w base (rc l)) (.agg (findA l a).cells.toArray) := by
  refine Spec.enter (C := cx gl) Try.func9 rfl 27 rfl rfl fun w0 h0 hsep hsub hpre => ?_
  obtain rfl : h0 = Heap.none := hsep
  show St (cx gl) _ [(0, .agg (ledV (.slice base l.length c) r bu su).toArray), (1, .int .u64 a)] _ _
  refine R_seq ?_
  refine R_region ?_
  refine L_op rfl (W_box (ledV (.slice base l.length c) r bu su) rfl rfl rfl rfl rfl fun b2 => ?_)
  refine L_op rfl (W_alloc rfl rfl rfl ty_ze_39 fun b4 => ?_)
  refine L_nil ?_
  refine St.env (.cons (t := 1) rfl (.cons (t := 2) rfl (.cons (t := 4) rfl .nil))) ?_
  refine Q_then ?_
  refine R_seq ?_
  refine R_seq ?_
  refine R_region ?_
  refine L_val rfl rfl rfl (OpP.v (P_assign rfl rfl)) ?_
  refine L_nil ?_
  refine Q_then ?_
  refine R_block ?_
  refine R_loopE (G := Nat) (.cons (t := 1) rfl (.cons (t := 2) rfl (.cons (t := 4) rfl .nil))) (fun g => [(5, .int .i64 (g : Int))]) (fun _ => _) (fun g => g ≤ l.length ∧ ∀ j m', j < g → l[j]? = some m' → isAc a m' = false) (fun g => l.length - g) (0) (by show (0) ≤ l.length ∧ ∀ j m', j < (0) → l[j]? = some m' → isAc a m' = false; exact ⟨Nat.zero_le _, fun j _ h => by omega⟩) (by repeat (first | exact .nil | refine .cons rfl ?_ | refine .consE rfl (by first | rfl | (congr 1; omega) | (congr 1; push_cast; omega)) ?_)) (Weak.refl _) ?_
  intro i hinv
  replace hinv : i ≤ l.length ∧ ∀ j m', j < i → l[j]? = some m' → isAc a m' = false := hinv
  show St (cx gl) _ ((5, .int .i64 (i : Int)) :: _) _ _
  obtain ⟨hi, h0⟩ := hinv
  refine R_seq ?_
  refine R_seq ?_
  refine R_region ?_
  refine L_val rfl rfl rfl (OpP.v (P_move rfl rfl)) ?_
  refine L_val rfl rfl rfl (OpP.v (P_fld0 rfl ty_fl_29_0 rfl)) ?_
  refine L_val rfl rfl rfl (V_load rfl rfl ty_sc_22 (Rd.blk .h1 rfl)) ?_
  refine L_val rfl rfl rfl (OpP.v (P_len rfl ty_sl_22 rfl)) ?_
  refine L_val rfl rfl rfl (OpP.v (P_lss rfl rfl rfl)) ?_
  refine L_nil ?_
  refine Q_then ?_
  refine R_condP rfl (fun hlt => ?_) (fun hlt => ?_)
  · skip
    have hx0 := accAt_get (l := l) (i := i) (by omega)
    obtain ⟨x, ex⟩ : ∃ x, x = accAt l i := ⟨_, rfl⟩
    have hx : l[i]? = some x := by rw [ex]; exact hx0
    obtain ⟨pb, pj, rfl, hrow⟩ := hpre.some_ (by rw [rc_length]; show 0 < _ * 5; omega)
    refine R_skip ?_
    refine Q_then ?_
    refine R_seq ?_
    refine R_block ?_
    refine R_seq ?_
    refine R_region ?_
    refine L_val rfl rfl rfl (OpP.v (P_fld0 rfl ty_fl_29_0 rfl)) ?_
    refine L_val rfl rfl rfl (V_load rfl rfl ty_sc_22 (Rd.blk .h1 rfl)) ?_
    refine L_val rfl rfl rfl (OpP.v (P_move rfl rfl)) ?_
    refine L_val rfl rfl rfl (OpP.v (P_ixs (i) rfl ty_sl_22 rfl rfl (by first | rfl | omega) (by omega))) ?_
    refine L_val rfl rfl rfl (OpP.v (P_fld rfl ty_fl_39_0 rfl)) ?_
    refine L_val rfl rfl rfl (V_load rfl rfl ty_sc_35 (rd_rc (Rds.row hrow rfl) hx rfl)) ?_
    refine L_val rfl rfl rfl (OpP.v (P_move rfl rfl)) ?_
    refine L_val rfl rfl rfl (OpP.v (P_eql rfl rfl rfl)) ?_
    refine L_nil ?_
    refine Q_then ?_
    refine R_condP rfl (fun e1 => ?_) (fun e1 => ?_)
    · skip
      have hpx : isAc a x = true := decide_eq_true e1
      refine R_seq ?_
      refine R_region ?_
      refine L_val rfl rfl rfl (OpP.v (P_fld0 rfl ty_fl_29_0 rfl)) ?_
      refine L_val rfl rfl rfl (V_load rfl rfl ty_sc_22 (Rd.blk .h1 rfl)) ?_
      refine L_val rfl rfl rfl (OpP.v (P_move rfl rfl)) ?_
      refine L_val rfl rfl rfl (OpP.v (P_ixs (i) rfl ty_sl_22 rfl rfl (by first | rfl | omega) (by omega))) ?_
      refine L_val rfl rfl rfl (V_loadAgg rfl rfl ty_ag_39 (rds_rc (Rds.row hrow rfl) hx) (rfl)) ?_
      refine L_op rfl (W_storeAll rfl rfl rfl rfl ty_ag_39 (rfl) (Rec.one x) .h0 (rfl) ?_)
      refine L_nil ?_
      refine Q_then ?_
      refine R_ret ?_
      refine Q_block_ret ?_
      refine Q_then_ret ?_
      refine Q_then_ret ?_
      refine Q_block_ret ?_
      refine Q_then_ret ?_
      exact R_endV rfl rfl (.cell rfl (Rds.loadVar ty_ag_39 (Rds.blk .h0) rfl) .nil) (by rw [findA_at (idxG_hit h0 hx hpx), ← ex]; rfl)
    · skip
      have hpx : isAc a x = false := decide_eq_false e1
      refine R_skip ?_
      refine Q_block ?_
      refine Q_then ?_
      refine R_region ?_
      refine L_val rfl rfl rfl (OpP.v (P_move rfl rfl)) ?_
      first | (refine L_val rfl rfl rfl (OpP.v (P_addN rfl rfl rfl (by simp only [fits]; omega))) ?_) | (refine L_val rfl rfl rfl (OpP.v (P_add rfl rfl rfl)) ?_)
      refine L_val rfl rfl rfl (OpP.v (P_assign rfl rfl)) ?_
      refine L_nil ?_
      exact Q_round (i + 1) (by show (i + 1) ≤ l.length ∧ ∀ j m', j < (i + 1) → l[j]? = some m' → isAc a m' = false; exact ⟨by omega, no_next h0 hx hpx⟩) (by show l.length - (i + 1) < l.length - i; omega) (by repeat (first | exact .nil | refine .cons rfl ?_ | refine .consE rfl (by first | rfl | (congr 1; omega) | (congr 1; push_cast; omega)) ?_)) (Weak.refl _)
  · skip
    have hin : i = l.length := by omega
    rw [hin] at h0
    refine R_exit ?_
    refine Q_then_exit ?_
    refine Q_then_exit ?_
    refine Q_block_eq ?_
    refine St.env (.cons (t := 4) rfl .nil) ?_
    refine Q_then ?_
    refine R_seq ?_
    refine R_region ?_
    refine L_val rfl rfl rfl (OpP.v (P_buildStruct rfl ty_pl_39 ty_ze_39 rfl rfl (rfl))) ?_
    refine L_op rfl (W_storeAll rfl rfl rfl rfl ty_ag_39 (rfl) (Rec.one acc0) .h0 (rfl) ?_)
    refine L_nil ?_
    refine St.env (.cons (t := 4) rfl .nil) ?_
    refine Q_then ?_
    refine R_ret ?_
    exact R_endV rfl rfl (.cell rfl (Rds.loadVar ty_ag_39 (Rds.blk .h0) rfl) .nil) (by rw [findA_no (idxG_none h0)]; rfl)
theorem rfind_ok {gl : Nat → Obj} (base : Option Addr) (c : Nat) (l : List Acc) (hc : l.length ≤ c)(hm : l.length ≤ 3518437208883) (r : Value) (hr : r.oneCell' = true) (bu su a : Int) : SpecV (cx gl) 15 [.agg (ledV (.slice base l.length c) r bu su).toArray, .int .u64 a] (fun w => Row w base (rc l)) (findV l a) := by
  refine Spec.enter (C := cx gl) Try.func15 rfl 18 rfl rfl fun w0 h0 hsep hsub hpre => ?_
  obtain rfl : h0 = Heap.none := hsep
  show St (cx gl) _ [(0, .agg (ledV (.slice base l.length c) r bu su).toArray), (1, .int .u64 a)] _ _
  refine R_seq ?_
  refine R_region ?_
  refine L_op rfl (W_box (ledV (.slice base l.length c) r bu su) rfl rfl rfl rfl rfl fun b2 => ?_)
  refine L_op rfl (W_alloc rfl rfl rfl ty_ze_39 fun b4 => ?_)
  refine L_val rfl rfl rfl (OpP.v (P_assign rfl rfl)) ?_
  refine L_nil ?_
  refine St.env (.cons (t := 1) rfl (.cons (t := 2) rfl (.cons (t := 4) rfl (.cons (t := 5) rfl .nil)))) ?_
  refine Q_then ?_
  refine R_seq ?_
  refine R_region ?_
  refine L_val rfl rfl rfl (V_loadAgg rfl rfl ty_ag_29 (Rds.blk .h1) (rfl)) ?_
  refine L_val rfl rfl rfl (OpP.v (P_move rfl rfl)) ?_
  refine L_op rfl (W_callV rfl rfl rfl rfl fn_ca_37 (rplace_ok base c l hc hm r hr bu su a) (fun w nw => (Sn.row hpre rfl).rw_ w nw) ?_)
  refine L_val rfl rfl rfl (OpP.v (P_assign rfl rfl)) ?_
  refine L_nil ?_
  refine St.env (.cons (t := 2) rfl (.cons (t := 4) rfl (.cons (t := 5) rfl (.cons (t := 6) rfl .nil)))) ?_
  refine Q_then ?_
  refine R_seq ?_
  refine R_seq ?_
  refine R_region ?_
  refine L_val rfl rfl rfl (OpP.v (P_move rfl rfl)) ?_
  refine L_val rfl rfl rfl (OpP.v (P_lss rfl rfl rfl)) ?_
  refine L_nil ?_
  refine St.env (.cons (t := 2) rfl (.cons (t := 4) rfl (.cons (t := 5) rfl (.cons (t := 6) rfl (.cons (t := 11) rfl .nil))))) ?_
  refine Q_then ?_
  refine R_condP rfl (fun hn => ?_) (fun hn => ?_)
  · skip
    rw [isAz_idx] at hn
    have hno : idxG (isAc a) l < 0 ∨ a = 0 := by split at hn; exact .inr (by assumption); exact .inl hn
    refine R_seq ?_
    refine R_region ?_
    refine L_val rfl rfl rfl (OpP.v (P_buildStruct rfl ty_pl_39 ty_ze_39 rfl rfl (rfl))) ?_
    refine L_op rfl (W_storeAll rfl rfl rfl rfl ty_ag_39 (rfl) (Rec.one acc0) .h0 (rfl) ?_)
    refine L_val rfl rfl rfl (OpP.v (P_assign rfl rfl)) ?_
    refine L_nil ?_
    refine St.env (.cons (t := 2) rfl (.cons (t := 4) rfl (.cons (t := 5) rfl (.cons (t := 6) rfl .nil)))) ?_
    refine Q_then ?_
    refine R_ret ?_
    refine Q_then_ret ?_
    exact R_endV rfl rfl (.cell rfl (Rds.loadVar ty_ag_39 (Rds.blk .h0) rfl) (.tmp rfl .nil)) (by rw [findV_no hno]; rfl)
  · skip
    obtain ⟨i, hi, hix⟩ := idxG_pos hn
    rw [isAz_idx] at hix
    have ha0 : a ≠ 0 := fun e => by rw [if_pos e] at hix; omega
    rw [if_neg ha0] at hix
    have hno : ¬ (idxG (isAc a) l < 0 ∨ a = 0) := by omega
    have hx := accAt_get hi
    obtain ⟨pb, pj, rfl, hrow⟩ := hpre.some_ (by rw [rc_length]; show 0 < _ * 5; omega)
    refine E_as (t := 6) (v' := .int .i64 (i : Int)) rfl (by rw [isAz_idx, if_neg ha0, hix]) ?_
    refine R_skip ?_
    refine Q_then ?_
    refine R_seq ?_
    refine R_region ?_
    refine L_val rfl rfl rfl (OpP.v (P_fld0 rfl ty_fl_29_0 rfl)) ?_
    refine L_val rfl rfl rfl (V_load rfl rfl ty_sc_22 (Rd.blk .h1 rfl)) ?_
    refine L_val rfl rfl rfl (OpP.v (P_move rfl rfl)) ?_
    refine L_val rfl rfl rfl (OpP.v (P_ixs (i) rfl ty_sl_22 rfl rfl (by first | rfl | omega) (by omega))) ?_
    refine L_val rfl rfl rfl (V_loadAgg rfl rfl ty_ag_39 (rds_rc (Rds.row hrow rfl) hx) (rfl)) ?_
    refine L_op rfl (W_storeAll rfl rfl rfl rfl ty_ag_39 (rfl) (Rec.one (accAt l i)) .h0 (rfl) ?_)
    refine L_val rfl rfl rfl (OpP.v (P_assign rfl rfl)) ?_
    refine L_nil ?_
    refine St.env (.cons (t := 4) rfl (.cons (t := 5) rfl .nil)) ?_
    refine Q_then ?_
    refine R_ret ?_
    exact R_endV rfl rfl (.cell rfl (Rds.loadVar ty_ag_39 (Rds.blk .h0) rfl) (.tmp rfl .nil)) (by rw [findV_yes hno, hix]; rfl)
end Go.Proofs.Ytfhjhaogmdaepaa
