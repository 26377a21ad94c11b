/- Places, Sound. Printed by gen.py. -/
import Derived.Test.YtfhjhaogmdaepaaSrtA
import Derived.Test.YtfhjhaogmdaepaaL8B
set_option linter.unusedVariables false
set_option linter.unusedSimpArgs false
set_option maxRecDepth 100000
namespace Go.Proofs.Ytfhjhaogmdaepaa
open Go Go.RowKit Go.Proofs
theorem cmpI_pos (x y : Int) : 0 < cmpI x y ↔ y < x := by
  unfold cmpI; split
  · exact ⟨fun h => absurd h (by decide), fun h => by omega⟩
  · split
    · exact ⟨fun _ => by assumption, fun _ => by decide⟩
    · exact ⟨fun h => absurd h (by decide), fun h => by omega⟩
theorem laterI_pos (x y : Rel) : ¬ 0 < laterI x y ↔ laterB x y = false := by
  have h : 0 < laterI x y ↔ laterB x y = true := by
    unfold laterI laterB orI
    rw [Bool.or_eq_true, Bool.and_eq_true, decide_eq_true_eq, decide_eq_true_eq, decide_eq_true_eq]
    split
    · rename_i h; rw [cmpI_pos]; rw [ne_eq, cmpI_zero] at h; omega
    · rename_i h; rw [cmpI_pos]; rw [ne_eq, cmpI_zero, Classical.not_not] at h; omega
  rw [h, Bool.not_eq_true]
theorem place_neg (l : List Acc) (a : Int) : placeI l a < 0 ↔ spotB l a = false := by
  unfold placeI
  cases spotB l a with
  | true => rw [if_pos rfl]; exact ⟨fun h => by omega, fun h => by cases h⟩
  | false => rw [if_neg (by decide)]; exact ⟨fun _ => rfl, fun _ => by decide⟩
theorem lsoundE_big {l : Led} (h : 65536 < l.acc.length ∨ 65536 < l.rel.length) : lsoundE l = 86 := by unfold lsoundE; rw [if_pos h]
theorem lsoundE_acc {l : Led} (h1 : ¬ 65536 < l.acc.length) (h2 : ¬ 65536 < l.rel.length) (h : accE l.acc ≠ 0) : lsoundE l = accE l.acc := by unfold lsoundE; rw [if_neg (by omega), if_pos h]
theorem lsoundE_rel {l : Led} (h1 : ¬ 65536 < l.acc.length) (h2 : ¬ 65536 < l.rel.length) (h : accE l.acc = 0) {e : Int} (hr : relE l.acc l.rel = e) (he : e ≠ 0) : lsoundE l = e := by
  subst hr; unfold lsoundE; rw [if_neg (by omega), if_neg (by rw [h]; simp), if_pos he]
theorem lsoundE_sum {l : Led} (h1 : ¬ 65536 < l.acc.length) (h2 : ¬ 65536 < l.rel.length) (h : accE l.acc = 0) (hr : relE l.acc l.rel = 0) (hs : MS < l.sup ∨ l.burnt + sumA l.acc + sumR l.rel ≠ l.sup) : lsoundE l = 87 := by
  unfold lsoundE; rw [if_neg (by omega), if_neg (by rw [h]; simp), if_neg (by rw [hr]; simp), if_pos hs]
theorem lsoundE_fine {l : Led} (h1 : ¬ 65536 < l.acc.length) (h2 : ¬ 65536 < l.rel.length) (h : accE l.acc = 0) (hr : relE l.acc l.rel = 0) (h3 : ¬ MS < l.sup) (hs : l.burnt + sumA l.acc + sumR l.rel = l.sup) : lsoundE l = 0 := by
  unfold lsoundE; rw [if_neg (by omega), if_neg (by rw [h]; simp), if_neg (by rw [hr]; simp), if_neg (by omega)]
theorem sumC_eq {S x : Int} (h0 : 0 ≤ S) (hx : u64 x) : decide (S ≠ x) = false ↔ sumC S = [.int .u64 0, .int .u64 x] := by
  obtain ⟨h1, h2⟩ := hx
  rw [decide_eq_false_iff_not, Classical.not_not]
  unfold sumC
  simp only [List.cons.injEq, Value.int.injEq, true_and, and_true]
  omega
theorem sumC_kind (S x : Int) : ∀ (i : Nat) (u v : Value), (sumC S)[i]? = some u → ([.int .u64 0, .int .u64 x] : List Value)[i]? = some v → ∃ k a b, u = .int k a ∧ v = .int k b
  | 0, _, _, h, h' => by cases h; cases h'; exact ⟨_, _, _, rfl, rfl⟩
  | 1, _, _, h, h' => by cases h; cases h'; exact ⟨_, _, _, rfl, rfl⟩
  | _ + 2, _, _, h, _ => by cases h
theorem spot1_ok {gl : Nat → Obj} (x : Acc) (a : Int) : SpecV (cx gl) 59 [.agg x.cells.toArray, .int .u64 a] noPre (.int .i64 (cmpI x.a a)) := by
  refine Spec.enter (C := cx gl) Try.func59 rfl 9 rfl rfl fun w0 h0 hsep hsub hpre => ?_
  obtain rfl : h0 = Heap.none := hsep
  show St (cx gl) _ [(0, .agg x.cells.toArray), (1, .int .u64 a)] _ _
  refine R_seq ?_
  refine R_region ?_
  refine L_op rfl (W_box (x.cells) rfl rfl rfl rfl rfl fun b2 => ?_)
  refine L_val rfl rfl rfl (OpP.v (P_assign rfl rfl)) ?_
  refine L_nil ?_
  refine St.env (.cons (t := 1) rfl (.cons (t := 2) rfl (.cons (t := 4) rfl .nil))) ?_
  refine Q_then ?_
  refine R_seq ?_
  refine R_region ?_
  refine L_val rfl rfl rfl (OpP.v (P_fld0 rfl ty_fl_39_0 rfl)) ?_
  refine L_val rfl rfl rfl (V_load rfl rfl ty_sc_35 (Rd.blk .h0 rfl)) ?_
  refine L_val rfl rfl rfl (OpP.v (P_move rfl rfl)) ?_
  refine L_op rfl (W_callV rfl rfl rfl rfl fn_ca_28 (cmpa_ok _ _) (fun _ _ => trivial) ?_)
  refine L_val rfl rfl rfl (OpP.v (P_assign rfl rfl)) ?_
  refine L_nil ?_
  refine St.env (.cons (t := 4) rfl .nil) ?_
  refine Q_then ?_
  refine R_ret ?_
  exact R_endV rfl rfl (.tmp rfl .nil) (rfl)
theorem bsA_ok {gl : Nat → Obj} (a : Int) (base : Option Addr) (c : Nat) (l : List Acc) (hc : l.length ≤ c) (hm : l.length ≤ 3518437208883) : SpecV (cx gl) 58 [.slice base l.length c, .int .u64 a, .func (.func 59) #[] #[]] (fun w => Row w base (rc l)) (.tuple #[.int .i64 (spotI l a), .bool (spotB l a)]) := by
  refine Spec.enter (C := cx gl) Try.func58 rfl 49 rfl rfl fun w0 h0 hsep hsub hpre => ?_
  obtain rfl : h0 = Heap.none := hsep
  show St (cx gl) _ [(0, .slice base l.length c), (1, .int .u64 a), (2, .func (.func 59) #[] #[])] _ _
  refine R_seq ?_
  refine R_region ?_
  refine L_val rfl rfl rfl (OpP.v (P_assign rfl rfl)) ?_
  refine L_val rfl rfl rfl (OpP.v (P_assign rfl rfl)) ?_
  refine L_nil ?_
  refine Q_then ?_
  refine R_seq ?_
  refine R_region ?_
  refine L_val rfl rfl rfl (OpP.v (P_move rfl rfl)) ?_
  refine L_val rfl rfl rfl (OpP.v (P_len rfl ty_sl_22 rfl)) ?_
  refine L_val rfl rfl rfl (OpP.v (P_assign rfl rfl)) ?_
  refine L_nil ?_
  refine St.env (.cons (t := 0) rfl (.cons (t := 1) rfl (.cons (t := 2) rfl (.cons (t := 6) rfl (.cons (t := 7) rfl (.cons (t := 8) rfl .nil)))))) ?_
  refine Q_then ?_
  refine R_seq ?_
  refine R_region ?_
  refine L_val rfl rfl rfl (OpP.v (P_move rfl rfl)) ?_
  refine L_val rfl rfl rfl (OpP.v (P_assign rfl rfl)) ?_
  refine L_val rfl rfl rfl (OpP.v (P_assign rfl rfl)) ?_
  refine L_nil ?_
  refine St.env (.cons (t := 0) rfl (.cons (t := 1) rfl (.cons (t := 2) rfl (.cons (t := 6) rfl (.cons (t := 7) rfl (.cons (t := 8) rfl (.cons (t := 9) rfl (.cons (t := 10) rfl .nil)))))))) ?_
  refine Q_then ?_
  refine R_seq ?_
  refine R_block ?_
  refine R_loopE (G := Nat × Nat) (.cons (t := 0) rfl (.cons (t := 1) rfl (.cons (t := 2) rfl (.cons (t := 6) rfl (.cons (t := 7) rfl (.cons (t := 8) rfl .nil)))))) (fun g => [(9, .int .i64 ((g.1 : Nat) : Int)), (10, .int .i64 ((g.2 : Nat) : Int))]) (fun _ => _) (fun g => g.1 ≤ g.2 ∧ g.2 ≤ l.length ∧ spotI l a = bsN (fun i => decide ((accAt l i).a < a)) g.1 g.2) (fun g => g.2 - g.1) (0, l.length) (by show (0) ≤ (l.length) ∧ (l.length) ≤ l.length ∧ spotI l a = bsN (fun i => decide ((accAt l i).a < a)) (0) (l.length); exact ⟨Nat.zero_le _, Nat.le_refl _, rfl⟩) (by repeat (first | exact .nil | refine .cons rfl ?_ | refine .consE rfl (by first | rfl | (congr 1; omega) | (congr 1; push_cast; omega)) ?_)) (Weak.refl _) ?_
  rintro ⟨lo, hi⟩ hinv
  replace hinv : lo ≤ hi ∧ hi ≤ l.length ∧ spotI l a = bsN (fun i => decide ((accAt l i).a < a)) lo hi := hinv
  show St (cx gl) _ ((9, .int .i64 ((lo : Nat) : Int)) :: (10, .int .i64 ((hi : Nat) : Int)) :: _) _ _
  obtain ⟨h1, h2, h3⟩ := hinv
  refine R_seq ?_
  refine R_seq ?_
  refine R_region ?_
  refine L_val rfl rfl rfl (OpP.v (P_move rfl rfl)) ?_
  refine L_val rfl rfl rfl (OpP.v (P_move rfl rfl)) ?_
  refine L_val rfl rfl rfl (OpP.v (P_lss rfl rfl rfl)) ?_
  refine L_nil ?_
  refine Q_then ?_
  refine R_condP rfl (fun hlt => ?_) (fun hlt => ?_)
  · skip
    have hx := accAt_get (l := l) (i := (lo + hi) / 2) (by omega)
    obtain ⟨pb, pj, rfl, hrow⟩ := hpre.some_ (by rw [rc_length]; show 0 < _ * 5; omega)
    refine R_skip ?_
    refine Q_then ?_
    refine R_block ?_
    refine R_seq ?_
    refine R_region ?_
    refine L_val rfl rfl rfl (OpP.v (P_move rfl rfl)) ?_
    refine L_val rfl rfl rfl (OpP.v (P_move rfl rfl)) ?_
    first | (refine L_val rfl rfl rfl (OpP.v (P_addN rfl rfl rfl (by simp only [fits]; omega))) ?_) | (refine L_val rfl rfl rfl (OpP.v (P_add rfl rfl rfl)) ?_)
    first | (refine L_val rfl rfl rfl (OpP.v (P_convN rfl ty_int_3 ty_int_76 rfl (by simp only [fits]; omega))) ?_) | (refine L_val rfl rfl rfl (OpP.v (P_conv rfl ty_int_3 ty_int_76 rfl)) ?_)
    refine L_val rfl rfl rfl (OpP.v (P_shr rfl rfl rfl (by omega))) ?_
    refine E_as (t := 22) (v' := .int .u64 (((lo + hi) / 2 : Nat) : Int)) rfl (by have h9 := half_nat (lo + hi); push_cast at h9 ⊢; rw [h9]) ?_
    first | (refine L_val rfl rfl rfl (OpP.v (P_convN rfl ty_int_76 ty_int_3 rfl (by simp only [fits]; omega))) ?_) | (refine L_val rfl rfl rfl (OpP.v (P_conv rfl ty_int_76 ty_int_3 rfl)) ?_)
    refine L_val rfl rfl rfl (OpP.v (P_assign rfl rfl)) ?_
    refine L_nil ?_
    refine Q_then ?_
    refine R_seq ?_
    refine R_region ?_
    refine L_val rfl rfl rfl (OpP.v (P_move rfl rfl)) ?_
    refine L_val rfl rfl rfl (OpP.v (P_move rfl rfl)) ?_
    refine L_val rfl rfl rfl (OpP.v (P_move rfl rfl)) ?_
    refine L_val rfl rfl rfl (OpP.v (P_ixs ((lo + hi) / 2) rfl ty_sl_22 rfl rfl (by first | rfl | omega) (by omega))) ?_
    refine L_val rfl rfl rfl (V_loadAgg rfl rfl ty_ag_39 (rds_rc (Rds.row hrow rfl) hx) (rfl)) ?_
    refine L_val rfl rfl rfl (OpP.v (P_move rfl rfl)) ?_
    refine L_op rfl (W_callFV (fi := []) (ca := []) rfl rfl rfl rfl rfl rfl fn_ca_59 (spot1_ok (accAt l ((lo + hi) / 2)) a) (fun _ _ => trivial) ?_)
    refine L_val rfl rfl rfl (OpP.v (P_lss rfl rfl rfl)) ?_
    refine L_nil ?_
    refine Q_then ?_
    refine R_condP rfl (fun hb => ?_) (fun hb => ?_)
    · skip
      refine R_region ?_
      refine L_val rfl rfl rfl (OpP.v (P_move rfl rfl)) ?_
      first | (refine L_val rfl rfl rfl (OpP.v (P_addN rfl rfl rfl (by simp only [fits]; omega))) ?_) | (refine L_val rfl rfl rfl (OpP.v (P_add rfl rfl rfl)) ?_)
      refine L_val rfl rfl rfl (OpP.v (P_assign rfl rfl)) ?_
      refine L_nil ?_
      refine Q_block ?_
      exact Q_round ((lo + hi) / 2 + 1, hi) (by show ((lo + hi) / 2 + 1) ≤ (hi) ∧ (hi) ≤ l.length ∧ spotI l a = bsN (fun i => decide ((accAt l i).a < a)) ((lo + hi) / 2 + 1) (hi); exact ⟨by omega, h2, by rw [h3]; exact bsN_up (by omega) (decide_eq_true ((cmpI_neg _ _).1 hb))⟩) (by show hi - ((lo + hi) / 2 + 1) < hi - lo; omega) (by repeat (first | exact .nil | refine .cons rfl ?_ | refine .consE rfl (by first | rfl | (congr 1; omega) | (congr 1; push_cast; omega)) ?_)) (Weak.refl _)
    · skip
      refine R_region ?_
      refine L_val rfl rfl rfl (OpP.v (P_move rfl rfl)) ?_
      refine L_val rfl rfl rfl (OpP.v (P_assign rfl rfl)) ?_
      refine L_nil ?_
      refine Q_block ?_
      exact Q_round (lo, (lo + hi) / 2) (by show (lo) ≤ ((lo + hi) / 2) ∧ ((lo + hi) / 2) ≤ l.length ∧ spotI l a = bsN (fun i => decide ((accAt l i).a < a)) (lo) ((lo + hi) / 2); exact ⟨by omega, by omega, by rw [h3]; exact bsN_down (by omega) (decide_eq_false fun h9 => hb ((cmpI_neg _ _).2 h9))⟩) (by show (lo + hi) / 2 - lo < hi - lo; omega) (by repeat (first | exact .nil | refine .cons rfl ?_ | refine .consE rfl (by first | rfl | (congr 1; omega) | (congr 1; push_cast; omega)) ?_)) (Weak.refl _)
  · skip
    have hin : hi = lo := by omega
    have hsp : spotI l a = lo := by rw [h3]; exact bsN_end (by omega)
    refine R_exit ?_
    refine Q_then_exit ?_
    refine Q_then_exit ?_
    refine Q_block_eq ?_
    refine St.env (.cons (t := 0) rfl (.cons (t := 1) rfl (.cons (t := 2) rfl (.cons (t := 6) rfl (.cons (t := 7) rfl (.cons (t := 8) rfl (.cons (t := 9) rfl .nil))))))) ?_
    refine Q_then ?_
    refine R_seq ?_
    refine R_region ?_
    refine L_val rfl rfl rfl (OpP.v (P_move rfl rfl)) ?_
    refine L_val rfl rfl rfl (OpP.v (P_move rfl rfl)) ?_
    refine L_val rfl rfl rfl (OpP.v (P_move rfl rfl)) ?_
    refine L_val rfl rfl rfl (OpP.v (P_lss rfl rfl rfl)) ?_
    refine E_bool (t := 38) rfl (fun hl2 => ?_) (fun hl2 => ?_)
    · skip
      have hl2 : lo < l.length := by have := of_decide_eq_true hl2; omega
      have hx := accAt_get hl2
      obtain ⟨pb, pj, rfl, hrow⟩ := hpre.some_ (by rw [rc_length]; show 0 < _ * 5; omega)
      refine L_val rfl rfl rfl (OpP.v (P_move rfl rfl)) ?_
      refine L_val rfl rfl rfl (OpP.v (P_move rfl rfl)) ?_
      refine L_val rfl rfl rfl (OpP.v (P_move rfl rfl)) ?_
      refine L_val rfl rfl rfl (OpP.v (P_move rfl rfl)) ?_
      refine L_val rfl rfl rfl (OpP.v (P_ixs (lo) rfl ty_sl_22 rfl rfl (by first | rfl | omega) (by omega))) ?_
      refine L_val rfl rfl rfl (V_loadAgg rfl rfl ty_ag_39 (rds_rc (Rds.row hrow rfl) hx) (rfl)) ?_
      refine L_val rfl rfl rfl (OpP.v (P_move rfl rfl)) ?_
      refine L_op rfl (W_callFV (fi := []) (ca := []) rfl rfl rfl rfl rfl rfl fn_ca_59 (spot1_ok (accAt l lo) a) (fun _ _ => trivial) ?_)
      refine L_val rfl rfl rfl (OpP.v (P_eql rfl rfl rfl)) ?_
      refine L_val rfl rfl rfl (OpP.v (P_pick rfl rfl rfl)) ?_
      refine L_val rfl rfl rfl (OpP.v (P_assign rfl rfl)) ?_
      refine L_val rfl rfl rfl (OpP.v (P_assign rfl rfl)) ?_
      refine L_nil ?_
      refine St.env (.cons (t := 6) rfl (.cons (t := 7) rfl .nil)) ?_
      refine Q_then ?_
      refine R_ret ?_
      exact R_endV rfl rfl (.tmp rfl (.tmp rfl .nil)) (by unfold spotB; rw [hsp]; first | (rw [decide_eq_false hl2]; rfl) | (rw [decide_eq_true hl2, Bool.true_and, show decide ((accAt l lo).a = a) = decide (cmpI (accAt l lo).a a = 0) from decide_eq_decide.2 (cmpI_zero _ _).symm]; rfl))
    · skip
      have hl2 : ¬ lo < l.length := by have := of_decide_eq_false hl2; omega
      refine L_val rfl rfl rfl (OpP.v (P_move rfl rfl)) ?_
      refine L_no rfl rfl rfl ?_
      refine L_no rfl rfl rfl ?_
      refine L_no rfl rfl rfl ?_
      refine L_no rfl rfl rfl ?_
      refine L_no rfl rfl rfl ?_
      refine L_no rfl rfl rfl ?_
      refine L_no rfl rfl rfl ?_
      refine L_no rfl rfl rfl ?_
      refine L_val rfl rfl rfl (OpP.v (P_pick rfl rfl rfl)) ?_
      refine L_val rfl rfl rfl (OpP.v (P_assign rfl rfl)) ?_
      refine L_val rfl rfl rfl (OpP.v (P_assign rfl rfl)) ?_
      refine L_nil ?_
      refine St.env (.cons (t := 6) rfl (.cons (t := 7) rfl .nil)) ?_
      refine Q_then ?_
      refine R_ret ?_
      exact R_endV rfl rfl (.tmp rfl (.tmp rfl .nil)) (by unfold spotB; rw [hsp]; first | (rw [decide_eq_false hl2]; rfl) | (rw [decide_eq_true hl2, Bool.true_and, show decide ((accAt l lo).a = a) = decide (cmpI (accAt l lo).a a = 0) from decide_eq_decide.2 (cmpI_zero _ _).symm]; rfl))
theorem spot_ok {gl : Nat → Obj} (base : Option Addr) (c : Nat) (l : List Acc) (hc : l.length ≤ c) (hm : l.length ≤ 3518437208883) (r : Value) (hr : r.oneCell' = true) (bu su a : Int) : SpecV (cx gl) 44 [.agg (ledV (.slice base l.length c) r bu su).toArray, .int .u64 a] (fun w => Row w base (rc l)) (.tuple #[.int .i64 (spotI l a), .bool (spotB l a)]) := by
  refine Spec.enter (C := cx gl) Try.func44 rfl 12 rfl rfl fun w0 h0 hsep hsub hpre => ?_
  obtain rfl : h0 = Heap.none := hsep
  show St (cx gl) _ [(0, .agg (ledV (.slice base l.length c) r bu su).toArray), (1, .int .u64 a)] _ _
  refine R_seq ?_
  refine R_region ?_
  refine L_op rfl (W_box (ledV (.slice base l.length c) r bu su) rfl rfl rfl rfl rfl fun b2 => ?_)
  refine L_val rfl rfl rfl (OpP.v (P_assign rfl rfl)) ?_
  refine L_val rfl rfl rfl (OpP.v (P_assign rfl rfl)) ?_
  refine L_nil ?_
  refine St.env (.cons (t := 1) rfl (.cons (t := 2) rfl (.cons (t := 4) rfl (.cons (t := 5) rfl .nil)))) ?_
  refine Q_then ?_
  refine R_seq ?_
  refine R_region ?_
  refine L_val rfl rfl rfl (OpP.v (P_fld0 rfl ty_fl_29_0 rfl)) ?_
  refine L_val rfl rfl rfl (V_load rfl rfl ty_sc_22 (Rd.blk .h0 rfl)) ?_
  refine L_val rfl rfl rfl (OpP.v (P_move rfl rfl)) ?_
  refine L_op rfl (W_callV rfl rfl rfl rfl fn_ca_58 (bsA_ok a base c l hc hm) (fun w nw => (Sn.row hpre rfl).rw_ w nw) ?_)
  refine L_val rfl rfl rfl (OpP.v (P_extract rfl rfl rfl)) ?_
  refine L_val rfl rfl rfl (OpP.v (P_extract rfl rfl rfl)) ?_
  refine L_val rfl rfl rfl (OpP.v (P_assign rfl rfl)) ?_
  refine L_val rfl rfl rfl (OpP.v (P_assign rfl rfl)) ?_
  refine L_nil ?_
  refine St.env (.cons (t := 4) rfl (.cons (t := 5) rfl .nil)) ?_
  refine Q_then ?_
  refine R_ret ?_
  exact R_endV rfl rfl (.tmp rfl (.tmp rfl .nil)) (rfl)
theorem place_ok {gl : Nat → Obj} (base : Option Addr) (c : Nat) (l : List Acc) (hc : l.length ≤ c) (hm : l.length ≤ 3518437208883) (r : Value) (hr : r.oneCell' = true) (bu su a : Int) : SpecV (cx gl) 31 [.agg (ledV (.slice base l.length c) r bu su).toArray, .int .u64 a] (fun w => Row w base (rc l)) (.int .i64 (placeI l a)) := by
  refine Spec.enter (C := cx gl) Try.func31 rfl 15 rfl rfl fun w0 h0 hsep hsub hpre => ?_
  obtain rfl : h0 = Heap.none := hsep
  show St (cx gl) _ [(0, .agg (ledV (.slice base l.length c) r bu su).toArray), (1, .int .u64 a)] _ _
  refine R_seq ?_
  refine R_region ?_
  refine L_op rfl (W_box (ledV (.slice base l.length c) r bu su) rfl rfl rfl rfl rfl fun b2 => ?_)
  refine L_val rfl rfl rfl (OpP.v (P_assign rfl rfl)) ?_
  refine L_nil ?_
  refine St.env (.cons (t := 1) rfl (.cons (t := 2) rfl (.cons (t := 4) rfl .nil))) ?_
  refine Q_then ?_
  refine R_seq ?_
  refine R_seq ?_
  refine R_region ?_
  refine L_val rfl rfl rfl (V_loadAgg rfl rfl ty_ag_29 (Rds.blk .h0) (rfl)) ?_
  refine L_val rfl rfl rfl (OpP.v (P_move rfl rfl)) ?_
  refine L_op rfl (W_callV rfl rfl rfl rfl fn_ca_44 (spot_ok base c l hc hm r hr bu su a) (fun w nw => (Sn.row hpre rfl).rw_ w nw) ?_)
  refine L_val rfl rfl rfl (OpP.v (P_move rfl rfl)) ?_
  refine L_val rfl rfl rfl (OpP.v (P_extract rfl rfl rfl)) ?_
  refine L_val rfl rfl rfl (OpP.v (P_extract rfl rfl rfl)) ?_
  refine L_val rfl rfl rfl (OpP.v (P_assign rfl rfl)) ?_
  refine L_val rfl rfl rfl (OpP.v (P_assign rfl rfl)) ?_
  refine L_nil ?_
  refine St.env (.cons (t := 4) rfl (.cons (t := 5) rfl (.cons (t := 6) rfl .nil))) ?_
  refine Q_then ?_
  refine R_seq ?_
  refine R_region ?_
  refine L_val rfl rfl rfl (OpP.v (P_move rfl rfl)) ?_
  refine L_nil ?_
  refine St.env (.cons (t := 4) rfl (.cons (t := 5) rfl (.cons (t := 13) rfl .nil))) ?_
  refine Q_then ?_
  refine R_cond rfl (fun hb => ?_) (fun hb => ?_)
  · skip
    refine R_seq ?_
    refine R_region ?_
    refine L_val rfl rfl rfl (OpP.v (P_move rfl rfl)) ?_
    refine L_val rfl rfl rfl (OpP.v (P_assign rfl rfl)) ?_
    refine L_nil ?_
    refine St.env (.cons (t := 4) rfl .nil) ?_
    refine Q_then ?_
    refine R_ret ?_
    refine Q_then_ret ?_
    exact R_endV rfl rfl (.tmp rfl .nil) (by unfold placeI; rw [if_pos hb]; rfl)
  · skip
    refine R_skip ?_
    refine Q_then ?_
    refine R_seq ?_
    refine R_region ?_
    refine L_val rfl rfl rfl (OpP.v (P_assign rfl rfl)) ?_
    refine L_nil ?_
    refine St.env (.cons (t := 4) rfl .nil) ?_
    refine Q_then ?_
    refine R_ret ?_
    exact R_endV rfl rfl (.tmp rfl .nil) (by unfold placeI; rw [if_neg (by rw [hb]; decide)]; rfl)
theorem se_sum : seB Try.prog 50 2 = true := by kernel_rfl
theorem lsound_ok {gl : Nat → Obj} (base : Option Addr) (c : Nat) (l : List Acc) (hc : l.length ≤ c)(hok : ∀ x ∈ l, x.ok)(base' : Option Addr) (c' : Nat) (r : List Rel) (hc' : r.length ≤ c') (hok' : ∀ x ∈ r, x.ok) (bu su : Int) (hbu : u64 bu) (hsu : u64 su) : SpecV (cx gl) 11 [.agg (ledV (.slice base l.length c) (.slice base' r.length c') bu su).toArray] (fun w => Row w base (rc l) ∧ Row w base' (rc r)) (.int .i64 (lsoundE ⟨l, r, bu, su⟩)) := by
  refine Spec.enter (C := cx gl) Try.func11 rfl 98 rfl rfl fun w0 h0 hsep hsub hpre => ?_
  obtain rfl : h0 = Heap.none := hsep
  show St (cx gl) _ [(0, .agg (ledV (.slice base l.length c) (.slice base' r.length c') bu su).toArray)] _ _
  have hms : MS = 1152921504606846975 := rfl
  refine R_seq ?_
  refine R_region ?_
  refine L_op rfl (W_box (_) rfl rfl rfl rfl rfl fun b1 => ?_)
  refine L_val rfl rfl rfl (OpP.v (P_assign rfl rfl)) ?_
  refine L_nil ?_
  refine St.env (.cons (t := 1) rfl (.cons (t := 2) rfl .nil)) ?_
  refine Q_then ?_
  refine R_seq ?_
  refine R_seq ?_
  refine R_region ?_
  refine L_val rfl rfl rfl (OpP.v (P_fld0 rfl ty_fl_29_0 rfl)) ?_
  refine L_val rfl rfl rfl (V_load rfl rfl ty_sc_22 (by first | exact Rd.blk .h0 rfl | exact Rd.blk .h1 rfl | exact Rd.blk .h2 rfl | exact Rd.blk .h3 rfl | exact Rd.blk .h4 rfl | exact Rd.blk .h5 rfl | exact Rd.blk .h6 rfl | exact Rd.blk .h7 rfl)) ?_
  refine L_val rfl rfl rfl (OpP.v (P_len rfl ty_sl_22 rfl)) ?_
  refine L_val rfl rfl rfl (OpP.v (P_gtr rfl rfl rfl)) ?_
  refine E_bool (t := 10) rfl (fun hA => ?_) (fun hA => ?_)
  · skip
    have hA := of_decide_eq_true hA
    refine L_val rfl rfl rfl (OpP.v (P_move rfl rfl)) ?_
    refine L_no rfl rfl rfl ?_
    refine L_no rfl rfl rfl ?_
    refine L_no rfl rfl rfl ?_
    refine L_no rfl rfl rfl ?_
    refine L_val rfl rfl rfl (OpP.v (P_pick rfl rfl rfl)) ?_
    refine L_nil ?_
    refine St.env (.cons (t := 1) rfl (.cons (t := 2) rfl (.cons (t := 16) rfl .nil))) ?_
    refine Q_then ?_
    refine R_condT rfl ?_
    refine R_seq ?_
    refine R_region ?_
    refine L_val rfl rfl rfl (OpP.v (P_assign rfl rfl)) ?_
    refine L_nil ?_
    refine St.env (.cons (t := 1) rfl (.cons (t := 2) rfl .nil)) ?_
    refine Q_then ?_
    refine R_ret ?_
    refine Q_then_ret ?_
    exact R_endV rfl rfl (.tmp rfl .nil) (by rw [show lsoundE ⟨l, r, bu, su⟩ = 86 from lsoundE_big (by show 65536 < l.length ∨ 65536 < r.length; omega)]; rfl)
  · skip
    have hA := of_decide_eq_false hA
    have hA : ¬ 65536 < l.length := by omega
    refine L_val rfl rfl rfl (OpP.v (P_move rfl rfl)) ?_
    refine L_val rfl rfl rfl (OpP.v (P_fld0 rfl ty_fl_29_1 rfl)) ?_
    refine L_val rfl rfl rfl (V_load rfl rfl ty_sc_27 (by first | exact Rd.blk .h0 rfl | exact Rd.blk .h1 rfl | exact Rd.blk .h2 rfl | exact Rd.blk .h3 rfl | exact Rd.blk .h4 rfl | exact Rd.blk .h5 rfl | exact Rd.blk .h6 rfl | exact Rd.blk .h7 rfl)) ?_
    refine L_val rfl rfl rfl (OpP.v (P_len rfl ty_sl_27 rfl)) ?_
    refine L_val rfl rfl rfl (OpP.v (P_gtr rfl rfl rfl)) ?_
    refine L_val rfl rfl rfl (OpP.v (P_pick rfl rfl rfl)) ?_
    refine L_nil ?_
    refine St.env (.cons (t := 1) rfl (.cons (t := 2) rfl (.cons (t := 16) rfl .nil))) ?_
    refine Q_then ?_
    refine R_condP rfl (fun hB => ?_) (fun hB => ?_)
    · skip
      refine R_seq ?_
      refine R_region ?_
      refine L_val rfl rfl rfl (OpP.v (P_assign rfl rfl)) ?_
      refine L_nil ?_
      refine St.env (.cons (t := 1) rfl (.cons (t := 2) rfl .nil)) ?_
      refine Q_then ?_
      refine R_ret ?_
      refine Q_then_ret ?_
      exact R_endV rfl rfl (.tmp rfl .nil) (by rw [show lsoundE ⟨l, r, bu, su⟩ = 86 from lsoundE_big (by show 65536 < l.length ∨ 65536 < r.length; omega)]; rfl)
    · skip
      have hB : ¬ 65536 < r.length := by omega
      refine R_skip ?_
      refine Q_then ?_
      refine R_seq ?_
      refine R_region ?_
      refine L_val rfl rfl rfl (OpP.v (P_fld0 rfl ty_fl_29_0 rfl)) ?_
      refine L_val rfl rfl rfl (V_load rfl rfl ty_sc_22 (by first | exact Rd.blk .h0 rfl | exact Rd.blk .h1 rfl | exact Rd.blk .h2 rfl | exact Rd.blk .h3 rfl | exact Rd.blk .h4 rfl | exact Rd.blk .h5 rfl | exact Rd.blk .h6 rfl | exact Rd.blk .h7 rfl)) ?_
      refine L_op rfl (W_callV rfl rfl rfl rfl fn_ca_20 (soundAcc_ok base c l hc (by omega) hok) (fun w nw => (Sn.row hpre.1 rfl).rw_ w nw) ?_)
      rw [show soundV l = .tuple #[.agg (sumC (if accE l = 0 then sumA l else 0)).toArray, .int .i64 (accE l)] from rfl]
      refine L_val rfl rfl rfl (OpP.v (P_move rfl rfl)) ?_
      refine L_val rfl rfl rfl (OpP.v (P_extract rfl rfl rfl)) ?_
      refine L_val rfl rfl rfl (OpP.v (P_extract rfl rfl rfl)) ?_
      refine L_op rfl (W_alloc rfl rfl rfl ty_ze_50 fun b3 => ?_)
      refine L_op rfl (W_storeAll rfl rfl rfl rfl ty_ag_50 (rfl) (sumC_one _) .h0 (rfl) ?_)
      refine L_val rfl rfl rfl (OpP.v (P_assign rfl rfl)) ?_
      refine L_nil ?_
      refine St.env (.cons (t := 1) rfl (.cons (t := 2) rfl (.cons (t := 3) rfl (.cons (t := 4) rfl .nil)))) ?_
      refine Q_then ?_
      refine R_seq ?_
      refine R_seq ?_
      refine R_region ?_
      refine L_val rfl rfl rfl (OpP.v (P_move rfl rfl)) ?_
      refine L_val rfl rfl rfl (OpP.v (P_neq rfl rfl rfl)) ?_
      refine L_nil ?_
      refine St.env (.cons (t := 1) rfl (.cons (t := 2) rfl (.cons (t := 3) rfl (.cons (t := 4) rfl (.cons (t := 24) rfl .nil))))) ?_
      refine Q_then ?_
      refine R_condP rfl (fun he => ?_) (fun he => ?_)
      · skip
        refine R_seq ?_
        refine R_region ?_
        refine L_val rfl rfl rfl (OpP.v (P_move rfl rfl)) ?_
        refine L_val rfl rfl rfl (OpP.v (P_assign rfl rfl)) ?_
        refine L_nil ?_
        refine St.env (.cons (t := 1) rfl (.cons (t := 2) rfl (.cons (t := 3) rfl .nil))) ?_
        refine Q_then ?_
        refine R_ret ?_
        refine Q_then_ret ?_
        exact R_endV rfl rfl (.tmp rfl .nil) (by rw [show lsoundE ⟨l, r, bu, su⟩ = accE l from lsoundE_acc hA hB he]; rfl)
      · skip
        have he : accE l = 0 := Classical.not_not.1 he
        have hSn := sumA_nn hok
        have hS := sumA_le l.length (Nat.le_refl _) he
        rw [List.take_length, hms] at hS
        rw [if_pos he]
        refine R_skip ?_
        refine Q_then ?_
        refine R_seq ?_
        refine R_seq ?_
        refine R_region ?_
        refine L_val rfl rfl rfl (OpP.v (P_fld0 rfl ty_fl_29_1 rfl)) ?_
        refine L_val rfl rfl rfl (V_load rfl rfl ty_sc_27 (by first | exact Rd.blk .h0 rfl | exact Rd.blk .h1 rfl | exact Rd.blk .h2 rfl | exact Rd.blk .h3 rfl | exact Rd.blk .h4 rfl | exact Rd.blk .h5 rfl | exact Rd.blk .h6 rfl | exact Rd.blk .h7 rfl)) ?_
        refine L_val rfl rfl rfl (OpP.v (P_len rfl ty_sl_27 rfl)) ?_
        refine L_val rfl rfl rfl (OpP.v (P_move rfl rfl)) ?_
        refine L_nil ?_
        refine St.env (.cons (t := 1) rfl (.cons (t := 2) rfl (.cons (t := 3) rfl (.cons (t := 27) rfl (.cons (t := 28) rfl (.cons (t := 29) rfl .nil)))))) ?_
        refine Q_then ?_
        refine R_block ?_
        refine R_loopE (G := Nat) (.cons (t := 1) rfl (.cons (t := 2) rfl (.cons (t := 3) rfl (.cons (t := 27) rfl (.cons (t := 28) rfl .nil))))) (fun g => [(29, .int .i64 (g : Int))]) (fun g => [blk b3 (sumC (sumA l + sumR (r.take g))) 50, blk b1 (ledV (.slice base l.length c) (.slice base' r.length c') bu su) 29]) (fun g => g ≤ r.length ∧ firstE (relBad l r) g = 0) (fun g => r.length - g) (0) (by show (0) ≤ r.length ∧ firstE (relBad l r) (0) = 0; exact ⟨Nat.zero_le _, rfl⟩) (by repeat (first | exact .nil | refine .cons rfl ?_ | refine .consE rfl (by first | rfl | (congr 1; omega) | (congr 1; push_cast; omega)) ?_)) (by rw [show sumR (r.take 0) = 0 from rfl, Int.add_zero]; exact Weak.refl _) ?_
        intro i hinv
        replace hinv : i ≤ r.length ∧ firstE (relBad l r) i = 0 := hinv
        show St (cx gl) _ ((29, .int .i64 (i : Int)) :: _) [blk b3 (sumC (sumA l + sumR (r.take i))) 50, blk b1 (ledV (.slice base l.length c) (.slice base' r.length c') bu su) 29] _
        obtain ⟨hi, h0⟩ := hinv
        refine R_seq ?_
        refine R_region ?_
        refine L_val rfl rfl rfl (OpP.v (P_lss rfl rfl rfl)) ?_
        refine L_nil ?_
        refine Q_then ?_
        refine R_seq ?_
        refine R_condP rfl (fun hlt => ?_) (fun hlt => ?_)
        · skip
          have hx0 := relAt_get (l := r) (i := i) (by omega)
          obtain ⟨x, ex⟩ : ∃ x, x = relAt r i := ⟨_, rfl⟩
          have hx : r[i]? = some x := by rw [ex]; exact hx0
          obtain ⟨pb, pj, rfl, hrow⟩ := hpre.2.some_ (by rw [rc_length]; show 0 < _ * 4; omega)
          obtain ⟨hx1, hx2, hx3, hx4⟩ := hok' x (List.mem_of_getElem? hx)
          have hR := sumR_le i hi h0
          rw [hms] at hR
          have hRn : 0 ≤ sumR (r.take i) := sumR_nn fun y hy => hok' y (List.mem_of_mem_take hy)
          refine R_skip ?_
          refine Q_then ?_
          refine R_seq ?_
          refine R_block ?_
          refine R_seq ?_
          refine R_region ?_
          refine L_val rfl rfl rfl (OpP.v (P_move rfl rfl)) ?_
          refine L_val rfl rfl rfl (OpP.v (P_ixs (i) rfl ty_sl_27 rfl rfl (by first | rfl | omega) (by omega))) ?_
          refine L_val rfl rfl rfl (V_loadAgg rfl rfl ty_ag_62 (rds_rc (Rds.row hrow rfl) hx) (rfl)) ?_
          refine L_op rfl (W_alloc rfl rfl rfl ty_ze_62 fun b6 => ?_)
          refine L_val rfl rfl rfl (OpP.v (P_assign rfl rfl)) ?_
          refine L_op rfl (W_storeAll rfl rfl rfl rfl ty_ag_62 (rfl) (Rec.one x) .h0 (rfl) ?_)
          refine L_nil ?_
          refine Q_then ?_
          refine R_seq ?_
          refine R_block ?_
          refine R_seq ?_
          refine R_region ?_
          refine L_val rfl rfl rfl (V_loadAgg rfl rfl ty_ag_29 (Rds.blk .h2) (rfl)) ?_
          refine L_val rfl rfl rfl (OpP.v (P_fld0 rfl ty_fl_62_1 rfl)) ?_
          refine L_val rfl rfl rfl (V_load rfl rfl ty_sc_35 (Rd.blk .h0 rfl)) ?_
          refine L_op rfl (W_callV rfl rfl rfl rfl fn_ca_31 (place_ok base c l hc (by omega) _ rfl bu su x.a) (fun w nw => (Sn.row hpre.1 rfl).rw_ w nw) ?_)
          refine L_val rfl rfl rfl (OpP.v (P_lss rfl rfl rfl)) ?_
          refine L_val rfl rfl rfl (OpP.v (P_assign rfl rfl)) ?_
          refine L_nil ?_
          refine Q_then ?_
          refine R_condP rfl (fun hp => ?_) (fun hp => ?_)
          · skip
            have hpt := (place_neg _ _).1 hp
            refine R_seq ?_
            refine R_region ?_
            refine L_val rfl rfl rfl (OpP.v (P_assign rfl rfl)) ?_
            refine L_nil ?_
            refine Q_then ?_
            refine R_ret ?_
            refine Q_block_ret ?_
            refine Q_then_ret ?_
            refine Q_block_ret ?_
            refine Q_then_ret ?_
            refine Q_then_ret ?_
            refine Q_block_ret ?_
            refine Q_then_ret ?_
            exact R_endV rfl rfl (.tmp rfl .nil) (by rw [show lsoundE ⟨l, r, bu, su⟩ = 85 from lsoundE_rel hA hB he (firstE_hit h0 (show relBad l r i = 85 by unfold relBad; rw [← ex]; rw [if_pos hpt]) (by decide) (show i < r.length by omega)) (by decide)]; rfl)
          · skip
            have hpt : spotB l x.a = true := by cases h9 : spotB l x.a with | true => rfl | false => exact absurd ((place_neg _ _).2 h9) hp
            refine R_seq ?_
            refine R_region ?_
            refine L_val rfl rfl rfl (OpP.v (P_fld0 rfl ty_fl_62_2 rfl)) ?_
            refine L_val rfl rfl rfl (V_load rfl rfl ty_sc_23 (Rd.blk .h0 rfl)) ?_
            refine L_val rfl rfl rfl (OpP.v (P_gtr rfl rfl rfl)) ?_
            refine E_bool (t := 43) rfl (fun q1 => ?_) (fun q1 => ?_)
            · skip
              have q1 := of_decide_eq_true q1
              refine L_val rfl rfl rfl (OpP.v (P_move rfl rfl)) ?_
              refine L_no rfl rfl rfl ?_
              refine L_no rfl rfl rfl ?_
              refine L_no rfl rfl rfl ?_
              refine L_no rfl rfl rfl ?_
              refine L_no rfl rfl rfl ?_
              refine L_val rfl rfl rfl (OpP.v (P_pick rfl rfl rfl)) ?_
              refine L_val rfl rfl rfl (OpP.v (P_move rfl rfl)) ?_
              refine L_no rfl rfl rfl ?_
              refine L_no rfl rfl rfl ?_
              refine L_no rfl rfl rfl ?_
              refine L_val rfl rfl rfl (OpP.v (P_pick rfl rfl rfl)) ?_
              refine L_val rfl rfl rfl (OpP.v (P_assign rfl rfl)) ?_
              refine L_nil ?_
              refine Q_then ?_
              refine R_condT rfl ?_
              refine R_seq ?_
              refine R_region ?_
              refine L_val rfl rfl rfl (OpP.v (P_assign rfl rfl)) ?_
              refine L_nil ?_
              refine Q_then ?_
              refine R_ret ?_
              refine Q_block_ret ?_
              refine Q_then_ret ?_
              refine Q_block_ret ?_
              refine Q_then_ret ?_
              refine Q_then_ret ?_
              refine Q_block_ret ?_
              refine Q_then_ret ?_
              exact R_endV rfl rfl (.tmp rfl .nil) (by rw [show lsoundE ⟨l, r, bu, su⟩ = 2 from lsoundE_rel hA hB he (firstE_hit h0 (show relBad l r i = 2 by unfold relBad; rw [← ex]; rw [if_neg (by rw [hpt]; decide), if_pos (by omega)]) (by decide) (show i < r.length by omega)) (by decide)]; rfl)
            · skip
              have q1 := of_decide_eq_false q1
              refine L_val rfl rfl rfl (OpP.v (P_move rfl rfl)) ?_
              refine L_val rfl rfl rfl (OpP.v (P_fld0 rfl ty_fl_62_0 rfl)) ?_
              refine L_val rfl rfl rfl (V_load rfl rfl ty_sc_23 (Rd.blk .h0 rfl)) ?_
              refine L_val rfl rfl rfl (OpP.v (P_fld0 rfl ty_fl_62_2 rfl)) ?_
              refine L_val rfl rfl rfl (V_load rfl rfl ty_sc_23 (Rd.blk .h0 rfl)) ?_
              refine L_val rfl rfl rfl (OpP.v (P_lss rfl rfl rfl)) ?_
              refine E_bool (t := 49) rfl (fun q2 => ?_) (fun q2 => ?_)
              · skip
                have q2 := of_decide_eq_true q2
                refine L_val rfl rfl rfl (OpP.v (P_pick rfl rfl rfl)) ?_
                refine L_val rfl rfl rfl (OpP.v (P_move rfl rfl)) ?_
                refine L_no rfl rfl rfl ?_
                refine L_no rfl rfl rfl ?_
                refine L_no rfl rfl rfl ?_
                refine L_val rfl rfl rfl (OpP.v (P_pick rfl rfl rfl)) ?_
                refine L_val rfl rfl rfl (OpP.v (P_assign rfl rfl)) ?_
                refine L_nil ?_
                refine Q_then ?_
                refine R_condT rfl ?_
                refine R_seq ?_
                refine R_region ?_
                refine L_val rfl rfl rfl (OpP.v (P_assign rfl rfl)) ?_
                refine L_nil ?_
                refine Q_then ?_
                refine R_ret ?_
                refine Q_block_ret ?_
                refine Q_then_ret ?_
                refine Q_block_ret ?_
                refine Q_then_ret ?_
                refine Q_then_ret ?_
                refine Q_block_ret ?_
                refine Q_then_ret ?_
                exact R_endV rfl rfl (.tmp rfl .nil) (by rw [show lsoundE ⟨l, r, bu, su⟩ = 2 from lsoundE_rel hA hB he (firstE_hit h0 (show relBad l r i = 2 by unfold relBad; rw [← ex]; rw [if_neg (by rw [hpt]; decide), if_pos (by omega)]) (by decide) (show i < r.length by omega)) (by decide)]; rfl)
              · skip
                have q2 := of_decide_eq_false q2
                refine L_val rfl rfl rfl (OpP.v (P_pick rfl rfl rfl)) ?_
                refine L_val rfl rfl rfl (OpP.v (P_move rfl rfl)) ?_
                refine L_val rfl rfl rfl (OpP.v (P_fld0 rfl ty_fl_62_0 rfl)) ?_
                refine L_val rfl rfl rfl (V_load rfl rfl ty_sc_23 (Rd.blk .h0 rfl)) ?_
                refine L_val rfl rfl rfl (OpP.v (P_gtr rfl rfl rfl)) ?_
                refine L_val rfl rfl rfl (OpP.v (P_pick rfl rfl rfl)) ?_
                refine L_val rfl rfl rfl (OpP.v (P_assign rfl rfl)) ?_
                refine L_nil ?_
                refine Q_then ?_
                refine R_condP rfl (fun q3 => ?_) (fun q3 => ?_)
                · skip
                  refine R_seq ?_
                  refine R_region ?_
                  refine L_val rfl rfl rfl (OpP.v (P_assign rfl rfl)) ?_
                  refine L_nil ?_
                  refine Q_then ?_
                  refine R_ret ?_
                  refine Q_block_ret ?_
                  refine Q_then_ret ?_
                  refine Q_block_ret ?_
                  refine Q_then_ret ?_
                  refine Q_then_ret ?_
                  refine Q_block_ret ?_
                  refine Q_then_ret ?_
                  exact R_endV rfl rfl (.tmp rfl .nil) (by rw [show lsoundE ⟨l, r, bu, su⟩ = 2 from lsoundE_rel hA hB he (firstE_hit h0 (show relBad l r i = 2 by unfold relBad; rw [← ex]; rw [if_neg (by rw [hpt]; decide), if_pos (by omega)]) (by decide) (show i < r.length by omega)) (by decide)]; rfl)
                · skip
                  refine R_seq ?_
                  refine R_open [(0, 0), (1, 0), (2, 0), (3, 1), (4, 0), (5, 1), (6, 0), (7, 0), (8, 0), (9, 1), (10, 2), (11, 0), (12, 0), (13, 0)] mixed (by kernel_rfl) (QOk.then (QOk.block (QOk.then (QOk.block (QOk.then (QOk.then (QOk.block (QOk.then QOk.body)))))))) ?_
                  refine O_pure rfl rfl rfl rfl (P_move rfl rfl) ?_
                  refine O_pure rfl rfl rfl rfl (P_gtr rfl rfl rfl) ?_
                  refine E_bool (t := 58) rfl (fun q4 => ?_) (fun q4 => ?_)
                  · skip
                    have q4 : 0 < i := by have := of_decide_eq_true q4; omega
                    obtain ⟨y, ey⟩ : ∃ y, y = relAt r (i - 1) := ⟨_, rfl⟩
                    have hy : r[i - 1]? = some y := by rw [ey]; exact relAt_get (by omega)
                    refine O_pure rfl rfl rfl rfl (P_move rfl rfl) ?_
                    refine O_val rfl rfl rfl rfl (V_loadAgg rfl rfl ty_ag_62 (Rds.blk .h0) (rfl)) ?_
                    refine O_pure rfl rfl rfl rfl (P_fld0 rfl ty_fl_29_1 rfl) ?_
                    refine O_val rfl rfl rfl rfl (V_load rfl rfl ty_sc_27 (Rd.blk .h2 rfl)) ?_
                    refine O_pure rfl rfl rfl rfl (P_move rfl rfl) ?_
                    first | (refine O_pure rfl rfl rfl rfl (P_subN rfl rfl rfl (by simp only [fits]; omega)) ?_) | (refine O_pure rfl rfl rfl rfl (P_sub rfl rfl rfl) ?_)
                    refine O_pure rfl rfl rfl rfl (P_ixs (i - 1) rfl ty_sl_27 rfl rfl (by first | rfl | omega) (by omega)) ?_
                    refine O_val rfl rfl rfl rfl (V_loadAgg rfl rfl ty_ag_62 (rds_rc (Rds.row hrow rfl) hy) (rfl)) ?_
                    refine O_keep rfl rfl (W_callV rfl rfl rfl rfl fn_ca_32 (later_ok x y) (fun _ _ => trivial) (K_keep (Weak.refl _) ?_))
                    refine O_pure rfl rfl rfl rfl (P_leq rfl rfl rfl) ?_
                    refine O_pure rfl rfl rfl rfl (P_pick rfl rfl rfl) ?_
                    refine O_pure rfl rfl rfl rfl (P_assign rfl rfl) ?_
                    refine O_nil ?_
                    refine Q_then ?_
                    refine R_condP rfl (fun q5 => ?_) (fun q5 => ?_)
                    · skip
                      have q5 : laterB x y = false := (laterI_pos x y).1 (by omega)
                      refine R_seq ?_
                      refine R_region ?_
                      refine L_val rfl rfl rfl (OpP.v (P_assign rfl rfl)) ?_
                      refine L_nil ?_
                      refine Q_then ?_
                      refine R_ret ?_
                      refine Q_block_ret ?_
                      refine Q_then_ret ?_
                      refine Q_block_ret ?_
                      refine Q_then_ret ?_
                      refine Q_then_ret ?_
                      refine Q_block_ret ?_
                      refine Q_then_ret ?_
                      exact R_endV rfl rfl (.tmp rfl .nil) (by rw [show lsoundE ⟨l, r, bu, su⟩ = 42 from lsoundE_rel hA hB he (firstE_hit h0 (show relBad l r i = 42 by unfold relBad; rw [← ex]; rw [if_neg (by rw [hpt]; decide), if_neg (by omega), if_pos ⟨q4, by rw [← ey]; exact q5⟩]) (by decide) (show i < r.length by omega)) (by decide)]; rfl)
                    · skip
                      have hno : ¬ (0 < i ∧ laterB x (relAt r (i - 1)) = false) := fun h9 => q5 (by have := (laterI_pos x (relAt r (i - 1))).2 h9.2; rw [← ey] at this; omega)
                      refine R_seq ?_
                      refine R_region ?_
                      refine L_val rfl rfl rfl (OpP.v (P_fld0 rfl ty_fl_62_3 rfl)) ?_
                      refine L_val rfl rfl rfl (V_load rfl rfl ty_sc_23 (Rd.blk .h0 rfl)) ?_
                      refine L_val rfl rfl rfl (OpP.v (P_eql rfl rfl rfl)) ?_
                      refine E_bool (t := 73) rfl (fun q6 => ?_) (fun q6 => ?_)
                      · skip
                        have q6 := of_decide_eq_true q6
                        refine L_val rfl rfl rfl (OpP.v (P_move rfl rfl)) ?_
                        refine L_no rfl rfl rfl ?_
                        refine L_no rfl rfl rfl ?_
                        refine L_no rfl rfl rfl ?_
                        refine L_val rfl rfl rfl (OpP.v (P_pick rfl rfl rfl)) ?_
                        refine L_val rfl rfl rfl (OpP.v (P_assign rfl rfl)) ?_
                        refine L_nil ?_
                        refine Q_then ?_
                        refine R_condT rfl ?_
                        refine R_seq ?_
                        refine R_region ?_
                        refine L_val rfl rfl rfl (OpP.v (P_assign rfl rfl)) ?_
                        refine L_nil ?_
                        refine Q_then ?_
                        refine R_ret ?_
                        refine Q_block_ret ?_
                        refine Q_then_ret ?_
                        refine Q_block_ret ?_
                        refine Q_then_ret ?_
                        refine Q_then_ret ?_
                        refine Q_block_ret ?_
                        refine Q_then_ret ?_
                        exact R_endV rfl rfl (.tmp rfl .nil) (by rw [show lsoundE ⟨l, r, bu, su⟩ = 87 from lsoundE_rel hA hB he (firstE_hit h0 (show relBad l r i = 87 by unfold relBad; rw [← ex]; rw [if_neg (by rw [hpt]; decide), if_neg (by omega), if_neg hno, if_pos (by omega)]) (by decide) (show i < r.length by omega)) (by decide)]; rfl)
                      · skip
                        have q6 := of_decide_eq_false q6
                        refine L_val rfl rfl rfl (OpP.v (P_move rfl rfl)) ?_
                        refine L_val rfl rfl rfl (OpP.v (P_fld0 rfl ty_fl_62_3 rfl)) ?_
                        refine L_val rfl rfl rfl (V_load rfl rfl ty_sc_23 (Rd.blk .h0 rfl)) ?_
                        refine L_val rfl rfl rfl (OpP.v (P_gtr rfl rfl rfl)) ?_
                        refine L_val rfl rfl rfl (OpP.v (P_pick rfl rfl rfl)) ?_
                        refine L_val rfl rfl rfl (OpP.v (P_assign rfl rfl)) ?_
                        refine L_nil ?_
                        refine Q_then ?_
                        refine R_condP rfl (fun q7 => ?_) (fun q7 => ?_)
                        · skip
                          refine R_seq ?_
                          refine R_region ?_
                          refine L_val rfl rfl rfl (OpP.v (P_assign rfl rfl)) ?_
                          refine L_nil ?_
                          refine Q_then ?_
                          refine R_ret ?_
                          refine Q_block_ret ?_
                          refine Q_then_ret ?_
                          refine Q_block_ret ?_
                          refine Q_then_ret ?_
                          refine Q_then_ret ?_
                          refine Q_block_ret ?_
                          refine Q_then_ret ?_
                          exact R_endV rfl rfl (.tmp rfl .nil) (by rw [show lsoundE ⟨l, r, bu, su⟩ = 87 from lsoundE_rel hA hB he (firstE_hit h0 (show relBad l r i = 87 by unfold relBad; rw [← ex]; rw [if_neg (by rw [hpt]; decide), if_neg (by omega), if_neg hno, if_pos (by omega)]) (by decide) (show i < r.length by omega)) (by decide)]; rfl)
                        · skip
                          refine R_skip ?_
                          refine Q_block ?_
                          refine Q_then ?_
                          refine R_region ?_
                          refine L_val rfl rfl rfl (V_loadAgg rfl rfl ty_ag_50 (Rds.blk .h1) (rfl)) ?_
                          refine L_val rfl rfl rfl (OpP.v (P_fld0 rfl ty_fl_62_3 rfl)) ?_
                          refine L_val rfl rfl rfl (V_load rfl rfl ty_sc_23 (Rd.blk .h0 rfl)) ?_
                          refine L_op rfl (W_callV rfl rfl rfl rfl fn_ca_33 (plus_ok (sumA l + sumR (r.take i)) x.amt (by omega) (by omega) hx4) (fun _ _ => trivial) ?_)
                          refine L_op rfl (W_storeAll rfl rfl rfl rfl ty_ag_50 (rfl) (sumC_one _) .h1 (rfl) ?_)
                          refine L_nil ?_
                          refine Q_block ?_
                          refine Q_then ?_
                          refine R_region ?_
                          first | (refine L_val rfl rfl rfl (OpP.v (P_addN rfl rfl rfl (by simp only [fits]; omega))) ?_) | (refine L_val rfl rfl rfl (OpP.v (P_add rfl rfl rfl)) ?_)
                          refine L_val rfl rfl rfl (OpP.v (P_move rfl rfl)) ?_
                          refine L_nil ?_
                          exact Q_round (i + 1) (by show (i + 1) ≤ r.length ∧ firstE (relBad l r) (i + 1) = 0; exact ⟨by omega, firstE_next h0 (by unfold relBad; rw [← ex, if_neg (by rw [hpt]; decide), if_neg (by omega), if_neg hno, if_neg (by omega)])⟩) (by show r.length - (i + 1) < r.length - i; omega) (by repeat (first | exact .nil | refine .cons rfl ?_ | refine .consE rfl (by first | rfl | (congr 1; omega) | (congr 1; push_cast; omega)) ?_)) (by rw [sumR_snoc hx, ← Int.add_assoc]; exact Weak.drop (Weak.refl _))
                  · skip
                    have q4 : ¬ 0 < i := by have := of_decide_eq_false q4; omega
                    have hno : ¬ (0 < i ∧ laterB x (relAt r (i - 1)) = false) := fun h9 => q4 h9.1
                    refine O_pure rfl rfl rfl rfl (P_move rfl rfl) ?_
                    refine O_noX rfl rfl rfl rfl ?_
                    refine O_no rfl rfl rfl rfl ?_
                    refine O_noX rfl rfl rfl rfl ?_
                    refine O_no rfl rfl rfl rfl ?_
                    refine O_no rfl rfl rfl rfl ?_
                    refine O_no rfl rfl rfl rfl ?_
                    refine O_noX rfl rfl rfl rfl ?_
                    refine O_no2 rfl rfl rfl rfl ?_
                    refine O_no rfl rfl rfl rfl ?_
                    refine O_pure rfl rfl rfl rfl (P_pick rfl rfl rfl) ?_
                    refine O_pure rfl rfl rfl rfl (P_assign rfl rfl) ?_
                    refine O_nil ?_
                    refine Q_then ?_
                    refine R_condF rfl ?_
                    refine R_seq ?_
                    refine R_region ?_
                    refine L_val rfl rfl rfl (OpP.v (P_fld0 rfl ty_fl_62_3 rfl)) ?_
                    refine L_val rfl rfl rfl (V_load rfl rfl ty_sc_23 (Rd.blk .h0 rfl)) ?_
                    refine L_val rfl rfl rfl (OpP.v (P_eql rfl rfl rfl)) ?_
                    refine E_bool (t := 73) rfl (fun q6 => ?_) (fun q6 => ?_)
                    · skip
                      have q6 := of_decide_eq_true q6
                      refine L_val rfl rfl rfl (OpP.v (P_move rfl rfl)) ?_
                      refine L_no rfl rfl rfl ?_
                      refine L_no rfl rfl rfl ?_
                      refine L_no rfl rfl rfl ?_
                      refine L_val rfl rfl rfl (OpP.v (P_pick rfl rfl rfl)) ?_
                      refine L_val rfl rfl rfl (OpP.v (P_assign rfl rfl)) ?_
                      refine L_nil ?_
                      refine Q_then ?_
                      refine R_condT rfl ?_
                      refine R_seq ?_
                      refine R_region ?_
                      refine L_val rfl rfl rfl (OpP.v (P_assign rfl rfl)) ?_
                      refine L_nil ?_
                      refine Q_then ?_
                      refine R_ret ?_
                      refine Q_block_ret ?_
                      refine Q_then_ret ?_
                      refine Q_block_ret ?_
                      refine Q_then_ret ?_
                      refine Q_then_ret ?_
                      refine Q_block_ret ?_
                      refine Q_then_ret ?_
                      exact R_endV rfl rfl (.tmp rfl .nil) (by rw [show lsoundE ⟨l, r, bu, su⟩ = 87 from lsoundE_rel hA hB he (firstE_hit h0 (show relBad l r i = 87 by unfold relBad; rw [← ex]; rw [if_neg (by rw [hpt]; decide), if_neg (by omega), if_neg hno, if_pos (by omega)]) (by decide) (show i < r.length by omega)) (by decide)]; rfl)
                    · skip
                      have q6 := of_decide_eq_false q6
                      refine L_val rfl rfl rfl (OpP.v (P_move rfl rfl)) ?_
                      refine L_val rfl rfl rfl (OpP.v (P_fld0 rfl ty_fl_62_3 rfl)) ?_
                      refine L_val rfl rfl rfl (V_load rfl rfl ty_sc_23 (Rd.blk .h0 rfl)) ?_
                      refine L_val rfl rfl rfl (OpP.v (P_gtr rfl rfl rfl)) ?_
                      refine L_val rfl rfl rfl (OpP.v (P_pick rfl rfl rfl)) ?_
                      refine L_val rfl rfl rfl (OpP.v (P_assign rfl rfl)) ?_
                      refine L_nil ?_
                      refine Q_then ?_
                      refine R_condP rfl (fun q7 => ?_) (fun q7 => ?_)
                      · skip
                        refine R_seq ?_
                        refine R_region ?_
                        refine L_val rfl rfl rfl (OpP.v (P_assign rfl rfl)) ?_
                        refine L_nil ?_
                        refine Q_then ?_
                        refine R_ret ?_
                        refine Q_block_ret ?_
                        refine Q_then_ret ?_
                        refine Q_block_ret ?_
                        refine Q_then_ret ?_
                        refine Q_then_ret ?_
                        refine Q_block_ret ?_
                        refine Q_then_ret ?_
                        exact R_endV rfl rfl (.tmp rfl .nil) (by rw [show lsoundE ⟨l, r, bu, su⟩ = 87 from lsoundE_rel hA hB he (firstE_hit h0 (show relBad l r i = 87 by unfold relBad; rw [← ex]; rw [if_neg (by rw [hpt]; decide), if_neg (by omega), if_neg hno, if_pos (by omega)]) (by decide) (show i < r.length by omega)) (by decide)]; rfl)
                      · skip
                        refine R_skip ?_
                        refine Q_block ?_
                        refine Q_then ?_
                        refine R_region ?_
                        refine L_val rfl rfl rfl (V_loadAgg rfl rfl ty_ag_50 (Rds.blk .h1) (rfl)) ?_
                        refine L_val rfl rfl rfl (OpP.v (P_fld0 rfl ty_fl_62_3 rfl)) ?_
                        refine L_val rfl rfl rfl (V_load rfl rfl ty_sc_23 (Rd.blk .h0 rfl)) ?_
                        refine L_op rfl (W_callV rfl rfl rfl rfl fn_ca_33 (plus_ok (sumA l + sumR (r.take i)) x.amt (by omega) (by omega) hx4) (fun _ _ => trivial) ?_)
                        refine L_op rfl (W_storeAll rfl rfl rfl rfl ty_ag_50 (rfl) (sumC_one _) .h1 (rfl) ?_)
                        refine L_nil ?_
                        refine Q_block ?_
                        refine Q_then ?_
                        refine R_region ?_
                        first | (refine L_val rfl rfl rfl (OpP.v (P_addN rfl rfl rfl (by simp only [fits]; omega))) ?_) | (refine L_val rfl rfl rfl (OpP.v (P_add rfl rfl rfl)) ?_)
                        refine L_val rfl rfl rfl (OpP.v (P_move rfl rfl)) ?_
                        refine L_nil ?_
                        exact Q_round (i + 1) (by show (i + 1) ≤ r.length ∧ firstE (relBad l r) (i + 1) = 0; exact ⟨by omega, firstE_next h0 (by unfold relBad; rw [← ex, if_neg (by rw [hpt]; decide), if_neg (by omega), if_neg hno, if_neg (by omega)])⟩) (by show r.length - (i + 1) < r.length - i; omega) (by repeat (first | exact .nil | refine .cons rfl ?_ | refine .consE rfl (by first | rfl | (congr 1; omega) | (congr 1; push_cast; omega)) ?_)) (by rw [sumR_snoc hx, ← Int.add_assoc]; exact Weak.drop (Weak.refl _))
        · skip
          have hin : i = r.length := by omega
          subst hin
          rw [List.take_length]
          have hR := sumR_le r.length (Nat.le_refl _) h0
          rw [hms, List.take_length] at hR
          have hRn : 0 ≤ sumR r := sumR_nn hok'
          refine R_exit ?_
          refine Q_then_exit ?_
          refine Q_then_exit ?_
          refine Q_block_eq ?_
          refine St.env (.cons (t := 1) rfl (.cons (t := 2) rfl (.cons (t := 3) rfl .nil))) ?_
          refine Q_then ?_
          refine R_seq ?_
          refine R_seq ?_
          refine R_region ?_
          refine L_val rfl rfl rfl (V_loadAgg rfl rfl ty_ag_50 (Rds.blk .h0) (rfl)) ?_
          refine L_val rfl rfl rfl (OpP.v (P_fld0 rfl ty_fl_29_2 rfl)) ?_
          refine L_val rfl rfl rfl (V_load rfl rfl ty_sc_23 (Rd.blk .h1 rfl)) ?_
          refine L_op rfl (W_callV rfl rfl rfl rfl fn_ca_33 (plus_ok (sumA l + sumR r) bu (by omega) (by omega) hbu) (fun _ _ => trivial) ?_)
          refine L_op rfl (W_storeAll rfl rfl rfl rfl ty_ag_50 (rfl) (sumC_one _) .h0 (rfl) ?_)
          refine L_nil ?_
          refine St.env (.cons (t := 1) rfl (.cons (t := 2) rfl (.cons (t := 3) rfl .nil))) ?_
          refine Q_then ?_
          refine R_seq ?_
          refine R_region ?_
          refine L_val rfl rfl rfl (OpP.v (P_fld0 rfl ty_fl_29_3 rfl)) ?_
          refine L_val rfl rfl rfl (V_load rfl rfl ty_sc_23 (Rd.blk .h1 rfl)) ?_
          refine L_val rfl rfl rfl (OpP.v (P_gtr rfl rfl rfl)) ?_
          refine E_bool (t := 90) rfl (fun q8 => ?_) (fun q8 => ?_)
          · skip
            have q8 := of_decide_eq_true q8
            refine L_val rfl rfl rfl (OpP.v (P_move rfl rfl)) ?_
            refine L_no rfl rfl rfl ?_
            refine L_no rfl rfl rfl ?_
            refine L_no rfl rfl rfl ?_
            refine L_no rfl rfl rfl ?_
            refine L_no rfl rfl rfl ?_
            refine L_val rfl rfl rfl (OpP.v (P_pick rfl rfl rfl)) ?_
            refine L_nil ?_
            refine St.env (.cons (t := 2) rfl (.cons (t := 97) rfl .nil)) ?_
            refine Q_then ?_
            refine R_condT rfl ?_
            refine R_seq ?_
            refine R_region ?_
            refine L_val rfl rfl rfl (OpP.v (P_assign rfl rfl)) ?_
            refine L_nil ?_
            refine St.env (.cons (t := 2) rfl .nil) ?_
            refine Q_then ?_
            refine R_ret ?_
            refine Q_then_ret ?_
            exact R_endV rfl rfl (.tmp rfl .nil) (by rw [show lsoundE ⟨l, r, bu, su⟩ = 87 from lsoundE_sum hA hB he h0 (by show MS < su ∨ bu + sumA l + sumR r ≠ su; rw [hms]; omega)]; rfl)
          · skip
            have q8 := of_decide_eq_false q8
            refine L_val rfl rfl rfl (OpP.v (P_move rfl rfl)) ?_
            refine L_val rfl rfl rfl (V_loadAgg rfl rfl ty_ag_50 (Rds.blk .h0) (rfl)) ?_
            refine L_val rfl rfl rfl (OpP.v (P_fld0 rfl ty_fl_29_3 rfl)) ?_
            refine L_val rfl rfl rfl (V_load rfl rfl ty_sc_23 (Rd.blk .h1 rfl)) ?_
            refine L_val rfl rfl rfl (OpP.v (P_buildStruct rfl ty_pl_50 ty_ze_50 rfl rfl (rfl))) ?_
            refine L_val rfl rfl rfl (OpP.v (P_neq_struct (b := decide (sumA l + sumR r + bu ≠ su)) rfl se_sum rfl rfl rfl rfl (sumC_kind _ _) (sumC_eq (by have := hbu.1; omega) hsu))) ?_
            refine L_val rfl rfl rfl (OpP.v (P_pick rfl rfl rfl)) ?_
            refine L_nil ?_
            refine St.env (.cons (t := 2) rfl (.cons (t := 97) rfl .nil)) ?_
            refine Q_then ?_
            refine R_condP rfl (fun q9 => ?_) (fun q9 => ?_)
            · skip
              refine R_seq ?_
              refine R_region ?_
              refine L_val rfl rfl rfl (OpP.v (P_assign rfl rfl)) ?_
              refine L_nil ?_
              refine St.env (.cons (t := 2) rfl .nil) ?_
              refine Q_then ?_
              refine R_ret ?_
              refine Q_then_ret ?_
              exact R_endV rfl rfl (.tmp rfl .nil) (by rw [show lsoundE ⟨l, r, bu, su⟩ = 87 from lsoundE_sum hA hB he h0 (by show MS < su ∨ bu + sumA l + sumR r ≠ su; rw [hms]; omega)]; rfl)
            · skip
              refine R_skip ?_
              refine Q_then ?_
              refine R_seq ?_
              refine R_region ?_
              refine L_val rfl rfl rfl (OpP.v (P_assign rfl rfl)) ?_
              refine L_nil ?_
              refine St.env (.cons (t := 2) rfl .nil) ?_
              refine Q_then ?_
              refine R_ret ?_
              exact R_endV rfl rfl (.tmp rfl .nil) (by rw [show lsoundE ⟨l, r, bu, su⟩ = 0 from lsoundE_fine hA hB he h0 (by show ¬ MS < su; rw [hms]; omega) (by show bu + sumA l + sumR r = su; have := Classical.not_not.1 q9; omega)]; rfl)
end Go.Proofs.Ytfhjhaogmdaepaa
