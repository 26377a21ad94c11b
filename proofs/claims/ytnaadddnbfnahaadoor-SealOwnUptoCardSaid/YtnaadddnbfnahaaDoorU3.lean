/- Two registries: shown. Printed by gen.py. -/
import Derived.Test.YtnaadddnbfnahaaDoorU2
set_option linter.unusedVariables false
set_option linter.unusedSimpArgs false
set_option maxRecDepth 100000
namespace Go.Proofs.YtnaadddnbfnahaaDoor
open Go Go.RowKit Go.Proofs
theorem opC_tw {kd wh at_ a : Int} {base : Option Addr} {n c : Nat} {sl : List Int} {tw : Int} {lg : Bool} (h : sl.length = 16) : (opC kd wh at_ a base n c sl tw lg)[21]? = some (.int .i64 tw) := by
  unfold opC
  show (ints .u8 sl ++ [Value.int .i64 tw, .bool lg])[16]? = _
  rw [List.getElem?_append_right (by rw [ints_length]; omega), ints_length, h]; rfl
theorem opC_length {kd wh at_ a : Int} {base : Option Addr} {n c : Nat} {sl : List Int} {tw : Int} {lg : Bool} (h : sl.length = 16) : (opC kd wh at_ a base n c sl tw lg).length = 23 := by
  unfold opC; simp [ints_length, h]
theorem opC_seal {kd wh at_ a : Int} {base : Option Addr} {n c : Nat} {sl : List Int} {tw : Int} {lg : Bool} (h : sl.length = 16) (i : Nat) (v : Value) (hv : (ints .u8 sl)[i]? = some v) : (opC kd wh at_ a base n c sl tw lg)[5 + i]? = some v := by
  unfold opC
  rw [List.getElem?_append_right (by simp)]
  simp only [List.length_cons, List.length_nil]
  rw [show 5 + i - (0 + 1 + 1 + 1 + 1 + 1) = i by omega, List.getElem?_append_left (List.getElem?_eq_some_iff.1 hv).1]
  exact hv
theorem quo8 (r : Nat) (h : r < 128) : IntKind.i64.wrap ((r : Int).tdiv 8) = ((r / 8 : Nat) : Int) := by
  rw [Int.tdiv_eq_ediv_of_nonneg (by omega), wrap_fits (by simp only [fits]; omega)]; omega
theorem rem8 (r : Nat) : (r : Int).tmod 8 = ((r % 8 : Nat) : Int) := by
  rw [Int.tmod_eq_emod_of_nonneg (by omega)]; omega
theorem sn_head {C : Cx} {F : Fx} {rs : List HP} {base : Option Addr} {xs ys : List Int} (h : Sn C F rs base (ints .u8 (xs ++ ys))) : Sn C F rs base (ints .u8 xs) := by
  rw [← ints_append] at h; exact h.left
theorem all16_snoc {ss : List (List Int)} {x : List Int} (h : ∀ s ∈ ss, s.length = 16) (hx : x.length = 16) : ∀ s ∈ ss ++ [x], s.length = 16 := fun s hs => by
  rcases List.mem_append.1 hs with hs | hs
  · exact h s hs
  · simp only [List.mem_singleton] at hs; subst hs; exact hx
theorem addR_le {rc : List Rcd} {x : Rcd} {n : Nat} (h : rc.length ≤ n) : (addR rc x).length ≤ n + 1 := Nat.le_trans (addR_length _ _) (Nat.succ_le_succ h)
theorem shown_1 {gl : Nat → Obj} (hG : GlobsR gl) (w : Nat) (x0 x1 x2 x3 x4 x5 x6 x7 : Value) (zb : Option Addr) (zc : Nat) (ss : List (List Int)) (hz16 : ∀ s ∈ ss, s.length = 16) (hss : ss.length ≤ 1599289640354) (kd wh at_ a : Int) (base : Option Addr) (c : Nat) (xs sl : List Int) (tw : Int) (lg : Bool) (hsl : sl.length = 16) (mb : Option Addr) (mc : Nat) (m : List Int) (hm : m.length ≤ 140737488351232) (ht : tw = 1) : Spec (cx gl) 68 [.pointer (some ⟨w, 0, none⟩), .agg (opC kd wh at_ a base xs.length c sl tw lg).toArray, .slice mb m.length mc] (fun w h => Seen w h mb (ints .u8 m)) [blk w [x0, x1, x2, x3, x4, x5, x6, x7, .slice zb ss.length zc] 79, ownS 33 16 (.slice zb ss.length zc) ss.length (flat .u8 ss)] (fun v rs => ∃ sl2 : List Int, sl2.length = 16 ∧ v = .agg (ints .u8 (sl2)).toArray ∧ rs = [blk w [x0, x1, x2, x3, x4, x5, x6, x7, .slice zb ss.length zc] 79, ownS 33 16 (.slice zb ss.length zc) ss.length (flat .u8 ss)]) := by
  refine Spec.enter (C := cx gl) Tryd.func68 rfl 63 rfl rfl fun w0 h0 hsep hsub hpre => ?_
  show St (cx gl) _ [(0, .pointer (some ⟨w, 0, none⟩)), (1, .agg (opC kd wh at_ a base xs.length c sl tw lg).toArray), (2, .slice mb m.length mc)] _ _
  refine R_seq ?_
  refine R_region ?_
  refine L_op rfl (W_box (opC kd wh at_ a base xs.length c sl tw lg) rfl rfl rfl rfl rfl fun b4 => ?_)
  refine L_op rfl (W_alloc rfl rfl rfl ty_ze_33 fun b6 => ?_)
  refine L_nil ?_
  refine St.env (.cons (t := 0) rfl (.cons (t := 2) rfl (.cons (t := 4) rfl (.cons (t := 6) rfl .nil)))) ?_
  refine Q_then ?_
  refine R_seq ?_
  refine R_seq ?_
  refine R_region ?_
  refine L_val rfl rfl rfl (OpP.v (P_fld0 rfl ty_fl_72_6 rfl)) ?_
  refine L_val rfl rfl rfl (V_load rfl rfl ty_sc_3 (Rd.blk .h1 (opC_tw hsl))) ?_
  refine L_nil ?_
  refine St.env (.cons (t := 0) rfl (.cons (t := 2) rfl (.cons (t := 4) rfl (.cons (t := 6) rfl (.cons (t := 10) rfl .nil))))) ?_
  refine Q_then ?_
  refine R_block ?_
  refine R_seq ?_
  refine R_region ?_
  refine L_val rfl rfl rfl (OpP.v (P_eql rfl rfl rfl)) ?_
  refine E_true (t := 12) rfl (decide_eq_true ht) ?_
  refine L_val rfl rfl rfl (OpP.v (P_assign rfl rfl)) ?_
  refine L_nil ?_
  refine St.env (.cons (t := 0) rfl (.cons (t := 2) rfl (.cons (t := 4) rfl (.cons (t := 6) rfl (.cons (t := 10) rfl (.cons (t := 11) rfl .nil)))))) ?_
  refine Q_then ?_
  refine R_condT rfl ?_
  refine R_seq ?_
  refine R_region ?_
  refine L_val rfl rfl rfl (OpP.v (P_fld0 rfl ty_fl_72_3 rfl)) ?_
  refine L_val rfl rfl rfl (V_load rfl rfl ty_sc_23 (Rd.blk .h1 rfl)) ?_
  refine L_val rfl rfl rfl (OpP.v (P_move rfl rfl)) ?_
  refine L_op rfl (W_callV rfl rfl rfl rfl fn_ca_20 (of_ok hG a mb mc m (by omega)) ((Sn.old hpre).rw_) ?_)
  refine L_op rfl (W_storeAll rfl rfl rfl rfl ty_ag_33 (by rw [ints_length, sealH_length]) (ints_one) .h0 (by rw [ints_length, sealH_length]; rfl) ?_)
  refine L_nil ?_
  refine St.env (.cons (t := 4) rfl (.cons (t := 6) rfl .nil)) ?_
  refine Q_then ?_
  refine R_ret ?_
  refine Q_block_ret ?_
  refine Q_then_ret ?_
  exact R_end (rs2 := _) rfl rfl (.cell rfl (Rds.loadVar ty_ag_33 (Rds.blk .h0) (by rw [ints_length, sealH_length])) .nil) (⟨_, sealH_length _ _, rfl, rfl⟩) (Weak.drop (Weak.drop (Weak.refl _)))
theorem shown_2 {gl : Nat → Obj} (hG : GlobsR gl) (w : Nat) (x0 x1 x2 x3 x4 x5 x6 x7 : Value) (zb : Option Addr) (zc : Nat) (ss : List (List Int)) (hz16 : ∀ s ∈ ss, s.length = 16) (hss : ss.length ≤ 1599289640354) (kd wh at_ a : Int) (base : Option Addr) (c : Nat) (xs sl : List Int) (tw : Int) (lg : Bool) (hsl : sl.length = 16) (mb : Option Addr) (mc : Nat) (m : List Int) (hm : m.length ≤ 140737488351232) (ht : tw = 2) : Spec (cx gl) 68 [.pointer (some ⟨w, 0, none⟩), .agg (opC kd wh at_ a base xs.length c sl tw lg).toArray, .slice mb m.length mc] (fun w h => Seen w h mb (ints .u8 m)) [blk w [x0, x1, x2, x3, x4, x5, x6, x7, .slice zb ss.length zc] 79, ownS 33 16 (.slice zb ss.length zc) ss.length (flat .u8 ss)] (fun v rs => ∃ sl2 : List Int, sl2.length = 16 ∧ v = .agg (ints .u8 (sl2)).toArray ∧ rs = [blk w [x0, x1, x2, x3, x4, x5, x6, x7, .slice zb ss.length zc] 79, ownS 33 16 (.slice zb ss.length zc) ss.length (flat .u8 ss)]) := by
  refine Spec.enter (C := cx gl) Tryd.func68 rfl 63 rfl rfl fun w0 h0 hsep hsub hpre => ?_
  show St (cx gl) _ [(0, .pointer (some ⟨w, 0, none⟩)), (1, .agg (opC kd wh at_ a base xs.length c sl tw lg).toArray), (2, .slice mb m.length mc)] _ _
  obtain ⟨r, hr⟩ : ∃ r : Nat, aroundI at_ 128 = r := ⟨(aroundI at_ 128).toNat, by have := aroundI_bound (x := at_) (n := 128) (by omega); omega⟩
  have hr1 : r < 128 := by have := aroundI_bound (x := at_) (n := 128) (by omega); omega
  have h2l : ((sealH a m).set (r / 8) (bitI .xor .u8 ((sealH a m).getD (r / 8) 0) (shlI .u8 1 ((r : Int).tmod 8)))).length = 16 := by rw [List.length_set, sealH_length]
  refine R_seq ?_
  refine R_region ?_
  refine L_op rfl (W_box (opC kd wh at_ a base xs.length c sl tw lg) rfl rfl rfl rfl rfl fun b4 => ?_)
  refine L_op rfl (W_alloc rfl rfl rfl ty_ze_33 fun b6 => ?_)
  refine L_nil ?_
  refine St.env (.cons (t := 0) rfl (.cons (t := 2) rfl (.cons (t := 4) rfl (.cons (t := 6) rfl .nil)))) ?_
  refine Q_then ?_
  refine R_seq ?_
  refine R_seq ?_
  refine R_region ?_
  refine L_val rfl rfl rfl (OpP.v (P_fld0 rfl ty_fl_72_6 rfl)) ?_
  refine L_val rfl rfl rfl (V_load rfl rfl ty_sc_3 (Rd.blk .h1 (opC_tw hsl))) ?_
  refine L_nil ?_
  refine St.env (.cons (t := 0) rfl (.cons (t := 2) rfl (.cons (t := 4) rfl (.cons (t := 6) rfl (.cons (t := 10) rfl .nil))))) ?_
  refine Q_then ?_
  refine R_block ?_
  refine R_seq ?_
  refine R_region ?_
  refine L_val rfl rfl rfl (OpP.v (P_eql rfl rfl rfl)) ?_
  refine E_false (t := 12) rfl (decide_eq_false (by omega)) ?_
  refine L_val rfl rfl rfl (OpP.v (P_assign rfl rfl)) ?_
  refine L_nil ?_
  refine St.env (.cons (t := 0) rfl (.cons (t := 2) rfl (.cons (t := 4) rfl (.cons (t := 6) rfl (.cons (t := 10) rfl (.cons (t := 11) rfl .nil)))))) ?_
  refine Q_then ?_
  refine R_condF rfl ?_
  refine R_seq ?_
  refine R_region ?_
  refine L_val rfl rfl rfl (OpP.v (P_eql rfl rfl rfl)) ?_
  refine E_true (t := 18) rfl (decide_eq_true ht) ?_
  refine L_val rfl rfl rfl (OpP.v (P_assign rfl rfl)) ?_
  refine L_nil ?_
  refine St.env (.cons (t := 0) rfl (.cons (t := 2) rfl (.cons (t := 4) rfl (.cons (t := 6) rfl (.cons (t := 10) rfl (.cons (t := 17) rfl .nil)))))) ?_
  refine Q_then ?_
  refine R_condT rfl ?_
  refine R_seq ?_
  refine R_region ?_
  refine L_val rfl rfl rfl (OpP.v (P_fld0 rfl ty_fl_72_3 rfl)) ?_
  refine L_val rfl rfl rfl (V_load rfl rfl ty_sc_23 (Rd.blk .h1 rfl)) ?_
  refine L_val rfl rfl rfl (OpP.v (P_move rfl rfl)) ?_
  refine L_op rfl (W_callV rfl rfl rfl rfl fn_ca_20 (of_ok hG a mb mc m (by omega)) ((Sn.old hpre).rw_) ?_)
  refine L_op rfl (W_alloc rfl rfl rfl ty_ze_33 fun b7 => ?_)
  refine L_op rfl (W_storeAll rfl rfl rfl rfl ty_ag_33 (by rw [ints_length, sealH_length]) (ints_one) .h0 (by rw [ints_length, sealH_length]; rfl) ?_)
  refine L_nil ?_
  refine St.env (.cons (t := 4) rfl (.cons (t := 6) rfl (.cons (t := 7) rfl .nil))) ?_
  refine Q_then ?_
  refine R_seq ?_
  refine R_region ?_
  refine L_val rfl rfl rfl (OpP.v (P_fld0 rfl ty_fl_72_2 rfl)) ?_
  refine L_val rfl rfl rfl (V_load rfl rfl ty_sc_3 (Rd.blk .h2 rfl)) ?_
  refine L_op rfl (W_callV rfl rfl rfl rfl fn_ca_26 (around_ok at_ 128 (by omega) (by omega)) (fun _ _ => trivial) ?_)
  refine E_as (t := 25) (v' := .int .i64 (r : Int)) rfl (by rw [hr]) ?_
  refine L_val rfl rfl rfl (OpP.v (P_assign rfl rfl)) ?_
  refine L_nil ?_
  refine St.env (.cons (t := 4) rfl (.cons (t := 6) rfl (.cons (t := 7) rfl (.cons (t := 8) rfl .nil)))) ?_
  refine Q_then ?_
  refine R_seq ?_
  refine R_region ?_
  refine L_val rfl rfl rfl (OpP.v (P_move rfl rfl)) ?_
  refine L_val rfl rfl rfl (OpP.v (P_quo rfl rfl rfl (by omega))) ?_
  refine E_nat (t := 27) (n := r / 8) rfl (quo8 r hr1) ?_
  refine L_val rfl rfl rfl (OpP.v (P_move rfl rfl)) ?_
  refine L_val rfl rfl rfl (OpP.v (P_quo rfl rfl rfl (by omega))) ?_
  refine E_nat (t := 29) (n := r / 8) rfl (quo8 r hr1) ?_
  first | (refine L_val rfl rfl rfl (OpP.v (P_ixa0 (r / 8) rfl ty_ar_33 rfl rfl (by first | rfl | omega) (by omega))) ?_) | (refine L_val rfl rfl rfl (OpP.v (P_ixa (r / 8) rfl ty_ar_33 rfl rfl (by first | rfl | omega) (by omega))) ?_)
  refine L_val rfl rfl rfl (V_load rfl rfl ty_sc_5 (Rd.blk .h0 (ints_at (by rw [sealH_length]; omega)))) ?_
  refine L_val rfl rfl rfl (OpP.v (P_move rfl rfl)) ?_
  refine L_val rfl rfl rfl (OpP.v (P_rem rfl rfl rfl (by omega))) ?_
  refine L_val rfl rfl rfl (OpP.v (P_convN rfl ty_int_3 ty_int_105 rfl (by rw [rem8]; simp only [fits]; omega))) ?_
  refine L_val rfl rfl rfl (OpP.v (P_shl rfl rfl rfl (by rw [rem8]; omega))) ?_
  refine L_val rfl rfl rfl (OpP.v (P_bit (op := .xor) rfl rfl rfl rfl)) ?_
  first | (refine L_val rfl rfl rfl (OpP.v (P_ixa0 (r / 8) rfl ty_ar_33 rfl rfl (by first | rfl | omega) (by omega))) ?_) | (refine L_val rfl rfl rfl (OpP.v (P_ixa (r / 8) rfl ty_ar_33 rfl rfl (by first | rfl | omega) (by omega))) ?_)
  refine L_op rfl (W_store rfl rfl rfl rfl ty_sc_5 rfl .h0 (by rw [ints_length, sealH_length]; omega) ?_)
  rw [ints_set]
  refine L_nil ?_
  refine St.env (.cons (t := 4) rfl (.cons (t := 6) rfl (.cons (t := 7) rfl .nil))) ?_
  refine Q_then ?_
  refine R_seq ?_
  refine R_region ?_
  refine L_val rfl rfl rfl (V_loadAgg rfl rfl ty_ag_33 (Rds.blk .h0) (by rw [ints_length, h2l])) ?_
  refine L_op rfl (W_storeAll rfl rfl rfl rfl ty_ag_33 (by rw [ints_length, h2l]) (ints_one) .h1 (by rw [ints_length, h2l]; rfl) ?_)
  refine L_nil ?_
  refine St.env (.cons (t := 4) rfl (.cons (t := 6) rfl .nil)) ?_
  refine Q_then ?_
  refine R_ret ?_
  refine Q_block_ret ?_
  refine Q_then_ret ?_
  exact R_end (rs2 := _) rfl rfl (.cell rfl (Rds.loadVar ty_ag_33 (Rds.blk .h1) (by rw [ints_length, h2l])) .nil) (⟨_, h2l, rfl, rfl⟩) (Weak.drop (Weak.drop (Weak.drop (Weak.refl _))))
theorem shown_3 {gl : Nat → Obj} (hG : GlobsR gl) (w : Nat) (x0 x1 x2 x3 x4 x5 x6 x7 : Value) (zb : Option Addr) (zc : Nat) (ss : List (List Int)) (hz16 : ∀ s ∈ ss, s.length = 16) (hss : ss.length ≤ 1599289640354) (kd wh at_ a : Int) (base : Option Addr) (c : Nat) (xs sl : List Int) (tw : Int) (lg : Bool) (hsl : sl.length = 16) (mb : Option Addr) (mc : Nat) (m : List Int) (hm : m.length ≤ 140737488351232) (ht : tw = 3) (hz0 : 0 < ss.length) : Spec (cx gl) 68 [.pointer (some ⟨w, 0, none⟩), .agg (opC kd wh at_ a base xs.length c sl tw lg).toArray, .slice mb m.length mc] (fun w h => Seen w h mb (ints .u8 m)) [blk w [x0, x1, x2, x3, x4, x5, x6, x7, .slice zb ss.length zc] 79, ownS 33 16 (.slice zb ss.length zc) ss.length (flat .u8 ss)] (fun v rs => ∃ sl2 : List Int, sl2.length = 16 ∧ v = .agg (ints .u8 (sl2)).toArray ∧ rs = [blk w [x0, x1, x2, x3, x4, x5, x6, x7, .slice zb ss.length zc] 79, ownS 33 16 (.slice zb ss.length zc) ss.length (flat .u8 ss)]) := by
  refine Spec.enter (C := cx gl) Tryd.func68 rfl 63 rfl rfl fun w0 h0 hsep hsub hpre => ?_
  show St (cx gl) _ [(0, .pointer (some ⟨w, 0, none⟩)), (1, .agg (opC kd wh at_ a base xs.length c sl tw lg).toArray), (2, .slice mb m.length mc)] _ _
  obtain ⟨i, hi⟩ : ∃ i : Nat, aroundI at_ (ss.length : Int) = i := ⟨(aroundI at_ ss.length).toNat, by have := aroundI_bound (x := at_) (n := (ss.length : Int)) (by omega); omega⟩
  have hil : i < ss.length := by have := aroundI_bound (x := at_) (n := (ss.length : Int)) (by omega); omega
  obtain ⟨x, hx⟩ : ∃ x, ss[i]? = some x := ⟨_, List.getElem?_eq_getElem hil⟩
  have hxl : x.length = 16 := hz16 x (List.mem_of_getElem? hx)
  refine R_seq ?_
  refine R_region ?_
  refine L_op rfl (W_box (opC kd wh at_ a base xs.length c sl tw lg) rfl rfl rfl rfl rfl fun b4 => ?_)
  refine L_op rfl (W_alloc rfl rfl rfl ty_ze_33 fun b6 => ?_)
  refine L_nil ?_
  refine St.env (.cons (t := 0) rfl (.cons (t := 2) rfl (.cons (t := 4) rfl (.cons (t := 6) rfl .nil)))) ?_
  refine Q_then ?_
  refine R_seq ?_
  refine R_seq ?_
  refine R_region ?_
  refine L_val rfl rfl rfl (OpP.v (P_fld0 rfl ty_fl_72_6 rfl)) ?_
  refine L_val rfl rfl rfl (V_load rfl rfl ty_sc_3 (Rd.blk .h1 (opC_tw hsl))) ?_
  refine L_nil ?_
  refine St.env (.cons (t := 0) rfl (.cons (t := 2) rfl (.cons (t := 4) rfl (.cons (t := 6) rfl (.cons (t := 10) rfl .nil))))) ?_
  refine Q_then ?_
  refine R_block ?_
  refine R_seq ?_
  refine R_region ?_
  refine L_val rfl rfl rfl (OpP.v (P_eql rfl rfl rfl)) ?_
  refine E_false (t := 12) rfl (decide_eq_false (by omega)) ?_
  refine L_val rfl rfl rfl (OpP.v (P_assign rfl rfl)) ?_
  refine L_nil ?_
  refine St.env (.cons (t := 0) rfl (.cons (t := 2) rfl (.cons (t := 4) rfl (.cons (t := 6) rfl (.cons (t := 10) rfl (.cons (t := 11) rfl .nil)))))) ?_
  refine Q_then ?_
  refine R_condF rfl ?_
  refine R_seq ?_
  refine R_region ?_
  refine L_val rfl rfl rfl (OpP.v (P_eql rfl rfl rfl)) ?_
  refine E_false (t := 18) rfl (decide_eq_false (by omega)) ?_
  refine L_val rfl rfl rfl (OpP.v (P_assign rfl rfl)) ?_
  refine L_nil ?_
  refine St.env (.cons (t := 0) rfl (.cons (t := 2) rfl (.cons (t := 4) rfl (.cons (t := 6) rfl (.cons (t := 10) rfl (.cons (t := 17) rfl .nil)))))) ?_
  refine Q_then ?_
  refine R_condF rfl ?_
  refine R_seq ?_
  refine R_region ?_
  refine L_val rfl rfl rfl (OpP.v (P_eql rfl rfl rfl)) ?_
  refine E_true (t := 40) rfl (decide_eq_true ht) ?_
  refine L_val rfl rfl rfl (OpP.v (P_assign rfl rfl)) ?_
  refine L_nil ?_
  refine St.env (.cons (t := 0) rfl (.cons (t := 4) rfl (.cons (t := 6) rfl (.cons (t := 39) rfl .nil)))) ?_
  refine Q_then ?_
  refine R_condT rfl ?_
  refine R_seq ?_
  refine R_region ?_
  refine L_val rfl rfl rfl (OpP.v (P_move rfl rfl)) ?_
  refine L_val rfl rfl rfl (OpP.v (P_nil rfl rfl)) ?_
  refine L_val rfl rfl rfl (OpP.v (P_fld0 rfl ty_fl_79_4 rfl)) ?_
  refine L_val rfl rfl rfl (V_load rfl rfl ty_sc_77 (Rd.blk .h2 rfl)) ?_
  refine L_val rfl rfl rfl (OpP.v (P_len rfl ty_sl_77 rfl)) ?_
  refine L_val rfl rfl rfl (OpP.v (P_gtr rfl rfl rfl)) ?_
  refine E_true (t := 46) rfl (decide_eq_true (by omega)) ?_
  refine L_nil ?_
  refine St.env (.cons (t := 0) rfl (.cons (t := 4) rfl (.cons (t := 6) rfl (.cons (t := 46) rfl .nil)))) ?_
  refine Q_then ?_
  refine R_condT rfl ?_
  refine R_seq ?_
  refine St.ownSome (p := [_, _, _]) hz0 fun zbb zbc hq _ => ?_
  simp only [Value.slice.injEq] at hq
  obtain ⟨rfl, _, rfl⟩ := hq
  refine R_open [(0, 0), (1, 0), (2, 0), (3, 1), (4, 0), (5, 1), (6, 0), (7, 0), (8, 0), (9, 1), (10, 0), (11, 2), (12, 0), (13, 1), (14, 3)] mixed (by kernel_rfl) (QOk.then (QOk.block (QOk.then QOk.body))) ?_
  refine O_pure rfl rfl rfl rfl (P_move rfl rfl) ?_
  refine O_pure rfl rfl rfl rfl (P_nil rfl rfl) ?_
  refine O_pure rfl rfl rfl rfl (P_fld0 rfl ty_fl_79_4 rfl) ?_
  refine O_val rfl rfl rfl rfl (V_load rfl rfl ty_sc_77 (Rd.blk .h2 rfl)) ?_
  refine O_pure rfl rfl rfl rfl (P_fld0 rfl ty_fl_72_2 rfl) ?_
  refine O_val rfl rfl rfl rfl (V_load rfl rfl ty_sc_3 (Rd.blk .h1 rfl)) ?_
  refine O_pure rfl rfl rfl rfl (P_move rfl rfl) ?_
  refine O_pure rfl rfl rfl rfl (P_nil rfl rfl) ?_
  refine O_pure rfl rfl rfl rfl (P_fld0 rfl ty_fl_79_4 rfl) ?_
  refine O_val rfl rfl rfl rfl (V_load rfl rfl ty_sc_77 (Rd.blk .h2 rfl)) ?_
  refine O_pure rfl rfl rfl rfl (P_len rfl ty_sl_77 rfl) ?_
  refine O_keep rfl rfl (W_callV rfl rfl rfl rfl fn_ca_26 (around_ok at_ (ss.length : Int) (by omega) (by omega)) (fun _ _ => trivial) (K_keep (Weak.refl _) ?_))
  refine E_as (t := 58) (v' := .int .i64 (i : Int)) rfl (by rw [hi]) ?_
  refine O_pure rfl rfl rfl rfl (P_ixs (i) rfl ty_sl_77 rfl rfl (by first | rfl | omega) (by omega)) ?_
  refine O_val rfl rfl rfl rfl (V_loadAgg rfl rfl ty_ag_33 (Rds.sn (k := i * 16) (Sn.own .h3 rfl) (fun j v hj => flat_at hz16 hx j v hj)) (by rw [ints_length, hxl])) ?_
  refine O_new rfl rfl (W_storeAll rfl rfl rfl rfl ty_ag_33 (by rw [ints_length, hxl]) (ints_one) .h0 (by rw [ints_length, hxl]; rfl) (K_new ?_))
  refine O_nil ?_
  refine St.env (.cons (t := 4) rfl (.cons (t := 6) rfl .nil)) ?_
  refine Q_then ?_
  refine R_ret ?_
  refine Q_block_ret ?_
  refine Q_then_ret ?_
  exact R_end (rs2 := _) rfl rfl (.cell rfl (Rds.loadVar ty_ag_33 (Rds.blk .h0) (by rw [ints_length, hxl])) .nil) (⟨_, hxl, rfl, rfl⟩) (Weak.drop (Weak.drop (Weak.refl _)))
theorem shown_30 {gl : Nat → Obj} (hG : GlobsR gl) (w : Nat) (x0 x1 x2 x3 x4 x5 x6 x7 : Value) (zb : Option Addr) (zc : Nat) (ss : List (List Int)) (hz16 : ∀ s ∈ ss, s.length = 16) (hss : ss.length ≤ 1599289640354) (kd wh at_ a : Int) (base : Option Addr) (c : Nat) (xs sl : List Int) (tw : Int) (lg : Bool) (hsl : sl.length = 16) (mb : Option Addr) (mc : Nat) (m : List Int) (hm : m.length ≤ 140737488351232) (ht : tw = 3) (h0 : ss.length = 0) : Spec (cx gl) 68 [.pointer (some ⟨w, 0, none⟩), .agg (opC kd wh at_ a base xs.length c sl tw lg).toArray, .slice mb m.length mc] (fun w h => Seen w h mb (ints .u8 m)) [blk w [x0, x1, x2, x3, x4, x5, x6, x7, .slice zb ss.length zc] 79, ownS 33 16 (.slice zb ss.length zc) ss.length (flat .u8 ss)] (fun v rs => ∃ sl2 : List Int, sl2.length = 16 ∧ v = .agg (ints .u8 (sl2)).toArray ∧ rs = [blk w [x0, x1, x2, x3, x4, x5, x6, x7, .slice zb ss.length zc] 79, ownS 33 16 (.slice zb ss.length zc) ss.length (flat .u8 ss)]) := by
  refine Spec.enter (C := cx gl) Tryd.func68 rfl 63 rfl rfl fun w0 h0 hsep hsub hpre => ?_
  show St (cx gl) _ [(0, .pointer (some ⟨w, 0, none⟩)), (1, .agg (opC kd wh at_ a base xs.length c sl tw lg).toArray), (2, .slice mb m.length mc)] _ _
  refine R_seq ?_
  refine R_region ?_
  refine L_op rfl (W_box (opC kd wh at_ a base xs.length c sl tw lg) rfl rfl rfl rfl rfl fun b4 => ?_)
  refine L_op rfl (W_alloc rfl rfl rfl ty_ze_33 fun b6 => ?_)
  refine L_nil ?_
  refine St.env (.cons (t := 0) rfl (.cons (t := 2) rfl (.cons (t := 4) rfl (.cons (t := 6) rfl .nil)))) ?_
  refine Q_then ?_
  refine R_seq ?_
  refine R_seq ?_
  refine R_region ?_
  refine L_val rfl rfl rfl (OpP.v (P_fld0 rfl ty_fl_72_6 rfl)) ?_
  refine L_val rfl rfl rfl (V_load rfl rfl ty_sc_3 (Rd.blk .h1 (opC_tw hsl))) ?_
  refine L_nil ?_
  refine St.env (.cons (t := 0) rfl (.cons (t := 2) rfl (.cons (t := 4) rfl (.cons (t := 6) rfl (.cons (t := 10) rfl .nil))))) ?_
  refine Q_then ?_
  refine R_block ?_
  refine R_seq ?_
  refine R_region ?_
  refine L_val rfl rfl rfl (OpP.v (P_eql rfl rfl rfl)) ?_
  refine E_false (t := 12) rfl (decide_eq_false (by omega)) ?_
  refine L_val rfl rfl rfl (OpP.v (P_assign rfl rfl)) ?_
  refine L_nil ?_
  refine St.env (.cons (t := 0) rfl (.cons (t := 2) rfl (.cons (t := 4) rfl (.cons (t := 6) rfl (.cons (t := 10) rfl (.cons (t := 11) rfl .nil)))))) ?_
  refine Q_then ?_
  refine R_condF rfl ?_
  refine R_seq ?_
  refine R_region ?_
  refine L_val rfl rfl rfl (OpP.v (P_eql rfl rfl rfl)) ?_
  refine E_false (t := 18) rfl (decide_eq_false (by omega)) ?_
  refine L_val rfl rfl rfl (OpP.v (P_assign rfl rfl)) ?_
  refine L_nil ?_
  refine St.env (.cons (t := 0) rfl (.cons (t := 2) rfl (.cons (t := 4) rfl (.cons (t := 6) rfl (.cons (t := 10) rfl (.cons (t := 17) rfl .nil)))))) ?_
  refine Q_then ?_
  refine R_condF rfl ?_
  refine R_seq ?_
  refine R_region ?_
  refine L_val rfl rfl rfl (OpP.v (P_eql rfl rfl rfl)) ?_
  refine E_true (t := 40) rfl (decide_eq_true ht) ?_
  refine L_val rfl rfl rfl (OpP.v (P_assign rfl rfl)) ?_
  refine L_nil ?_
  refine St.env (.cons (t := 0) rfl (.cons (t := 4) rfl (.cons (t := 6) rfl (.cons (t := 39) rfl .nil)))) ?_
  refine Q_then ?_
  refine R_condT rfl ?_
  refine R_seq ?_
  refine R_region ?_
  refine L_val rfl rfl rfl (OpP.v (P_move rfl rfl)) ?_
  refine L_val rfl rfl rfl (OpP.v (P_nil rfl rfl)) ?_
  refine L_val rfl rfl rfl (OpP.v (P_fld0 rfl ty_fl_79_4 rfl)) ?_
  refine L_val rfl rfl rfl (V_load rfl rfl ty_sc_77 (Rd.blk .h2 rfl)) ?_
  refine L_val rfl rfl rfl (OpP.v (P_len rfl ty_sl_77 rfl)) ?_
  refine L_val rfl rfl rfl (OpP.v (P_gtr rfl rfl rfl)) ?_
  refine E_false (t := 46) rfl (decide_eq_false (by omega)) ?_
  refine L_nil ?_
  refine St.env (.cons (t := 0) rfl (.cons (t := 4) rfl (.cons (t := 6) rfl (.cons (t := 46) rfl .nil)))) ?_
  refine Q_then ?_
  refine R_condF rfl ?_
  refine R_skip ?_
  refine Q_block ?_
  refine Q_then ?_
  refine R_seq ?_
  refine R_region ?_
  refine L_val rfl rfl rfl (OpP.v (P_fld0 rfl ty_fl_72_5 rfl)) ?_
  refine L_val rfl rfl rfl (V_loadAgg rfl rfl ty_ag_33 ((Rds.blk .h1).part 5 (opC_seal hsl)) (by rw [ints_length, hsl])) ?_
  refine L_op rfl (W_storeAll rfl rfl rfl rfl ty_ag_33 (by rw [ints_length, hsl]) (ints_one) .h0 (by rw [ints_length, hsl]; rfl) ?_)
  refine L_nil ?_
  refine St.env (.cons (t := 6) rfl .nil) ?_
  refine Q_then ?_
  refine R_ret ?_
  exact R_end (rs2 := _) rfl rfl (.cell rfl (Rds.loadVar ty_ag_33 (Rds.blk .h0) (by rw [ints_length, hsl])) .nil) (⟨_, hsl, rfl, rfl⟩) (Weak.drop (Weak.drop (Weak.refl _)))
theorem shown_x {gl : Nat → Obj} (hG : GlobsR gl) (w : Nat) (x0 x1 x2 x3 x4 x5 x6 x7 : Value) (zb : Option Addr) (zc : Nat) (ss : List (List Int)) (hz16 : ∀ s ∈ ss, s.length = 16) (hss : ss.length ≤ 1599289640354) (kd wh at_ a : Int) (base : Option Addr) (c : Nat) (xs sl : List Int) (tw : Int) (lg : Bool) (hsl : sl.length = 16) (mb : Option Addr) (mc : Nat) (m : List Int) (hm : m.length ≤ 140737488351232) (h1 : tw ≠ 1) (h2 : tw ≠ 2) (h3 : tw ≠ 3) : Spec (cx gl) 68 [.pointer (some ⟨w, 0, none⟩), .agg (opC kd wh at_ a base xs.length c sl tw lg).toArray, .slice mb m.length mc] (fun w h => Seen w h mb (ints .u8 m)) [blk w [x0, x1, x2, x3, x4, x5, x6, x7, .slice zb ss.length zc] 79, ownS 33 16 (.slice zb ss.length zc) ss.length (flat .u8 ss)] (fun v rs => ∃ sl2 : List Int, sl2.length = 16 ∧ v = .agg (ints .u8 (sl2)).toArray ∧ rs = [blk w [x0, x1, x2, x3, x4, x5, x6, x7, .slice zb ss.length zc] 79, ownS 33 16 (.slice zb ss.length zc) ss.length (flat .u8 ss)]) := by
  refine Spec.enter (C := cx gl) Tryd.func68 rfl 63 rfl rfl fun w0 h0 hsep hsub hpre => ?_
  show St (cx gl) _ [(0, .pointer (some ⟨w, 0, none⟩)), (1, .agg (opC kd wh at_ a base xs.length c sl tw lg).toArray), (2, .slice mb m.length mc)] _ _
  refine R_seq ?_
  refine R_region ?_
  refine L_op rfl (W_box (opC kd wh at_ a base xs.length c sl tw lg) rfl rfl rfl rfl rfl fun b4 => ?_)
  refine L_op rfl (W_alloc rfl rfl rfl ty_ze_33 fun b6 => ?_)
  refine L_nil ?_
  refine St.env (.cons (t := 0) rfl (.cons (t := 2) rfl (.cons (t := 4) rfl (.cons (t := 6) rfl .nil)))) ?_
  refine Q_then ?_
  refine R_seq ?_
  refine R_seq ?_
  refine R_region ?_
  refine L_val rfl rfl rfl (OpP.v (P_fld0 rfl ty_fl_72_6 rfl)) ?_
  refine L_val rfl rfl rfl (V_load rfl rfl ty_sc_3 (Rd.blk .h1 (opC_tw hsl))) ?_
  refine L_nil ?_
  refine St.env (.cons (t := 0) rfl (.cons (t := 2) rfl (.cons (t := 4) rfl (.cons (t := 6) rfl (.cons (t := 10) rfl .nil))))) ?_
  refine Q_then ?_
  refine R_block ?_
  refine R_seq ?_
  refine R_region ?_
  refine L_val rfl rfl rfl (OpP.v (P_eql rfl rfl rfl)) ?_
  refine E_false (t := 12) rfl (decide_eq_false (by omega)) ?_
  refine L_val rfl rfl rfl (OpP.v (P_assign rfl rfl)) ?_
  refine L_nil ?_
  refine St.env (.cons (t := 0) rfl (.cons (t := 2) rfl (.cons (t := 4) rfl (.cons (t := 6) rfl (.cons (t := 10) rfl (.cons (t := 11) rfl .nil)))))) ?_
  refine Q_then ?_
  refine R_condF rfl ?_
  refine R_seq ?_
  refine R_region ?_
  refine L_val rfl rfl rfl (OpP.v (P_eql rfl rfl rfl)) ?_
  refine E_false (t := 18) rfl (decide_eq_false (by omega)) ?_
  refine L_val rfl rfl rfl (OpP.v (P_assign rfl rfl)) ?_
  refine L_nil ?_
  refine St.env (.cons (t := 0) rfl (.cons (t := 2) rfl (.cons (t := 4) rfl (.cons (t := 6) rfl (.cons (t := 10) rfl (.cons (t := 17) rfl .nil)))))) ?_
  refine Q_then ?_
  refine R_condF rfl ?_
  refine R_seq ?_
  refine R_region ?_
  refine L_val rfl rfl rfl (OpP.v (P_eql rfl rfl rfl)) ?_
  refine E_false (t := 40) rfl (decide_eq_false h3) ?_
  refine L_val rfl rfl rfl (OpP.v (P_assign rfl rfl)) ?_
  refine L_nil ?_
  refine St.env (.cons (t := 0) rfl (.cons (t := 4) rfl (.cons (t := 6) rfl (.cons (t := 39) rfl .nil)))) ?_
  refine Q_then ?_
  refine R_condF rfl ?_
  refine R_skip ?_
  refine Q_block ?_
  refine Q_then ?_
  refine R_seq ?_
  refine R_region ?_
  refine L_val rfl rfl rfl (OpP.v (P_fld0 rfl ty_fl_72_5 rfl)) ?_
  refine L_val rfl rfl rfl (V_loadAgg rfl rfl ty_ag_33 ((Rds.blk .h1).part 5 (opC_seal hsl)) (by rw [ints_length, hsl])) ?_
  refine L_op rfl (W_storeAll rfl rfl rfl rfl ty_ag_33 (by rw [ints_length, hsl]) (ints_one) .h0 (by rw [ints_length, hsl]; rfl) ?_)
  refine L_nil ?_
  refine St.env (.cons (t := 6) rfl .nil) ?_
  refine Q_then ?_
  refine R_ret ?_
  exact R_end (rs2 := _) rfl rfl (.cell rfl (Rds.loadVar ty_ag_33 (Rds.blk .h0) (by rw [ints_length, hsl])) .nil) (⟨_, hsl, rfl, rfl⟩) (Weak.drop (Weak.drop (Weak.refl _)))
theorem shown_ok {gl : Nat → Obj} (hG : GlobsR gl) (w : Nat) (x0 x1 x2 x3 x4 x5 x6 x7 : Value) (zb : Option Addr) (zc : Nat) (ss : List (List Int)) (hz16 : ∀ s ∈ ss, s.length = 16) (hss : ss.length ≤ 1599289640354) (kd wh at_ a : Int) (base : Option Addr) (c : Nat) (xs sl : List Int) (tw : Int) (lg : Bool) (hsl : sl.length = 16) (mb : Option Addr) (mc : Nat) (m : List Int) (hm : m.length ≤ 140737488351232)  : Spec (cx gl) 68 [.pointer (some ⟨w, 0, none⟩), .agg (opC kd wh at_ a base xs.length c sl tw lg).toArray, .slice mb m.length mc] (fun w h => Seen w h mb (ints .u8 m)) [blk w [x0, x1, x2, x3, x4, x5, x6, x7, .slice zb ss.length zc] 79, ownS 33 16 (.slice zb ss.length zc) ss.length (flat .u8 ss)] (fun v rs => ∃ sl2 : List Int, sl2.length = 16 ∧ v = .agg (ints .u8 (sl2)).toArray ∧ rs = [blk w [x0, x1, x2, x3, x4, x5, x6, x7, .slice zb ss.length zc] 79, ownS 33 16 (.slice zb ss.length zc) ss.length (flat .u8 ss)]) := by
  by_cases h1 : tw = 1
  · exact shown_1 hG w x0 x1 x2 x3 x4 x5 x6 x7 zb zc ss hz16 hss kd wh at_ a base c xs sl tw lg hsl mb mc m hm h1
  · by_cases h2 : tw = 2
    · exact shown_2 hG w x0 x1 x2 x3 x4 x5 x6 x7 zb zc ss hz16 hss kd wh at_ a base c xs sl tw lg hsl mb mc m hm h2
    · by_cases h3 : tw = 3
      · by_cases h0 : 0 < ss.length
        · exact shown_3 hG w x0 x1 x2 x3 x4 x5 x6 x7 zb zc ss hz16 hss kd wh at_ a base c xs sl tw lg hsl mb mc m hm h3 h0
        · exact shown_30 hG w x0 x1 x2 x3 x4 x5 x6 x7 zb zc ss hz16 hss kd wh at_ a base c xs sl tw lg hsl mb mc m hm h3 (by omega)
      · exact shown_x hG w x0 x1 x2 x3 x4 x5 x6 x7 zb zc ss hz16 hss kd wh at_ a base c xs sl tw lg hsl mb mc m hm h1 h2 h3
end Go.Proofs.YtnaadddnbfnahaaDoor
