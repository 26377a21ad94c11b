/- Two registries: signs, checks. Printed by gen.py. -/
import Derived.Test.YtnaadddnbfnahaaDoorU3
import Derived.Test.YtnaadddnbfnahaaDoorEngS
set_option linter.unusedVariables false
set_option linter.unusedSimpArgs false
set_option maxRecDepth 100000
namespace Go.Proofs.YtnaadddnbfnahaaDoor
open Go Go.RowKit Go.Proofs
theorem signs_none0 {gl : Nat → Obj} (hG : GlobsR gl) (w n : Nat) (p0 q0 p1 q1 : Nat) (sg0 tg0 sg1 tg1 : List (Int × Nat)) (rc0 rc1 : List Rcd) (vs0 vt0 vs1 vt1 z : Value) (ss : List (List Int)) (hen0 : enOf sg0 = enOf tg0) (hen1 : enOf sg1 = enOf tg1) (hs0 : sg0.length ≤ n) (hs1 : sg1.length ≤ n) (hr0 : rc0.length ≤ n) (hr1 : rc1.length ≤ n) (hzl : ss.length ≤ n) (hz16 : ∀ s ∈ ss, s.length = 16) (hn : n ≤ 1599289640354) (kd wh at_ a : Int) (base : Option Addr) (c : Nat) (xs sl : List Int) (tw : Int) (lg : Bool) (hsl : sl.length = 16) (hxm : xs.length ≤ 140737488351232) (hxb : IsB xs) (h0 : sg0.length = 0) : SpecR (cx gl) 49 [.pointer (some ⟨w, 0, none⟩), .int .i64 0, .agg (opC kd wh at_ a base xs.length c sl tw lg).toArray] (fun w h => Seen w h base (ints .u8 xs)) [blk w [.pointer (some ⟨p0, 0, none⟩), .pointer (some ⟨p1, 0, none⟩), .pointer (some ⟨q0, 0, none⟩), .pointer (some ⟨q1, 0, none⟩), vs0, vs1, vt0, vt1, z] 79, REG p0 (sg0) (rc0), REF q0 (tg0) (rc0), ownS 27 1 (vs0) (sg0).length (ptrs (sg0)), ownS 114 1 (vt0) (tg0).length (ptrs (tg0)), REG p1 (sg1) (rc1), REF q1 (tg1) (rc1), ownS 27 1 (vs1) (sg1).length (ptrs (sg1)), ownS 114 1 (vt1) (tg1).length (ptrs (tg1)), ownS 33 16 (z) (ss).length (flat .u8 (ss))] (.bool true) [TWO w (n + 1)] := by
  refine Spec.enter (C := cx gl) Tryd.func49 rfl 99 rfl rfl fun w0 h0 hsep hsub hpre => ?_
  show St (cx gl) _ [(0, .pointer (some ⟨w, 0, none⟩)), (1, .int .i64 0), (2, .agg (opC kd wh at_ a base xs.length c sl tw lg).toArray)] _ _
  have htl0 : tg0.length = sg0.length := (enOf_len hen0).symm
  have htl1 : tg1.length = sg1.length := (enOf_len hen1).symm
  refine St.ownForm (p := [_, _, _]) fun sb0 sc0 hsb0_ hsc0 => ?_
  subst hsb0_
  refine St.ownForm (p := [_, _, _, _]) fun tb0 tc0 htb0_ htc0 => ?_
  subst htb0_
  refine St.ownForm (p := [_, _, _, _, _, _, _]) fun sb1 sc1 hsb1_ hsc1 => ?_
  subst hsb1_
  refine St.ownForm (p := [_, _, _, _, _, _, _, _]) fun tb1 tc1 htb1_ htc1 => ?_
  subst htb1_
  refine St.ownForm (p := [_, _, _, _, _, _, _, _, _]) fun zb zc hzb_ hzc => ?_
  subst hzb_
  refine St.res (rs' := [blk w [.pointer (some ⟨p0, 0, none⟩), .pointer (some ⟨p1, 0, none⟩), .pointer (some ⟨q0, 0, none⟩), .pointer (some ⟨q1, 0, none⟩), .slice sb0 sg0.length sc0, .slice sb1 sg1.length sc1, .slice tb0 tg0.length tc0, .slice tb1 tg1.length tc1, .slice zb ss.length zc] 79, REG p0 (sg0) (rc0), REF q0 (tg0) (rc0), ownS 27 1 (.slice sb0 sg0.length sc0) (sg0).length (ptrs (sg0)), ownS 114 1 (.slice tb0 tg0.length tc0) (tg0).length (ptrs (tg0)), REG p1 (sg1) (rc1), REF q1 (tg1) (rc1), ownS 27 1 (.slice sb1 sg1.length sc1) (sg1).length (ptrs (sg1)), ownS 114 1 (.slice tb1 tg1.length tc1) (tg1).length (ptrs (tg1)), ownS 33 16 (.slice zb ss.length zc) (ss).length (flat .u8 (ss))]) (Weak.refl _) ?_
  refine R_seq ?_
  refine R_region ?_
  refine L_op rfl (W_box (opC kd wh at_ a base xs.length c sl tw lg) rfl rfl rfl rfl rfl fun b5 => ?_)
  refine L_val rfl rfl rfl (OpP.v (P_assign rfl rfl)) ?_
  refine L_nil ?_
  refine St.env (.cons (t := 0) rfl (.cons (t := 1) rfl (.cons (t := 5) rfl (.cons (t := 6) rfl .nil)))) ?_
  refine Q_then ?_
  refine R_seq ?_
  refine R_seq ?_
  refine St.res (rs' := [blk w [.pointer (some ⟨p0, 0, none⟩), .pointer (some ⟨p1, 0, none⟩), .pointer (some ⟨q0, 0, none⟩), .pointer (some ⟨q1, 0, none⟩), .slice sb0 sg0.length sc0, .slice sb1 sg1.length sc1, .slice tb0 tg0.length tc0, .slice tb1 tg1.length tc1, .slice zb ss.length zc] 79, blk b5 (opC kd wh at_ a base xs.length c sl tw lg) 72, REG p0 (sg0) (rc0), REF q0 (tg0) (rc0), ownS 27 1 (.slice sb0 sg0.length sc0) (sg0).length (ptrs (sg0)), ownS 114 1 (.slice tb0 tg0.length tc0) (tg0).length (ptrs (tg0)), ownS 33 16 (.slice zb ss.length zc) (ss).length (flat .u8 (ss)), REG p1 (sg1) (rc1), REF q1 (tg1) (rc1), ownS 27 1 (.slice sb1 sg1.length sc1) (sg1).length (ptrs (sg1)), ownS 114 1 (.slice tb1 tg1.length tc1) (tg1).length (ptrs (tg1))]) ((Weak.swap.trans (Weak.refl _)).trans (Weak.keep (Weak.keep (Weak.keep (Weak.keep (Weak.keep (Weak.keep (Weak.pick (p := [_, _, _, _]) (Weak.keep (Weak.keep (Weak.keep (Weak.keep (Weak.nil _))))))))))))) ?_
  refine R_region ?_
  refine L_val rfl rfl rfl (OpP.v (P_move rfl rfl)) ?_
  refine L_val rfl rfl rfl (OpP.v (P_move rfl rfl)) ?_
  refine L_val rfl rfl rfl (OpP.v (P_nil rfl rfl)) ?_
  refine L_val rfl rfl rfl (OpP.v (P_fld0 rfl ty_fl_79_2 rfl)) ?_
  first | (refine L_val rfl rfl rfl (OpP.v (P_ixa0 (0) rfl ty_ar_55 rfl rfl (by first | rfl | omega) (by omega))) ?_) | (refine L_val rfl rfl rfl (OpP.v (P_ixa (0) rfl ty_ar_55 rfl rfl (by first | rfl | omega) (by omega))) ?_)
  refine L_val rfl rfl rfl (V_load rfl rfl ty_sc_54 (Rd.blk .h0 rfl)) ?_
  refine L_val rfl rfl rfl (OpP.v (P_len rfl ty_sl_54 rfl)) ?_
  refine L_val rfl rfl rfl (OpP.v (P_eql rfl rfl rfl)) ?_
  refine E_true (t := 22) rfl (decide_eq_true (by omega)) ?_
  refine L_nil ?_
  refine St.env (.cons (t := 0) rfl (.cons (t := 1) rfl (.cons (t := 5) rfl (.cons (t := 6) rfl (.cons (t := 22) rfl .nil))))) ?_
  refine Q_then ?_
  refine R_condT rfl ?_
  refine R_seq ?_
  refine R_region ?_
  refine L_val rfl rfl rfl (OpP.v (P_assign rfl rfl)) ?_
  refine L_nil ?_
  refine St.env (.cons (t := 0) rfl (.cons (t := 1) rfl (.cons (t := 5) rfl (.cons (t := 6) rfl .nil)))) ?_
  refine Q_then ?_
  refine R_ret ?_
  refine Q_then_ret ?_
  exact R_end (rs2 := [TWO w (n + 1)]) rfl rfl (.tmp rfl .nil) (⟨rfl, rfl⟩) ((Weak.keep (Weak.drop (Weak.refl _))).trans ((Weak.keep (Weak.keep (Weak.keep (Weak.keep (Weak.keep (Weak.pick (p := [_]) (Weak.pick (p := [_]) (Weak.pick (p := [_]) (Weak.pick (p := [_]) (Weak.keep (Weak.nil _))))))))))).trans (two_close (n := n + 1) (rs := []) ⟨⟨p0, q0, sg0, tg0, rc0, .slice sb0 sg0.length sc0, .slice tb0 tg0.length tc0⟩, ⟨p1, q1, sg1, tg1, rc1, .slice sb1 sg1.length sc1, .slice tb1 tg1.length tc1⟩, .slice zb ss.length zc, ss⟩ ⟨⟨hen0, Nat.le_succ_of_le hs0, Nat.le_succ_of_le hr0⟩, ⟨hen1, Nat.le_succ_of_le hs1, Nat.le_succ_of_le hr1⟩, Nat.le_succ_of_le hzl, hz16⟩)))
theorem signs_big0 {gl : Nat → Obj} (hG : GlobsR gl) (w n : Nat) (p0 q0 p1 q1 : Nat) (sg0 tg0 sg1 tg1 : List (Int × Nat)) (rc0 rc1 : List Rcd) (vs0 vt0 vs1 vt1 z : Value) (ss : List (List Int)) (hen0 : enOf sg0 = enOf tg0) (hen1 : enOf sg1 = enOf tg1) (hs0 : sg0.length ≤ n) (hs1 : sg1.length ≤ n) (hr0 : rc0.length ≤ n) (hr1 : rc1.length ≤ n) (hzl : ss.length ≤ n) (hz16 : ∀ s ∈ ss, s.length = 16) (hn : n ≤ 1599289640354) (kd wh at_ a : Int) (base : Option Addr) (c : Nat) (xs sl : List Int) (tw : Int) (lg : Bool) (hsl : sl.length = 16) (hxm : xs.length ≤ 140737488351232) (hxb : IsB xs) (h0 : 0 < sg0.length) (hbg0 : 1048576 < (opMsg xs lg).length) : SpecR (cx gl) 49 [.pointer (some ⟨w, 0, none⟩), .int .i64 0, .agg (opC kd wh at_ a base xs.length c sl tw lg).toArray] (fun w h => Seen w h base (ints .u8 xs)) [blk w [.pointer (some ⟨p0, 0, none⟩), .pointer (some ⟨p1, 0, none⟩), .pointer (some ⟨q0, 0, none⟩), .pointer (some ⟨q1, 0, none⟩), vs0, vs1, vt0, vt1, z] 79, REG p0 (sg0) (rc0), REF q0 (tg0) (rc0), ownS 27 1 (vs0) (sg0).length (ptrs (sg0)), ownS 114 1 (vt0) (tg0).length (ptrs (tg0)), REG p1 (sg1) (rc1), REF q1 (tg1) (rc1), ownS 27 1 (vs1) (sg1).length (ptrs (sg1)), ownS 114 1 (vt1) (tg1).length (ptrs (tg1)), ownS 33 16 (z) (ss).length (flat .u8 (ss))] (.bool true) [TWO w (n + 1)] := by
  refine Spec.enter (C := cx gl) Tryd.func49 rfl 99 rfl rfl fun w0 h0 hsep hsub hpre => ?_
  show St (cx gl) _ [(0, .pointer (some ⟨w, 0, none⟩)), (1, .int .i64 0), (2, .agg (opC kd wh at_ a base xs.length c sl tw lg).toArray)] _ _
  have htl0 : tg0.length = sg0.length := (enOf_len hen0).symm
  have htl1 : tg1.length = sg1.length := (enOf_len hen1).symm
  refine St.ownForm (p := [_, _, _]) fun sb0 sc0 hsb0_ hsc0 => ?_
  subst hsb0_
  refine St.ownForm (p := [_, _, _, _]) fun tb0 tc0 htb0_ htc0 => ?_
  subst htb0_
  refine St.ownForm (p := [_, _, _, _, _, _, _]) fun sb1 sc1 hsb1_ hsc1 => ?_
  subst hsb1_
  refine St.ownForm (p := [_, _, _, _, _, _, _, _]) fun tb1 tc1 htb1_ htc1 => ?_
  subst htb1_
  refine St.ownForm (p := [_, _, _, _, _, _, _, _, _]) fun zb zc hzb_ hzc => ?_
  subst hzb_
  refine St.res (rs' := [blk w [.pointer (some ⟨p0, 0, none⟩), .pointer (some ⟨p1, 0, none⟩), .pointer (some ⟨q0, 0, none⟩), .pointer (some ⟨q1, 0, none⟩), .slice sb0 sg0.length sc0, .slice sb1 sg1.length sc1, .slice tb0 tg0.length tc0, .slice tb1 tg1.length tc1, .slice zb ss.length zc] 79, REG p0 (sg0) (rc0), REF q0 (tg0) (rc0), ownS 27 1 (.slice sb0 sg0.length sc0) (sg0).length (ptrs (sg0)), ownS 114 1 (.slice tb0 tg0.length tc0) (tg0).length (ptrs (tg0)), REG p1 (sg1) (rc1), REF q1 (tg1) (rc1), ownS 27 1 (.slice sb1 sg1.length sc1) (sg1).length (ptrs (sg1)), ownS 114 1 (.slice tb1 tg1.length tc1) (tg1).length (ptrs (tg1)), ownS 33 16 (.slice zb ss.length zc) (ss).length (flat .u8 (ss))]) (Weak.refl _) ?_
  refine St.ownSome (p := [_, _, _]) (by omega) fun sbb sbc hq _ => ?_
  simp only [Value.slice.injEq] at hq
  obtain ⟨rfl, _, rfl⟩ := hq
  refine St.ownSome (p := [_, _, _, _]) (by omega) fun tbb tbc hq _ => ?_
  simp only [Value.slice.injEq] at hq
  obtain ⟨rfl, _, rfl⟩ := hq
  refine St.res (rs' := [blk w [.pointer (some ⟨p0, 0, none⟩), .pointer (some ⟨p1, 0, none⟩), .pointer (some ⟨q0, 0, none⟩), .pointer (some ⟨q1, 0, none⟩), .slice (some ⟨sbb, 0, none⟩) sg0.length sc0, .slice sb1 sg1.length sc1, .slice (some ⟨tbb, 0, none⟩) tg0.length tc0, .slice tb1 tg1.length tc1, .slice zb ss.length zc] 79, REG p0 (sg0) (rc0), REF q0 (tg0) (rc0), ownS 27 1 (.slice (some ⟨sbb, 0, none⟩) sg0.length sc0) (sg0).length (ptrs (sg0)), ownS 114 1 (.slice (some ⟨tbb, 0, none⟩) tg0.length tc0) (tg0).length (ptrs (tg0)), REG p1 (sg1) (rc1), REF q1 (tg1) (rc1), ownS 27 1 (.slice sb1 sg1.length sc1) (sg1).length (ptrs (sg1)), ownS 114 1 (.slice tb1 tg1.length tc1) (tg1).length (ptrs (tg1)), ownS 33 16 (.slice zb ss.length zc) (ss).length (flat .u8 (ss))]) (Weak.refl _) ?_
  obtain ⟨ii, hii⟩ : ∃ ii : Nat, aroundI at_ (sg0.length : Int) = ii := ⟨(aroundI at_ sg0.length).toNat, by have := aroundI_bound (x := at_) (n := (sg0.length : Int)) (by omega); omega⟩
  have hil : ii < sg0.length := by have := aroundI_bound (x := at_) (n := (sg0.length : Int)) (by omega); omega
  obtain ⟨⟨a1, s⟩, hs⟩ : ∃ y, sg0[ii]? = some y := ⟨_, List.getElem?_eq_getElem hil⟩
  obtain ⟨t, ht⟩ := enOf_at hen0 hs
  obtain ⟨m, hm⟩ : ∃ m, m = opMsg xs lg := ⟨_, rfl⟩
  have hmb : IsB m := by rw [hm]; exact isB_opMsg hxb lg
  have hml : m.length ≤ 140737488351232 := by rw [hm]; exact opMsg_le hxm lg
  have hbg : 1048576 < m.length := by rw [hm]; exact hbg0
  refine R_seq ?_
  refine R_region ?_
  refine L_op rfl (W_box (opC kd wh at_ a base xs.length c sl tw lg) rfl rfl rfl rfl rfl fun b5 => ?_)
  refine L_val rfl rfl rfl (OpP.v (P_assign rfl rfl)) ?_
  refine L_nil ?_
  refine St.env (.cons (t := 0) rfl (.cons (t := 1) rfl (.cons (t := 5) rfl (.cons (t := 6) rfl .nil)))) ?_
  refine Q_then ?_
  refine R_seq ?_
  refine R_seq ?_
  refine St.res (rs' := [blk w [.pointer (some ⟨p0, 0, none⟩), .pointer (some ⟨p1, 0, none⟩), .pointer (some ⟨q0, 0, none⟩), .pointer (some ⟨q1, 0, none⟩), .slice (some ⟨sbb, 0, none⟩) sg0.length sc0, .slice sb1 sg1.length sc1, .slice (some ⟨tbb, 0, none⟩) tg0.length tc0, .slice tb1 tg1.length tc1, .slice zb ss.length zc] 79, blk b5 (opC kd wh at_ a base xs.length c sl tw lg) 72, REG p0 (sg0) (rc0), REF q0 (tg0) (rc0), ownS 27 1 (.slice (some ⟨sbb, 0, none⟩) sg0.length sc0) (sg0).length (ptrs (sg0)), ownS 114 1 (.slice (some ⟨tbb, 0, none⟩) tg0.length tc0) (tg0).length (ptrs (tg0)), ownS 33 16 (.slice zb ss.length zc) (ss).length (flat .u8 (ss)), REG p1 (sg1) (rc1), REF q1 (tg1) (rc1), ownS 27 1 (.slice sb1 sg1.length sc1) (sg1).length (ptrs (sg1)), ownS 114 1 (.slice tb1 tg1.length tc1) (tg1).length (ptrs (tg1))]) ((Weak.swap.trans (Weak.refl _)).trans (Weak.keep (Weak.keep (Weak.keep (Weak.keep (Weak.keep (Weak.keep (Weak.pick (p := [_, _, _, _]) (Weak.keep (Weak.keep (Weak.keep (Weak.keep (Weak.nil _))))))))))))) ?_
  refine R_region ?_
  refine L_val rfl rfl rfl (OpP.v (P_move rfl rfl)) ?_
  refine L_val rfl rfl rfl (OpP.v (P_move rfl rfl)) ?_
  refine L_val rfl rfl rfl (OpP.v (P_nil rfl rfl)) ?_
  refine L_val rfl rfl rfl (OpP.v (P_fld0 rfl ty_fl_79_2 rfl)) ?_
  first | (refine L_val rfl rfl rfl (OpP.v (P_ixa0 (0) rfl ty_ar_55 rfl rfl (by first | rfl | omega) (by omega))) ?_) | (refine L_val rfl rfl rfl (OpP.v (P_ixa (0) rfl ty_ar_55 rfl rfl (by first | rfl | omega) (by omega))) ?_)
  refine L_val rfl rfl rfl (V_load rfl rfl ty_sc_54 (Rd.blk .h0 rfl)) ?_
  refine L_val rfl rfl rfl (OpP.v (P_len rfl ty_sl_54 rfl)) ?_
  refine L_val rfl rfl rfl (OpP.v (P_eql rfl rfl rfl)) ?_
  refine E_false (t := 22) rfl (decide_eq_false (by omega)) ?_
  refine L_nil ?_
  refine St.env (.cons (t := 0) rfl (.cons (t := 1) rfl (.cons (t := 5) rfl (.cons (t := 6) rfl (.cons (t := 22) rfl .nil))))) ?_
  refine Q_then ?_
  refine R_condF rfl ?_
  refine R_skip ?_
  refine Q_then ?_
  refine R_seq ?_
  refine R_open [(0, 0), (1, 1), (2, 0), (3, 0), (4, 0), (5, 0), (6, 0), (7, 1), (8, 0), (9, 2), (10, 0)] mixed (by kernel_rfl) (QOk.then QOk.body) ?_
  refine O_pure rfl rfl rfl rfl (P_fld0 rfl ty_fl_72_2 rfl) ?_
  refine O_val rfl rfl rfl rfl (V_load rfl rfl ty_sc_3 (Rd.blk .h1 rfl)) ?_
  refine O_pure rfl rfl rfl rfl (P_move rfl rfl) ?_
  refine O_pure rfl rfl rfl rfl (P_move rfl rfl) ?_
  refine O_pure rfl rfl rfl rfl (P_nil rfl rfl) ?_
  refine O_pure rfl rfl rfl rfl (P_fld0 rfl ty_fl_79_2 rfl) ?_
  first | (refine O_pure rfl rfl rfl rfl (P_ixa0 (0) rfl ty_ar_55 rfl rfl (by first | rfl | omega) (by omega)) ?_) | (refine O_pure rfl rfl rfl rfl (P_ixa (0) rfl ty_ar_55 rfl rfl (by first | rfl | omega) (by omega)) ?_)
  refine O_val rfl rfl rfl rfl (V_load rfl rfl ty_sc_54 (Rd.blk .h0 rfl)) ?_
  refine O_pure rfl rfl rfl rfl (P_len rfl ty_sl_54 rfl) ?_
  refine O_keep rfl rfl (W_callV rfl rfl rfl rfl fn_ca_26 (around_ok at_ (sg0.length : Int) (by omega) (by omega)) (fun _ _ => trivial) (K_keep (Weak.refl _) ?_))
  refine E_as (t := 32) (v' := .int .i64 (ii : Int)) rfl (by rw [hii]) ?_
  refine O_pure rfl rfl rfl rfl (P_assign rfl rfl) ?_
  refine O_nil ?_
  refine St.env (.cons (t := 0) rfl (.cons (t := 1) rfl (.cons (t := 5) rfl (.cons (t := 6) rfl (.cons (t := 7) rfl .nil))))) ?_
  refine Q_then ?_
  refine R_seq ?_
  refine R_region ?_
  refine L_val rfl rfl rfl (V_loadAgg rfl rfl ty_ag_72 (Rds.blk .h1) (opC_length hsl)) ?_
  refine L_op rfl (W_call rfl rfl rfl rfl fn_ca_63 (message_ok kd wh at_ a base c xs sl tw lg hsl hxm) (Split.nil _) (fun w a b _ hb dj m_ => (Sn.old hpre).rw_ w ⟨_, hb, m_.le (Heap.le_join_right dj)⟩) fun v34 rs1 (e1 : rs1 = _) => ?_)
  subst e1
  rw [← hm]
  refine St.ownForm (p := []) fun ub uc hub_ huc => ?_
  subst hub_
  refine St.res (rs' := [blk w [.pointer (some ⟨p0, 0, none⟩), .pointer (some ⟨p1, 0, none⟩), .pointer (some ⟨q0, 0, none⟩), .pointer (some ⟨q1, 0, none⟩), .slice (some ⟨sbb, 0, none⟩) sg0.length sc0, .slice sb1 sg1.length sc1, .slice (some ⟨tbb, 0, none⟩) tg0.length tc0, .slice tb1 tg1.length tc1, .slice zb ss.length zc] 79, blk b5 (opC kd wh at_ a base xs.length c sl tw lg) 72, ownS 5 1 (.slice ub m.length uc) m.length (ints .u8 m), REG p0 (sg0) (rc0), REF q0 (tg0) (rc0), ownS 27 1 (.slice (some ⟨sbb, 0, none⟩) sg0.length sc0) (sg0).length (ptrs (sg0)), ownS 114 1 (.slice (some ⟨tbb, 0, none⟩) tg0.length tc0) (tg0).length (ptrs (tg0)), ownS 33 16 (.slice zb ss.length zc) (ss).length (flat .u8 (ss)), REG p1 (sg1) (rc1), REF q1 (tg1) (rc1), ownS 27 1 (.slice sb1 sg1.length sc1) (sg1).length (ptrs (sg1)), ownS 114 1 (.slice tb1 tg1.length tc1) (tg1).length (ptrs (tg1))]) (Weak.p1 (Weak.p1 (Weak.refl _))) ?_
  refine L_val rfl rfl rfl (OpP.v (P_assign rfl rfl)) ?_
  refine L_nil ?_
  refine St.env (.cons (t := 0) rfl (.cons (t := 1) rfl (.cons (t := 6) rfl (.cons (t := 7) rfl (.cons (t := 8) rfl .nil))))) ?_
  refine Q_then ?_
  refine R_seq ?_
  refine R_region ?_
  refine L_val rfl rfl rfl (OpP.v (P_move rfl rfl)) ?_
  refine L_op rfl (W_call rfl rfl rfl rfl fn_ca_64 (room_ok ub uc m hml) (Split.nil _) (fun w a b _ hb dj m_ => (Sn.own .h2 rfl).rw_ w ⟨_, hb, m_.le (Heap.le_join_right dj)⟩) fun v36 rs2 (e2 : rs2 = _) => ?_)
  subst e2
  refine St.ownSome (p := []) (by omega) fun fb fc hfv hfc => ?_
  subst hfv
  refine St.res (rs' := [blk w [.pointer (some ⟨p0, 0, none⟩), .pointer (some ⟨p1, 0, none⟩), .pointer (some ⟨q0, 0, none⟩), .pointer (some ⟨q1, 0, none⟩), .slice (some ⟨sbb, 0, none⟩) sg0.length sc0, .slice sb1 sg1.length sc1, .slice (some ⟨tbb, 0, none⟩) tg0.length tc0, .slice tb1 tg1.length tc1, .slice zb ss.length zc] 79, blk b5 (opC kd wh at_ a base xs.length c sl tw lg) 72, ownS 5 1 (.slice ub m.length uc) m.length (ints .u8 m), ownS 5 1 (.slice (some ⟨fb, 0, none⟩) (m.length + 3) fc) (m.length + 3) (ints .u8 (m ++ [201, 202, 203])), REG p0 (sg0) (rc0), REF q0 (tg0) (rc0), ownS 27 1 (.slice (some ⟨sbb, 0, none⟩) sg0.length sc0) (sg0).length (ptrs (sg0)), ownS 114 1 (.slice (some ⟨tbb, 0, none⟩) tg0.length tc0) (tg0).length (ptrs (tg0)), ownS 33 16 (.slice zb ss.length zc) (ss).length (flat .u8 (ss)), REG p1 (sg1) (rc1), REF q1 (tg1) (rc1), ownS 27 1 (.slice sb1 sg1.length sc1) (sg1).length (ptrs (sg1)), ownS 114 1 (.slice tb1 tg1.length tc1) (tg1).length (ptrs (tg1))]) (Weak.p1 (Weak.p1 (Weak.p1 (Weak.refl _)))) ?_
  refine L_val rfl rfl rfl (OpP.v (P_assign rfl rfl)) ?_
  refine L_nil ?_
  refine St.env (.cons (t := 0) rfl (.cons (t := 1) rfl (.cons (t := 6) rfl (.cons (t := 7) rfl (.cons (t := 8) rfl (.cons (t := 9) rfl .nil)))))) ?_
  refine Q_then ?_
  refine R_seq ?_
  refine TQ_open (.op 0 0 (.op 1 0 (.op 2 0 (.op 3 0 (.op 4 0 (.op 5 1 (.op 6 0 (.op 7 0 (.op 8 1 (.op 9 0 (.op 10 0 (.op 11 0 (.op 12 0 (.two 13 17 (.op 14 0 (.op 15 0 (.op 16 0 (.op 17 2 (.op 18 3 (.op 19 0 .nil)))))) (.op 13 2 (.op 14 0 (.op 15 0 (.op 16 0 (.op 18 3 (.op 19 0 .nil)))))))))))))))))))) [blk w [.pointer (some ⟨p0, 0, none⟩), .pointer (some ⟨p1, 0, none⟩), .pointer (some ⟨q0, 0, none⟩), .pointer (some ⟨q1, 0, none⟩), .slice (some ⟨sbb, 0, none⟩) sg0.length sc0, .slice sb1 sg1.length sc1, .slice (some ⟨tbb, 0, none⟩) tg0.length tc0, .slice tb1 tg1.length tc1, .slice zb ss.length zc] 79, blk b5 (opC kd wh at_ a base xs.length c sl tw lg) 72, ownS 5 1 (.slice ub m.length uc) m.length (ints .u8 m), ownS 5 1 (.slice (some ⟨fb, 0, none⟩) (m.length + 3) fc) (m.length + 3) (ints .u8 (m ++ [201, 202, 203])), REF q0 (tg0) (rc0), ownS 27 1 (.slice (some ⟨sbb, 0, none⟩) sg0.length sc0) (sg0).length (ptrs (sg0)), ownS 114 1 (.slice (some ⟨tbb, 0, none⟩) tg0.length tc0) (tg0).length (ptrs (tg0)), ownS 33 16 (.slice zb ss.length zc) (ss).length (flat .u8 (ss)), REG p1 (sg1) (rc1), REF q1 (tg1) (rc1), ownS 27 1 (.slice sb1 sg1.length sc1) (sg1).length (ptrs (sg1)), ownS 114 1 (.slice tb1 tg1.length tc1) (tg1).length (ptrs (tg1))] (Weak.keep (Weak.keep (Weak.keep (Weak.keep (Weak.pick (p := [_]) (Weak.pick (p := [_]) (Weak.pick (p := [_]) (Weak.pick (p := [_]) (Weak.pick (p := [_]) (Weak.pick (p := [_]) (Weak.pick (p := [_]) (Weak.pick (p := [_]) (Weak.nil _))))))))))))) mixed (by kernel_rfl) (QOk.then QOk.body) ?_
  refine TQ_pure rfl rfl rfl rfl (P_move rfl rfl) ?_
  refine TQ_pure rfl rfl rfl rfl (P_move rfl rfl) ?_
  refine TQ_pure rfl rfl rfl rfl (P_nil rfl rfl) ?_
  refine TQ_pure rfl rfl rfl rfl (P_fld0 rfl ty_fl_79_2 rfl) ?_
  first | (refine TQ_pure rfl rfl rfl rfl (P_ixa0 (0) rfl ty_ar_55 rfl rfl (by first | rfl | omega) (by omega)) ?_) | (refine TQ_pure rfl rfl rfl rfl (P_ixa (0) rfl ty_ar_55 rfl rfl (by first | rfl | omega) (by omega)) ?_)
  refine TQ_val rfl rfl rfl rfl (V_load rfl rfl ty_sc_54 (Rd.blk .h0 rfl)) ?_
  refine TQ_pure rfl rfl rfl rfl (P_move rfl rfl) ?_
  refine TQ_pure rfl rfl rfl rfl (P_ixs (ii) rfl ty_sl_54 rfl rfl (by first | rfl | omega) (by omega)) ?_
  refine TQ_val rfl rfl rfl rfl (V_load rfl rfl ty_sc_27 (rd_own1 .h5 (ptrs_at hs))) ?_
  refine TQ_pure rfl rfl rfl rfl (P_move rfl rfl) ?_
  refine TQ_pure rfl rfl rfl rfl (P_move rfl rfl) ?_
  refine TQ_pure rfl rfl rfl rfl (P_len rfl ty_sl_24 rfl) ?_
  refine TQ_pure rfl rfl rfl rfl (P_slice 0 m.length rfl ty_sl_24 rfl rfl ⟨_, rfl⟩ (by omega) (by omega)) ?_
  refine E_as (t := 50) (v' := .slice (some ⟨fb, 0, none⟩) m.length fc) rfl (by unfold sliced; rw [if_neg (by omega)]; simp [add_zero_off]) ?_
  refine TQ_two ?_ ?_
  · skip
    first | (refine TQ_keep rfl rfl (W_callR rfl rfl rfl rfl fn_ca_18 (sign_big p0 sg0 rc0 ii a1 s hs (some ⟨fb, 0, none⟩) fc m hbg) (Split.one (p := [_, _, _, _])) (fun _ _ _ _ _ _ _ => trivial) (K_keepTQ (Weak.drop (Weak.refl _)) ?_))) | (refine TQ_keep rfl rfl (W_callR rfl rfl rfl rfl fn_ca_18 (sign_big p0 sg0 rc0 ii a1 s hs (some ⟨fb, 0, none⟩) fc m hbg) (Split.one (p := [_, _, _, _, _])) (fun _ _ _ _ _ _ _ => trivial) (K_keepTQ (Weak.drop (Weak.drop (Weak.refl _))) ?_)))
    refine TQ_pure rfl rfl rfl rfl (P_move rfl rfl) ?_
    refine TQ_pure rfl rfl rfl rfl (P_extract rfl rfl rfl) ?_
    refine TQ_pure rfl rfl rfl rfl (P_extract rfl rfl rfl) ?_
    first | (refine TQ_keep rfl rfl (W_alloc rfl rfl rfl ty_ze_33 fun b10 => (K_keepTQ (Weak.drop (Weak.drop (Weak.refl _))) ?_))) | (refine TQ_keep rfl rfl (W_alloc rfl rfl rfl ty_ze_33 fun b10 => (K_keepTQ (Weak.pick (p := [_]) (Weak.pick (p := [_]) (Weak.pick (p := [_]) (Weak.pick (p := [_]) (Weak.pick (p := [_, _]) (Weak.pick (p := [_, _]) (Weak.pick (p := [_, _]) (Weak.pick (p := [_, _]) (Weak.pick (p := [_, _]) (Weak.pick (p := [_, _]) (Weak.pick (p := [_, _]) (Weak.pick (p := [_, _]) (Weak.nil _))))))))))))) ?_)))
    first | (refine TQ_new rfl rfl (W_storeAll rfl rfl rfl rfl ty_ag_33 (by rw [ints_length]; exact List.length_replicate) (ints_one) .h0 (by rw [ints_length]; exact (List.length_replicate).trans rfl) (K_newTQ ?_))) | (refine TQ_new rfl rfl (W_storeAll rfl rfl rfl rfl ty_ag_33 (by rw [ints_length]; exact List.length_replicate) (ints_one) .h1 (by rw [ints_length]; exact (List.length_replicate).trans rfl) (K_newTQ ?_)))
    refine TQ_pure rfl rfl rfl rfl (P_assign rfl rfl) ?_
    refine TQ_nil ?_
    refine St.env (.cons (t := 0) rfl (.cons (t := 1) rfl (.cons (t := 6) rfl (.cons (t := 7) rfl (.cons (t := 8) rfl (.cons (t := 9) rfl (.cons (t := 10) rfl (.cons (t := 11) rfl .nil)))))))) ?_
    refine Q_then ?_
    refine R_seq ?_
    refine St.res (rs' := [blk w [.pointer (some ⟨p0, 0, none⟩), .pointer (some ⟨p1, 0, none⟩), .pointer (some ⟨q0, 0, none⟩), .pointer (some ⟨q1, 0, none⟩), .slice (some ⟨sbb, 0, none⟩) sg0.length sc0, .slice sb1 sg1.length sc1, .slice (some ⟨tbb, 0, none⟩) tg0.length tc0, .slice tb1 tg1.length tc1, .slice zb ss.length zc] 79, blk b5 (opC kd wh at_ a base xs.length c sl tw lg) 72, ownS 5 1 (.slice ub m.length uc) m.length (ints .u8 m), ownS 5 1 (.slice (some ⟨fb, 0, none⟩) (m.length + 3) fc) (m.length + 3) (ints .u8 (m ++ [201, 202, 203])), blk b10 (ints .u8 (List.replicate 16 0)) 33, REG p0 (sg0) (rc0), REF q0 (tg0) (rc0), ownS 27 1 (.slice (some ⟨sbb, 0, none⟩) sg0.length sc0) (sg0).length (ptrs (sg0)), ownS 114 1 (.slice (some ⟨tbb, 0, none⟩) tg0.length tc0) (tg0).length (ptrs (tg0)), ownS 33 16 (.slice zb ss.length zc) (ss).length (flat .u8 (ss)), REG p1 (sg1) (rc1), REF q1 (tg1) (rc1), ownS 27 1 (.slice sb1 sg1.length sc1) (sg1).length (ptrs (sg1)), ownS 114 1 (.slice tb1 tg1.length tc1) (tg1).length (ptrs (tg1))]) (by first | exact Weak.pick (p := [_, _]) (Weak.pick (p := [_, _]) (Weak.pick (p := [_, _]) (Weak.pick (p := [_, _]) (Weak.keep (Weak.keep (Weak.keep (Weak.keep (Weak.keep (Weak.keep (Weak.keep (Weak.keep (Weak.keep (Weak.keep (Weak.nil _)))))))))))))) | exact Weak.pick (p := [_, _]) (Weak.pick (p := [_, _]) (Weak.pick (p := [_, _]) (Weak.pick (p := [_, _]) (Weak.pick (p := [_]) (Weak.keep (Weak.keep (Weak.keep (Weak.keep (Weak.keep (Weak.keep (Weak.keep (Weak.keep (Weak.keep (Weak.nil _))))))))))))))) ?_
    refine R_region ?_
    refine L_val rfl rfl rfl (OpP.v (P_move rfl rfl)) ?_
    refine L_val rfl rfl rfl (OpP.v (P_move rfl rfl)) ?_
    refine L_val rfl rfl rfl (OpP.v (P_nil rfl rfl)) ?_
    refine L_val rfl rfl rfl (OpP.v (P_fld0 rfl ty_fl_79_3 rfl)) ?_
    first | (refine L_val rfl rfl rfl (OpP.v (P_ixa0 (0) rfl ty_ar_76 rfl rfl (by first | rfl | omega) (by omega))) ?_) | (refine L_val rfl rfl rfl (OpP.v (P_ixa (0) rfl ty_ar_76 rfl rfl (by first | rfl | omega) (by omega))) ?_)
    refine L_val rfl rfl rfl (V_load rfl rfl ty_sc_75 (Rd.blk .h0 rfl)) ?_
    refine L_val rfl rfl rfl (OpP.v (P_move rfl rfl)) ?_
    refine L_val rfl rfl rfl (OpP.v (P_ixs (ii) rfl ty_sl_75 rfl rfl (by first | rfl | omega) (by omega))) ?_
    refine L_val rfl rfl rfl (V_load rfl rfl ty_sc_114 (rd_own1 .h8 (ptrs_at ht))) ?_
    refine L_val rfl rfl rfl (OpP.v (P_move rfl rfl)) ?_
    refine L_op rfl (W_callR rfl rfl rfl rfl fn_ca_65 (rsign_big q0 tg0 rc0 ii a1 t ht ub uc m hbg) (Split.one (p := [_, _, _, _, _, _])) (fun _ _ _ _ _ _ _ => trivial) ?_)
    refine St.res (rs' := [blk w [.pointer (some ⟨p0, 0, none⟩), .pointer (some ⟨p1, 0, none⟩), .pointer (some ⟨q0, 0, none⟩), .pointer (some ⟨q1, 0, none⟩), .slice (some ⟨sbb, 0, none⟩) sg0.length sc0, .slice sb1 sg1.length sc1, .slice (some ⟨tbb, 0, none⟩) tg0.length tc0, .slice tb1 tg1.length tc1, .slice zb ss.length zc] 79, blk b5 (opC kd wh at_ a base xs.length c sl tw lg) 72, ownS 5 1 (.slice ub m.length uc) m.length (ints .u8 m), ownS 5 1 (.slice (some ⟨fb, 0, none⟩) (m.length + 3) fc) (m.length + 3) (ints .u8 (m ++ [201, 202, 203])), blk b10 (ints .u8 (List.replicate 16 0)) 33, REG p0 (sg0) (rc0), REF q0 (tg0) (rc0), ownS 27 1 (.slice (some ⟨sbb, 0, none⟩) sg0.length sc0) (sg0).length (ptrs (sg0)), ownS 114 1 (.slice (some ⟨tbb, 0, none⟩) tg0.length tc0) (tg0).length (ptrs (tg0)), ownS 33 16 (.slice zb ss.length zc) (ss).length (flat .u8 (ss)), REG p1 (sg1) (rc1), REF q1 (tg1) (rc1), ownS 27 1 (.slice sb1 sg1.length sc1) (sg1).length (ptrs (sg1)), ownS 114 1 (.slice tb1 tg1.length tc1) (tg1).length (ptrs (tg1))]) (Weak.p1 (Weak.p1 (Weak.p1 (Weak.p1 (Weak.p1 (Weak.p1 (Weak.refl _))))))) ?_
    refine L_val rfl rfl rfl (OpP.v (P_move rfl rfl)) ?_
    refine L_val rfl rfl rfl (OpP.v (P_extract rfl rfl rfl)) ?_
    refine L_val rfl rfl rfl (OpP.v (P_extract rfl rfl rfl)) ?_
    refine L_op rfl (W_alloc rfl rfl rfl ty_ze_33 fun b12 => ?_)
    refine L_op rfl (W_storeAll rfl rfl rfl rfl ty_ag_33 (by rw [ints_length]; exact List.length_replicate) (ints_one) .h0 (by rw [ints_length]; exact (List.length_replicate).trans rfl) ?_)
    refine L_val rfl rfl rfl (OpP.v (P_assign rfl rfl)) ?_
    refine L_nil ?_
    refine St.env (.cons (t := 0) rfl (.cons (t := 6) rfl (.cons (t := 8) rfl (.cons (t := 9) rfl (.cons (t := 10) rfl (.cons (t := 11) rfl (.cons (t := 12) rfl (.cons (t := 13) rfl .nil)))))))) ?_
    refine Q_then ?_
    refine R_seq ?_
    refine St.res (rs' := [blk w [.pointer (some ⟨p0, 0, none⟩), .pointer (some ⟨p1, 0, none⟩), .pointer (some ⟨q0, 0, none⟩), .pointer (some ⟨q1, 0, none⟩), .slice (some ⟨sbb, 0, none⟩) sg0.length sc0, .slice sb1 sg1.length sc1, .slice (some ⟨tbb, 0, none⟩) tg0.length tc0, .slice tb1 tg1.length tc1, .slice zb ss.length zc] 79, blk b5 (opC kd wh at_ a base xs.length c sl tw lg) 72, ownS 5 1 (.slice ub m.length uc) m.length (ints .u8 m), ownS 5 1 (.slice (some ⟨fb, 0, none⟩) (m.length + 3) fc) (m.length + 3) (ints .u8 (m ++ [201, 202, 203])), blk b10 (ints .u8 (List.replicate 16 0)) 33, blk b12 (ints .u8 (List.replicate 16 0)) 33, REG p0 (sg0) (rc0), REF q0 (tg0) (rc0), ownS 27 1 (.slice (some ⟨sbb, 0, none⟩) sg0.length sc0) (sg0).length (ptrs (sg0)), ownS 114 1 (.slice (some ⟨tbb, 0, none⟩) tg0.length tc0) (tg0).length (ptrs (tg0)), ownS 33 16 (.slice zb ss.length zc) (ss).length (flat .u8 (ss)), REG p1 (sg1) (rc1), REF q1 (tg1) (rc1), ownS 27 1 (.slice sb1 sg1.length sc1) (sg1).length (ptrs (sg1)), ownS 114 1 (.slice tb1 tg1.length tc1) (tg1).length (ptrs (tg1))]) (Weak.p1 (Weak.p1 (Weak.p1 (Weak.p1 (Weak.p1 (Weak.refl _)))))) ?_
    refine R_region ?_
    refine L_val rfl rfl rfl (OpP.v (P_move rfl rfl)) ?_
    refine L_val rfl rfl rfl (OpP.v (P_move rfl rfl)) ?_
    refine L_op rfl (W_callV rfl rfl rfl rfl fn_ca_66 (left_ok fb fc ub uc m hfc hml hmb) (fun w nw => ⟨(Sn.own .h3 rfl).rowAt0 (fun _ _ h => h) w nw, (Sn.own .h2 rfl).rw_ w nw⟩) ?_)
    refine E_true (t := 70) rfl (rfl) ?_
    refine L_val rfl rfl rfl (OpP.v (P_assign rfl rfl)) ?_
    refine L_nil ?_
    refine St.env (.cons (t := 0) rfl (.cons (t := 6) rfl (.cons (t := 9) rfl (.cons (t := 10) rfl (.cons (t := 11) rfl (.cons (t := 12) rfl (.cons (t := 13) rfl (.cons (t := 14) rfl .nil)))))))) ?_
    refine Q_then ?_
    refine R_seq ?_
    refine R_region ?_
    refine L_val rfl rfl rfl (OpP.v (P_move rfl rfl)) ?_
    refine L_op rfl (W_callR rfl rfl rfl rfl fn_ca_67 (by have h := spoil_ok (gl := gl) fb fc (m ++ [201, 202, 203]) (by rw [List.length_append]; show m.length + 3 ≤ _; omega); rw [List.length_append] at h; exact h) (Split.one (p := [_, _, _])) (fun _ _ _ _ _ _ _ => trivial) ?_)
    refine St.res (rs' := [blk w [.pointer (some ⟨p0, 0, none⟩), .pointer (some ⟨p1, 0, none⟩), .pointer (some ⟨q0, 0, none⟩), .pointer (some ⟨q1, 0, none⟩), .slice (some ⟨sbb, 0, none⟩) sg0.length sc0, .slice sb1 sg1.length sc1, .slice (some ⟨tbb, 0, none⟩) tg0.length tc0, .slice tb1 tg1.length tc1, .slice zb ss.length zc] 79, blk b5 (opC kd wh at_ a base xs.length c sl tw lg) 72, ownS 5 1 (.slice ub m.length uc) m.length (ints .u8 m), blk b10 (ints .u8 (List.replicate 16 0)) 33, blk b12 (ints .u8 (List.replicate 16 0)) 33, REG p0 (sg0) (rc0), REF q0 (tg0) (rc0), ownS 27 1 (.slice (some ⟨sbb, 0, none⟩) sg0.length sc0) (sg0).length (ptrs (sg0)), ownS 114 1 (.slice (some ⟨tbb, 0, none⟩) tg0.length tc0) (tg0).length (ptrs (tg0)), ownS 33 16 (.slice zb ss.length zc) (ss).length (flat .u8 (ss)), REG p1 (sg1) (rc1), REF q1 (tg1) (rc1), ownS 27 1 (.slice sb1 sg1.length sc1) (sg1).length (ptrs (sg1)), ownS 114 1 (.slice tb1 tg1.length tc1) (tg1).length (ptrs (tg1))]) (Weak.drop (Weak.refl _)) ?_
    refine L_nil ?_
    refine St.env (.cons (t := 0) rfl (.cons (t := 6) rfl (.cons (t := 10) rfl (.cons (t := 11) rfl (.cons (t := 12) rfl (.cons (t := 13) rfl (.cons (t := 14) rfl .nil))))))) ?_
    refine Q_then ?_
    refine R_seq ?_
    refine R_seq ?_
    refine R_region ?_
    refine L_val rfl rfl rfl (OpP.v (P_move rfl rfl)) ?_
    refine L_op rfl (W_callV rfl rfl rfl rfl fn_ca_17 (num_ok 4) (fun _ _ => trivial) ?_)
    refine L_val rfl rfl rfl (OpP.v (P_eql rfl rfl rfl)) ?_
    refine E_false (t := 75) rfl (rfl) ?_
    refine L_nil ?_
    refine St.env (.cons (t := 0) rfl (.cons (t := 6) rfl (.cons (t := 10) rfl (.cons (t := 11) rfl (.cons (t := 12) rfl (.cons (t := 13) rfl (.cons (t := 14) rfl (.cons (t := 75) rfl .nil)))))))) ?_
    refine Q_then ?_
    refine R_condF rfl ?_
    refine R_skip ?_
    refine Q_then ?_
    refine R_seq ?_
    refine R_region ?_
    refine L_val rfl rfl rfl (OpP.v (P_move rfl rfl)) ?_
    refine L_val rfl rfl rfl (OpP.v (P_move rfl rfl)) ?_
    refine L_val rfl rfl rfl (V_loadAgg rfl rfl ty_ag_33 (Rds.blk .h3) (by rw [ints_length]; exact List.length_replicate)) ?_
    refine L_val rfl rfl rfl (V_loadAgg rfl rfl ty_ag_33 (Rds.blk .h4) (by rw [ints_length]; exact List.length_replicate)) ?_
    refine L_val rfl rfl rfl (OpP.v (P_eqArr rfl rfl rfl ty_un_33 ty_int_5 ty_sc_5 ty_eg_33 (List.length_replicate) (List.length_replicate))) ?_
    refine E_true (t := 90) rfl (decide_eq_true rfl) ?_
    refine L_val rfl rfl rfl (OpP.v (P_pick rfl rfl rfl)) ?_
    refine L_val rfl rfl rfl (OpP.v (P_move rfl rfl)) ?_
    refine L_val rfl rfl rfl (OpP.v (P_move rfl rfl)) ?_
    refine L_op rfl (W_callV rfl rfl rfl rfl fn_ca_17 (num_ok 4) (fun _ _ => trivial) ?_)
    refine L_val rfl rfl rfl (OpP.v (P_move rfl rfl)) ?_
    refine L_op rfl (W_callV rfl rfl rfl rfl fn_ca_17 (num_ok 4) (fun _ _ => trivial) ?_)
    refine L_val rfl rfl rfl (OpP.v (P_eql rfl rfl rfl)) ?_
    refine E_true (t := 97) rfl (rfl) ?_
    refine L_val rfl rfl rfl (OpP.v (P_pick rfl rfl rfl)) ?_
    refine L_val rfl rfl rfl (OpP.v (P_assign rfl rfl)) ?_
    refine L_nil ?_
    refine St.env (.cons (t := 6) rfl .nil) ?_
    refine Q_then ?_
    refine R_ret ?_
    exact R_end (rs2 := [TWO w (n + 1)]) rfl rfl (.tmp rfl .nil) (⟨rfl, rfl⟩) ((Weak.keep (Weak.drop (Weak.drop (Weak.drop (Weak.drop (Weak.refl _)))))).trans ((Weak.keep (Weak.keep (Weak.keep (Weak.keep (Weak.keep (Weak.pick (p := [_]) (Weak.pick (p := [_]) (Weak.pick (p := [_]) (Weak.pick (p := [_]) (Weak.keep (Weak.nil _))))))))))).trans (two_close (n := n + 1) (rs := []) ⟨⟨p0, q0, sg0, tg0, rc0, .slice (some ⟨sbb, 0, none⟩) sg0.length sc0, .slice (some ⟨tbb, 0, none⟩) tg0.length tc0⟩, ⟨p1, q1, sg1, tg1, rc1, .slice sb1 sg1.length sc1, .slice tb1 tg1.length tc1⟩, .slice zb ss.length zc, ss⟩ ⟨⟨hen0, Nat.le_succ_of_le hs0, Nat.le_succ_of_le hr0⟩, ⟨hen1, Nat.le_succ_of_le hs1, Nat.le_succ_of_le hr1⟩, Nat.le_succ_of_le hzl, hz16⟩)))
  · skip
    first | (refine TQ_keep rfl rfl (W_alloc rfl rfl rfl ty_ze_33 fun b10 => (K_keepTQ (Weak.drop (Weak.drop (Weak.refl _))) ?_))) | (refine TQ_keep rfl rfl (W_alloc rfl rfl rfl ty_ze_33 fun b10 => (K_keepTQ (Weak.pick (p := [_]) (Weak.pick (p := [_]) (Weak.pick (p := [_]) (Weak.pick (p := [_]) (Weak.pick (p := [_, _]) (Weak.pick (p := [_, _]) (Weak.pick (p := [_, _]) (Weak.pick (p := [_, _]) (Weak.pick (p := [_, _]) (Weak.pick (p := [_, _]) (Weak.pick (p := [_, _]) (Weak.pick (p := [_, _]) (Weak.nil _))))))))))))) ?_)))
    first | (refine TQ_keep rfl rfl (W_callR rfl rfl rfl rfl fn_ca_18 (sign_big p0 sg0 rc0 ii a1 s hs (some ⟨fb, 0, none⟩) fc m hbg) (Split.one (p := [_, _, _, _])) (fun _ _ _ _ _ _ _ => trivial) (K_keepTQ (Weak.drop (Weak.refl _)) ?_))) | (refine TQ_keep rfl rfl (W_callR rfl rfl rfl rfl fn_ca_18 (sign_big p0 sg0 rc0 ii a1 s hs (some ⟨fb, 0, none⟩) fc m hbg) (Split.one (p := [_, _, _, _, _])) (fun _ _ _ _ _ _ _ => trivial) (K_keepTQ (Weak.drop (Weak.drop (Weak.refl _))) ?_)))
    refine TQ_pure rfl rfl rfl rfl (P_move rfl rfl) ?_
    refine TQ_pure rfl rfl rfl rfl (P_extract rfl rfl rfl) ?_
    refine TQ_pure rfl rfl rfl rfl (P_extract rfl rfl rfl) ?_
    first | (refine TQ_new rfl rfl (W_storeAll rfl rfl rfl rfl ty_ag_33 (by rw [ints_length]; exact List.length_replicate) (ints_one) .h0 (by rw [ints_length]; exact (List.length_replicate).trans rfl) (K_newTQ ?_))) | (refine TQ_new rfl rfl (W_storeAll rfl rfl rfl rfl ty_ag_33 (by rw [ints_length]; exact List.length_replicate) (ints_one) .h1 (by rw [ints_length]; exact (List.length_replicate).trans rfl) (K_newTQ ?_)))
    refine TQ_pure rfl rfl rfl rfl (P_assign rfl rfl) ?_
    refine TQ_nil ?_
    refine St.env (.cons (t := 0) rfl (.cons (t := 1) rfl (.cons (t := 6) rfl (.cons (t := 7) rfl (.cons (t := 8) rfl (.cons (t := 9) rfl (.cons (t := 10) rfl (.cons (t := 11) rfl .nil)))))))) ?_
    refine Q_then ?_
    refine R_seq ?_
    refine St.res (rs' := [blk w [.pointer (some ⟨p0, 0, none⟩), .pointer (some ⟨p1, 0, none⟩), .pointer (some ⟨q0, 0, none⟩), .pointer (some ⟨q1, 0, none⟩), .slice (some ⟨sbb, 0, none⟩) sg0.length sc0, .slice sb1 sg1.length sc1, .slice (some ⟨tbb, 0, none⟩) tg0.length tc0, .slice tb1 tg1.length tc1, .slice zb ss.length zc] 79, blk b5 (opC kd wh at_ a base xs.length c sl tw lg) 72, ownS 5 1 (.slice ub m.length uc) m.length (ints .u8 m), ownS 5 1 (.slice (some ⟨fb, 0, none⟩) (m.length + 3) fc) (m.length + 3) (ints .u8 (m ++ [201, 202, 203])), blk b10 (ints .u8 (List.replicate 16 0)) 33, REG p0 (sg0) (rc0), REF q0 (tg0) (rc0), ownS 27 1 (.slice (some ⟨sbb, 0, none⟩) sg0.length sc0) (sg0).length (ptrs (sg0)), ownS 114 1 (.slice (some ⟨tbb, 0, none⟩) tg0.length tc0) (tg0).length (ptrs (tg0)), ownS 33 16 (.slice zb ss.length zc) (ss).length (flat .u8 (ss)), REG p1 (sg1) (rc1), REF q1 (tg1) (rc1), ownS 27 1 (.slice sb1 sg1.length sc1) (sg1).length (ptrs (sg1)), ownS 114 1 (.slice tb1 tg1.length tc1) (tg1).length (ptrs (tg1))]) (by first | exact Weak.pick (p := [_, _]) (Weak.pick (p := [_, _]) (Weak.pick (p := [_, _]) (Weak.pick (p := [_, _]) (Weak.keep (Weak.keep (Weak.keep (Weak.keep (Weak.keep (Weak.keep (Weak.keep (Weak.keep (Weak.keep (Weak.keep (Weak.nil _)))))))))))))) | exact Weak.pick (p := [_, _]) (Weak.pick (p := [_, _]) (Weak.pick (p := [_, _]) (Weak.pick (p := [_, _]) (Weak.pick (p := [_]) (Weak.keep (Weak.keep (Weak.keep (Weak.keep (Weak.keep (Weak.keep (Weak.keep (Weak.keep (Weak.keep (Weak.nil _))))))))))))))) ?_
    refine R_region ?_
    refine L_val rfl rfl rfl (OpP.v (P_move rfl rfl)) ?_
    refine L_val rfl rfl rfl (OpP.v (P_move rfl rfl)) ?_
    refine L_val rfl rfl rfl (OpP.v (P_nil rfl rfl)) ?_
    refine L_val rfl rfl rfl (OpP.v (P_fld0 rfl ty_fl_79_3 rfl)) ?_
    first | (refine L_val rfl rfl rfl (OpP.v (P_ixa0 (0) rfl ty_ar_76 rfl rfl (by first | rfl | omega) (by omega))) ?_) | (refine L_val rfl rfl rfl (OpP.v (P_ixa (0) rfl ty_ar_76 rfl rfl (by first | rfl | omega) (by omega))) ?_)
    refine L_val rfl rfl rfl (V_load rfl rfl ty_sc_75 (Rd.blk .h0 rfl)) ?_
    refine L_val rfl rfl rfl (OpP.v (P_move rfl rfl)) ?_
    refine L_val rfl rfl rfl (OpP.v (P_ixs (ii) rfl ty_sl_75 rfl rfl (by first | rfl | omega) (by omega))) ?_
    refine L_val rfl rfl rfl (V_load rfl rfl ty_sc_114 (rd_own1 .h8 (ptrs_at ht))) ?_
    refine L_val rfl rfl rfl (OpP.v (P_move rfl rfl)) ?_
    refine L_op rfl (W_callR rfl rfl rfl rfl fn_ca_65 (rsign_big q0 tg0 rc0 ii a1 t ht ub uc m hbg) (Split.one (p := [_, _, _, _, _, _])) (fun _ _ _ _ _ _ _ => trivial) ?_)
    refine St.res (rs' := [blk w [.pointer (some ⟨p0, 0, none⟩), .pointer (some ⟨p1, 0, none⟩), .pointer (some ⟨q0, 0, none⟩), .pointer (some ⟨q1, 0, none⟩), .slice (some ⟨sbb, 0, none⟩) sg0.length sc0, .slice sb1 sg1.length sc1, .slice (some ⟨tbb, 0, none⟩) tg0.length tc0, .slice tb1 tg1.length tc1, .slice zb ss.length zc] 79, blk b5 (opC kd wh at_ a base xs.length c sl tw lg) 72, ownS 5 1 (.slice ub m.length uc) m.length (ints .u8 m), ownS 5 1 (.slice (some ⟨fb, 0, none⟩) (m.length + 3) fc) (m.length + 3) (ints .u8 (m ++ [201, 202, 203])), blk b10 (ints .u8 (List.replicate 16 0)) 33, REG p0 (sg0) (rc0), REF q0 (tg0) (rc0), ownS 27 1 (.slice (some ⟨sbb, 0, none⟩) sg0.length sc0) (sg0).length (ptrs (sg0)), ownS 114 1 (.slice (some ⟨tbb, 0, none⟩) tg0.length tc0) (tg0).length (ptrs (tg0)), ownS 33 16 (.slice zb ss.length zc) (ss).length (flat .u8 (ss)), REG p1 (sg1) (rc1), REF q1 (tg1) (rc1), ownS 27 1 (.slice sb1 sg1.length sc1) (sg1).length (ptrs (sg1)), ownS 114 1 (.slice tb1 tg1.length tc1) (tg1).length (ptrs (tg1))]) (Weak.p1 (Weak.p1 (Weak.p1 (Weak.p1 (Weak.p1 (Weak.p1 (Weak.refl _))))))) ?_
    refine L_val rfl rfl rfl (OpP.v (P_move rfl rfl)) ?_
    refine L_val rfl rfl rfl (OpP.v (P_extract rfl rfl rfl)) ?_
    refine L_val rfl rfl rfl (OpP.v (P_extract rfl rfl rfl)) ?_
    refine L_op rfl (W_alloc rfl rfl rfl ty_ze_33 fun b12 => ?_)
    refine L_op rfl (W_storeAll rfl rfl rfl rfl ty_ag_33 (by rw [ints_length]; exact List.length_replicate) (ints_one) .h0 (by rw [ints_length]; exact (List.length_replicate).trans rfl) ?_)
    refine L_val rfl rfl rfl (OpP.v (P_assign rfl rfl)) ?_
    refine L_nil ?_
    refine St.env (.cons (t := 0) rfl (.cons (t := 6) rfl (.cons (t := 8) rfl (.cons (t := 9) rfl (.cons (t := 10) rfl (.cons (t := 11) rfl (.cons (t := 12) rfl (.cons (t := 13) rfl .nil)))))))) ?_
    refine Q_then ?_
    refine R_seq ?_
    refine St.res (rs' := [blk w [.pointer (some ⟨p0, 0, none⟩), .pointer (some ⟨p1, 0, none⟩), .pointer (some ⟨q0, 0, none⟩), .pointer (some ⟨q1, 0, none⟩), .slice (some ⟨sbb, 0, none⟩) sg0.length sc0, .slice sb1 sg1.length sc1, .slice (some ⟨tbb, 0, none⟩) tg0.length tc0, .slice tb1 tg1.length tc1, .slice zb ss.length zc] 79, blk b5 (opC kd wh at_ a base xs.length c sl tw lg) 72, ownS 5 1 (.slice ub m.length uc) m.length (ints .u8 m), ownS 5 1 (.slice (some ⟨fb, 0, none⟩) (m.length + 3) fc) (m.length + 3) (ints .u8 (m ++ [201, 202, 203])), blk b10 (ints .u8 (List.replicate 16 0)) 33, blk b12 (ints .u8 (List.replicate 16 0)) 33, REG p0 (sg0) (rc0), REF q0 (tg0) (rc0), ownS 27 1 (.slice (some ⟨sbb, 0, none⟩) sg0.length sc0) (sg0).length (ptrs (sg0)), ownS 114 1 (.slice (some ⟨tbb, 0, none⟩) tg0.length tc0) (tg0).length (ptrs (tg0)), ownS 33 16 (.slice zb ss.length zc) (ss).length (flat .u8 (ss)), REG p1 (sg1) (rc1), REF q1 (tg1) (rc1), ownS 27 1 (.slice sb1 sg1.length sc1) (sg1).length (ptrs (sg1)), ownS 114 1 (.slice tb1 tg1.length tc1) (tg1).length (ptrs (tg1))]) (Weak.p1 (Weak.p1 (Weak.p1 (Weak.p1 (Weak.p1 (Weak.refl _)))))) ?_
    refine R_region ?_
    refine L_val rfl rfl rfl (OpP.v (P_move rfl rfl)) ?_
    refine L_val rfl rfl rfl (OpP.v (P_move rfl rfl)) ?_
    refine L_op rfl (W_callV rfl rfl rfl rfl fn_ca_66 (left_ok fb fc ub uc m hfc hml hmb) (fun w nw => ⟨(Sn.own .h3 rfl).rowAt0 (fun _ _ h => h) w nw, (Sn.own .h2 rfl).rw_ w nw⟩) ?_)
    refine E_true (t := 70) rfl (rfl) ?_
    refine L_val rfl rfl rfl (OpP.v (P_assign rfl rfl)) ?_
    refine L_nil ?_
    refine St.env (.cons (t := 0) rfl (.cons (t := 6) rfl (.cons (t := 9) rfl (.cons (t := 10) rfl (.cons (t := 11) rfl (.cons (t := 12) rfl (.cons (t := 13) rfl (.cons (t := 14) rfl .nil)))))))) ?_
    refine Q_then ?_
    refine R_seq ?_
    refine R_region ?_
    refine L_val rfl rfl rfl (OpP.v (P_move rfl rfl)) ?_
    refine L_op rfl (W_callR rfl rfl rfl rfl fn_ca_67 (by have h := spoil_ok (gl := gl) fb fc (m ++ [201, 202, 203]) (by rw [List.length_append]; show m.length + 3 ≤ _; omega); rw [List.length_append] at h; exact h) (Split.one (p := [_, _, _])) (fun _ _ _ _ _ _ _ => trivial) ?_)
    refine St.res (rs' := [blk w [.pointer (some ⟨p0, 0, none⟩), .pointer (some ⟨p1, 0, none⟩), .pointer (some ⟨q0, 0, none⟩), .pointer (some ⟨q1, 0, none⟩), .slice (some ⟨sbb, 0, none⟩) sg0.length sc0, .slice sb1 sg1.length sc1, .slice (some ⟨tbb, 0, none⟩) tg0.length tc0, .slice tb1 tg1.length tc1, .slice zb ss.length zc] 79, blk b5 (opC kd wh at_ a base xs.length c sl tw lg) 72, ownS 5 1 (.slice ub m.length uc) m.length (ints .u8 m), blk b10 (ints .u8 (List.replicate 16 0)) 33, blk b12 (ints .u8 (List.replicate 16 0)) 33, REG p0 (sg0) (rc0), REF q0 (tg0) (rc0), ownS 27 1 (.slice (some ⟨sbb, 0, none⟩) sg0.length sc0) (sg0).length (ptrs (sg0)), ownS 114 1 (.slice (some ⟨tbb, 0, none⟩) tg0.length tc0) (tg0).length (ptrs (tg0)), ownS 33 16 (.slice zb ss.length zc) (ss).length (flat .u8 (ss)), REG p1 (sg1) (rc1), REF q1 (tg1) (rc1), ownS 27 1 (.slice sb1 sg1.length sc1) (sg1).length (ptrs (sg1)), ownS 114 1 (.slice tb1 tg1.length tc1) (tg1).length (ptrs (tg1))]) (Weak.drop (Weak.refl _)) ?_
    refine L_nil ?_
    refine St.env (.cons (t := 0) rfl (.cons (t := 6) rfl (.cons (t := 10) rfl (.cons (t := 11) rfl (.cons (t := 12) rfl (.cons (t := 13) rfl (.cons (t := 14) rfl .nil))))))) ?_
    refine Q_then ?_
    refine R_seq ?_
    refine R_seq ?_
    refine R_region ?_
    refine L_val rfl rfl rfl (OpP.v (P_move rfl rfl)) ?_
    refine L_op rfl (W_callV rfl rfl rfl rfl fn_ca_17 (num_ok 4) (fun _ _ => trivial) ?_)
    refine L_val rfl rfl rfl (OpP.v (P_eql rfl rfl rfl)) ?_
    refine E_false (t := 75) rfl (rfl) ?_
    refine L_nil ?_
    refine St.env (.cons (t := 0) rfl (.cons (t := 6) rfl (.cons (t := 10) rfl (.cons (t := 11) rfl (.cons (t := 12) rfl (.cons (t := 13) rfl (.cons (t := 14) rfl (.cons (t := 75) rfl .nil)))))))) ?_
    refine Q_then ?_
    refine R_condF rfl ?_
    refine R_skip ?_
    refine Q_then ?_
    refine R_seq ?_
    refine R_region ?_
    refine L_val rfl rfl rfl (OpP.v (P_move rfl rfl)) ?_
    refine L_val rfl rfl rfl (OpP.v (P_move rfl rfl)) ?_
    refine L_val rfl rfl rfl (V_loadAgg rfl rfl ty_ag_33 (Rds.blk .h3) (by rw [ints_length]; exact List.length_replicate)) ?_
    refine L_val rfl rfl rfl (V_loadAgg rfl rfl ty_ag_33 (Rds.blk .h4) (by rw [ints_length]; exact List.length_replicate)) ?_
    refine L_val rfl rfl rfl (OpP.v (P_eqArr rfl rfl rfl ty_un_33 ty_int_5 ty_sc_5 ty_eg_33 (List.length_replicate) (List.length_replicate))) ?_
    refine E_true (t := 90) rfl (decide_eq_true rfl) ?_
    refine L_val rfl rfl rfl (OpP.v (P_pick rfl rfl rfl)) ?_
    refine L_val rfl rfl rfl (OpP.v (P_move rfl rfl)) ?_
    refine L_val rfl rfl rfl (OpP.v (P_move rfl rfl)) ?_
    refine L_op rfl (W_callV rfl rfl rfl rfl fn_ca_17 (num_ok 4) (fun _ _ => trivial) ?_)
    refine L_val rfl rfl rfl (OpP.v (P_move rfl rfl)) ?_
    refine L_op rfl (W_callV rfl rfl rfl rfl fn_ca_17 (num_ok 4) (fun _ _ => trivial) ?_)
    refine L_val rfl rfl rfl (OpP.v (P_eql rfl rfl rfl)) ?_
    refine E_true (t := 97) rfl (rfl) ?_
    refine L_val rfl rfl rfl (OpP.v (P_pick rfl rfl rfl)) ?_
    refine L_val rfl rfl rfl (OpP.v (P_assign rfl rfl)) ?_
    refine L_nil ?_
    refine St.env (.cons (t := 6) rfl .nil) ?_
    refine Q_then ?_
    refine R_ret ?_
    exact R_end (rs2 := [TWO w (n + 1)]) rfl rfl (.tmp rfl .nil) (⟨rfl, rfl⟩) ((Weak.keep (Weak.drop (Weak.drop (Weak.drop (Weak.drop (Weak.refl _)))))).trans ((Weak.keep (Weak.keep (Weak.keep (Weak.keep (Weak.keep (Weak.pick (p := [_]) (Weak.pick (p := [_]) (Weak.pick (p := [_]) (Weak.pick (p := [_]) (Weak.keep (Weak.nil _))))))))))).trans (two_close (n := n + 1) (rs := []) ⟨⟨p0, q0, sg0, tg0, rc0, .slice (some ⟨sbb, 0, none⟩) sg0.length sc0, .slice (some ⟨tbb, 0, none⟩) tg0.length tc0⟩, ⟨p1, q1, sg1, tg1, rc1, .slice sb1 sg1.length sc1, .slice tb1 tg1.length tc1⟩, .slice zb ss.length zc, ss⟩ ⟨⟨hen0, Nat.le_succ_of_le hs0, Nat.le_succ_of_le hr0⟩, ⟨hen1, Nat.le_succ_of_le hs1, Nat.le_succ_of_le hr1⟩, Nat.le_succ_of_le hzl, hz16⟩)))
theorem signs_fine0 {gl : Nat → Obj} (hG : GlobsR gl) (w n : Nat) (p0 q0 p1 q1 : Nat) (sg0 tg0 sg1 tg1 : List (Int × Nat)) (rc0 rc1 : List Rcd) (vs0 vt0 vs1 vt1 z : Value) (ss : List (List Int)) (hen0 : enOf sg0 = enOf tg0) (hen1 : enOf sg1 = enOf tg1) (hs0 : sg0.length ≤ n) (hs1 : sg1.length ≤ n) (hr0 : rc0.length ≤ n) (hr1 : rc1.length ≤ n) (hzl : ss.length ≤ n) (hz16 : ∀ s ∈ ss, s.length = 16) (hn : n ≤ 1599289640354) (kd wh at_ a : Int) (base : Option Addr) (c : Nat) (xs sl : List Int) (tw : Int) (lg : Bool) (hsl : sl.length = 16) (hxm : xs.length ≤ 140737488351232) (hxb : IsB xs) (h0 : 0 < sg0.length) (hsm0 : (opMsg xs lg).length ≤ 1048576) : SpecR (cx gl) 49 [.pointer (some ⟨w, 0, none⟩), .int .i64 0, .agg (opC kd wh at_ a base xs.length c sl tw lg).toArray] (fun w h => Seen w h base (ints .u8 xs)) [blk w [.pointer (some ⟨p0, 0, none⟩), .pointer (some ⟨p1, 0, none⟩), .pointer (some ⟨q0, 0, none⟩), .pointer (some ⟨q1, 0, none⟩), vs0, vs1, vt0, vt1, z] 79, REG p0 (sg0) (rc0), REF q0 (tg0) (rc0), ownS 27 1 (vs0) (sg0).length (ptrs (sg0)), ownS 114 1 (vt0) (tg0).length (ptrs (tg0)), REG p1 (sg1) (rc1), REF q1 (tg1) (rc1), ownS 27 1 (vs1) (sg1).length (ptrs (sg1)), ownS 114 1 (vt1) (tg1).length (ptrs (tg1)), ownS 33 16 (z) (ss).length (flat .u8 (ss))] (.bool true) [TWO w (n + 1)] := by
  refine Spec.enter (C := cx gl) Tryd.func49 rfl 99 rfl rfl fun w0 h0 hsep hsub hpre => ?_
  show St (cx gl) _ [(0, .pointer (some ⟨w, 0, none⟩)), (1, .int .i64 0), (2, .agg (opC kd wh at_ a base xs.length c sl tw lg).toArray)] _ _
  have htl0 : tg0.length = sg0.length := (enOf_len hen0).symm
  have htl1 : tg1.length = sg1.length := (enOf_len hen1).symm
  refine St.ownForm (p := [_, _, _]) fun sb0 sc0 hsb0_ hsc0 => ?_
  subst hsb0_
  refine St.ownForm (p := [_, _, _, _]) fun tb0 tc0 htb0_ htc0 => ?_
  subst htb0_
  refine St.ownForm (p := [_, _, _, _, _, _, _]) fun sb1 sc1 hsb1_ hsc1 => ?_
  subst hsb1_
  refine St.ownForm (p := [_, _, _, _, _, _, _, _]) fun tb1 tc1 htb1_ htc1 => ?_
  subst htb1_
  refine St.ownForm (p := [_, _, _, _, _, _, _, _, _]) fun zb zc hzb_ hzc => ?_
  subst hzb_
  refine St.res (rs' := [blk w [.pointer (some ⟨p0, 0, none⟩), .pointer (some ⟨p1, 0, none⟩), .pointer (some ⟨q0, 0, none⟩), .pointer (some ⟨q1, 0, none⟩), .slice sb0 sg0.length sc0, .slice sb1 sg1.length sc1, .slice tb0 tg0.length tc0, .slice tb1 tg1.length tc1, .slice zb ss.length zc] 79, REG p0 (sg0) (rc0), REF q0 (tg0) (rc0), ownS 27 1 (.slice sb0 sg0.length sc0) (sg0).length (ptrs (sg0)), ownS 114 1 (.slice tb0 tg0.length tc0) (tg0).length (ptrs (tg0)), REG p1 (sg1) (rc1), REF q1 (tg1) (rc1), ownS 27 1 (.slice sb1 sg1.length sc1) (sg1).length (ptrs (sg1)), ownS 114 1 (.slice tb1 tg1.length tc1) (tg1).length (ptrs (tg1)), ownS 33 16 (.slice zb ss.length zc) (ss).length (flat .u8 (ss))]) (Weak.refl _) ?_
  refine St.ownSome (p := [_, _, _]) (by omega) fun sbb sbc hq _ => ?_
  simp only [Value.slice.injEq] at hq
  obtain ⟨rfl, _, rfl⟩ := hq
  refine St.ownSome (p := [_, _, _, _]) (by omega) fun tbb tbc hq _ => ?_
  simp only [Value.slice.injEq] at hq
  obtain ⟨rfl, _, rfl⟩ := hq
  refine St.res (rs' := [blk w [.pointer (some ⟨p0, 0, none⟩), .pointer (some ⟨p1, 0, none⟩), .pointer (some ⟨q0, 0, none⟩), .pointer (some ⟨q1, 0, none⟩), .slice (some ⟨sbb, 0, none⟩) sg0.length sc0, .slice sb1 sg1.length sc1, .slice (some ⟨tbb, 0, none⟩) tg0.length tc0, .slice tb1 tg1.length tc1, .slice zb ss.length zc] 79, REG p0 (sg0) (rc0), REF q0 (tg0) (rc0), ownS 27 1 (.slice (some ⟨sbb, 0, none⟩) sg0.length sc0) (sg0).length (ptrs (sg0)), ownS 114 1 (.slice (some ⟨tbb, 0, none⟩) tg0.length tc0) (tg0).length (ptrs (tg0)), REG p1 (sg1) (rc1), REF q1 (tg1) (rc1), ownS 27 1 (.slice sb1 sg1.length sc1) (sg1).length (ptrs (sg1)), ownS 114 1 (.slice tb1 tg1.length tc1) (tg1).length (ptrs (tg1)), ownS 33 16 (.slice zb ss.length zc) (ss).length (flat .u8 (ss))]) (Weak.refl _) ?_
  obtain ⟨ii, hii⟩ : ∃ ii : Nat, aroundI at_ (sg0.length : Int) = ii := ⟨(aroundI at_ sg0.length).toNat, by have := aroundI_bound (x := at_) (n := (sg0.length : Int)) (by omega); omega⟩
  have hil : ii < sg0.length := by have := aroundI_bound (x := at_) (n := (sg0.length : Int)) (by omega); omega
  obtain ⟨⟨a1, s⟩, hs⟩ : ∃ y, sg0[ii]? = some y := ⟨_, List.getElem?_eq_getElem hil⟩
  obtain ⟨t, ht⟩ := enOf_at hen0 hs
  obtain ⟨m, hm⟩ : ∃ m, m = opMsg xs lg := ⟨_, rfl⟩
  have hmb : IsB m := by rw [hm]; exact isB_opMsg hxb lg
  have hml : m.length ≤ 140737488351232 := by rw [hm]; exact opMsg_le hxm lg
  have hsm : m.length ≤ 1048576 := by rw [hm]; exact hsm0
  refine R_seq ?_
  refine R_region ?_
  refine L_op rfl (W_box (opC kd wh at_ a base xs.length c sl tw lg) rfl rfl rfl rfl rfl fun b5 => ?_)
  refine L_val rfl rfl rfl (OpP.v (P_assign rfl rfl)) ?_
  refine L_nil ?_
  refine St.env (.cons (t := 0) rfl (.cons (t := 1) rfl (.cons (t := 5) rfl (.cons (t := 6) rfl .nil)))) ?_
  refine Q_then ?_
  refine R_seq ?_
  refine R_seq ?_
  refine St.res (rs' := [blk w [.pointer (some ⟨p0, 0, none⟩), .pointer (some ⟨p1, 0, none⟩), .pointer (some ⟨q0, 0, none⟩), .pointer (some ⟨q1, 0, none⟩), .slice (some ⟨sbb, 0, none⟩) sg0.length sc0, .slice sb1 sg1.length sc1, .slice (some ⟨tbb, 0, none⟩) tg0.length tc0, .slice tb1 tg1.length tc1, .slice zb ss.length zc] 79, blk b5 (opC kd wh at_ a base xs.length c sl tw lg) 72, REG p0 (sg0) (rc0), REF q0 (tg0) (rc0), ownS 27 1 (.slice (some ⟨sbb, 0, none⟩) sg0.length sc0) (sg0).length (ptrs (sg0)), ownS 114 1 (.slice (some ⟨tbb, 0, none⟩) tg0.length tc0) (tg0).length (ptrs (tg0)), ownS 33 16 (.slice zb ss.length zc) (ss).length (flat .u8 (ss)), REG p1 (sg1) (rc1), REF q1 (tg1) (rc1), ownS 27 1 (.slice sb1 sg1.length sc1) (sg1).length (ptrs (sg1)), ownS 114 1 (.slice tb1 tg1.length tc1) (tg1).length (ptrs (tg1))]) ((Weak.swap.trans (Weak.refl _)).trans (Weak.keep (Weak.keep (Weak.keep (Weak.keep (Weak.keep (Weak.keep (Weak.pick (p := [_, _, _, _]) (Weak.keep (Weak.keep (Weak.keep (Weak.keep (Weak.nil _))))))))))))) ?_
  refine R_region ?_
  refine L_val rfl rfl rfl (OpP.v (P_move rfl rfl)) ?_
  refine L_val rfl rfl rfl (OpP.v (P_move rfl rfl)) ?_
  refine L_val rfl rfl rfl (OpP.v (P_nil rfl rfl)) ?_
  refine L_val rfl rfl rfl (OpP.v (P_fld0 rfl ty_fl_79_2 rfl)) ?_
  first | (refine L_val rfl rfl rfl (OpP.v (P_ixa0 (0) rfl ty_ar_55 rfl rfl (by first | rfl | omega) (by omega))) ?_) | (refine L_val rfl rfl rfl (OpP.v (P_ixa (0) rfl ty_ar_55 rfl rfl (by first | rfl | omega) (by omega))) ?_)
  refine L_val rfl rfl rfl (V_load rfl rfl ty_sc_54 (Rd.blk .h0 rfl)) ?_
  refine L_val rfl rfl rfl (OpP.v (P_len rfl ty_sl_54 rfl)) ?_
  refine L_val rfl rfl rfl (OpP.v (P_eql rfl rfl rfl)) ?_
  refine E_false (t := 22) rfl (decide_eq_false (by omega)) ?_
  refine L_nil ?_
  refine St.env (.cons (t := 0) rfl (.cons (t := 1) rfl (.cons (t := 5) rfl (.cons (t := 6) rfl (.cons (t := 22) rfl .nil))))) ?_
  refine Q_then ?_
  refine R_condF rfl ?_
  refine R_skip ?_
  refine Q_then ?_
  refine R_seq ?_
  refine R_open [(0, 0), (1, 1), (2, 0), (3, 0), (4, 0), (5, 0), (6, 0), (7, 1), (8, 0), (9, 2), (10, 0)] mixed (by kernel_rfl) (QOk.then QOk.body) ?_
  refine O_pure rfl rfl rfl rfl (P_fld0 rfl ty_fl_72_2 rfl) ?_
  refine O_val rfl rfl rfl rfl (V_load rfl rfl ty_sc_3 (Rd.blk .h1 rfl)) ?_
  refine O_pure rfl rfl rfl rfl (P_move rfl rfl) ?_
  refine O_pure rfl rfl rfl rfl (P_move rfl rfl) ?_
  refine O_pure rfl rfl rfl rfl (P_nil rfl rfl) ?_
  refine O_pure rfl rfl rfl rfl (P_fld0 rfl ty_fl_79_2 rfl) ?_
  first | (refine O_pure rfl rfl rfl rfl (P_ixa0 (0) rfl ty_ar_55 rfl rfl (by first | rfl | omega) (by omega)) ?_) | (refine O_pure rfl rfl rfl rfl (P_ixa (0) rfl ty_ar_55 rfl rfl (by first | rfl | omega) (by omega)) ?_)
  refine O_val rfl rfl rfl rfl (V_load rfl rfl ty_sc_54 (Rd.blk .h0 rfl)) ?_
  refine O_pure rfl rfl rfl rfl (P_len rfl ty_sl_54 rfl) ?_
  refine O_keep rfl rfl (W_callV rfl rfl rfl rfl fn_ca_26 (around_ok at_ (sg0.length : Int) (by omega) (by omega)) (fun _ _ => trivial) (K_keep (Weak.refl _) ?_))
  refine E_as (t := 32) (v' := .int .i64 (ii : Int)) rfl (by rw [hii]) ?_
  refine O_pure rfl rfl rfl rfl (P_assign rfl rfl) ?_
  refine O_nil ?_
  refine St.env (.cons (t := 0) rfl (.cons (t := 1) rfl (.cons (t := 5) rfl (.cons (t := 6) rfl (.cons (t := 7) rfl .nil))))) ?_
  refine Q_then ?_
  refine R_seq ?_
  refine R_region ?_
  refine L_val rfl rfl rfl (V_loadAgg rfl rfl ty_ag_72 (Rds.blk .h1) (opC_length hsl)) ?_
  refine L_op rfl (W_call rfl rfl rfl rfl fn_ca_63 (message_ok kd wh at_ a base c xs sl tw lg hsl hxm) (Split.nil _) (fun w a b _ hb dj m_ => (Sn.old hpre).rw_ w ⟨_, hb, m_.le (Heap.le_join_right dj)⟩) fun v34 rs1 (e1 : rs1 = _) => ?_)
  subst e1
  rw [← hm]
  refine St.ownForm (p := []) fun ub uc hub_ huc => ?_
  subst hub_
  refine St.res (rs' := [blk w [.pointer (some ⟨p0, 0, none⟩), .pointer (some ⟨p1, 0, none⟩), .pointer (some ⟨q0, 0, none⟩), .pointer (some ⟨q1, 0, none⟩), .slice (some ⟨sbb, 0, none⟩) sg0.length sc0, .slice sb1 sg1.length sc1, .slice (some ⟨tbb, 0, none⟩) tg0.length tc0, .slice tb1 tg1.length tc1, .slice zb ss.length zc] 79, blk b5 (opC kd wh at_ a base xs.length c sl tw lg) 72, ownS 5 1 (.slice ub m.length uc) m.length (ints .u8 m), REG p0 (sg0) (rc0), REF q0 (tg0) (rc0), ownS 27 1 (.slice (some ⟨sbb, 0, none⟩) sg0.length sc0) (sg0).length (ptrs (sg0)), ownS 114 1 (.slice (some ⟨tbb, 0, none⟩) tg0.length tc0) (tg0).length (ptrs (tg0)), ownS 33 16 (.slice zb ss.length zc) (ss).length (flat .u8 (ss)), REG p1 (sg1) (rc1), REF q1 (tg1) (rc1), ownS 27 1 (.slice sb1 sg1.length sc1) (sg1).length (ptrs (sg1)), ownS 114 1 (.slice tb1 tg1.length tc1) (tg1).length (ptrs (tg1))]) (Weak.p1 (Weak.p1 (Weak.refl _))) ?_
  refine L_val rfl rfl rfl (OpP.v (P_assign rfl rfl)) ?_
  refine L_nil ?_
  refine St.env (.cons (t := 0) rfl (.cons (t := 1) rfl (.cons (t := 6) rfl (.cons (t := 7) rfl (.cons (t := 8) rfl .nil))))) ?_
  refine Q_then ?_
  refine R_seq ?_
  refine R_region ?_
  refine L_val rfl rfl rfl (OpP.v (P_move rfl rfl)) ?_
  refine L_op rfl (W_call rfl rfl rfl rfl fn_ca_64 (room_ok ub uc m hml) (Split.nil _) (fun w a b _ hb dj m_ => (Sn.own .h2 rfl).rw_ w ⟨_, hb, m_.le (Heap.le_join_right dj)⟩) fun v36 rs2 (e2 : rs2 = _) => ?_)
  subst e2
  refine St.ownSome (p := []) (by omega) fun fb fc hfv hfc => ?_
  subst hfv
  refine St.res (rs' := [blk w [.pointer (some ⟨p0, 0, none⟩), .pointer (some ⟨p1, 0, none⟩), .pointer (some ⟨q0, 0, none⟩), .pointer (some ⟨q1, 0, none⟩), .slice (some ⟨sbb, 0, none⟩) sg0.length sc0, .slice sb1 sg1.length sc1, .slice (some ⟨tbb, 0, none⟩) tg0.length tc0, .slice tb1 tg1.length tc1, .slice zb ss.length zc] 79, blk b5 (opC kd wh at_ a base xs.length c sl tw lg) 72, ownS 5 1 (.slice ub m.length uc) m.length (ints .u8 m), ownS 5 1 (.slice (some ⟨fb, 0, none⟩) (m.length + 3) fc) (m.length + 3) (ints .u8 (m ++ [201, 202, 203])), REG p0 (sg0) (rc0), REF q0 (tg0) (rc0), ownS 27 1 (.slice (some ⟨sbb, 0, none⟩) sg0.length sc0) (sg0).length (ptrs (sg0)), ownS 114 1 (.slice (some ⟨tbb, 0, none⟩) tg0.length tc0) (tg0).length (ptrs (tg0)), ownS 33 16 (.slice zb ss.length zc) (ss).length (flat .u8 (ss)), REG p1 (sg1) (rc1), REF q1 (tg1) (rc1), ownS 27 1 (.slice sb1 sg1.length sc1) (sg1).length (ptrs (sg1)), ownS 114 1 (.slice tb1 tg1.length tc1) (tg1).length (ptrs (tg1))]) (Weak.p1 (Weak.p1 (Weak.p1 (Weak.refl _)))) ?_
  refine L_val rfl rfl rfl (OpP.v (P_assign rfl rfl)) ?_
  refine L_nil ?_
  refine St.env (.cons (t := 0) rfl (.cons (t := 1) rfl (.cons (t := 6) rfl (.cons (t := 7) rfl (.cons (t := 8) rfl (.cons (t := 9) rfl .nil)))))) ?_
  refine Q_then ?_
  refine R_seq ?_
  refine TQ_open (.op 0 0 (.op 1 0 (.op 2 0 (.op 3 0 (.op 4 0 (.op 5 1 (.op 6 0 (.op 7 0 (.op 8 1 (.op 9 0 (.op 10 0 (.op 11 0 (.op 12 0 (.two 13 17 (.op 14 0 (.op 15 0 (.op 16 0 (.op 17 2 (.op 18 3 (.op 19 0 .nil)))))) (.op 13 2 (.op 14 0 (.op 15 0 (.op 16 0 (.op 18 3 (.op 19 0 .nil)))))))))))))))))))) [blk w [.pointer (some ⟨p0, 0, none⟩), .pointer (some ⟨p1, 0, none⟩), .pointer (some ⟨q0, 0, none⟩), .pointer (some ⟨q1, 0, none⟩), .slice (some ⟨sbb, 0, none⟩) sg0.length sc0, .slice sb1 sg1.length sc1, .slice (some ⟨tbb, 0, none⟩) tg0.length tc0, .slice tb1 tg1.length tc1, .slice zb ss.length zc] 79, blk b5 (opC kd wh at_ a base xs.length c sl tw lg) 72, ownS 5 1 (.slice ub m.length uc) m.length (ints .u8 m), ownS 5 1 (.slice (some ⟨fb, 0, none⟩) (m.length + 3) fc) (m.length + 3) (ints .u8 (m ++ [201, 202, 203])), REF q0 (tg0) (rc0), ownS 27 1 (.slice (some ⟨sbb, 0, none⟩) sg0.length sc0) (sg0).length (ptrs (sg0)), ownS 114 1 (.slice (some ⟨tbb, 0, none⟩) tg0.length tc0) (tg0).length (ptrs (tg0)), ownS 33 16 (.slice zb ss.length zc) (ss).length (flat .u8 (ss)), REG p1 (sg1) (rc1), REF q1 (tg1) (rc1), ownS 27 1 (.slice sb1 sg1.length sc1) (sg1).length (ptrs (sg1)), ownS 114 1 (.slice tb1 tg1.length tc1) (tg1).length (ptrs (tg1))] (Weak.keep (Weak.keep (Weak.keep (Weak.keep (Weak.pick (p := [_]) (Weak.pick (p := [_]) (Weak.pick (p := [_]) (Weak.pick (p := [_]) (Weak.pick (p := [_]) (Weak.pick (p := [_]) (Weak.pick (p := [_]) (Weak.pick (p := [_]) (Weak.nil _))))))))))))) mixed (by kernel_rfl) (QOk.then QOk.body) ?_
  refine TQ_pure rfl rfl rfl rfl (P_move rfl rfl) ?_
  refine TQ_pure rfl rfl rfl rfl (P_move rfl rfl) ?_
  refine TQ_pure rfl rfl rfl rfl (P_nil rfl rfl) ?_
  refine TQ_pure rfl rfl rfl rfl (P_fld0 rfl ty_fl_79_2 rfl) ?_
  first | (refine TQ_pure rfl rfl rfl rfl (P_ixa0 (0) rfl ty_ar_55 rfl rfl (by first | rfl | omega) (by omega)) ?_) | (refine TQ_pure rfl rfl rfl rfl (P_ixa (0) rfl ty_ar_55 rfl rfl (by first | rfl | omega) (by omega)) ?_)
  refine TQ_val rfl rfl rfl rfl (V_load rfl rfl ty_sc_54 (Rd.blk .h0 rfl)) ?_
  refine TQ_pure rfl rfl rfl rfl (P_move rfl rfl) ?_
  refine TQ_pure rfl rfl rfl rfl (P_ixs (ii) rfl ty_sl_54 rfl rfl (by first | rfl | omega) (by omega)) ?_
  refine TQ_val rfl rfl rfl rfl (V_load rfl rfl ty_sc_27 (rd_own1 .h5 (ptrs_at hs))) ?_
  refine TQ_pure rfl rfl rfl rfl (P_move rfl rfl) ?_
  refine TQ_pure rfl rfl rfl rfl (P_move rfl rfl) ?_
  refine TQ_pure rfl rfl rfl rfl (P_len rfl ty_sl_24 rfl) ?_
  refine TQ_pure rfl rfl rfl rfl (P_slice 0 m.length rfl ty_sl_24 rfl rfl ⟨_, rfl⟩ (by omega) (by omega)) ?_
  refine E_as (t := 50) (v' := .slice (some ⟨fb, 0, none⟩) m.length fc) rfl (by unfold sliced; rw [if_neg (by omega)]; simp [add_zero_off]) ?_
  refine TQ_two ?_ ?_
  · skip
    first | (refine TQ_keep rfl rfl (W_callR rfl rfl rfl rfl fn_ca_18 (sign_any hG.toGlobs p0 sg0 rc0 ii a1 s hs (some ⟨fb, 0, none⟩) fc m hmb hsm (by omega)) (Split.one (p := [_, _, _, _])) (Sn.pre (sn_head (Sn.own .h3 rfl))) (K_keepTQ (Weak.drop (Weak.refl _)) ?_))) | (refine TQ_keep rfl rfl (W_callR rfl rfl rfl rfl fn_ca_18 (sign_any hG.toGlobs p0 sg0 rc0 ii a1 s hs (some ⟨fb, 0, none⟩) fc m hmb hsm (by omega)) (Split.one (p := [_, _, _, _, _])) (Sn.pre (sn_head (Sn.own .h4 rfl))) (K_keepTQ (Weak.drop (Weak.drop (Weak.refl _))) ?_)))
    refine TQ_pure rfl rfl rfl rfl (P_move rfl rfl) ?_
    refine TQ_pure rfl rfl rfl rfl (P_extract rfl rfl rfl) ?_
    refine TQ_pure rfl rfl rfl rfl (P_extract rfl rfl rfl) ?_
    first | (refine TQ_keep rfl rfl (W_alloc rfl rfl rfl ty_ze_33 fun b10 => (K_keepTQ (Weak.drop (Weak.drop (Weak.refl _))) ?_))) | (refine TQ_keep rfl rfl (W_alloc rfl rfl rfl ty_ze_33 fun b10 => (K_keepTQ (Weak.pick (p := [_]) (Weak.pick (p := [_]) (Weak.pick (p := [_]) (Weak.pick (p := [_]) (Weak.pick (p := [_, _]) (Weak.pick (p := [_, _]) (Weak.pick (p := [_, _]) (Weak.pick (p := [_, _]) (Weak.pick (p := [_, _]) (Weak.pick (p := [_, _]) (Weak.pick (p := [_, _]) (Weak.pick (p := [_, _]) (Weak.nil _))))))))))))) ?_)))
    first | (refine TQ_new rfl rfl (W_storeAll rfl rfl rfl rfl ty_ag_33 (by rw [ints_length]; exact sealH_length _ _) (ints_one) .h0 (by rw [ints_length]; exact (sealH_length _ _).trans rfl) (K_newTQ ?_))) | (refine TQ_new rfl rfl (W_storeAll rfl rfl rfl rfl ty_ag_33 (by rw [ints_length]; exact sealH_length _ _) (ints_one) .h1 (by rw [ints_length]; exact (sealH_length _ _).trans rfl) (K_newTQ ?_)))
    refine TQ_pure rfl rfl rfl rfl (P_assign rfl rfl) ?_
    refine TQ_nil ?_
    refine St.env (.cons (t := 0) rfl (.cons (t := 1) rfl (.cons (t := 6) rfl (.cons (t := 7) rfl (.cons (t := 8) rfl (.cons (t := 9) rfl (.cons (t := 10) rfl (.cons (t := 11) rfl .nil)))))))) ?_
    refine Q_then ?_
    refine R_seq ?_
    refine St.res (rs' := [blk w [.pointer (some ⟨p0, 0, none⟩), .pointer (some ⟨p1, 0, none⟩), .pointer (some ⟨q0, 0, none⟩), .pointer (some ⟨q1, 0, none⟩), .slice (some ⟨sbb, 0, none⟩) sg0.length sc0, .slice sb1 sg1.length sc1, .slice (some ⟨tbb, 0, none⟩) tg0.length tc0, .slice tb1 tg1.length tc1, .slice zb ss.length zc] 79, blk b5 (opC kd wh at_ a base xs.length c sl tw lg) 72, ownS 5 1 (.slice ub m.length uc) m.length (ints .u8 m), ownS 5 1 (.slice (some ⟨fb, 0, none⟩) (m.length + 3) fc) (m.length + 3) (ints .u8 (m ++ [201, 202, 203])), blk b10 (ints .u8 (sealH a1 m)) 33, REG p0 (sg0) (addR rc0 (a1, m)), REF q0 (tg0) (rc0), ownS 27 1 (.slice (some ⟨sbb, 0, none⟩) sg0.length sc0) (sg0).length (ptrs (sg0)), ownS 114 1 (.slice (some ⟨tbb, 0, none⟩) tg0.length tc0) (tg0).length (ptrs (tg0)), ownS 33 16 (.slice zb ss.length zc) (ss).length (flat .u8 (ss)), REG p1 (sg1) (rc1), REF q1 (tg1) (rc1), ownS 27 1 (.slice sb1 sg1.length sc1) (sg1).length (ptrs (sg1)), ownS 114 1 (.slice tb1 tg1.length tc1) (tg1).length (ptrs (tg1))]) (by first | exact Weak.pick (p := [_, _]) (Weak.pick (p := [_, _]) (Weak.pick (p := [_, _]) (Weak.pick (p := [_, _]) (Weak.keep (Weak.keep (Weak.keep (Weak.keep (Weak.keep (Weak.keep (Weak.keep (Weak.keep (Weak.keep (Weak.keep (Weak.nil _)))))))))))))) | exact Weak.pick (p := [_, _]) (Weak.pick (p := [_, _]) (Weak.pick (p := [_, _]) (Weak.pick (p := [_, _]) (Weak.pick (p := [_]) (Weak.keep (Weak.keep (Weak.keep (Weak.keep (Weak.keep (Weak.keep (Weak.keep (Weak.keep (Weak.keep (Weak.nil _))))))))))))))) ?_
    refine R_region ?_
    refine L_val rfl rfl rfl (OpP.v (P_move rfl rfl)) ?_
    refine L_val rfl rfl rfl (OpP.v (P_move rfl rfl)) ?_
    refine L_val rfl rfl rfl (OpP.v (P_nil rfl rfl)) ?_
    refine L_val rfl rfl rfl (OpP.v (P_fld0 rfl ty_fl_79_3 rfl)) ?_
    first | (refine L_val rfl rfl rfl (OpP.v (P_ixa0 (0) rfl ty_ar_76 rfl rfl (by first | rfl | omega) (by omega))) ?_) | (refine L_val rfl rfl rfl (OpP.v (P_ixa (0) rfl ty_ar_76 rfl rfl (by first | rfl | omega) (by omega))) ?_)
    refine L_val rfl rfl rfl (V_load rfl rfl ty_sc_75 (Rd.blk .h0 rfl)) ?_
    refine L_val rfl rfl rfl (OpP.v (P_move rfl rfl)) ?_
    refine L_val rfl rfl rfl (OpP.v (P_ixs (ii) rfl ty_sl_75 rfl rfl (by first | rfl | omega) (by omega))) ?_
    refine L_val rfl rfl rfl (V_load rfl rfl ty_sc_114 (rd_own1 .h8 (ptrs_at ht))) ?_
    refine L_val rfl rfl rfl (OpP.v (P_move rfl rfl)) ?_
    refine L_op rfl (W_callR rfl rfl rfl rfl fn_ca_65 (rsign_any hG q0 tg0 rc0 ii a1 t ht ub uc m hmb hsm (by omega)) (Split.one (p := [_, _, _, _, _, _])) (Sn.pre (Sn.own .h2 rfl)) ?_)
    refine St.res (rs' := [blk w [.pointer (some ⟨p0, 0, none⟩), .pointer (some ⟨p1, 0, none⟩), .pointer (some ⟨q0, 0, none⟩), .pointer (some ⟨q1, 0, none⟩), .slice (some ⟨sbb, 0, none⟩) sg0.length sc0, .slice sb1 sg1.length sc1, .slice (some ⟨tbb, 0, none⟩) tg0.length tc0, .slice tb1 tg1.length tc1, .slice zb ss.length zc] 79, blk b5 (opC kd wh at_ a base xs.length c sl tw lg) 72, ownS 5 1 (.slice ub m.length uc) m.length (ints .u8 m), ownS 5 1 (.slice (some ⟨fb, 0, none⟩) (m.length + 3) fc) (m.length + 3) (ints .u8 (m ++ [201, 202, 203])), blk b10 (ints .u8 (sealH a1 m)) 33, REG p0 (sg0) (addR rc0 (a1, m)), REF q0 (tg0) (addR rc0 (a1, m)), ownS 27 1 (.slice (some ⟨sbb, 0, none⟩) sg0.length sc0) (sg0).length (ptrs (sg0)), ownS 114 1 (.slice (some ⟨tbb, 0, none⟩) tg0.length tc0) (tg0).length (ptrs (tg0)), ownS 33 16 (.slice zb ss.length zc) (ss).length (flat .u8 (ss)), REG p1 (sg1) (rc1), REF q1 (tg1) (rc1), ownS 27 1 (.slice sb1 sg1.length sc1) (sg1).length (ptrs (sg1)), ownS 114 1 (.slice tb1 tg1.length tc1) (tg1).length (ptrs (tg1))]) (Weak.p1 (Weak.p1 (Weak.p1 (Weak.p1 (Weak.p1 (Weak.p1 (Weak.refl _))))))) ?_
    refine L_val rfl rfl rfl (OpP.v (P_move rfl rfl)) ?_
    refine L_val rfl rfl rfl (OpP.v (P_extract rfl rfl rfl)) ?_
    refine L_val rfl rfl rfl (OpP.v (P_extract rfl rfl rfl)) ?_
    refine L_op rfl (W_alloc rfl rfl rfl ty_ze_33 fun b12 => ?_)
    refine L_op rfl (W_storeAll rfl rfl rfl rfl ty_ag_33 (by rw [ints_length]; exact sealH_length _ _) (ints_one) .h0 (by rw [ints_length]; exact (sealH_length _ _).trans rfl) ?_)
    refine L_val rfl rfl rfl (OpP.v (P_assign rfl rfl)) ?_
    refine L_nil ?_
    refine St.env (.cons (t := 0) rfl (.cons (t := 6) rfl (.cons (t := 8) rfl (.cons (t := 9) rfl (.cons (t := 10) rfl (.cons (t := 11) rfl (.cons (t := 12) rfl (.cons (t := 13) rfl .nil)))))))) ?_
    refine Q_then ?_
    refine R_seq ?_
    refine St.res (rs' := [blk w [.pointer (some ⟨p0, 0, none⟩), .pointer (some ⟨p1, 0, none⟩), .pointer (some ⟨q0, 0, none⟩), .pointer (some ⟨q1, 0, none⟩), .slice (some ⟨sbb, 0, none⟩) sg0.length sc0, .slice sb1 sg1.length sc1, .slice (some ⟨tbb, 0, none⟩) tg0.length tc0, .slice tb1 tg1.length tc1, .slice zb ss.length zc] 79, blk b5 (opC kd wh at_ a base xs.length c sl tw lg) 72, ownS 5 1 (.slice ub m.length uc) m.length (ints .u8 m), ownS 5 1 (.slice (some ⟨fb, 0, none⟩) (m.length + 3) fc) (m.length + 3) (ints .u8 (m ++ [201, 202, 203])), blk b10 (ints .u8 (sealH a1 m)) 33, blk b12 (ints .u8 (sealH a1 m)) 33, REG p0 (sg0) (addR rc0 (a1, m)), REF q0 (tg0) (addR rc0 (a1, m)), ownS 27 1 (.slice (some ⟨sbb, 0, none⟩) sg0.length sc0) (sg0).length (ptrs (sg0)), ownS 114 1 (.slice (some ⟨tbb, 0, none⟩) tg0.length tc0) (tg0).length (ptrs (tg0)), ownS 33 16 (.slice zb ss.length zc) (ss).length (flat .u8 (ss)), REG p1 (sg1) (rc1), REF q1 (tg1) (rc1), ownS 27 1 (.slice sb1 sg1.length sc1) (sg1).length (ptrs (sg1)), ownS 114 1 (.slice tb1 tg1.length tc1) (tg1).length (ptrs (tg1))]) (Weak.p1 (Weak.p1 (Weak.p1 (Weak.p1 (Weak.p1 (Weak.refl _)))))) ?_
    refine R_region ?_
    refine L_val rfl rfl rfl (OpP.v (P_move rfl rfl)) ?_
    refine L_val rfl rfl rfl (OpP.v (P_move rfl rfl)) ?_
    refine L_op rfl (W_callV rfl rfl rfl rfl fn_ca_66 (left_ok fb fc ub uc m hfc hml hmb) (fun w nw => ⟨(Sn.own .h3 rfl).rowAt0 (fun _ _ h => h) w nw, (Sn.own .h2 rfl).rw_ w nw⟩) ?_)
    refine E_true (t := 70) rfl (rfl) ?_
    refine L_val rfl rfl rfl (OpP.v (P_assign rfl rfl)) ?_
    refine L_nil ?_
    refine St.env (.cons (t := 0) rfl (.cons (t := 6) rfl (.cons (t := 9) rfl (.cons (t := 10) rfl (.cons (t := 11) rfl (.cons (t := 12) rfl (.cons (t := 13) rfl (.cons (t := 14) rfl .nil)))))))) ?_
    refine Q_then ?_
    refine R_seq ?_
    refine R_region ?_
    refine L_val rfl rfl rfl (OpP.v (P_move rfl rfl)) ?_
    refine L_op rfl (W_callR rfl rfl rfl rfl fn_ca_67 (by have h := spoil_ok (gl := gl) fb fc (m ++ [201, 202, 203]) (by rw [List.length_append]; show m.length + 3 ≤ _; omega); rw [List.length_append] at h; exact h) (Split.one (p := [_, _, _])) (fun _ _ _ _ _ _ _ => trivial) ?_)
    refine St.res (rs' := [blk w [.pointer (some ⟨p0, 0, none⟩), .pointer (some ⟨p1, 0, none⟩), .pointer (some ⟨q0, 0, none⟩), .pointer (some ⟨q1, 0, none⟩), .slice (some ⟨sbb, 0, none⟩) sg0.length sc0, .slice sb1 sg1.length sc1, .slice (some ⟨tbb, 0, none⟩) tg0.length tc0, .slice tb1 tg1.length tc1, .slice zb ss.length zc] 79, blk b5 (opC kd wh at_ a base xs.length c sl tw lg) 72, ownS 5 1 (.slice ub m.length uc) m.length (ints .u8 m), blk b10 (ints .u8 (sealH a1 m)) 33, blk b12 (ints .u8 (sealH a1 m)) 33, REG p0 (sg0) (addR rc0 (a1, m)), REF q0 (tg0) (addR rc0 (a1, m)), ownS 27 1 (.slice (some ⟨sbb, 0, none⟩) sg0.length sc0) (sg0).length (ptrs (sg0)), ownS 114 1 (.slice (some ⟨tbb, 0, none⟩) tg0.length tc0) (tg0).length (ptrs (tg0)), ownS 33 16 (.slice zb ss.length zc) (ss).length (flat .u8 (ss)), REG p1 (sg1) (rc1), REF q1 (tg1) (rc1), ownS 27 1 (.slice sb1 sg1.length sc1) (sg1).length (ptrs (sg1)), ownS 114 1 (.slice tb1 tg1.length tc1) (tg1).length (ptrs (tg1))]) (Weak.drop (Weak.refl _)) ?_
    refine L_nil ?_
    refine St.env (.cons (t := 0) rfl (.cons (t := 6) rfl (.cons (t := 10) rfl (.cons (t := 11) rfl (.cons (t := 12) rfl (.cons (t := 13) rfl (.cons (t := 14) rfl .nil))))))) ?_
    refine Q_then ?_
    refine R_seq ?_
    refine R_seq ?_
    refine R_region ?_
    refine L_val rfl rfl rfl (OpP.v (P_move rfl rfl)) ?_
    refine L_op rfl (W_callV rfl rfl rfl rfl fn_ca_17 (num_ok 0) (fun _ _ => trivial) ?_)
    refine L_val rfl rfl rfl (OpP.v (P_eql rfl rfl rfl)) ?_
    refine E_true (t := 75) rfl (rfl) ?_
    refine L_nil ?_
    refine St.env (.cons (t := 0) rfl (.cons (t := 6) rfl (.cons (t := 10) rfl (.cons (t := 11) rfl (.cons (t := 12) rfl (.cons (t := 13) rfl (.cons (t := 14) rfl (.cons (t := 75) rfl .nil)))))))) ?_
    refine Q_then ?_
    refine R_condT rfl ?_
    refine R_open [(0, 0), (1, 0), (2, 0), (3, 0), (4, 1), (5, 1), (6, 2), (7, 3), (8, 0), (9, 0), (10, 3)] mixed (by kernel_rfl) (QOk.then QOk.body) ?_
    refine O_pure rfl rfl rfl rfl (P_move rfl rfl) ?_
    refine O_pure rfl rfl rfl rfl (P_move rfl rfl) ?_
    refine O_pure rfl rfl rfl rfl (P_nil rfl rfl) ?_
    refine O_pure rfl rfl rfl rfl (P_fld0 rfl ty_fl_79_4 rfl) ?_
    refine O_val rfl rfl rfl rfl (V_load rfl rfl ty_sc_77 (Rd.blk .h0 rfl)) ?_
    refine O_val rfl rfl rfl rfl (V_loadAgg rfl rfl ty_ag_33 (Rds.blk .h4) (by rw [ints_length]; exact sealH_length _ _)) ?_
    refine O_keep rfl rfl (W_lit (z := .nilIface) (ints .u8 (sealH a1 m)) rfl rfl rfl ty_sl_77 ty_lz_77 rfl rfl rfl (by decide) (by decide) (by simp [Value.cells, ints_length, sealH_length]) (by simp [Value.cells]) fun b82 => (K_keep (Weak.drop (Weak.refl _)) ?_))
    refine O_new rfl rfl (W_append (p := [_, _, _, _, _, _, _, _, _, _]) rfl rfl rfl ty_sl_77 ty_ap_77 ty_src_77 rfl rfl rfl (Src.slice (sz := 16) (news := ints .u8 (sealH a1 m)) (Rds.blk .h0) (by rw [ints_length, sealH_length]) ints_one) (by omega) (by simp only [maxLen]; omega) fun v83 => (K_new ?_))
    refine St.ownForm (p := [_, _, _, _, _, _, _, _, _, _]) fun nb nc hnb_ hnc => ?_
    subst hnb_
    refine O_pure rfl rfl rfl rfl (P_nil rfl rfl) ?_
    refine O_pure rfl rfl rfl rfl (P_fld0 rfl ty_fl_79_4 rfl) ?_
    refine O_new rfl rfl (W_store rfl rfl rfl rfl ty_sc_77 rfl .h1 (by first | decide | (simp [ints]; done) | (simp [ints]; omega)) (K_new ?_))
    refine O_nil ?_
    refine St.env (.cons (t := 6) rfl (.cons (t := 10) rfl (.cons (t := 11) rfl (.cons (t := 12) rfl (.cons (t := 13) rfl (.cons (t := 14) rfl .nil)))))) ?_
    refine Q_then ?_
    refine R_seq ?_
    refine St.res (rs' := [blk w [.pointer (some ⟨p0, 0, none⟩), .pointer (some ⟨p1, 0, none⟩), .pointer (some ⟨q0, 0, none⟩), .pointer (some ⟨q1, 0, none⟩), .slice (some ⟨sbb, 0, none⟩) sg0.length sc0, .slice sb1 sg1.length sc1, .slice (some ⟨tbb, 0, none⟩) tg0.length tc0, .slice tb1 tg1.length tc1, .slice nb (ss.length + 1) nc] 79, blk b5 (opC kd wh at_ a base xs.length c sl tw lg) 72, ownS 5 1 (.slice ub m.length uc) m.length (ints .u8 m), blk b10 (ints .u8 (sealH a1 m)) 33, blk b12 (ints .u8 (sealH a1 m)) 33, REG p0 (sg0) (addR rc0 (a1, m)), REF q0 (tg0) (addR rc0 (a1, m)), ownS 27 1 (.slice (some ⟨sbb, 0, none⟩) sg0.length sc0) (sg0).length (ptrs (sg0)), ownS 114 1 (.slice (some ⟨tbb, 0, none⟩) tg0.length tc0) (tg0).length (ptrs (tg0)), ownS 33 16 (.slice nb (ss.length + 1) nc) (ss ++ [sealH a1 m]).length (flat .u8 (ss ++ [sealH a1 m])), REG p1 (sg1) (rc1), REF q1 (tg1) (rc1), ownS 27 1 (.slice sb1 sg1.length sc1) (sg1).length (ptrs (sg1)), ownS 114 1 (.slice tb1 tg1.length tc1) (tg1).length (ptrs (tg1))]) (by have e : (ss ++ [sealH a1 m]).length = ss.length + 1 := (by simp); rw [flat_append, e, show flat .u8 [sealH a1 m] = ints .u8 (sealH a1 m) by rw [flat_cons, flat_nil, List.append_nil]]; exact Weak.drop (Weak.refl _)) ?_
    refine R_region ?_
    refine L_val rfl rfl rfl (OpP.v (P_move rfl rfl)) ?_
    refine L_val rfl rfl rfl (OpP.v (P_move rfl rfl)) ?_
    refine L_val rfl rfl rfl (V_loadAgg rfl rfl ty_ag_33 (Rds.blk .h3) (by rw [ints_length]; exact sealH_length _ _)) ?_
    refine L_val rfl rfl rfl (V_loadAgg rfl rfl ty_ag_33 (Rds.blk .h4) (by rw [ints_length]; exact sealH_length _ _)) ?_
    refine L_val rfl rfl rfl (OpP.v (P_eqArr rfl rfl rfl ty_un_33 ty_int_5 ty_sc_5 ty_eg_33 (sealH_length _ _) (sealH_length _ _))) ?_
    refine E_true (t := 90) rfl (decide_eq_true rfl) ?_
    refine L_val rfl rfl rfl (OpP.v (P_pick rfl rfl rfl)) ?_
    refine L_val rfl rfl rfl (OpP.v (P_move rfl rfl)) ?_
    refine L_val rfl rfl rfl (OpP.v (P_move rfl rfl)) ?_
    refine L_op rfl (W_callV rfl rfl rfl rfl fn_ca_17 (num_ok 0) (fun _ _ => trivial) ?_)
    refine L_val rfl rfl rfl (OpP.v (P_move rfl rfl)) ?_
    refine L_op rfl (W_callV rfl rfl rfl rfl fn_ca_17 (num_ok 0) (fun _ _ => trivial) ?_)
    refine L_val rfl rfl rfl (OpP.v (P_eql rfl rfl rfl)) ?_
    refine E_true (t := 97) rfl (rfl) ?_
    refine L_val rfl rfl rfl (OpP.v (P_pick rfl rfl rfl)) ?_
    refine L_val rfl rfl rfl (OpP.v (P_assign rfl rfl)) ?_
    refine L_nil ?_
    refine St.env (.cons (t := 6) rfl .nil) ?_
    refine Q_then ?_
    refine R_ret ?_
    exact R_end (rs2 := [TWO w (n + 1)]) rfl rfl (.tmp rfl .nil) (⟨rfl, rfl⟩) ((Weak.keep (Weak.drop (Weak.drop (Weak.drop (Weak.drop (Weak.refl _)))))).trans ((Weak.keep (Weak.keep (Weak.keep (Weak.keep (Weak.keep (Weak.pick (p := [_]) (Weak.pick (p := [_]) (Weak.pick (p := [_]) (Weak.pick (p := [_]) (Weak.keep (Weak.nil _))))))))))).trans (two_close (n := n + 1) (rs := []) ⟨⟨p0, q0, sg0, tg0, addR rc0 (a1, m), .slice (some ⟨sbb, 0, none⟩) sg0.length sc0, .slice (some ⟨tbb, 0, none⟩) tg0.length tc0⟩, ⟨p1, q1, sg1, tg1, rc1, .slice sb1 sg1.length sc1, .slice tb1 tg1.length tc1⟩, .slice nb (ss.length + 1) nc, ss ++ [sealH a1 m]⟩ ⟨⟨hen0, Nat.le_succ_of_le hs0, addR_le hr0⟩, ⟨hen1, Nat.le_succ_of_le hs1, Nat.le_succ_of_le hr1⟩, snoc_le hzl, all16_snoc hz16 (sealH_length _ _)⟩)))
  · skip
    first | (refine TQ_keep rfl rfl (W_alloc rfl rfl rfl ty_ze_33 fun b10 => (K_keepTQ (Weak.drop (Weak.drop (Weak.refl _))) ?_))) | (refine TQ_keep rfl rfl (W_alloc rfl rfl rfl ty_ze_33 fun b10 => (K_keepTQ (Weak.pick (p := [_]) (Weak.pick (p := [_]) (Weak.pick (p := [_]) (Weak.pick (p := [_]) (Weak.pick (p := [_, _]) (Weak.pick (p := [_, _]) (Weak.pick (p := [_, _]) (Weak.pick (p := [_, _]) (Weak.pick (p := [_, _]) (Weak.pick (p := [_, _]) (Weak.pick (p := [_, _]) (Weak.pick (p := [_, _]) (Weak.nil _))))))))))))) ?_)))
    first | (refine TQ_keep rfl rfl (W_callR rfl rfl rfl rfl fn_ca_18 (sign_any hG.toGlobs p0 sg0 rc0 ii a1 s hs (some ⟨fb, 0, none⟩) fc m hmb hsm (by omega)) (Split.one (p := [_, _, _, _])) (Sn.pre (sn_head (Sn.own .h3 rfl))) (K_keepTQ (Weak.drop (Weak.refl _)) ?_))) | (refine TQ_keep rfl rfl (W_callR rfl rfl rfl rfl fn_ca_18 (sign_any hG.toGlobs p0 sg0 rc0 ii a1 s hs (some ⟨fb, 0, none⟩) fc m hmb hsm (by omega)) (Split.one (p := [_, _, _, _, _])) (Sn.pre (sn_head (Sn.own .h4 rfl))) (K_keepTQ (Weak.drop (Weak.drop (Weak.refl _))) ?_)))
    refine TQ_pure rfl rfl rfl rfl (P_move rfl rfl) ?_
    refine TQ_pure rfl rfl rfl rfl (P_extract rfl rfl rfl) ?_
    refine TQ_pure rfl rfl rfl rfl (P_extract rfl rfl rfl) ?_
    first | (refine TQ_new rfl rfl (W_storeAll rfl rfl rfl rfl ty_ag_33 (by rw [ints_length]; exact sealH_length _ _) (ints_one) .h0 (by rw [ints_length]; exact (sealH_length _ _).trans rfl) (K_newTQ ?_))) | (refine TQ_new rfl rfl (W_storeAll rfl rfl rfl rfl ty_ag_33 (by rw [ints_length]; exact sealH_length _ _) (ints_one) .h1 (by rw [ints_length]; exact (sealH_length _ _).trans rfl) (K_newTQ ?_)))
    refine TQ_pure rfl rfl rfl rfl (P_assign rfl rfl) ?_
    refine TQ_nil ?_
    refine St.env (.cons (t := 0) rfl (.cons (t := 1) rfl (.cons (t := 6) rfl (.cons (t := 7) rfl (.cons (t := 8) rfl (.cons (t := 9) rfl (.cons (t := 10) rfl (.cons (t := 11) rfl .nil)))))))) ?_
    refine Q_then ?_
    refine R_seq ?_
    refine St.res (rs' := [blk w [.pointer (some ⟨p0, 0, none⟩), .pointer (some ⟨p1, 0, none⟩), .pointer (some ⟨q0, 0, none⟩), .pointer (some ⟨q1, 0, none⟩), .slice (some ⟨sbb, 0, none⟩) sg0.length sc0, .slice sb1 sg1.length sc1, .slice (some ⟨tbb, 0, none⟩) tg0.length tc0, .slice tb1 tg1.length tc1, .slice zb ss.length zc] 79, blk b5 (opC kd wh at_ a base xs.length c sl tw lg) 72, ownS 5 1 (.slice ub m.length uc) m.length (ints .u8 m), ownS 5 1 (.slice (some ⟨fb, 0, none⟩) (m.length + 3) fc) (m.length + 3) (ints .u8 (m ++ [201, 202, 203])), blk b10 (ints .u8 (sealH a1 m)) 33, REG p0 (sg0) (addR rc0 (a1, m)), REF q0 (tg0) (rc0), ownS 27 1 (.slice (some ⟨sbb, 0, none⟩) sg0.length sc0) (sg0).length (ptrs (sg0)), ownS 114 1 (.slice (some ⟨tbb, 0, none⟩) tg0.length tc0) (tg0).length (ptrs (tg0)), ownS 33 16 (.slice zb ss.length zc) (ss).length (flat .u8 (ss)), REG p1 (sg1) (rc1), REF q1 (tg1) (rc1), ownS 27 1 (.slice sb1 sg1.length sc1) (sg1).length (ptrs (sg1)), ownS 114 1 (.slice tb1 tg1.length tc1) (tg1).length (ptrs (tg1))]) (by first | exact Weak.pick (p := [_, _]) (Weak.pick (p := [_, _]) (Weak.pick (p := [_, _]) (Weak.pick (p := [_, _]) (Weak.keep (Weak.keep (Weak.keep (Weak.keep (Weak.keep (Weak.keep (Weak.keep (Weak.keep (Weak.keep (Weak.keep (Weak.nil _)))))))))))))) | exact Weak.pick (p := [_, _]) (Weak.pick (p := [_, _]) (Weak.pick (p := [_, _]) (Weak.pick (p := [_, _]) (Weak.pick (p := [_]) (Weak.keep (Weak.keep (Weak.keep (Weak.keep (Weak.keep (Weak.keep (Weak.keep (Weak.keep (Weak.keep (Weak.nil _))))))))))))))) ?_
    refine R_region ?_
    refine L_val rfl rfl rfl (OpP.v (P_move rfl rfl)) ?_
    refine L_val rfl rfl rfl (OpP.v (P_move rfl rfl)) ?_
    refine L_val rfl rfl rfl (OpP.v (P_nil rfl rfl)) ?_
    refine L_val rfl rfl rfl (OpP.v (P_fld0 rfl ty_fl_79_3 rfl)) ?_
    first | (refine L_val rfl rfl rfl (OpP.v (P_ixa0 (0) rfl ty_ar_76 rfl rfl (by first | rfl | omega) (by omega))) ?_) | (refine L_val rfl rfl rfl (OpP.v (P_ixa (0) rfl ty_ar_76 rfl rfl (by first | rfl | omega) (by omega))) ?_)
    refine L_val rfl rfl rfl (V_load rfl rfl ty_sc_75 (Rd.blk .h0 rfl)) ?_
    refine L_val rfl rfl rfl (OpP.v (P_move rfl rfl)) ?_
    refine L_val rfl rfl rfl (OpP.v (P_ixs (ii) rfl ty_sl_75 rfl rfl (by first | rfl | omega) (by omega))) ?_
    refine L_val rfl rfl rfl (V_load rfl rfl ty_sc_114 (rd_own1 .h8 (ptrs_at ht))) ?_
    refine L_val rfl rfl rfl (OpP.v (P_move rfl rfl)) ?_
    refine L_op rfl (W_callR rfl rfl rfl rfl fn_ca_65 (rsign_any hG q0 tg0 rc0 ii a1 t ht ub uc m hmb hsm (by omega)) (Split.one (p := [_, _, _, _, _, _])) (Sn.pre (Sn.own .h2 rfl)) ?_)
    refine St.res (rs' := [blk w [.pointer (some ⟨p0, 0, none⟩), .pointer (some ⟨p1, 0, none⟩), .pointer (some ⟨q0, 0, none⟩), .pointer (some ⟨q1, 0, none⟩), .slice (some ⟨sbb, 0, none⟩) sg0.length sc0, .slice sb1 sg1.length sc1, .slice (some ⟨tbb, 0, none⟩) tg0.length tc0, .slice tb1 tg1.length tc1, .slice zb ss.length zc] 79, blk b5 (opC kd wh at_ a base xs.length c sl tw lg) 72, ownS 5 1 (.slice ub m.length uc) m.length (ints .u8 m), ownS 5 1 (.slice (some ⟨fb, 0, none⟩) (m.length + 3) fc) (m.length + 3) (ints .u8 (m ++ [201, 202, 203])), blk b10 (ints .u8 (sealH a1 m)) 33, REG p0 (sg0) (addR rc0 (a1, m)), REF q0 (tg0) (addR rc0 (a1, m)), ownS 27 1 (.slice (some ⟨sbb, 0, none⟩) sg0.length sc0) (sg0).length (ptrs (sg0)), ownS 114 1 (.slice (some ⟨tbb, 0, none⟩) tg0.length tc0) (tg0).length (ptrs (tg0)), ownS 33 16 (.slice zb ss.length zc) (ss).length (flat .u8 (ss)), REG p1 (sg1) (rc1), REF q1 (tg1) (rc1), ownS 27 1 (.slice sb1 sg1.length sc1) (sg1).length (ptrs (sg1)), ownS 114 1 (.slice tb1 tg1.length tc1) (tg1).length (ptrs (tg1))]) (Weak.p1 (Weak.p1 (Weak.p1 (Weak.p1 (Weak.p1 (Weak.p1 (Weak.refl _))))))) ?_
    refine L_val rfl rfl rfl (OpP.v (P_move rfl rfl)) ?_
    refine L_val rfl rfl rfl (OpP.v (P_extract rfl rfl rfl)) ?_
    refine L_val rfl rfl rfl (OpP.v (P_extract rfl rfl rfl)) ?_
    refine L_op rfl (W_alloc rfl rfl rfl ty_ze_33 fun b12 => ?_)
    refine L_op rfl (W_storeAll rfl rfl rfl rfl ty_ag_33 (by rw [ints_length]; exact sealH_length _ _) (ints_one) .h0 (by rw [ints_length]; exact (sealH_length _ _).trans rfl) ?_)
    refine L_val rfl rfl rfl (OpP.v (P_assign rfl rfl)) ?_
    refine L_nil ?_
    refine St.env (.cons (t := 0) rfl (.cons (t := 6) rfl (.cons (t := 8) rfl (.cons (t := 9) rfl (.cons (t := 10) rfl (.cons (t := 11) rfl (.cons (t := 12) rfl (.cons (t := 13) rfl .nil)))))))) ?_
    refine Q_then ?_
    refine R_seq ?_
    refine St.res (rs' := [blk w [.pointer (some ⟨p0, 0, none⟩), .pointer (some ⟨p1, 0, none⟩), .pointer (some ⟨q0, 0, none⟩), .pointer (some ⟨q1, 0, none⟩), .slice (some ⟨sbb, 0, none⟩) sg0.length sc0, .slice sb1 sg1.length sc1, .slice (some ⟨tbb, 0, none⟩) tg0.length tc0, .slice tb1 tg1.length tc1, .slice zb ss.length zc] 79, blk b5 (opC kd wh at_ a base xs.length c sl tw lg) 72, ownS 5 1 (.slice ub m.length uc) m.length (ints .u8 m), ownS 5 1 (.slice (some ⟨fb, 0, none⟩) (m.length + 3) fc) (m.length + 3) (ints .u8 (m ++ [201, 202, 203])), blk b10 (ints .u8 (sealH a1 m)) 33, blk b12 (ints .u8 (sealH a1 m)) 33, REG p0 (sg0) (addR rc0 (a1, m)), REF q0 (tg0) (addR rc0 (a1, m)), ownS 27 1 (.slice (some ⟨sbb, 0, none⟩) sg0.length sc0) (sg0).length (ptrs (sg0)), ownS 114 1 (.slice (some ⟨tbb, 0, none⟩) tg0.length tc0) (tg0).length (ptrs (tg0)), ownS 33 16 (.slice zb ss.length zc) (ss).length (flat .u8 (ss)), REG p1 (sg1) (rc1), REF q1 (tg1) (rc1), ownS 27 1 (.slice sb1 sg1.length sc1) (sg1).length (ptrs (sg1)), ownS 114 1 (.slice tb1 tg1.length tc1) (tg1).length (ptrs (tg1))]) (Weak.p1 (Weak.p1 (Weak.p1 (Weak.p1 (Weak.p1 (Weak.refl _)))))) ?_
    refine R_region ?_
    refine L_val rfl rfl rfl (OpP.v (P_move rfl rfl)) ?_
    refine L_val rfl rfl rfl (OpP.v (P_move rfl rfl)) ?_
    refine L_op rfl (W_callV rfl rfl rfl rfl fn_ca_66 (left_ok fb fc ub uc m hfc hml hmb) (fun w nw => ⟨(Sn.own .h3 rfl).rowAt0 (fun _ _ h => h) w nw, (Sn.own .h2 rfl).rw_ w nw⟩) ?_)
    refine E_true (t := 70) rfl (rfl) ?_
    refine L_val rfl rfl rfl (OpP.v (P_assign rfl rfl)) ?_
    refine L_nil ?_
    refine St.env (.cons (t := 0) rfl (.cons (t := 6) rfl (.cons (t := 9) rfl (.cons (t := 10) rfl (.cons (t := 11) rfl (.cons (t := 12) rfl (.cons (t := 13) rfl (.cons (t := 14) rfl .nil)))))))) ?_
    refine Q_then ?_
    refine R_seq ?_
    refine R_region ?_
    refine L_val rfl rfl rfl (OpP.v (P_move rfl rfl)) ?_
    refine L_op rfl (W_callR rfl rfl rfl rfl fn_ca_67 (by have h := spoil_ok (gl := gl) fb fc (m ++ [201, 202, 203]) (by rw [List.length_append]; show m.length + 3 ≤ _; omega); rw [List.length_append] at h; exact h) (Split.one (p := [_, _, _])) (fun _ _ _ _ _ _ _ => trivial) ?_)
    refine St.res (rs' := [blk w [.pointer (some ⟨p0, 0, none⟩), .pointer (some ⟨p1, 0, none⟩), .pointer (some ⟨q0, 0, none⟩), .pointer (some ⟨q1, 0, none⟩), .slice (some ⟨sbb, 0, none⟩) sg0.length sc0, .slice sb1 sg1.length sc1, .slice (some ⟨tbb, 0, none⟩) tg0.length tc0, .slice tb1 tg1.length tc1, .slice zb ss.length zc] 79, blk b5 (opC kd wh at_ a base xs.length c sl tw lg) 72, ownS 5 1 (.slice ub m.length uc) m.length (ints .u8 m), blk b10 (ints .u8 (sealH a1 m)) 33, blk b12 (ints .u8 (sealH a1 m)) 33, REG p0 (sg0) (addR rc0 (a1, m)), REF q0 (tg0) (addR rc0 (a1, m)), ownS 27 1 (.slice (some ⟨sbb, 0, none⟩) sg0.length sc0) (sg0).length (ptrs (sg0)), ownS 114 1 (.slice (some ⟨tbb, 0, none⟩) tg0.length tc0) (tg0).length (ptrs (tg0)), ownS 33 16 (.slice zb ss.length zc) (ss).length (flat .u8 (ss)), REG p1 (sg1) (rc1), REF q1 (tg1) (rc1), ownS 27 1 (.slice sb1 sg1.length sc1) (sg1).length (ptrs (sg1)), ownS 114 1 (.slice tb1 tg1.length tc1) (tg1).length (ptrs (tg1))]) (Weak.drop (Weak.refl _)) ?_
    refine L_nil ?_
    refine St.env (.cons (t := 0) rfl (.cons (t := 6) rfl (.cons (t := 10) rfl (.cons (t := 11) rfl (.cons (t := 12) rfl (.cons (t := 13) rfl (.cons (t := 14) rfl .nil))))))) ?_
    refine Q_then ?_
    refine R_seq ?_
    refine R_seq ?_
    refine R_region ?_
    refine L_val rfl rfl rfl (OpP.v (P_move rfl rfl)) ?_
    refine L_op rfl (W_callV rfl rfl rfl rfl fn_ca_17 (num_ok 0) (fun _ _ => trivial) ?_)
    refine L_val rfl rfl rfl (OpP.v (P_eql rfl rfl rfl)) ?_
    refine E_true (t := 75) rfl (rfl) ?_
    refine L_nil ?_
    refine St.env (.cons (t := 0) rfl (.cons (t := 6) rfl (.cons (t := 10) rfl (.cons (t := 11) rfl (.cons (t := 12) rfl (.cons (t := 13) rfl (.cons (t := 14) rfl (.cons (t := 75) rfl .nil)))))))) ?_
    refine Q_then ?_
    refine R_condT rfl ?_
    refine R_open [(0, 0), (1, 0), (2, 0), (3, 0), (4, 1), (5, 1), (6, 2), (7, 3), (8, 0), (9, 0), (10, 3)] mixed (by kernel_rfl) (QOk.then QOk.body) ?_
    refine O_pure rfl rfl rfl rfl (P_move rfl rfl) ?_
    refine O_pure rfl rfl rfl rfl (P_move rfl rfl) ?_
    refine O_pure rfl rfl rfl rfl (P_nil rfl rfl) ?_
    refine O_pure rfl rfl rfl rfl (P_fld0 rfl ty_fl_79_4 rfl) ?_
    refine O_val rfl rfl rfl rfl (V_load rfl rfl ty_sc_77 (Rd.blk .h0 rfl)) ?_
    refine O_val rfl rfl rfl rfl (V_loadAgg rfl rfl ty_ag_33 (Rds.blk .h4) (by rw [ints_length]; exact sealH_length _ _)) ?_
    refine O_keep rfl rfl (W_lit (z := .nilIface) (ints .u8 (sealH a1 m)) rfl rfl rfl ty_sl_77 ty_lz_77 rfl rfl rfl (by decide) (by decide) (by simp [Value.cells, ints_length, sealH_length]) (by simp [Value.cells]) fun b82 => (K_keep (Weak.drop (Weak.refl _)) ?_))
    refine O_new rfl rfl (W_append (p := [_, _, _, _, _, _, _, _, _, _]) rfl rfl rfl ty_sl_77 ty_ap_77 ty_src_77 rfl rfl rfl (Src.slice (sz := 16) (news := ints .u8 (sealH a1 m)) (Rds.blk .h0) (by rw [ints_length, sealH_length]) ints_one) (by omega) (by simp only [maxLen]; omega) fun v83 => (K_new ?_))
    refine St.ownForm (p := [_, _, _, _, _, _, _, _, _, _]) fun nb nc hnb_ hnc => ?_
    subst hnb_
    refine O_pure rfl rfl rfl rfl (P_nil rfl rfl) ?_
    refine O_pure rfl rfl rfl rfl (P_fld0 rfl ty_fl_79_4 rfl) ?_
    refine O_new rfl rfl (W_store rfl rfl rfl rfl ty_sc_77 rfl .h1 (by first | decide | (simp [ints]; done) | (simp [ints]; omega)) (K_new ?_))
    refine O_nil ?_
    refine St.env (.cons (t := 6) rfl (.cons (t := 10) rfl (.cons (t := 11) rfl (.cons (t := 12) rfl (.cons (t := 13) rfl (.cons (t := 14) rfl .nil)))))) ?_
    refine Q_then ?_
    refine R_seq ?_
    refine St.res (rs' := [blk w [.pointer (some ⟨p0, 0, none⟩), .pointer (some ⟨p1, 0, none⟩), .pointer (some ⟨q0, 0, none⟩), .pointer (some ⟨q1, 0, none⟩), .slice (some ⟨sbb, 0, none⟩) sg0.length sc0, .slice sb1 sg1.length sc1, .slice (some ⟨tbb, 0, none⟩) tg0.length tc0, .slice tb1 tg1.length tc1, .slice nb (ss.length + 1) nc] 79, blk b5 (opC kd wh at_ a base xs.length c sl tw lg) 72, ownS 5 1 (.slice ub m.length uc) m.length (ints .u8 m), blk b10 (ints .u8 (sealH a1 m)) 33, blk b12 (ints .u8 (sealH a1 m)) 33, REG p0 (sg0) (addR rc0 (a1, m)), REF q0 (tg0) (addR rc0 (a1, m)), ownS 27 1 (.slice (some ⟨sbb, 0, none⟩) sg0.length sc0) (sg0).length (ptrs (sg0)), ownS 114 1 (.slice (some ⟨tbb, 0, none⟩) tg0.length tc0) (tg0).length (ptrs (tg0)), ownS 33 16 (.slice nb (ss.length + 1) nc) (ss ++ [sealH a1 m]).length (flat .u8 (ss ++ [sealH a1 m])), REG p1 (sg1) (rc1), REF q1 (tg1) (rc1), ownS 27 1 (.slice sb1 sg1.length sc1) (sg1).length (ptrs (sg1)), ownS 114 1 (.slice tb1 tg1.length tc1) (tg1).length (ptrs (tg1))]) (by have e : (ss ++ [sealH a1 m]).length = ss.length + 1 := (by simp); rw [flat_append, e, show flat .u8 [sealH a1 m] = ints .u8 (sealH a1 m) by rw [flat_cons, flat_nil, List.append_nil]]; exact Weak.drop (Weak.refl _)) ?_
    refine R_region ?_
    refine L_val rfl rfl rfl (OpP.v (P_move rfl rfl)) ?_
    refine L_val rfl rfl rfl (OpP.v (P_move rfl rfl)) ?_
    refine L_val rfl rfl rfl (V_loadAgg rfl rfl ty_ag_33 (Rds.blk .h3) (by rw [ints_length]; exact sealH_length _ _)) ?_
    refine L_val rfl rfl rfl (V_loadAgg rfl rfl ty_ag_33 (Rds.blk .h4) (by rw [ints_length]; exact sealH_length _ _)) ?_
    refine L_val rfl rfl rfl (OpP.v (P_eqArr rfl rfl rfl ty_un_33 ty_int_5 ty_sc_5 ty_eg_33 (sealH_length _ _) (sealH_length _ _))) ?_
    refine E_true (t := 90) rfl (decide_eq_true rfl) ?_
    refine L_val rfl rfl rfl (OpP.v (P_pick rfl rfl rfl)) ?_
    refine L_val rfl rfl rfl (OpP.v (P_move rfl rfl)) ?_
    refine L_val rfl rfl rfl (OpP.v (P_move rfl rfl)) ?_
    refine L_op rfl (W_callV rfl rfl rfl rfl fn_ca_17 (num_ok 0) (fun _ _ => trivial) ?_)
    refine L_val rfl rfl rfl (OpP.v (P_move rfl rfl)) ?_
    refine L_op rfl (W_callV rfl rfl rfl rfl fn_ca_17 (num_ok 0) (fun _ _ => trivial) ?_)
    refine L_val rfl rfl rfl (OpP.v (P_eql rfl rfl rfl)) ?_
    refine E_true (t := 97) rfl (rfl) ?_
    refine L_val rfl rfl rfl (OpP.v (P_pick rfl rfl rfl)) ?_
    refine L_val rfl rfl rfl (OpP.v (P_assign rfl rfl)) ?_
    refine L_nil ?_
    refine St.env (.cons (t := 6) rfl .nil) ?_
    refine Q_then ?_
    refine R_ret ?_
    exact R_end (rs2 := [TWO w (n + 1)]) rfl rfl (.tmp rfl .nil) (⟨rfl, rfl⟩) ((Weak.keep (Weak.drop (Weak.drop (Weak.drop (Weak.drop (Weak.refl _)))))).trans ((Weak.keep (Weak.keep (Weak.keep (Weak.keep (Weak.keep (Weak.pick (p := [_]) (Weak.pick (p := [_]) (Weak.pick (p := [_]) (Weak.pick (p := [_]) (Weak.keep (Weak.nil _))))))))))).trans (two_close (n := n + 1) (rs := []) ⟨⟨p0, q0, sg0, tg0, addR rc0 (a1, m), .slice (some ⟨sbb, 0, none⟩) sg0.length sc0, .slice (some ⟨tbb, 0, none⟩) tg0.length tc0⟩, ⟨p1, q1, sg1, tg1, rc1, .slice sb1 sg1.length sc1, .slice tb1 tg1.length tc1⟩, .slice nb (ss.length + 1) nc, ss ++ [sealH a1 m]⟩ ⟨⟨hen0, Nat.le_succ_of_le hs0, addR_le hr0⟩, ⟨hen1, Nat.le_succ_of_le hs1, Nat.le_succ_of_le hr1⟩, snoc_le hzl, all16_snoc hz16 (sealH_length _ _)⟩)))
theorem signs_ok0 {gl : Nat → Obj} (hG : GlobsR gl) (w n : Nat) (hn : n ≤ 1599289640354) (kd wh at_ a : Int) (base : Option Addr) (c : Nat) (xs sl : List Int) (tw : Int) (lg : Bool) (hsl : sl.length = 16) (hxm : xs.length ≤ 140737488351232) (hxb : IsB xs) : SpecR (cx gl) 49 [.pointer (some ⟨w, 0, none⟩), .int .i64 0, .agg (opC kd wh at_ a base xs.length c sl tw lg).toArray] (fun w h => Seen w h base (ints .u8 xs)) [TWO w n] (.bool true) [TWO w (n + 1)] := Spec.openEx fun ⟨⟨p0, q0, sg0, tg0, rc0, vs0, vt0⟩, ⟨p1, q1, sg1, tg1, rc1, vs1, vt1⟩, z, ss⟩ hok => by
  obtain ⟨⟨hen0, hs0, hr0⟩, ⟨hen1, hs1, hr1⟩, hzl, hz16⟩ := hok
  by_cases h0 : sg0.length = 0
  · exact signs_none0 hG w n p0 q0 p1 q1 sg0 tg0 sg1 tg1 rc0 rc1 vs0 vt0 vs1 vt1 z ss hen0 hen1 hs0 hs1 hr0 hr1 hzl hz16 hn kd wh at_ a base c xs sl tw lg hsl hxm hxb h0
  · by_cases hb : (opMsg xs lg).length ≤ 1048576
    · exact signs_fine0 hG w n p0 q0 p1 q1 sg0 tg0 sg1 tg1 rc0 rc1 vs0 vt0 vs1 vt1 z ss hen0 hen1 hs0 hs1 hr0 hr1 hzl hz16 hn kd wh at_ a base c xs sl tw lg hsl hxm hxb (Nat.pos_of_ne_zero h0) hb
    · exact signs_big0 hG w n p0 q0 p1 q1 sg0 tg0 sg1 tg1 rc0 rc1 vs0 vt0 vs1 vt1 z ss hen0 hen1 hs0 hs1 hr0 hr1 hzl hz16 hn kd wh at_ a base c xs sl tw lg hsl hxm hxb (Nat.pos_of_ne_zero h0) (Nat.lt_of_not_le hb)
theorem checks0 {gl : Nat → Obj} (hG : GlobsR gl) (w n : Nat) (p0 q0 p1 q1 : Nat) (sg0 tg0 sg1 tg1 : List (Int × Nat)) (rc0 rc1 : List Rcd) (vs0 vt0 vs1 vt1 z : Value) (ss : List (List Int)) (hen0 : enOf sg0 = enOf tg0) (hen1 : enOf sg1 = enOf tg1) (hs0 : sg0.length ≤ n) (hs1 : sg1.length ≤ n) (hr0 : rc0.length ≤ n) (hr1 : rc1.length ≤ n) (hzl : ss.length ≤ n) (hz16 : ∀ s ∈ ss, s.length = 16) (hn : n ≤ 1599289640354) (kd wh at_ a : Int) (base : Option Addr) (c : Nat) (xs sl : List Int) (tw : Int) (lg : Bool) (hsl : sl.length = 16) (hxm : xs.length ≤ 140737488351232) (hxb : IsB xs)  : SpecR (cx gl) 50 [.pointer (some ⟨w, 0, none⟩), .int .i64 0, .agg (opC kd wh at_ a base xs.length c sl tw lg).toArray] (fun w h => Seen w h base (ints .u8 xs)) [blk w [.pointer (some ⟨p0, 0, none⟩), .pointer (some ⟨p1, 0, none⟩), .pointer (some ⟨q0, 0, none⟩), .pointer (some ⟨q1, 0, none⟩), vs0, vs1, vt0, vt1, z] 79, REG p0 (sg0) (rc0), REF q0 (tg0) (rc0), ownS 27 1 (vs0) (sg0).length (ptrs (sg0)), ownS 114 1 (vt0) (tg0).length (ptrs (tg0)), REG p1 (sg1) (rc1), REF q1 (tg1) (rc1), ownS 27 1 (vs1) (sg1).length (ptrs (sg1)), ownS 114 1 (vt1) (tg1).length (ptrs (tg1)), ownS 33 16 (z) (ss).length (flat .u8 (ss))] (.bool true) [TWO w (n + 1)] := by
  refine Spec.enter (C := cx gl) Tryd.func50 rfl 57 rfl rfl fun w0 h0 hsep hsub hpre => ?_
  show St (cx gl) _ [(0, .pointer (some ⟨w, 0, none⟩)), (1, .int .i64 0), (2, .agg (opC kd wh at_ a base xs.length c sl tw lg).toArray)] _ _
  have htl0 : tg0.length = sg0.length := (enOf_len hen0).symm
  have htl1 : tg1.length = sg1.length := (enOf_len hen1).symm
  refine St.ownForm (p := [_, _, _]) fun sb0 sc0 hsb0_ hsc0 => ?_
  subst hsb0_
  refine St.ownForm (p := [_, _, _, _]) fun tb0 tc0 htb0_ htc0 => ?_
  subst htb0_
  refine St.ownForm (p := [_, _, _, _, _, _, _]) fun sb1 sc1 hsb1_ hsc1 => ?_
  subst hsb1_
  refine St.ownForm (p := [_, _, _, _, _, _, _, _]) fun tb1 tc1 htb1_ htc1 => ?_
  subst htb1_
  refine St.ownForm (p := [_, _, _, _, _, _, _, _, _]) fun zb zc hzb_ hzc => ?_
  subst hzb_
  refine St.res (rs' := [blk w [.pointer (some ⟨p0, 0, none⟩), .pointer (some ⟨p1, 0, none⟩), .pointer (some ⟨q0, 0, none⟩), .pointer (some ⟨q1, 0, none⟩), .slice sb0 sg0.length sc0, .slice sb1 sg1.length sc1, .slice tb0 tg0.length tc0, .slice tb1 tg1.length tc1, .slice zb ss.length zc] 79, REG p0 (sg0) (rc0), REF q0 (tg0) (rc0), ownS 27 1 (.slice sb0 sg0.length sc0) (sg0).length (ptrs (sg0)), ownS 114 1 (.slice tb0 tg0.length tc0) (tg0).length (ptrs (tg0)), REG p1 (sg1) (rc1), REF q1 (tg1) (rc1), ownS 27 1 (.slice sb1 sg1.length sc1) (sg1).length (ptrs (sg1)), ownS 114 1 (.slice tb1 tg1.length tc1) (tg1).length (ptrs (tg1)), ownS 33 16 (.slice zb ss.length zc) (ss).length (flat .u8 (ss))]) (Weak.refl _) ?_
  obtain ⟨m, hm⟩ : ∃ m, m = opMsg xs lg := ⟨_, rfl⟩
  have hmb : IsB m := by rw [hm]; exact isB_opMsg hxb lg
  have hml : m.length ≤ 140737488351232 := by rw [hm]; exact opMsg_le hxm lg
  refine R_seq ?_
  refine R_region ?_
  refine L_op rfl (W_box (opC kd wh at_ a base xs.length c sl tw lg) rfl rfl rfl rfl rfl fun b5 => ?_)
  refine L_val rfl rfl rfl (OpP.v (P_assign rfl rfl)) ?_
  refine L_nil ?_
  refine St.env (.cons (t := 0) rfl (.cons (t := 1) rfl (.cons (t := 5) rfl (.cons (t := 6) rfl .nil)))) ?_
  refine Q_then ?_
  refine R_seq ?_
  refine St.res (rs' := [blk w [.pointer (some ⟨p0, 0, none⟩), .pointer (some ⟨p1, 0, none⟩), .pointer (some ⟨q0, 0, none⟩), .pointer (some ⟨q1, 0, none⟩), .slice sb0 sg0.length sc0, .slice sb1 sg1.length sc1, .slice tb0 tg0.length tc0, .slice tb1 tg1.length tc1, .slice zb ss.length zc] 79, blk b5 (opC kd wh at_ a base xs.length c sl tw lg) 72, REG p0 (sg0) (rc0), REF q0 (tg0) (rc0), ownS 27 1 (.slice sb0 sg0.length sc0) (sg0).length (ptrs (sg0)), ownS 114 1 (.slice tb0 tg0.length tc0) (tg0).length (ptrs (tg0)), ownS 33 16 (.slice zb ss.length zc) (ss).length (flat .u8 (ss)), REG p1 (sg1) (rc1), REF q1 (tg1) (rc1), ownS 27 1 (.slice sb1 sg1.length sc1) (sg1).length (ptrs (sg1)), ownS 114 1 (.slice tb1 tg1.length tc1) (tg1).length (ptrs (tg1))]) ((Weak.swap.trans (Weak.refl _)).trans (Weak.keep (Weak.keep (Weak.keep (Weak.keep (Weak.keep (Weak.keep (Weak.pick (p := [_, _, _, _]) (Weak.keep (Weak.keep (Weak.keep (Weak.keep (Weak.nil _))))))))))))) ?_
  refine R_region ?_
  refine L_val rfl rfl rfl (V_loadAgg rfl rfl ty_ag_72 (Rds.blk .h1) (opC_length hsl)) ?_
  refine L_op rfl (W_call rfl rfl rfl rfl fn_ca_63 (message_ok kd wh at_ a base c xs sl tw lg hsl hxm) (Split.nil _) (fun w a b _ hb dj m_ => (Sn.old hpre).rw_ w ⟨_, hb, m_.le (Heap.le_join_right dj)⟩) fun v34 rs1 (e1 : rs1 = _) => ?_)
  subst e1
  rw [← hm]
  refine St.ownForm (p := []) fun ub uc hub_ huc => ?_
  subst hub_
  refine St.res (rs' := [blk w [.pointer (some ⟨p0, 0, none⟩), .pointer (some ⟨p1, 0, none⟩), .pointer (some ⟨q0, 0, none⟩), .pointer (some ⟨q1, 0, none⟩), .slice sb0 sg0.length sc0, .slice sb1 sg1.length sc1, .slice tb0 tg0.length tc0, .slice tb1 tg1.length tc1, .slice zb ss.length zc] 79, blk b5 (opC kd wh at_ a base xs.length c sl tw lg) 72, ownS 5 1 (.slice ub m.length uc) m.length (ints .u8 m), REG p0 (sg0) (rc0), REF q0 (tg0) (rc0), ownS 27 1 (.slice sb0 sg0.length sc0) (sg0).length (ptrs (sg0)), ownS 114 1 (.slice tb0 tg0.length tc0) (tg0).length (ptrs (tg0)), ownS 33 16 (.slice zb ss.length zc) (ss).length (flat .u8 (ss)), REG p1 (sg1) (rc1), REF q1 (tg1) (rc1), ownS 27 1 (.slice sb1 sg1.length sc1) (sg1).length (ptrs (sg1)), ownS 114 1 (.slice tb1 tg1.length tc1) (tg1).length (ptrs (tg1))]) (Weak.p1 (Weak.p1 (Weak.refl _))) ?_
  refine L_val rfl rfl rfl (OpP.v (P_assign rfl rfl)) ?_
  refine L_nil ?_
  refine St.env (.cons (t := 0) rfl (.cons (t := 1) rfl (.cons (t := 5) rfl (.cons (t := 6) rfl (.cons (t := 7) rfl .nil))))) ?_
  refine Q_then ?_
  refine R_seq ?_
  refine R_region ?_
  refine L_val rfl rfl rfl (OpP.v (P_move rfl rfl)) ?_
  refine L_op rfl (W_call rfl rfl rfl rfl fn_ca_64 (room_ok ub uc m hml) (Split.nil _) (fun w a b _ hb dj m_ => (Sn.own .h2 rfl).rw_ w ⟨_, hb, m_.le (Heap.le_join_right dj)⟩) fun v36 rs2 (e2 : rs2 = _) => ?_)
  subst e2
  refine St.ownSome (p := []) (by omega) fun fb fc hfv hfc => ?_
  subst hfv
  refine St.res (rs' := [blk w [.pointer (some ⟨p0, 0, none⟩), .pointer (some ⟨p1, 0, none⟩), .pointer (some ⟨q0, 0, none⟩), .pointer (some ⟨q1, 0, none⟩), .slice sb0 sg0.length sc0, .slice sb1 sg1.length sc1, .slice tb0 tg0.length tc0, .slice tb1 tg1.length tc1, .slice zb ss.length zc] 79, blk b5 (opC kd wh at_ a base xs.length c sl tw lg) 72, ownS 5 1 (.slice ub m.length uc) m.length (ints .u8 m), ownS 5 1 (.slice (some ⟨fb, 0, none⟩) (m.length + 3) fc) (m.length + 3) (ints .u8 (m ++ [201, 202, 203])), REG p0 (sg0) (rc0), REF q0 (tg0) (rc0), ownS 27 1 (.slice sb0 sg0.length sc0) (sg0).length (ptrs (sg0)), ownS 114 1 (.slice tb0 tg0.length tc0) (tg0).length (ptrs (tg0)), ownS 33 16 (.slice zb ss.length zc) (ss).length (flat .u8 (ss)), REG p1 (sg1) (rc1), REF q1 (tg1) (rc1), ownS 27 1 (.slice sb1 sg1.length sc1) (sg1).length (ptrs (sg1)), ownS 114 1 (.slice tb1 tg1.length tc1) (tg1).length (ptrs (tg1))]) (Weak.p1 (Weak.p1 (Weak.p1 (Weak.refl _)))) ?_
  refine L_val rfl rfl rfl (OpP.v (P_assign rfl rfl)) ?_
  refine L_nil ?_
  refine St.env (.cons (t := 0) rfl (.cons (t := 1) rfl (.cons (t := 5) rfl (.cons (t := 6) rfl (.cons (t := 7) rfl (.cons (t := 8) rfl .nil)))))) ?_
  refine Q_then ?_
  refine R_seq ?_
  refine R_region ?_
  refine L_val rfl rfl rfl (OpP.v (P_move rfl rfl)) ?_
  refine L_val rfl rfl rfl (V_loadAgg rfl rfl ty_ag_72 (Rds.blk .h1) (opC_length hsl)) ?_
  refine L_val rfl rfl rfl (OpP.v (P_move rfl rfl)) ?_
  refine L_op rfl (W_call rfl rfl rfl rfl fn_ca_68 (shown_ok hG w _ _ _ _ _ _ _ _ zb zc ss hz16 (by omega) kd wh at_ a base c xs sl tw lg hsl ub uc m hml) (Weak.keep (Weak.pick (p := [_, _, _, _, _, _, _]) (Weak.keep (Weak.keep (Weak.keep (Weak.keep (Weak.keep (Weak.keep (Weak.keep (Weak.keep (Weak.keep (Weak.keep (Weak.keep (Weak.nil _)))))))))))))) (Sn.pre (Sn.own .h1 rfl)) fun v20 rs3 ⟨sl2, hl2, e3, e4⟩ => ?_)
  subst e3; subst e4
  refine St.res (rs' := [blk w [.pointer (some ⟨p0, 0, none⟩), .pointer (some ⟨p1, 0, none⟩), .pointer (some ⟨q0, 0, none⟩), .pointer (some ⟨q1, 0, none⟩), .slice sb0 sg0.length sc0, .slice sb1 sg1.length sc1, .slice tb0 tg0.length tc0, .slice tb1 tg1.length tc1, .slice zb ss.length zc] 79, blk b5 (opC kd wh at_ a base xs.length c sl tw lg) 72, ownS 5 1 (.slice ub m.length uc) m.length (ints .u8 m), ownS 5 1 (.slice (some ⟨fb, 0, none⟩) (m.length + 3) fc) (m.length + 3) (ints .u8 (m ++ [201, 202, 203])), REG p0 (sg0) (rc0), REF q0 (tg0) (rc0), ownS 27 1 (.slice sb0 sg0.length sc0) (sg0).length (ptrs (sg0)), ownS 114 1 (.slice tb0 tg0.length tc0) (tg0).length (ptrs (tg0)), ownS 33 16 (.slice zb ss.length zc) (ss).length (flat .u8 (ss)), REG p1 (sg1) (rc1), REF q1 (tg1) (rc1), ownS 27 1 (.slice sb1 sg1.length sc1) (sg1).length (ptrs (sg1)), ownS 114 1 (.slice tb1 tg1.length tc1) (tg1).length (ptrs (tg1))]) (Weak.keep (Weak.pick (p := [_]) (Weak.pick (p := [_]) (Weak.pick (p := [_]) (Weak.pick (p := [_]) (Weak.pick (p := [_]) (Weak.pick (p := [_]) (Weak.pick (p := [_]) (Weak.keep (Weak.keep (Weak.keep (Weak.keep (Weak.keep (Weak.nil _)))))))))))))) ?_
  refine L_op rfl (W_alloc rfl rfl rfl ty_ze_33 fun b9 => ?_)
  refine L_op rfl (W_storeAll rfl rfl rfl rfl ty_ag_33 (by rw [ints_length, hl2]) (ints_one) .h0 (by rw [ints_length, hl2]; rfl) ?_)
  refine L_nil ?_
  refine St.env (.cons (t := 0) rfl (.cons (t := 1) rfl (.cons (t := 5) rfl (.cons (t := 6) rfl (.cons (t := 7) rfl (.cons (t := 8) rfl (.cons (t := 9) rfl .nil))))))) ?_
  refine Q_then ?_
  refine R_seq ?_
  refine St.res (rs' := [blk w [.pointer (some ⟨p0, 0, none⟩), .pointer (some ⟨p1, 0, none⟩), .pointer (some ⟨q0, 0, none⟩), .pointer (some ⟨q1, 0, none⟩), .slice sb0 sg0.length sc0, .slice sb1 sg1.length sc1, .slice tb0 tg0.length tc0, .slice tb1 tg1.length tc1, .slice zb ss.length zc] 79, blk b5 (opC kd wh at_ a base xs.length c sl tw lg) 72, ownS 5 1 (.slice ub m.length uc) m.length (ints .u8 m), ownS 5 1 (.slice (some ⟨fb, 0, none⟩) (m.length + 3) fc) (m.length + 3) (ints .u8 (m ++ [201, 202, 203])), blk b9 (ints .u8 sl2) 33, REG p0 (sg0) (rc0), REF q0 (tg0) (rc0), ownS 27 1 (.slice sb0 sg0.length sc0) (sg0).length (ptrs (sg0)), ownS 114 1 (.slice tb0 tg0.length tc0) (tg0).length (ptrs (tg0)), ownS 33 16 (.slice zb ss.length zc) (ss).length (flat .u8 (ss)), REG p1 (sg1) (rc1), REF q1 (tg1) (rc1), ownS 27 1 (.slice sb1 sg1.length sc1) (sg1).length (ptrs (sg1)), ownS 114 1 (.slice tb1 tg1.length tc1) (tg1).length (ptrs (tg1))]) (Weak.p1 (Weak.p1 (Weak.p1 (Weak.p1 (Weak.refl _))))) ?_
  refine R_open [(0, 0), (1, 0), (2, 0), (3, 0), (4, 0), (5, 1), (6, 0), (7, 1), (8, 0), (9, 0), (10, 0), (11, 0), (12, 1), (13, 2), (14, 0)] mixed (by kernel_rfl) (QOk.then QOk.body) ?_
  refine O_pure rfl rfl rfl rfl (P_move rfl rfl) ?_
  refine O_pure rfl rfl rfl rfl (P_move rfl rfl) ?_
  refine O_pure rfl rfl rfl rfl (P_nil rfl rfl) ?_
  refine O_pure rfl rfl rfl rfl (P_fld0 rfl ty_fl_79_0 rfl) ?_
  first | (refine O_pure rfl rfl rfl rfl (P_ixa0 (0) rfl ty_ar_53 rfl rfl (by first | rfl | omega) (by omega)) ?_) | (refine O_pure rfl rfl rfl rfl (P_ixa (0) rfl ty_ar_53 rfl rfl (by first | rfl | omega) (by omega)) ?_)
  refine O_val rfl rfl rfl rfl (V_load rfl rfl ty_sc_25 (Rd.blk .h0 rfl)) ?_
  refine O_pure rfl rfl rfl rfl (P_fld0 rfl ty_fl_72_3 rfl) ?_
  refine O_val rfl rfl rfl rfl (V_load rfl rfl ty_sc_23 (Rd.blk .h1 rfl)) ?_
  refine O_pure rfl rfl rfl rfl (P_move rfl rfl) ?_
  refine O_pure rfl rfl rfl rfl (P_move rfl rfl) ?_
  refine O_pure rfl rfl rfl rfl (P_len rfl ty_sl_24 rfl) ?_
  refine O_pure rfl rfl rfl rfl (P_slice 0 m.length rfl ty_sl_24 rfl rfl ⟨_, rfl⟩ (by omega) (by omega)) ?_
  refine E_as (t := 32) (v' := .slice (some ⟨fb, 0, none⟩) m.length fc) rfl (by unfold sliced; rw [if_neg (by omega)]; simp [add_zero_off]) ?_
  refine O_val rfl rfl rfl rfl (V_loadAgg rfl rfl ty_ag_33 (Rds.blk .h4) (by rw [ints_length, hl2])) ?_
  refine O_keep rfl rfl (W_callR rfl rfl rfl rfl fn_ca_19 (check_ok hG.toGlobs p0 sg0 rc0 a (some ⟨fb, 0, none⟩) fc m sl2 hmb (by omega) hl2) (Split.one (p := [_, _, _, _, _])) (Sn.pre (sn_head (Sn.own .h3 rfl))) (K_keep (Weak.p1 (Weak.p1 (Weak.p1 (Weak.p1 (Weak.p1 (Weak.refl _)))))) ?_))
  refine O_pure rfl rfl rfl rfl (P_assign rfl rfl) ?_
  refine O_nil ?_
  refine St.env (.cons (t := 0) rfl (.cons (t := 1) rfl (.cons (t := 5) rfl (.cons (t := 6) rfl (.cons (t := 7) rfl (.cons (t := 8) rfl (.cons (t := 9) rfl (.cons (t := 10) rfl .nil)))))))) ?_
  refine Q_then ?_
  refine R_seq ?_
  refine St.res (rs' := [blk w [.pointer (some ⟨p0, 0, none⟩), .pointer (some ⟨p1, 0, none⟩), .pointer (some ⟨q0, 0, none⟩), .pointer (some ⟨q1, 0, none⟩), .slice sb0 sg0.length sc0, .slice sb1 sg1.length sc1, .slice tb0 tg0.length tc0, .slice tb1 tg1.length tc1, .slice zb ss.length zc] 79, blk b5 (opC kd wh at_ a base xs.length c sl tw lg) 72, ownS 5 1 (.slice ub m.length uc) m.length (ints .u8 m), ownS 5 1 (.slice (some ⟨fb, 0, none⟩) (m.length + 3) fc) (m.length + 3) (ints .u8 (m ++ [201, 202, 203])), blk b9 (ints .u8 sl2) 33, REG p0 (sg0) (rc0), REF q0 (tg0) (rc0), ownS 27 1 (.slice sb0 sg0.length sc0) (sg0).length (ptrs (sg0)), ownS 114 1 (.slice tb0 tg0.length tc0) (tg0).length (ptrs (tg0)), ownS 33 16 (.slice zb ss.length zc) (ss).length (flat .u8 (ss)), REG p1 (sg1) (rc1), REF q1 (tg1) (rc1), ownS 27 1 (.slice sb1 sg1.length sc1) (sg1).length (ptrs (sg1)), ownS 114 1 (.slice tb1 tg1.length tc1) (tg1).length (ptrs (tg1))]) (Weak.p1 (Weak.p1 (Weak.p1 (Weak.p1 (Weak.p1 (Weak.refl _)))))) ?_
  refine R_open [(0, 0), (1, 0), (2, 0), (3, 0), (4, 0), (5, 1), (6, 0), (7, 1), (8, 0), (9, 1), (10, 2), (11, 0)] mixed (by kernel_rfl) (QOk.then QOk.body) ?_
  refine O_pure rfl rfl rfl rfl (P_move rfl rfl) ?_
  refine O_pure rfl rfl rfl rfl (P_move rfl rfl) ?_
  refine O_pure rfl rfl rfl rfl (P_nil rfl rfl) ?_
  refine O_pure rfl rfl rfl rfl (P_fld0 rfl ty_fl_79_1 rfl) ?_
  first | (refine O_pure rfl rfl rfl rfl (P_ixa0 (0) rfl ty_ar_74 rfl rfl (by first | rfl | omega) (by omega)) ?_) | (refine O_pure rfl rfl rfl rfl (P_ixa (0) rfl ty_ar_74 rfl rfl (by first | rfl | omega) (by omega)) ?_)
  refine O_val rfl rfl rfl rfl (V_load rfl rfl ty_sc_73 (Rd.blk .h0 rfl)) ?_
  refine O_pure rfl rfl rfl rfl (P_fld0 rfl ty_fl_72_3 rfl) ?_
  refine O_val rfl rfl rfl rfl (V_load rfl rfl ty_sc_23 (Rd.blk .h1 rfl)) ?_
  refine O_pure rfl rfl rfl rfl (P_move rfl rfl) ?_
  refine O_val rfl rfl rfl rfl (V_loadAgg rfl rfl ty_ag_33 (Rds.blk .h4) (by rw [ints_length, hl2])) ?_
  refine O_keep rfl rfl (W_callR rfl rfl rfl rfl fn_ca_69 (rcheck_ok hG q0 tg0 rc0 a ub uc m sl2 hmb (by omega) hl2 (by omega)) (Split.one (p := [_, _, _, _, _, _])) (Sn.pre (Sn.own .h2 rfl)) (K_keep (Weak.p1 (Weak.p1 (Weak.p1 (Weak.p1 (Weak.p1 (Weak.p1 (Weak.refl _))))))) ?_))
  refine O_pure rfl rfl rfl rfl (P_assign rfl rfl) ?_
  refine O_nil ?_
  refine St.env (.cons (t := 6) rfl (.cons (t := 7) rfl (.cons (t := 8) rfl (.cons (t := 10) rfl (.cons (t := 11) rfl .nil))))) ?_
  refine Q_then ?_
  refine R_seq ?_
  refine St.res (rs' := [blk w [.pointer (some ⟨p0, 0, none⟩), .pointer (some ⟨p1, 0, none⟩), .pointer (some ⟨q0, 0, none⟩), .pointer (some ⟨q1, 0, none⟩), .slice sb0 sg0.length sc0, .slice sb1 sg1.length sc1, .slice tb0 tg0.length tc0, .slice tb1 tg1.length tc1, .slice zb ss.length zc] 79, blk b5 (opC kd wh at_ a base xs.length c sl tw lg) 72, ownS 5 1 (.slice ub m.length uc) m.length (ints .u8 m), ownS 5 1 (.slice (some ⟨fb, 0, none⟩) (m.length + 3) fc) (m.length + 3) (ints .u8 (m ++ [201, 202, 203])), blk b9 (ints .u8 sl2) 33, REG p0 (sg0) (rc0), REF q0 (tg0) (rc0), ownS 27 1 (.slice sb0 sg0.length sc0) (sg0).length (ptrs (sg0)), ownS 114 1 (.slice tb0 tg0.length tc0) (tg0).length (ptrs (tg0)), ownS 33 16 (.slice zb ss.length zc) (ss).length (flat .u8 (ss)), REG p1 (sg1) (rc1), REF q1 (tg1) (rc1), ownS 27 1 (.slice sb1 sg1.length sc1) (sg1).length (ptrs (sg1)), ownS 114 1 (.slice tb1 tg1.length tc1) (tg1).length (ptrs (tg1))]) (Weak.p1 (Weak.p1 (Weak.p1 (Weak.p1 (Weak.p1 (Weak.p1 (Weak.refl _))))))) ?_
  refine R_region ?_
  refine L_val rfl rfl rfl (OpP.v (P_move rfl rfl)) ?_
  refine L_val rfl rfl rfl (OpP.v (P_move rfl rfl)) ?_
  refine L_op rfl (W_callV rfl rfl rfl rfl fn_ca_66 (left_ok fb fc ub uc m hfc hml hmb) (fun w nw => ⟨(Sn.own .h3 rfl).rowAt0 (fun _ _ h => h) w nw, (Sn.own .h2 rfl).rw_ w nw⟩) ?_)
  refine E_true (t := 48) rfl (rfl) ?_
  refine L_val rfl rfl rfl (OpP.v (P_assign rfl rfl)) ?_
  refine L_nil ?_
  refine St.env (.cons (t := 6) rfl (.cons (t := 8) rfl (.cons (t := 10) rfl (.cons (t := 11) rfl (.cons (t := 12) rfl .nil))))) ?_
  refine Q_then ?_
  refine R_seq ?_
  refine R_region ?_
  refine L_val rfl rfl rfl (OpP.v (P_move rfl rfl)) ?_
  refine L_op rfl (W_callR rfl rfl rfl rfl fn_ca_67 (by have h := spoil_ok (gl := gl) fb fc (m ++ [201, 202, 203]) (by rw [List.length_append]; show m.length + 3 ≤ _; omega); rw [List.length_append] at h; exact h) (Split.one (p := [_, _, _])) (fun _ _ _ _ _ _ _ => trivial) ?_)
  refine St.res (rs' := [blk w [.pointer (some ⟨p0, 0, none⟩), .pointer (some ⟨p1, 0, none⟩), .pointer (some ⟨q0, 0, none⟩), .pointer (some ⟨q1, 0, none⟩), .slice sb0 sg0.length sc0, .slice sb1 sg1.length sc1, .slice tb0 tg0.length tc0, .slice tb1 tg1.length tc1, .slice zb ss.length zc] 79, blk b5 (opC kd wh at_ a base xs.length c sl tw lg) 72, ownS 5 1 (.slice ub m.length uc) m.length (ints .u8 m), blk b9 (ints .u8 sl2) 33, REG p0 (sg0) (rc0), REF q0 (tg0) (rc0), ownS 27 1 (.slice sb0 sg0.length sc0) (sg0).length (ptrs (sg0)), ownS 114 1 (.slice tb0 tg0.length tc0) (tg0).length (ptrs (tg0)), ownS 33 16 (.slice zb ss.length zc) (ss).length (flat .u8 (ss)), REG p1 (sg1) (rc1), REF q1 (tg1) (rc1), ownS 27 1 (.slice sb1 sg1.length sc1) (sg1).length (ptrs (sg1)), ownS 114 1 (.slice tb1 tg1.length tc1) (tg1).length (ptrs (tg1))]) (Weak.drop (Weak.refl _)) ?_
  refine L_nil ?_
  refine St.env (.cons (t := 6) rfl (.cons (t := 10) rfl (.cons (t := 11) rfl (.cons (t := 12) rfl .nil)))) ?_
  refine Q_then ?_
  refine R_seq ?_
  refine R_region ?_
  refine L_val rfl rfl rfl (OpP.v (P_move rfl rfl)) ?_
  refine L_val rfl rfl rfl (OpP.v (P_move rfl rfl)) ?_
  refine L_val rfl rfl rfl (OpP.v (P_move rfl rfl)) ?_
  refine L_val rfl rfl rfl (OpP.v (P_move rfl rfl)) ?_
  refine L_val rfl rfl rfl (OpP.v (P_eql_bool rfl ty_bool_4 rfl rfl)) ?_
  refine E_true (t := 55) rfl (by simp) ?_
  refine L_val rfl rfl rfl (OpP.v (P_pick rfl rfl rfl)) ?_
  refine L_val rfl rfl rfl (OpP.v (P_assign rfl rfl)) ?_
  refine L_nil ?_
  refine St.env (.cons (t := 6) rfl .nil) ?_
  refine Q_then ?_
  refine R_ret ?_
  exact R_end (rs2 := [TWO w (n + 1)]) rfl rfl (.tmp rfl .nil) (⟨rfl, rfl⟩) ((Weak.keep (Weak.drop (Weak.drop (Weak.drop (Weak.refl _))))).trans ((Weak.keep (Weak.keep (Weak.keep (Weak.keep (Weak.keep (Weak.pick (p := [_]) (Weak.pick (p := [_]) (Weak.pick (p := [_]) (Weak.pick (p := [_]) (Weak.keep (Weak.nil _))))))))))).trans (two_close (n := n + 1) (rs := []) ⟨⟨p0, q0, sg0, tg0, rc0, .slice sb0 sg0.length sc0, .slice tb0 tg0.length tc0⟩, ⟨p1, q1, sg1, tg1, rc1, .slice sb1 sg1.length sc1, .slice tb1 tg1.length tc1⟩, .slice zb ss.length zc, ss⟩ ⟨⟨hen0, Nat.le_succ_of_le hs0, Nat.le_succ_of_le hr0⟩, ⟨hen1, Nat.le_succ_of_le hs1, Nat.le_succ_of_le hr1⟩, Nat.le_succ_of_le hzl, hz16⟩)))
theorem checks_ok0 {gl : Nat → Obj} (hG : GlobsR gl) (w n : Nat) (hn : n ≤ 1599289640354) (kd wh at_ a : Int) (base : Option Addr) (c : Nat) (xs sl : List Int) (tw : Int) (lg : Bool) (hsl : sl.length = 16) (hxm : xs.length ≤ 140737488351232) (hxb : IsB xs) : SpecR (cx gl) 50 [.pointer (some ⟨w, 0, none⟩), .int .i64 0, .agg (opC kd wh at_ a base xs.length c sl tw lg).toArray] (fun w h => Seen w h base (ints .u8 xs)) [TWO w n] (.bool true) [TWO w (n + 1)] := Spec.openEx fun ⟨⟨p0, q0, sg0, tg0, rc0, vs0, vt0⟩, ⟨p1, q1, sg1, tg1, rc1, vs1, vt1⟩, z, ss⟩ hok => by
  obtain ⟨⟨hen0, hs0, hr0⟩, ⟨hen1, hs1, hr1⟩, hzl, hz16⟩ := hok
  exact checks0 hG w n p0 q0 p1 q1 sg0 tg0 sg1 tg1 rc0 rc1 vs0 vt0 vs1 vt1 z ss hen0 hen1 hs0 hs1 hr0 hr1 hzl hz16 hn kd wh at_ a base c xs sl tw lg hsl hxm hxb
theorem signs_none1 {gl : Nat → Obj} (hG : GlobsR gl) (w n : Nat) (p0 q0 p1 q1 : Nat) (sg0 tg0 sg1 tg1 : List (Int × Nat)) (rc0 rc1 : List Rcd) (vs0 vt0 vs1 vt1 z : Value) (ss : List (List Int)) (hen0 : enOf sg0 = enOf tg0) (hen1 : enOf sg1 = enOf tg1) (hs0 : sg0.length ≤ n) (hs1 : sg1.length ≤ n) (hr0 : rc0.length ≤ n) (hr1 : rc1.length ≤ n) (hzl : ss.length ≤ n) (hz16 : ∀ s ∈ ss, s.length = 16) (hn : n ≤ 1599289640354) (kd wh at_ a : Int) (base : Option Addr) (c : Nat) (xs sl : List Int) (tw : Int) (lg : Bool) (hsl : sl.length = 16) (hxm : xs.length ≤ 140737488351232) (hxb : IsB xs) (h0 : sg1.length = 0) : SpecR (cx gl) 49 [.pointer (some ⟨w, 0, none⟩), .int .i64 1, .agg (opC kd wh at_ a base xs.length c sl tw lg).toArray] (fun w h => Seen w h base (ints .u8 xs)) [blk w [.pointer (some ⟨p0, 0, none⟩), .pointer (some ⟨p1, 0, none⟩), .pointer (some ⟨q0, 0, none⟩), .pointer (some ⟨q1, 0, none⟩), vs0, vs1, vt0, vt1, z] 79, REG p0 (sg0) (rc0), REF q0 (tg0) (rc0), ownS 27 1 (vs0) (sg0).length (ptrs (sg0)), ownS 114 1 (vt0) (tg0).length (ptrs (tg0)), REG p1 (sg1) (rc1), REF q1 (tg1) (rc1), ownS 27 1 (vs1) (sg1).length (ptrs (sg1)), ownS 114 1 (vt1) (tg1).length (ptrs (tg1)), ownS 33 16 (z) (ss).length (flat .u8 (ss))] (.bool true) [TWO w (n + 1)] := by
  refine Spec.enter (C := cx gl) Tryd.func49 rfl 99 rfl rfl fun w0 h0 hsep hsub hpre => ?_
  show St (cx gl) _ [(0, .pointer (some ⟨w, 0, none⟩)), (1, .int .i64 1), (2, .agg (opC kd wh at_ a base xs.length c sl tw lg).toArray)] _ _
  have htl0 : tg0.length = sg0.length := (enOf_len hen0).symm
  have htl1 : tg1.length = sg1.length := (enOf_len hen1).symm
  refine St.ownForm (p := [_, _, _]) fun sb0 sc0 hsb0_ hsc0 => ?_
  subst hsb0_
  refine St.ownForm (p := [_, _, _, _]) fun tb0 tc0 htb0_ htc0 => ?_
  subst htb0_
  refine St.ownForm (p := [_, _, _, _, _, _, _]) fun sb1 sc1 hsb1_ hsc1 => ?_
  subst hsb1_
  refine St.ownForm (p := [_, _, _, _, _, _, _, _]) fun tb1 tc1 htb1_ htc1 => ?_
  subst htb1_
  refine St.ownForm (p := [_, _, _, _, _, _, _, _, _]) fun zb zc hzb_ hzc => ?_
  subst hzb_
  refine St.res (rs' := [blk w [.pointer (some ⟨p0, 0, none⟩), .pointer (some ⟨p1, 0, none⟩), .pointer (some ⟨q0, 0, none⟩), .pointer (some ⟨q1, 0, none⟩), .slice sb0 sg0.length sc0, .slice sb1 sg1.length sc1, .slice tb0 tg0.length tc0, .slice tb1 tg1.length tc1, .slice zb ss.length zc] 79, REG p0 (sg0) (rc0), REF q0 (tg0) (rc0), ownS 27 1 (.slice sb0 sg0.length sc0) (sg0).length (ptrs (sg0)), ownS 114 1 (.slice tb0 tg0.length tc0) (tg0).length (ptrs (tg0)), REG p1 (sg1) (rc1), REF q1 (tg1) (rc1), ownS 27 1 (.slice sb1 sg1.length sc1) (sg1).length (ptrs (sg1)), ownS 114 1 (.slice tb1 tg1.length tc1) (tg1).length (ptrs (tg1)), ownS 33 16 (.slice zb ss.length zc) (ss).length (flat .u8 (ss))]) (Weak.refl _) ?_
  refine R_seq ?_
  refine R_region ?_
  refine L_op rfl (W_box (opC kd wh at_ a base xs.length c sl tw lg) rfl rfl rfl rfl rfl fun b5 => ?_)
  refine L_val rfl rfl rfl (OpP.v (P_assign rfl rfl)) ?_
  refine L_nil ?_
  refine St.env (.cons (t := 0) rfl (.cons (t := 1) rfl (.cons (t := 5) rfl (.cons (t := 6) rfl .nil)))) ?_
  refine Q_then ?_
  refine R_seq ?_
  refine R_seq ?_
  refine St.res (rs' := [blk w [.pointer (some ⟨p0, 0, none⟩), .pointer (some ⟨p1, 0, none⟩), .pointer (some ⟨q0, 0, none⟩), .pointer (some ⟨q1, 0, none⟩), .slice sb0 sg0.length sc0, .slice sb1 sg1.length sc1, .slice tb0 tg0.length tc0, .slice tb1 tg1.length tc1, .slice zb ss.length zc] 79, blk b5 (opC kd wh at_ a base xs.length c sl tw lg) 72, REG p1 (sg1) (rc1), REF q1 (tg1) (rc1), ownS 27 1 (.slice sb1 sg1.length sc1) (sg1).length (ptrs (sg1)), ownS 114 1 (.slice tb1 tg1.length tc1) (tg1).length (ptrs (tg1)), ownS 33 16 (.slice zb ss.length zc) (ss).length (flat .u8 (ss)), REG p0 (sg0) (rc0), REF q0 (tg0) (rc0), ownS 27 1 (.slice sb0 sg0.length sc0) (sg0).length (ptrs (sg0)), ownS 114 1 (.slice tb0 tg0.length tc0) (tg0).length (ptrs (tg0))]) ((Weak.swap.trans (Weak.refl _)).trans (Weak.keep (Weak.keep (Weak.pick (p := [_, _, _, _]) (Weak.pick (p := [_, _, _, _]) (Weak.pick (p := [_, _, _, _]) (Weak.pick (p := [_, _, _, _]) (Weak.pick (p := [_, _, _, _]) (Weak.keep (Weak.keep (Weak.keep (Weak.keep (Weak.nil _))))))))))))) ?_
  refine R_region ?_
  refine L_val rfl rfl rfl (OpP.v (P_move rfl rfl)) ?_
  refine L_val rfl rfl rfl (OpP.v (P_move rfl rfl)) ?_
  refine L_val rfl rfl rfl (OpP.v (P_nil rfl rfl)) ?_
  refine L_val rfl rfl rfl (OpP.v (P_fld0 rfl ty_fl_79_2 rfl)) ?_
  first | (refine L_val rfl rfl rfl (OpP.v (P_ixa0 (1) rfl ty_ar_55 rfl rfl (by first | rfl | omega) (by omega))) ?_) | (refine L_val rfl rfl rfl (OpP.v (P_ixa (1) rfl ty_ar_55 rfl rfl (by first | rfl | omega) (by omega))) ?_)
  refine L_val rfl rfl rfl (V_load rfl rfl ty_sc_54 (Rd.blk .h0 rfl)) ?_
  refine L_val rfl rfl rfl (OpP.v (P_len rfl ty_sl_54 rfl)) ?_
  refine L_val rfl rfl rfl (OpP.v (P_eql rfl rfl rfl)) ?_
  refine E_true (t := 22) rfl (decide_eq_true (by omega)) ?_
  refine L_nil ?_
  refine St.env (.cons (t := 0) rfl (.cons (t := 1) rfl (.cons (t := 5) rfl (.cons (t := 6) rfl (.cons (t := 22) rfl .nil))))) ?_
  refine Q_then ?_
  refine R_condT rfl ?_
  refine R_seq ?_
  refine R_region ?_
  refine L_val rfl rfl rfl (OpP.v (P_assign rfl rfl)) ?_
  refine L_nil ?_
  refine St.env (.cons (t := 0) rfl (.cons (t := 1) rfl (.cons (t := 5) rfl (.cons (t := 6) rfl .nil)))) ?_
  refine Q_then ?_
  refine R_ret ?_
  refine Q_then_ret ?_
  exact R_end (rs2 := [TWO w (n + 1)]) rfl rfl (.tmp rfl .nil) (⟨rfl, rfl⟩) ((Weak.keep (Weak.drop (Weak.refl _))).trans ((Weak.keep (Weak.pick (p := [_, _, _, _, _]) (Weak.pick (p := [_, _, _, _, _]) (Weak.pick (p := [_, _, _, _, _]) (Weak.pick (p := [_, _, _, _, _]) (Weak.keep (Weak.keep (Weak.keep (Weak.keep (Weak.keep (Weak.nil _))))))))))).trans (two_close (n := n + 1) (rs := []) ⟨⟨p0, q0, sg0, tg0, rc0, .slice sb0 sg0.length sc0, .slice tb0 tg0.length tc0⟩, ⟨p1, q1, sg1, tg1, rc1, .slice sb1 sg1.length sc1, .slice tb1 tg1.length tc1⟩, .slice zb ss.length zc, ss⟩ ⟨⟨hen0, Nat.le_succ_of_le hs0, Nat.le_succ_of_le hr0⟩, ⟨hen1, Nat.le_succ_of_le hs1, Nat.le_succ_of_le hr1⟩, Nat.le_succ_of_le hzl, hz16⟩)))
theorem signs_big1 {gl : Nat → Obj} (hG : GlobsR gl) (w n : Nat) (p0 q0 p1 q1 : Nat) (sg0 tg0 sg1 tg1 : List (Int × Nat)) (rc0 rc1 : List Rcd) (vs0 vt0 vs1 vt1 z : Value) (ss : List (List Int)) (hen0 : enOf sg0 = enOf tg0) (hen1 : enOf sg1 = enOf tg1) (hs0 : sg0.length ≤ n) (hs1 : sg1.length ≤ n) (hr0 : rc0.length ≤ n) (hr1 : rc1.length ≤ n) (hzl : ss.length ≤ n) (hz16 : ∀ s ∈ ss, s.length = 16) (hn : n ≤ 1599289640354) (kd wh at_ a : Int) (base : Option Addr) (c : Nat) (xs sl : List Int) (tw : Int) (lg : Bool) (hsl : sl.length = 16) (hxm : xs.length ≤ 140737488351232) (hxb : IsB xs) (h0 : 0 < sg1.length) (hbg0 : 1048576 < (opMsg xs lg).length) : SpecR (cx gl) 49 [.pointer (some ⟨w, 0, none⟩), .int .i64 1, .agg (opC kd wh at_ a base xs.length c sl tw lg).toArray] (fun w h => Seen w h base (ints .u8 xs)) [blk w [.pointer (some ⟨p0, 0, none⟩), .pointer (some ⟨p1, 0, none⟩), .pointer (some ⟨q0, 0, none⟩), .pointer (some ⟨q1, 0, none⟩), vs0, vs1, vt0, vt1, z] 79, REG p0 (sg0) (rc0), REF q0 (tg0) (rc0), ownS 27 1 (vs0) (sg0).length (ptrs (sg0)), ownS 114 1 (vt0) (tg0).length (ptrs (tg0)), REG p1 (sg1) (rc1), REF q1 (tg1) (rc1), ownS 27 1 (vs1) (sg1).length (ptrs (sg1)), ownS 114 1 (vt1) (tg1).length (ptrs (tg1)), ownS 33 16 (z) (ss).length (flat .u8 (ss))] (.bool true) [TWO w (n + 1)] := by
  refine Spec.enter (C := cx gl) Tryd.func49 rfl 99 rfl rfl fun w0 h0 hsep hsub hpre => ?_
  show St (cx gl) _ [(0, .pointer (some ⟨w, 0, none⟩)), (1, .int .i64 1), (2, .agg (opC kd wh at_ a base xs.length c sl tw lg).toArray)] _ _
  have htl0 : tg0.length = sg0.length := (enOf_len hen0).symm
  have htl1 : tg1.length = sg1.length := (enOf_len hen1).symm
  refine St.ownForm (p := [_, _, _]) fun sb0 sc0 hsb0_ hsc0 => ?_
  subst hsb0_
  refine St.ownForm (p := [_, _, _, _]) fun tb0 tc0 htb0_ htc0 => ?_
  subst htb0_
  refine St.ownForm (p := [_, _, _, _, _, _, _]) fun sb1 sc1 hsb1_ hsc1 => ?_
  subst hsb1_
  refine St.ownForm (p := [_, _, _, _, _, _, _, _]) fun tb1 tc1 htb1_ htc1 => ?_
  subst htb1_
  refine St.ownForm (p := [_, _, _, _, _, _, _, _, _]) fun zb zc hzb_ hzc => ?_
  subst hzb_
  refine St.res (rs' := [blk w [.pointer (some ⟨p0, 0, none⟩), .pointer (some ⟨p1, 0, none⟩), .pointer (some ⟨q0, 0, none⟩), .pointer (some ⟨q1, 0, none⟩), .slice sb0 sg0.length sc0, .slice sb1 sg1.length sc1, .slice tb0 tg0.length tc0, .slice tb1 tg1.length tc1, .slice zb ss.length zc] 79, REG p0 (sg0) (rc0), REF q0 (tg0) (rc0), ownS 27 1 (.slice sb0 sg0.length sc0) (sg0).length (ptrs (sg0)), ownS 114 1 (.slice tb0 tg0.length tc0) (tg0).length (ptrs (tg0)), REG p1 (sg1) (rc1), REF q1 (tg1) (rc1), ownS 27 1 (.slice sb1 sg1.length sc1) (sg1).length (ptrs (sg1)), ownS 114 1 (.slice tb1 tg1.length tc1) (tg1).length (ptrs (tg1)), ownS 33 16 (.slice zb ss.length zc) (ss).length (flat .u8 (ss))]) (Weak.refl _) ?_
  refine St.ownSome (p := [_, _, _, _, _, _, _]) (by omega) fun sbb sbc hq _ => ?_
  simp only [Value.slice.injEq] at hq
  obtain ⟨rfl, _, rfl⟩ := hq
  refine St.ownSome (p := [_, _, _, _, _, _, _, _]) (by omega) fun tbb tbc hq _ => ?_
  simp only [Value.slice.injEq] at hq
  obtain ⟨rfl, _, rfl⟩ := hq
  refine St.res (rs' := [blk w [.pointer (some ⟨p0, 0, none⟩), .pointer (some ⟨p1, 0, none⟩), .pointer (some ⟨q0, 0, none⟩), .pointer (some ⟨q1, 0, none⟩), .slice sb0 sg0.length sc0, .slice (some ⟨sbb, 0, none⟩) sg1.length sc1, .slice tb0 tg0.length tc0, .slice (some ⟨tbb, 0, none⟩) tg1.length tc1, .slice zb ss.length zc] 79, REG p0 (sg0) (rc0), REF q0 (tg0) (rc0), ownS 27 1 (.slice sb0 sg0.length sc0) (sg0).length (ptrs (sg0)), ownS 114 1 (.slice tb0 tg0.length tc0) (tg0).length (ptrs (tg0)), REG p1 (sg1) (rc1), REF q1 (tg1) (rc1), ownS 27 1 (.slice (some ⟨sbb, 0, none⟩) sg1.length sc1) (sg1).length (ptrs (sg1)), ownS 114 1 (.slice (some ⟨tbb, 0, none⟩) tg1.length tc1) (tg1).length (ptrs (tg1)), ownS 33 16 (.slice zb ss.length zc) (ss).length (flat .u8 (ss))]) (Weak.refl _) ?_
  obtain ⟨ii, hii⟩ : ∃ ii : Nat, aroundI at_ (sg1.length : Int) = ii := ⟨(aroundI at_ sg1.length).toNat, by have := aroundI_bound (x := at_) (n := (sg1.length : Int)) (by omega); omega⟩
  have hil : ii < sg1.length := by have := aroundI_bound (x := at_) (n := (sg1.length : Int)) (by omega); omega
  obtain ⟨⟨a1, s⟩, hs⟩ : ∃ y, sg1[ii]? = some y := ⟨_, List.getElem?_eq_getElem hil⟩
  obtain ⟨t, ht⟩ := enOf_at hen1 hs
  obtain ⟨m, hm⟩ : ∃ m, m = opMsg xs lg := ⟨_, rfl⟩
  have hmb : IsB m := by rw [hm]; exact isB_opMsg hxb lg
  have hml : m.length ≤ 140737488351232 := by rw [hm]; exact opMsg_le hxm lg
  have hbg : 1048576 < m.length := by rw [hm]; exact hbg0
  refine R_seq ?_
  refine R_region ?_
  refine L_op rfl (W_box (opC kd wh at_ a base xs.length c sl tw lg) rfl rfl rfl rfl rfl fun b5 => ?_)
  refine L_val rfl rfl rfl (OpP.v (P_assign rfl rfl)) ?_
  refine L_nil ?_
  refine St.env (.cons (t := 0) rfl (.cons (t := 1) rfl (.cons (t := 5) rfl (.cons (t := 6) rfl .nil)))) ?_
  refine Q_then ?_
  refine R_seq ?_
  refine R_seq ?_
  refine St.res (rs' := [blk w [.pointer (some ⟨p0, 0, none⟩), .pointer (some ⟨p1, 0, none⟩), .pointer (some ⟨q0, 0, none⟩), .pointer (some ⟨q1, 0, none⟩), .slice sb0 sg0.length sc0, .slice (some ⟨sbb, 0, none⟩) sg1.length sc1, .slice tb0 tg0.length tc0, .slice (some ⟨tbb, 0, none⟩) tg1.length tc1, .slice zb ss.length zc] 79, blk b5 (opC kd wh at_ a base xs.length c sl tw lg) 72, REG p1 (sg1) (rc1), REF q1 (tg1) (rc1), ownS 27 1 (.slice (some ⟨sbb, 0, none⟩) sg1.length sc1) (sg1).length (ptrs (sg1)), ownS 114 1 (.slice (some ⟨tbb, 0, none⟩) tg1.length tc1) (tg1).length (ptrs (tg1)), ownS 33 16 (.slice zb ss.length zc) (ss).length (flat .u8 (ss)), REG p0 (sg0) (rc0), REF q0 (tg0) (rc0), ownS 27 1 (.slice sb0 sg0.length sc0) (sg0).length (ptrs (sg0)), ownS 114 1 (.slice tb0 tg0.length tc0) (tg0).length (ptrs (tg0))]) ((Weak.swap.trans (Weak.refl _)).trans (Weak.keep (Weak.keep (Weak.pick (p := [_, _, _, _]) (Weak.pick (p := [_, _, _, _]) (Weak.pick (p := [_, _, _, _]) (Weak.pick (p := [_, _, _, _]) (Weak.pick (p := [_, _, _, _]) (Weak.keep (Weak.keep (Weak.keep (Weak.keep (Weak.nil _))))))))))))) ?_
  refine R_region ?_
  refine L_val rfl rfl rfl (OpP.v (P_move rfl rfl)) ?_
  refine L_val rfl rfl rfl (OpP.v (P_move rfl rfl)) ?_
  refine L_val rfl rfl rfl (OpP.v (P_nil rfl rfl)) ?_
  refine L_val rfl rfl rfl (OpP.v (P_fld0 rfl ty_fl_79_2 rfl)) ?_
  first | (refine L_val rfl rfl rfl (OpP.v (P_ixa0 (1) rfl ty_ar_55 rfl rfl (by first | rfl | omega) (by omega))) ?_) | (refine L_val rfl rfl rfl (OpP.v (P_ixa (1) rfl ty_ar_55 rfl rfl (by first | rfl | omega) (by omega))) ?_)
  refine L_val rfl rfl rfl (V_load rfl rfl ty_sc_54 (Rd.blk .h0 rfl)) ?_
  refine L_val rfl rfl rfl (OpP.v (P_len rfl ty_sl_54 rfl)) ?_
  refine L_val rfl rfl rfl (OpP.v (P_eql rfl rfl rfl)) ?_
  refine E_false (t := 22) rfl (decide_eq_false (by omega)) ?_
  refine L_nil ?_
  refine St.env (.cons (t := 0) rfl (.cons (t := 1) rfl (.cons (t := 5) rfl (.cons (t := 6) rfl (.cons (t := 22) rfl .nil))))) ?_
  refine Q_then ?_
  refine R_condF rfl ?_
  refine R_skip ?_
  refine Q_then ?_
  refine R_seq ?_
  refine R_open [(0, 0), (1, 1), (2, 0), (3, 0), (4, 0), (5, 0), (6, 0), (7, 1), (8, 0), (9, 2), (10, 0)] mixed (by kernel_rfl) (QOk.then QOk.body) ?_
  refine O_pure rfl rfl rfl rfl (P_fld0 rfl ty_fl_72_2 rfl) ?_
  refine O_val rfl rfl rfl rfl (V_load rfl rfl ty_sc_3 (Rd.blk .h1 rfl)) ?_
  refine O_pure rfl rfl rfl rfl (P_move rfl rfl) ?_
  refine O_pure rfl rfl rfl rfl (P_move rfl rfl) ?_
  refine O_pure rfl rfl rfl rfl (P_nil rfl rfl) ?_
  refine O_pure rfl rfl rfl rfl (P_fld0 rfl ty_fl_79_2 rfl) ?_
  first | (refine O_pure rfl rfl rfl rfl (P_ixa0 (1) rfl ty_ar_55 rfl rfl (by first | rfl | omega) (by omega)) ?_) | (refine O_pure rfl rfl rfl rfl (P_ixa (1) rfl ty_ar_55 rfl rfl (by first | rfl | omega) (by omega)) ?_)
  refine O_val rfl rfl rfl rfl (V_load rfl rfl ty_sc_54 (Rd.blk .h0 rfl)) ?_
  refine O_pure rfl rfl rfl rfl (P_len rfl ty_sl_54 rfl) ?_
  refine O_keep rfl rfl (W_callV rfl rfl rfl rfl fn_ca_26 (around_ok at_ (sg1.length : Int) (by omega) (by omega)) (fun _ _ => trivial) (K_keep (Weak.refl _) ?_))
  refine E_as (t := 32) (v' := .int .i64 (ii : Int)) rfl (by rw [hii]) ?_
  refine O_pure rfl rfl rfl rfl (P_assign rfl rfl) ?_
  refine O_nil ?_
  refine St.env (.cons (t := 0) rfl (.cons (t := 1) rfl (.cons (t := 5) rfl (.cons (t := 6) rfl (.cons (t := 7) rfl .nil))))) ?_
  refine Q_then ?_
  refine R_seq ?_
  refine R_region ?_
  refine L_val rfl rfl rfl (V_loadAgg rfl rfl ty_ag_72 (Rds.blk .h1) (opC_length hsl)) ?_
  refine L_op rfl (W_call rfl rfl rfl rfl fn_ca_63 (message_ok kd wh at_ a base c xs sl tw lg hsl hxm) (Split.nil _) (fun w a b _ hb dj m_ => (Sn.old hpre).rw_ w ⟨_, hb, m_.le (Heap.le_join_right dj)⟩) fun v34 rs1 (e1 : rs1 = _) => ?_)
  subst e1
  rw [← hm]
  refine St.ownForm (p := []) fun ub uc hub_ huc => ?_
  subst hub_
  refine St.res (rs' := [blk w [.pointer (some ⟨p0, 0, none⟩), .pointer (some ⟨p1, 0, none⟩), .pointer (some ⟨q0, 0, none⟩), .pointer (some ⟨q1, 0, none⟩), .slice sb0 sg0.length sc0, .slice (some ⟨sbb, 0, none⟩) sg1.length sc1, .slice tb0 tg0.length tc0, .slice (some ⟨tbb, 0, none⟩) tg1.length tc1, .slice zb ss.length zc] 79, blk b5 (opC kd wh at_ a base xs.length c sl tw lg) 72, ownS 5 1 (.slice ub m.length uc) m.length (ints .u8 m), REG p1 (sg1) (rc1), REF q1 (tg1) (rc1), ownS 27 1 (.slice (some ⟨sbb, 0, none⟩) sg1.length sc1) (sg1).length (ptrs (sg1)), ownS 114 1 (.slice (some ⟨tbb, 0, none⟩) tg1.length tc1) (tg1).length (ptrs (tg1)), ownS 33 16 (.slice zb ss.length zc) (ss).length (flat .u8 (ss)), REG p0 (sg0) (rc0), REF q0 (tg0) (rc0), ownS 27 1 (.slice sb0 sg0.length sc0) (sg0).length (ptrs (sg0)), ownS 114 1 (.slice tb0 tg0.length tc0) (tg0).length (ptrs (tg0))]) (Weak.p1 (Weak.p1 (Weak.refl _))) ?_
  refine L_val rfl rfl rfl (OpP.v (P_assign rfl rfl)) ?_
  refine L_nil ?_
  refine St.env (.cons (t := 0) rfl (.cons (t := 1) rfl (.cons (t := 6) rfl (.cons (t := 7) rfl (.cons (t := 8) rfl .nil))))) ?_
  refine Q_then ?_
  refine R_seq ?_
  refine R_region ?_
  refine L_val rfl rfl rfl (OpP.v (P_move rfl rfl)) ?_
  refine L_op rfl (W_call rfl rfl rfl rfl fn_ca_64 (room_ok ub uc m hml) (Split.nil _) (fun w a b _ hb dj m_ => (Sn.own .h2 rfl).rw_ w ⟨_, hb, m_.le (Heap.le_join_right dj)⟩) fun v36 rs2 (e2 : rs2 = _) => ?_)
  subst e2
  refine St.ownSome (p := []) (by omega) fun fb fc hfv hfc => ?_
  subst hfv
  refine St.res (rs' := [blk w [.pointer (some ⟨p0, 0, none⟩), .pointer (some ⟨p1, 0, none⟩), .pointer (some ⟨q0, 0, none⟩), .pointer (some ⟨q1, 0, none⟩), .slice sb0 sg0.length sc0, .slice (some ⟨sbb, 0, none⟩) sg1.length sc1, .slice tb0 tg0.length tc0, .slice (some ⟨tbb, 0, none⟩) tg1.length tc1, .slice zb ss.length zc] 79, blk b5 (opC kd wh at_ a base xs.length c sl tw lg) 72, ownS 5 1 (.slice ub m.length uc) m.length (ints .u8 m), ownS 5 1 (.slice (some ⟨fb, 0, none⟩) (m.length + 3) fc) (m.length + 3) (ints .u8 (m ++ [201, 202, 203])), REG p1 (sg1) (rc1), REF q1 (tg1) (rc1), ownS 27 1 (.slice (some ⟨sbb, 0, none⟩) sg1.length sc1) (sg1).length (ptrs (sg1)), ownS 114 1 (.slice (some ⟨tbb, 0, none⟩) tg1.length tc1) (tg1).length (ptrs (tg1)), ownS 33 16 (.slice zb ss.length zc) (ss).length (flat .u8 (ss)), REG p0 (sg0) (rc0), REF q0 (tg0) (rc0), ownS 27 1 (.slice sb0 sg0.length sc0) (sg0).length (ptrs (sg0)), ownS 114 1 (.slice tb0 tg0.length tc0) (tg0).length (ptrs (tg0))]) (Weak.p1 (Weak.p1 (Weak.p1 (Weak.refl _)))) ?_
  refine L_val rfl rfl rfl (OpP.v (P_assign rfl rfl)) ?_
  refine L_nil ?_
  refine St.env (.cons (t := 0) rfl (.cons (t := 1) rfl (.cons (t := 6) rfl (.cons (t := 7) rfl (.cons (t := 8) rfl (.cons (t := 9) rfl .nil)))))) ?_
  refine Q_then ?_
  refine R_seq ?_
  refine TQ_open (.op 0 0 (.op 1 0 (.op 2 0 (.op 3 0 (.op 4 0 (.op 5 1 (.op 6 0 (.op 7 0 (.op 8 1 (.op 9 0 (.op 10 0 (.op 11 0 (.op 12 0 (.two 13 17 (.op 14 0 (.op 15 0 (.op 16 0 (.op 17 2 (.op 18 3 (.op 19 0 .nil)))))) (.op 13 2 (.op 14 0 (.op 15 0 (.op 16 0 (.op 18 3 (.op 19 0 .nil)))))))))))))))))))) [blk w [.pointer (some ⟨p0, 0, none⟩), .pointer (some ⟨p1, 0, none⟩), .pointer (some ⟨q0, 0, none⟩), .pointer (some ⟨q1, 0, none⟩), .slice sb0 sg0.length sc0, .slice (some ⟨sbb, 0, none⟩) sg1.length sc1, .slice tb0 tg0.length tc0, .slice (some ⟨tbb, 0, none⟩) tg1.length tc1, .slice zb ss.length zc] 79, blk b5 (opC kd wh at_ a base xs.length c sl tw lg) 72, ownS 5 1 (.slice ub m.length uc) m.length (ints .u8 m), ownS 5 1 (.slice (some ⟨fb, 0, none⟩) (m.length + 3) fc) (m.length + 3) (ints .u8 (m ++ [201, 202, 203])), REF q1 (tg1) (rc1), ownS 27 1 (.slice (some ⟨sbb, 0, none⟩) sg1.length sc1) (sg1).length (ptrs (sg1)), ownS 114 1 (.slice (some ⟨tbb, 0, none⟩) tg1.length tc1) (tg1).length (ptrs (tg1)), ownS 33 16 (.slice zb ss.length zc) (ss).length (flat .u8 (ss)), REG p0 (sg0) (rc0), REF q0 (tg0) (rc0), ownS 27 1 (.slice sb0 sg0.length sc0) (sg0).length (ptrs (sg0)), ownS 114 1 (.slice tb0 tg0.length tc0) (tg0).length (ptrs (tg0))] (Weak.keep (Weak.keep (Weak.keep (Weak.keep (Weak.pick (p := [_]) (Weak.pick (p := [_]) (Weak.pick (p := [_]) (Weak.pick (p := [_]) (Weak.pick (p := [_]) (Weak.pick (p := [_]) (Weak.pick (p := [_]) (Weak.pick (p := [_]) (Weak.nil _))))))))))))) mixed (by kernel_rfl) (QOk.then QOk.body) ?_
  refine TQ_pure rfl rfl rfl rfl (P_move rfl rfl) ?_
  refine TQ_pure rfl rfl rfl rfl (P_move rfl rfl) ?_
  refine TQ_pure rfl rfl rfl rfl (P_nil rfl rfl) ?_
  refine TQ_pure rfl rfl rfl rfl (P_fld0 rfl ty_fl_79_2 rfl) ?_
  first | (refine TQ_pure rfl rfl rfl rfl (P_ixa0 (1) rfl ty_ar_55 rfl rfl (by first | rfl | omega) (by omega)) ?_) | (refine TQ_pure rfl rfl rfl rfl (P_ixa (1) rfl ty_ar_55 rfl rfl (by first | rfl | omega) (by omega)) ?_)
  refine TQ_val rfl rfl rfl rfl (V_load rfl rfl ty_sc_54 (Rd.blk .h0 rfl)) ?_
  refine TQ_pure rfl rfl rfl rfl (P_move rfl rfl) ?_
  refine TQ_pure rfl rfl rfl rfl (P_ixs (ii) rfl ty_sl_54 rfl rfl (by first | rfl | omega) (by omega)) ?_
  refine TQ_val rfl rfl rfl rfl (V_load rfl rfl ty_sc_27 (rd_own1 .h5 (ptrs_at hs))) ?_
  refine TQ_pure rfl rfl rfl rfl (P_move rfl rfl) ?_
  refine TQ_pure rfl rfl rfl rfl (P_move rfl rfl) ?_
  refine TQ_pure rfl rfl rfl rfl (P_len rfl ty_sl_24 rfl) ?_
  refine TQ_pure rfl rfl rfl rfl (P_slice 0 m.length rfl ty_sl_24 rfl rfl ⟨_, rfl⟩ (by omega) (by omega)) ?_
  refine E_as (t := 50) (v' := .slice (some ⟨fb, 0, none⟩) m.length fc) rfl (by unfold sliced; rw [if_neg (by omega)]; simp [add_zero_off]) ?_
  refine TQ_two ?_ ?_
  · skip
    first | (refine TQ_keep rfl rfl (W_callR rfl rfl rfl rfl fn_ca_18 (sign_big p1 sg1 rc1 ii a1 s hs (some ⟨fb, 0, none⟩) fc m hbg) (Split.one (p := [_, _, _, _])) (fun _ _ _ _ _ _ _ => trivial) (K_keepTQ (Weak.drop (Weak.refl _)) ?_))) | (refine TQ_keep rfl rfl (W_callR rfl rfl rfl rfl fn_ca_18 (sign_big p1 sg1 rc1 ii a1 s hs (some ⟨fb, 0, none⟩) fc m hbg) (Split.one (p := [_, _, _, _, _])) (fun _ _ _ _ _ _ _ => trivial) (K_keepTQ (Weak.drop (Weak.drop (Weak.refl _))) ?_)))
    refine TQ_pure rfl rfl rfl rfl (P_move rfl rfl) ?_
    refine TQ_pure rfl rfl rfl rfl (P_extract rfl rfl rfl) ?_
    refine TQ_pure rfl rfl rfl rfl (P_extract rfl rfl rfl) ?_
    first | (refine TQ_keep rfl rfl (W_alloc rfl rfl rfl ty_ze_33 fun b10 => (K_keepTQ (Weak.drop (Weak.drop (Weak.refl _))) ?_))) | (refine TQ_keep rfl rfl (W_alloc rfl rfl rfl ty_ze_33 fun b10 => (K_keepTQ (Weak.pick (p := [_]) (Weak.pick (p := [_]) (Weak.pick (p := [_]) (Weak.pick (p := [_]) (Weak.pick (p := [_, _]) (Weak.pick (p := [_, _]) (Weak.pick (p := [_, _]) (Weak.pick (p := [_, _]) (Weak.pick (p := [_, _]) (Weak.pick (p := [_, _]) (Weak.pick (p := [_, _]) (Weak.pick (p := [_, _]) (Weak.nil _))))))))))))) ?_)))
    first | (refine TQ_new rfl rfl (W_storeAll rfl rfl rfl rfl ty_ag_33 (by rw [ints_length]; exact List.length_replicate) (ints_one) .h0 (by rw [ints_length]; exact (List.length_replicate).trans rfl) (K_newTQ ?_))) | (refine TQ_new rfl rfl (W_storeAll rfl rfl rfl rfl ty_ag_33 (by rw [ints_length]; exact List.length_replicate) (ints_one) .h1 (by rw [ints_length]; exact (List.length_replicate).trans rfl) (K_newTQ ?_)))
    refine TQ_pure rfl rfl rfl rfl (P_assign rfl rfl) ?_
    refine TQ_nil ?_
    refine St.env (.cons (t := 0) rfl (.cons (t := 1) rfl (.cons (t := 6) rfl (.cons (t := 7) rfl (.cons (t := 8) rfl (.cons (t := 9) rfl (.cons (t := 10) rfl (.cons (t := 11) rfl .nil)))))))) ?_
    refine Q_then ?_
    refine R_seq ?_
    refine St.res (rs' := [blk w [.pointer (some ⟨p0, 0, none⟩), .pointer (some ⟨p1, 0, none⟩), .pointer (some ⟨q0, 0, none⟩), .pointer (some ⟨q1, 0, none⟩), .slice sb0 sg0.length sc0, .slice (some ⟨sbb, 0, none⟩) sg1.length sc1, .slice tb0 tg0.length tc0, .slice (some ⟨tbb, 0, none⟩) tg1.length tc1, .slice zb ss.length zc] 79, blk b5 (opC kd wh at_ a base xs.length c sl tw lg) 72, ownS 5 1 (.slice ub m.length uc) m.length (ints .u8 m), ownS 5 1 (.slice (some ⟨fb, 0, none⟩) (m.length + 3) fc) (m.length + 3) (ints .u8 (m ++ [201, 202, 203])), blk b10 (ints .u8 (List.replicate 16 0)) 33, REG p1 (sg1) (rc1), REF q1 (tg1) (rc1), ownS 27 1 (.slice (some ⟨sbb, 0, none⟩) sg1.length sc1) (sg1).length (ptrs (sg1)), ownS 114 1 (.slice (some ⟨tbb, 0, none⟩) tg1.length tc1) (tg1).length (ptrs (tg1)), ownS 33 16 (.slice zb ss.length zc) (ss).length (flat .u8 (ss)), REG p0 (sg0) (rc0), REF q0 (tg0) (rc0), ownS 27 1 (.slice sb0 sg0.length sc0) (sg0).length (ptrs (sg0)), ownS 114 1 (.slice tb0 tg0.length tc0) (tg0).length (ptrs (tg0))]) (by first | exact Weak.pick (p := [_, _]) (Weak.pick (p := [_, _]) (Weak.pick (p := [_, _]) (Weak.pick (p := [_, _]) (Weak.keep (Weak.keep (Weak.keep (Weak.keep (Weak.keep (Weak.keep (Weak.keep (Weak.keep (Weak.keep (Weak.keep (Weak.nil _)))))))))))))) | exact Weak.pick (p := [_, _]) (Weak.pick (p := [_, _]) (Weak.pick (p := [_, _]) (Weak.pick (p := [_, _]) (Weak.pick (p := [_]) (Weak.keep (Weak.keep (Weak.keep (Weak.keep (Weak.keep (Weak.keep (Weak.keep (Weak.keep (Weak.keep (Weak.nil _))))))))))))))) ?_
    refine R_region ?_
    refine L_val rfl rfl rfl (OpP.v (P_move rfl rfl)) ?_
    refine L_val rfl rfl rfl (OpP.v (P_move rfl rfl)) ?_
    refine L_val rfl rfl rfl (OpP.v (P_nil rfl rfl)) ?_
    refine L_val rfl rfl rfl (OpP.v (P_fld0 rfl ty_fl_79_3 rfl)) ?_
    first | (refine L_val rfl rfl rfl (OpP.v (P_ixa0 (1) rfl ty_ar_76 rfl rfl (by first | rfl | omega) (by omega))) ?_) | (refine L_val rfl rfl rfl (OpP.v (P_ixa (1) rfl ty_ar_76 rfl rfl (by first | rfl | omega) (by omega))) ?_)
    refine L_val rfl rfl rfl (V_load rfl rfl ty_sc_75 (Rd.blk .h0 rfl)) ?_
    refine L_val rfl rfl rfl (OpP.v (P_move rfl rfl)) ?_
    refine L_val rfl rfl rfl (OpP.v (P_ixs (ii) rfl ty_sl_75 rfl rfl (by first | rfl | omega) (by omega))) ?_
    refine L_val rfl rfl rfl (V_load rfl rfl ty_sc_114 (rd_own1 .h8 (ptrs_at ht))) ?_
    refine L_val rfl rfl rfl (OpP.v (P_move rfl rfl)) ?_
    refine L_op rfl (W_callR rfl rfl rfl rfl fn_ca_65 (rsign_big q1 tg1 rc1 ii a1 t ht ub uc m hbg) (Split.one (p := [_, _, _, _, _, _])) (fun _ _ _ _ _ _ _ => trivial) ?_)
    refine St.res (rs' := [blk w [.pointer (some ⟨p0, 0, none⟩), .pointer (some ⟨p1, 0, none⟩), .pointer (some ⟨q0, 0, none⟩), .pointer (some ⟨q1, 0, none⟩), .slice sb0 sg0.length sc0, .slice (some ⟨sbb, 0, none⟩) sg1.length sc1, .slice tb0 tg0.length tc0, .slice (some ⟨tbb, 0, none⟩) tg1.length tc1, .slice zb ss.length zc] 79, blk b5 (opC kd wh at_ a base xs.length c sl tw lg) 72, ownS 5 1 (.slice ub m.length uc) m.length (ints .u8 m), ownS 5 1 (.slice (some ⟨fb, 0, none⟩) (m.length + 3) fc) (m.length + 3) (ints .u8 (m ++ [201, 202, 203])), blk b10 (ints .u8 (List.replicate 16 0)) 33, REG p1 (sg1) (rc1), REF q1 (tg1) (rc1), ownS 27 1 (.slice (some ⟨sbb, 0, none⟩) sg1.length sc1) (sg1).length (ptrs (sg1)), ownS 114 1 (.slice (some ⟨tbb, 0, none⟩) tg1.length tc1) (tg1).length (ptrs (tg1)), ownS 33 16 (.slice zb ss.length zc) (ss).length (flat .u8 (ss)), REG p0 (sg0) (rc0), REF q0 (tg0) (rc0), ownS 27 1 (.slice sb0 sg0.length sc0) (sg0).length (ptrs (sg0)), ownS 114 1 (.slice tb0 tg0.length tc0) (tg0).length (ptrs (tg0))]) (Weak.p1 (Weak.p1 (Weak.p1 (Weak.p1 (Weak.p1 (Weak.p1 (Weak.refl _))))))) ?_
    refine L_val rfl rfl rfl (OpP.v (P_move rfl rfl)) ?_
    refine L_val rfl rfl rfl (OpP.v (P_extract rfl rfl rfl)) ?_
    refine L_val rfl rfl rfl (OpP.v (P_extract rfl rfl rfl)) ?_
    refine L_op rfl (W_alloc rfl rfl rfl ty_ze_33 fun b12 => ?_)
    refine L_op rfl (W_storeAll rfl rfl rfl rfl ty_ag_33 (by rw [ints_length]; exact List.length_replicate) (ints_one) .h0 (by rw [ints_length]; exact (List.length_replicate).trans rfl) ?_)
    refine L_val rfl rfl rfl (OpP.v (P_assign rfl rfl)) ?_
    refine L_nil ?_
    refine St.env (.cons (t := 0) rfl (.cons (t := 6) rfl (.cons (t := 8) rfl (.cons (t := 9) rfl (.cons (t := 10) rfl (.cons (t := 11) rfl (.cons (t := 12) rfl (.cons (t := 13) rfl .nil)))))))) ?_
    refine Q_then ?_
    refine R_seq ?_
    refine St.res (rs' := [blk w [.pointer (some ⟨p0, 0, none⟩), .pointer (some ⟨p1, 0, none⟩), .pointer (some ⟨q0, 0, none⟩), .pointer (some ⟨q1, 0, none⟩), .slice sb0 sg0.length sc0, .slice (some ⟨sbb, 0, none⟩) sg1.length sc1, .slice tb0 tg0.length tc0, .slice (some ⟨tbb, 0, none⟩) tg1.length tc1, .slice zb ss.length zc] 79, blk b5 (opC kd wh at_ a base xs.length c sl tw lg) 72, ownS 5 1 (.slice ub m.length uc) m.length (ints .u8 m), ownS 5 1 (.slice (some ⟨fb, 0, none⟩) (m.length + 3) fc) (m.length + 3) (ints .u8 (m ++ [201, 202, 203])), blk b10 (ints .u8 (List.replicate 16 0)) 33, blk b12 (ints .u8 (List.replicate 16 0)) 33, REG p1 (sg1) (rc1), REF q1 (tg1) (rc1), ownS 27 1 (.slice (some ⟨sbb, 0, none⟩) sg1.length sc1) (sg1).length (ptrs (sg1)), ownS 114 1 (.slice (some ⟨tbb, 0, none⟩) tg1.length tc1) (tg1).length (ptrs (tg1)), ownS 33 16 (.slice zb ss.length zc) (ss).length (flat .u8 (ss)), REG p0 (sg0) (rc0), REF q0 (tg0) (rc0), ownS 27 1 (.slice sb0 sg0.length sc0) (sg0).length (ptrs (sg0)), ownS 114 1 (.slice tb0 tg0.length tc0) (tg0).length (ptrs (tg0))]) (Weak.p1 (Weak.p1 (Weak.p1 (Weak.p1 (Weak.p1 (Weak.refl _)))))) ?_
    refine R_region ?_
    refine L_val rfl rfl rfl (OpP.v (P_move rfl rfl)) ?_
    refine L_val rfl rfl rfl (OpP.v (P_move rfl rfl)) ?_
    refine L_op rfl (W_callV rfl rfl rfl rfl fn_ca_66 (left_ok fb fc ub uc m hfc hml hmb) (fun w nw => ⟨(Sn.own .h3 rfl).rowAt0 (fun _ _ h => h) w nw, (Sn.own .h2 rfl).rw_ w nw⟩) ?_)
    refine E_true (t := 70) rfl (rfl) ?_
    refine L_val rfl rfl rfl (OpP.v (P_assign rfl rfl)) ?_
    refine L_nil ?_
    refine St.env (.cons (t := 0) rfl (.cons (t := 6) rfl (.cons (t := 9) rfl (.cons (t := 10) rfl (.cons (t := 11) rfl (.cons (t := 12) rfl (.cons (t := 13) rfl (.cons (t := 14) rfl .nil)))))))) ?_
    refine Q_then ?_
    refine R_seq ?_
    refine R_region ?_
    refine L_val rfl rfl rfl (OpP.v (P_move rfl rfl)) ?_
    refine L_op rfl (W_callR rfl rfl rfl rfl fn_ca_67 (by have h := spoil_ok (gl := gl) fb fc (m ++ [201, 202, 203]) (by rw [List.length_append]; show m.length + 3 ≤ _; omega); rw [List.length_append] at h; exact h) (Split.one (p := [_, _, _])) (fun _ _ _ _ _ _ _ => trivial) ?_)
    refine St.res (rs' := [blk w [.pointer (some ⟨p0, 0, none⟩), .pointer (some ⟨p1, 0, none⟩), .pointer (some ⟨q0, 0, none⟩), .pointer (some ⟨q1, 0, none⟩), .slice sb0 sg0.length sc0, .slice (some ⟨sbb, 0, none⟩) sg1.length sc1, .slice tb0 tg0.length tc0, .slice (some ⟨tbb, 0, none⟩) tg1.length tc1, .slice zb ss.length zc] 79, blk b5 (opC kd wh at_ a base xs.length c sl tw lg) 72, ownS 5 1 (.slice ub m.length uc) m.length (ints .u8 m), blk b10 (ints .u8 (List.replicate 16 0)) 33, blk b12 (ints .u8 (List.replicate 16 0)) 33, REG p1 (sg1) (rc1), REF q1 (tg1) (rc1), ownS 27 1 (.slice (some ⟨sbb, 0, none⟩) sg1.length sc1) (sg1).length (ptrs (sg1)), ownS 114 1 (.slice (some ⟨tbb, 0, none⟩) tg1.length tc1) (tg1).length (ptrs (tg1)), ownS 33 16 (.slice zb ss.length zc) (ss).length (flat .u8 (ss)), REG p0 (sg0) (rc0), REF q0 (tg0) (rc0), ownS 27 1 (.slice sb0 sg0.length sc0) (sg0).length (ptrs (sg0)), ownS 114 1 (.slice tb0 tg0.length tc0) (tg0).length (ptrs (tg0))]) (Weak.drop (Weak.refl _)) ?_
    refine L_nil ?_
    refine St.env (.cons (t := 0) rfl (.cons (t := 6) rfl (.cons (t := 10) rfl (.cons (t := 11) rfl (.cons (t := 12) rfl (.cons (t := 13) rfl (.cons (t := 14) rfl .nil))))))) ?_
    refine Q_then ?_
    refine R_seq ?_
    refine R_seq ?_
    refine R_region ?_
    refine L_val rfl rfl rfl (OpP.v (P_move rfl rfl)) ?_
    refine L_op rfl (W_callV rfl rfl rfl rfl fn_ca_17 (num_ok 4) (fun _ _ => trivial) ?_)
    refine L_val rfl rfl rfl (OpP.v (P_eql rfl rfl rfl)) ?_
    refine E_false (t := 75) rfl (rfl) ?_
    refine L_nil ?_
    refine St.env (.cons (t := 0) rfl (.cons (t := 6) rfl (.cons (t := 10) rfl (.cons (t := 11) rfl (.cons (t := 12) rfl (.cons (t := 13) rfl (.cons (t := 14) rfl (.cons (t := 75) rfl .nil)))))))) ?_
    refine Q_then ?_
    refine R_condF rfl ?_
    refine R_skip ?_
    refine Q_then ?_
    refine R_seq ?_
    refine R_region ?_
    refine L_val rfl rfl rfl (OpP.v (P_move rfl rfl)) ?_
    refine L_val rfl rfl rfl (OpP.v (P_move rfl rfl)) ?_
    refine L_val rfl rfl rfl (V_loadAgg rfl rfl ty_ag_33 (Rds.blk .h3) (by rw [ints_length]; exact List.length_replicate)) ?_
    refine L_val rfl rfl rfl (V_loadAgg rfl rfl ty_ag_33 (Rds.blk .h4) (by rw [ints_length]; exact List.length_replicate)) ?_
    refine L_val rfl rfl rfl (OpP.v (P_eqArr rfl rfl rfl ty_un_33 ty_int_5 ty_sc_5 ty_eg_33 (List.length_replicate) (List.length_replicate))) ?_
    refine E_true (t := 90) rfl (decide_eq_true rfl) ?_
    refine L_val rfl rfl rfl (OpP.v (P_pick rfl rfl rfl)) ?_
    refine L_val rfl rfl rfl (OpP.v (P_move rfl rfl)) ?_
    refine L_val rfl rfl rfl (OpP.v (P_move rfl rfl)) ?_
    refine L_op rfl (W_callV rfl rfl rfl rfl fn_ca_17 (num_ok 4) (fun _ _ => trivial) ?_)
    refine L_val rfl rfl rfl (OpP.v (P_move rfl rfl)) ?_
    refine L_op rfl (W_callV rfl rfl rfl rfl fn_ca_17 (num_ok 4) (fun _ _ => trivial) ?_)
    refine L_val rfl rfl rfl (OpP.v (P_eql rfl rfl rfl)) ?_
    refine E_true (t := 97) rfl (rfl) ?_
    refine L_val rfl rfl rfl (OpP.v (P_pick rfl rfl rfl)) ?_
    refine L_val rfl rfl rfl (OpP.v (P_assign rfl rfl)) ?_
    refine L_nil ?_
    refine St.env (.cons (t := 6) rfl .nil) ?_
    refine Q_then ?_
    refine R_ret ?_
    exact R_end (rs2 := [TWO w (n + 1)]) rfl rfl (.tmp rfl .nil) (⟨rfl, rfl⟩) ((Weak.keep (Weak.drop (Weak.drop (Weak.drop (Weak.drop (Weak.refl _)))))).trans ((Weak.keep (Weak.pick (p := [_, _, _, _, _]) (Weak.pick (p := [_, _, _, _, _]) (Weak.pick (p := [_, _, _, _, _]) (Weak.pick (p := [_, _, _, _, _]) (Weak.keep (Weak.keep (Weak.keep (Weak.keep (Weak.keep (Weak.nil _))))))))))).trans (two_close (n := n + 1) (rs := []) ⟨⟨p0, q0, sg0, tg0, rc0, .slice sb0 sg0.length sc0, .slice tb0 tg0.length tc0⟩, ⟨p1, q1, sg1, tg1, rc1, .slice (some ⟨sbb, 0, none⟩) sg1.length sc1, .slice (some ⟨tbb, 0, none⟩) tg1.length tc1⟩, .slice zb ss.length zc, ss⟩ ⟨⟨hen0, Nat.le_succ_of_le hs0, Nat.le_succ_of_le hr0⟩, ⟨hen1, Nat.le_succ_of_le hs1, Nat.le_succ_of_le hr1⟩, Nat.le_succ_of_le hzl, hz16⟩)))
  · skip
    first | (refine TQ_keep rfl rfl (W_alloc rfl rfl rfl ty_ze_33 fun b10 => (K_keepTQ (Weak.drop (Weak.drop (Weak.refl _))) ?_))) | (refine TQ_keep rfl rfl (W_alloc rfl rfl rfl ty_ze_33 fun b10 => (K_keepTQ (Weak.pick (p := [_]) (Weak.pick (p := [_]) (Weak.pick (p := [_]) (Weak.pick (p := [_]) (Weak.pick (p := [_, _]) (Weak.pick (p := [_, _]) (Weak.pick (p := [_, _]) (Weak.pick (p := [_, _]) (Weak.pick (p := [_, _]) (Weak.pick (p := [_, _]) (Weak.pick (p := [_, _]) (Weak.pick (p := [_, _]) (Weak.nil _))))))))))))) ?_)))
    first | (refine TQ_keep rfl rfl (W_callR rfl rfl rfl rfl fn_ca_18 (sign_big p1 sg1 rc1 ii a1 s hs (some ⟨fb, 0, none⟩) fc m hbg) (Split.one (p := [_, _, _, _])) (fun _ _ _ _ _ _ _ => trivial) (K_keepTQ (Weak.drop (Weak.refl _)) ?_))) | (refine TQ_keep rfl rfl (W_callR rfl rfl rfl rfl fn_ca_18 (sign_big p1 sg1 rc1 ii a1 s hs (some ⟨fb, 0, none⟩) fc m hbg) (Split.one (p := [_, _, _, _, _])) (fun _ _ _ _ _ _ _ => trivial) (K_keepTQ (Weak.drop (Weak.drop (Weak.refl _))) ?_)))
    refine TQ_pure rfl rfl rfl rfl (P_move rfl rfl) ?_
    refine TQ_pure rfl rfl rfl rfl (P_extract rfl rfl rfl) ?_
    refine TQ_pure rfl rfl rfl rfl (P_extract rfl rfl rfl) ?_
    first | (refine TQ_new rfl rfl (W_storeAll rfl rfl rfl rfl ty_ag_33 (by rw [ints_length]; exact List.length_replicate) (ints_one) .h0 (by rw [ints_length]; exact (List.length_replicate).trans rfl) (K_newTQ ?_))) | (refine TQ_new rfl rfl (W_storeAll rfl rfl rfl rfl ty_ag_33 (by rw [ints_length]; exact List.length_replicate) (ints_one) .h1 (by rw [ints_length]; exact (List.length_replicate).trans rfl) (K_newTQ ?_)))
    refine TQ_pure rfl rfl rfl rfl (P_assign rfl rfl) ?_
    refine TQ_nil ?_
    refine St.env (.cons (t := 0) rfl (.cons (t := 1) rfl (.cons (t := 6) rfl (.cons (t := 7) rfl (.cons (t := 8) rfl (.cons (t := 9) rfl (.cons (t := 10) rfl (.cons (t := 11) rfl .nil)))))))) ?_
    refine Q_then ?_
    refine R_seq ?_
    refine St.res (rs' := [blk w [.pointer (some ⟨p0, 0, none⟩), .pointer (some ⟨p1, 0, none⟩), .pointer (some ⟨q0, 0, none⟩), .pointer (some ⟨q1, 0, none⟩), .slice sb0 sg0.length sc0, .slice (some ⟨sbb, 0, none⟩) sg1.length sc1, .slice tb0 tg0.length tc0, .slice (some ⟨tbb, 0, none⟩) tg1.length tc1, .slice zb ss.length zc] 79, blk b5 (opC kd wh at_ a base xs.length c sl tw lg) 72, ownS 5 1 (.slice ub m.length uc) m.length (ints .u8 m), ownS 5 1 (.slice (some ⟨fb, 0, none⟩) (m.length + 3) fc) (m.length + 3) (ints .u8 (m ++ [201, 202, 203])), blk b10 (ints .u8 (List.replicate 16 0)) 33, REG p1 (sg1) (rc1), REF q1 (tg1) (rc1), ownS 27 1 (.slice (some ⟨sbb, 0, none⟩) sg1.length sc1) (sg1).length (ptrs (sg1)), ownS 114 1 (.slice (some ⟨tbb, 0, none⟩) tg1.length tc1) (tg1).length (ptrs (tg1)), ownS 33 16 (.slice zb ss.length zc) (ss).length (flat .u8 (ss)), REG p0 (sg0) (rc0), REF q0 (tg0) (rc0), ownS 27 1 (.slice sb0 sg0.length sc0) (sg0).length (ptrs (sg0)), ownS 114 1 (.slice tb0 tg0.length tc0) (tg0).length (ptrs (tg0))]) (by first | exact Weak.pick (p := [_, _]) (Weak.pick (p := [_, _]) (Weak.pick (p := [_, _]) (Weak.pick (p := [_, _]) (Weak.keep (Weak.keep (Weak.keep (Weak.keep (Weak.keep (Weak.keep (Weak.keep (Weak.keep (Weak.keep (Weak.keep (Weak.nil _)))))))))))))) | exact Weak.pick (p := [_, _]) (Weak.pick (p := [_, _]) (Weak.pick (p := [_, _]) (Weak.pick (p := [_, _]) (Weak.pick (p := [_]) (Weak.keep (Weak.keep (Weak.keep (Weak.keep (Weak.keep (Weak.keep (Weak.keep (Weak.keep (Weak.keep (Weak.nil _))))))))))))))) ?_
    refine R_region ?_
    refine L_val rfl rfl rfl (OpP.v (P_move rfl rfl)) ?_
    refine L_val rfl rfl rfl (OpP.v (P_move rfl rfl)) ?_
    refine L_val rfl rfl rfl (OpP.v (P_nil rfl rfl)) ?_
    refine L_val rfl rfl rfl (OpP.v (P_fld0 rfl ty_fl_79_3 rfl)) ?_
    first | (refine L_val rfl rfl rfl (OpP.v (P_ixa0 (1) rfl ty_ar_76 rfl rfl (by first | rfl | omega) (by omega))) ?_) | (refine L_val rfl rfl rfl (OpP.v (P_ixa (1) rfl ty_ar_76 rfl rfl (by first | rfl | omega) (by omega))) ?_)
    refine L_val rfl rfl rfl (V_load rfl rfl ty_sc_75 (Rd.blk .h0 rfl)) ?_
    refine L_val rfl rfl rfl (OpP.v (P_move rfl rfl)) ?_
    refine L_val rfl rfl rfl (OpP.v (P_ixs (ii) rfl ty_sl_75 rfl rfl (by first | rfl | omega) (by omega))) ?_
    refine L_val rfl rfl rfl (V_load rfl rfl ty_sc_114 (rd_own1 .h8 (ptrs_at ht))) ?_
    refine L_val rfl rfl rfl (OpP.v (P_move rfl rfl)) ?_
    refine L_op rfl (W_callR rfl rfl rfl rfl fn_ca_65 (rsign_big q1 tg1 rc1 ii a1 t ht ub uc m hbg) (Split.one (p := [_, _, _, _, _, _])) (fun _ _ _ _ _ _ _ => trivial) ?_)
    refine St.res (rs' := [blk w [.pointer (some ⟨p0, 0, none⟩), .pointer (some ⟨p1, 0, none⟩), .pointer (some ⟨q0, 0, none⟩), .pointer (some ⟨q1, 0, none⟩), .slice sb0 sg0.length sc0, .slice (some ⟨sbb, 0, none⟩) sg1.length sc1, .slice tb0 tg0.length tc0, .slice (some ⟨tbb, 0, none⟩) tg1.length tc1, .slice zb ss.length zc] 79, blk b5 (opC kd wh at_ a base xs.length c sl tw lg) 72, ownS 5 1 (.slice ub m.length uc) m.length (ints .u8 m), ownS 5 1 (.slice (some ⟨fb, 0, none⟩) (m.length + 3) fc) (m.length + 3) (ints .u8 (m ++ [201, 202, 203])), blk b10 (ints .u8 (List.replicate 16 0)) 33, REG p1 (sg1) (rc1), REF q1 (tg1) (rc1), ownS 27 1 (.slice (some ⟨sbb, 0, none⟩) sg1.length sc1) (sg1).length (ptrs (sg1)), ownS 114 1 (.slice (some ⟨tbb, 0, none⟩) tg1.length tc1) (tg1).length (ptrs (tg1)), ownS 33 16 (.slice zb ss.length zc) (ss).length (flat .u8 (ss)), REG p0 (sg0) (rc0), REF q0 (tg0) (rc0), ownS 27 1 (.slice sb0 sg0.length sc0) (sg0).length (ptrs (sg0)), ownS 114 1 (.slice tb0 tg0.length tc0) (tg0).length (ptrs (tg0))]) (Weak.p1 (Weak.p1 (Weak.p1 (Weak.p1 (Weak.p1 (Weak.p1 (Weak.refl _))))))) ?_
    refine L_val rfl rfl rfl (OpP.v (P_move rfl rfl)) ?_
    refine L_val rfl rfl rfl (OpP.v (P_extract rfl rfl rfl)) ?_
    refine L_val rfl rfl rfl (OpP.v (P_extract rfl rfl rfl)) ?_
    refine L_op rfl (W_alloc rfl rfl rfl ty_ze_33 fun b12 => ?_)
    refine L_op rfl (W_storeAll rfl rfl rfl rfl ty_ag_33 (by rw [ints_length]; exact List.length_replicate) (ints_one) .h0 (by rw [ints_length]; exact (List.length_replicate).trans rfl) ?_)
    refine L_val rfl rfl rfl (OpP.v (P_assign rfl rfl)) ?_
    refine L_nil ?_
    refine St.env (.cons (t := 0) rfl (.cons (t := 6) rfl (.cons (t := 8) rfl (.cons (t := 9) rfl (.cons (t := 10) rfl (.cons (t := 11) rfl (.cons (t := 12) rfl (.cons (t := 13) rfl .nil)))))))) ?_
    refine Q_then ?_
    refine R_seq ?_
    refine St.res (rs' := [blk w [.pointer (some ⟨p0, 0, none⟩), .pointer (some ⟨p1, 0, none⟩), .pointer (some ⟨q0, 0, none⟩), .pointer (some ⟨q1, 0, none⟩), .slice sb0 sg0.length sc0, .slice (some ⟨sbb, 0, none⟩) sg1.length sc1, .slice tb0 tg0.length tc0, .slice (some ⟨tbb, 0, none⟩) tg1.length tc1, .slice zb ss.length zc] 79, blk b5 (opC kd wh at_ a base xs.length c sl tw lg) 72, ownS 5 1 (.slice ub m.length uc) m.length (ints .u8 m), ownS 5 1 (.slice (some ⟨fb, 0, none⟩) (m.length + 3) fc) (m.length + 3) (ints .u8 (m ++ [201, 202, 203])), blk b10 (ints .u8 (List.replicate 16 0)) 33, blk b12 (ints .u8 (List.replicate 16 0)) 33, REG p1 (sg1) (rc1), REF q1 (tg1) (rc1), ownS 27 1 (.slice (some ⟨sbb, 0, none⟩) sg1.length sc1) (sg1).length (ptrs (sg1)), ownS 114 1 (.slice (some ⟨tbb, 0, none⟩) tg1.length tc1) (tg1).length (ptrs (tg1)), ownS 33 16 (.slice zb ss.length zc) (ss).length (flat .u8 (ss)), REG p0 (sg0) (rc0), REF q0 (tg0) (rc0), ownS 27 1 (.slice sb0 sg0.length sc0) (sg0).length (ptrs (sg0)), ownS 114 1 (.slice tb0 tg0.length tc0) (tg0).length (ptrs (tg0))]) (Weak.p1 (Weak.p1 (Weak.p1 (Weak.p1 (Weak.p1 (Weak.refl _)))))) ?_
    refine R_region ?_
    refine L_val rfl rfl rfl (OpP.v (P_move rfl rfl)) ?_
    refine L_val rfl rfl rfl (OpP.v (P_move rfl rfl)) ?_
    refine L_op rfl (W_callV rfl rfl rfl rfl fn_ca_66 (left_ok fb fc ub uc m hfc hml hmb) (fun w nw => ⟨(Sn.own .h3 rfl).rowAt0 (fun _ _ h => h) w nw, (Sn.own .h2 rfl).rw_ w nw⟩) ?_)
    refine E_true (t := 70) rfl (rfl) ?_
    refine L_val rfl rfl rfl (OpP.v (P_assign rfl rfl)) ?_
    refine L_nil ?_
    refine St.env (.cons (t := 0) rfl (.cons (t := 6) rfl (.cons (t := 9) rfl (.cons (t := 10) rfl (.cons (t := 11) rfl (.cons (t := 12) rfl (.cons (t := 13) rfl (.cons (t := 14) rfl .nil)))))))) ?_
    refine Q_then ?_
    refine R_seq ?_
    refine R_region ?_
    refine L_val rfl rfl rfl (OpP.v (P_move rfl rfl)) ?_
    refine L_op rfl (W_callR rfl rfl rfl rfl fn_ca_67 (by have h := spoil_ok (gl := gl) fb fc (m ++ [201, 202, 203]) (by rw [List.length_append]; show m.length + 3 ≤ _; omega); rw [List.length_append] at h; exact h) (Split.one (p := [_, _, _])) (fun _ _ _ _ _ _ _ => trivial) ?_)
    refine St.res (rs' := [blk w [.pointer (some ⟨p0, 0, none⟩), .pointer (some ⟨p1, 0, none⟩), .pointer (some ⟨q0, 0, none⟩), .pointer (some ⟨q1, 0, none⟩), .slice sb0 sg0.length sc0, .slice (some ⟨sbb, 0, none⟩) sg1.length sc1, .slice tb0 tg0.length tc0, .slice (some ⟨tbb, 0, none⟩) tg1.length tc1, .slice zb ss.length zc] 79, blk b5 (opC kd wh at_ a base xs.length c sl tw lg) 72, ownS 5 1 (.slice ub m.length uc) m.length (ints .u8 m), blk b10 (ints .u8 (List.replicate 16 0)) 33, blk b12 (ints .u8 (List.replicate 16 0)) 33, REG p1 (sg1) (rc1), REF q1 (tg1) (rc1), ownS 27 1 (.slice (some ⟨sbb, 0, none⟩) sg1.length sc1) (sg1).length (ptrs (sg1)), ownS 114 1 (.slice (some ⟨tbb, 0, none⟩) tg1.length tc1) (tg1).length (ptrs (tg1)), ownS 33 16 (.slice zb ss.length zc) (ss).length (flat .u8 (ss)), REG p0 (sg0) (rc0), REF q0 (tg0) (rc0), ownS 27 1 (.slice sb0 sg0.length sc0) (sg0).length (ptrs (sg0)), ownS 114 1 (.slice tb0 tg0.length tc0) (tg0).length (ptrs (tg0))]) (Weak.drop (Weak.refl _)) ?_
    refine L_nil ?_
    refine St.env (.cons (t := 0) rfl (.cons (t := 6) rfl (.cons (t := 10) rfl (.cons (t := 11) rfl (.cons (t := 12) rfl (.cons (t := 13) rfl (.cons (t := 14) rfl .nil))))))) ?_
    refine Q_then ?_
    refine R_seq ?_
    refine R_seq ?_
    refine R_region ?_
    refine L_val rfl rfl rfl (OpP.v (P_move rfl rfl)) ?_
    refine L_op rfl (W_callV rfl rfl rfl rfl fn_ca_17 (num_ok 4) (fun _ _ => trivial) ?_)
    refine L_val rfl rfl rfl (OpP.v (P_eql rfl rfl rfl)) ?_
    refine E_false (t := 75) rfl (rfl) ?_
    refine L_nil ?_
    refine St.env (.cons (t := 0) rfl (.cons (t := 6) rfl (.cons (t := 10) rfl (.cons (t := 11) rfl (.cons (t := 12) rfl (.cons (t := 13) rfl (.cons (t := 14) rfl (.cons (t := 75) rfl .nil)))))))) ?_
    refine Q_then ?_
    refine R_condF rfl ?_
    refine R_skip ?_
    refine Q_then ?_
    refine R_seq ?_
    refine R_region ?_
    refine L_val rfl rfl rfl (OpP.v (P_move rfl rfl)) ?_
    refine L_val rfl rfl rfl (OpP.v (P_move rfl rfl)) ?_
    refine L_val rfl rfl rfl (V_loadAgg rfl rfl ty_ag_33 (Rds.blk .h3) (by rw [ints_length]; exact List.length_replicate)) ?_
    refine L_val rfl rfl rfl (V_loadAgg rfl rfl ty_ag_33 (Rds.blk .h4) (by rw [ints_length]; exact List.length_replicate)) ?_
    refine L_val rfl rfl rfl (OpP.v (P_eqArr rfl rfl rfl ty_un_33 ty_int_5 ty_sc_5 ty_eg_33 (List.length_replicate) (List.length_replicate))) ?_
    refine E_true (t := 90) rfl (decide_eq_true rfl) ?_
    refine L_val rfl rfl rfl (OpP.v (P_pick rfl rfl rfl)) ?_
    refine L_val rfl rfl rfl (OpP.v (P_move rfl rfl)) ?_
    refine L_val rfl rfl rfl (OpP.v (P_move rfl rfl)) ?_
    refine L_op rfl (W_callV rfl rfl rfl rfl fn_ca_17 (num_ok 4) (fun _ _ => trivial) ?_)
    refine L_val rfl rfl rfl (OpP.v (P_move rfl rfl)) ?_
    refine L_op rfl (W_callV rfl rfl rfl rfl fn_ca_17 (num_ok 4) (fun _ _ => trivial) ?_)
    refine L_val rfl rfl rfl (OpP.v (P_eql rfl rfl rfl)) ?_
    refine E_true (t := 97) rfl (rfl) ?_
    refine L_val rfl rfl rfl (OpP.v (P_pick rfl rfl rfl)) ?_
    refine L_val rfl rfl rfl (OpP.v (P_assign rfl rfl)) ?_
    refine L_nil ?_
    refine St.env (.cons (t := 6) rfl .nil) ?_
    refine Q_then ?_
    refine R_ret ?_
    exact R_end (rs2 := [TWO w (n + 1)]) rfl rfl (.tmp rfl .nil) (⟨rfl, rfl⟩) ((Weak.keep (Weak.drop (Weak.drop (Weak.drop (Weak.drop (Weak.refl _)))))).trans ((Weak.keep (Weak.pick (p := [_, _, _, _, _]) (Weak.pick (p := [_, _, _, _, _]) (Weak.pick (p := [_, _, _, _, _]) (Weak.pick (p := [_, _, _, _, _]) (Weak.keep (Weak.keep (Weak.keep (Weak.keep (Weak.keep (Weak.nil _))))))))))).trans (two_close (n := n + 1) (rs := []) ⟨⟨p0, q0, sg0, tg0, rc0, .slice sb0 sg0.length sc0, .slice tb0 tg0.length tc0⟩, ⟨p1, q1, sg1, tg1, rc1, .slice (some ⟨sbb, 0, none⟩) sg1.length sc1, .slice (some ⟨tbb, 0, none⟩) tg1.length tc1⟩, .slice zb ss.length zc, ss⟩ ⟨⟨hen0, Nat.le_succ_of_le hs0, Nat.le_succ_of_le hr0⟩, ⟨hen1, Nat.le_succ_of_le hs1, Nat.le_succ_of_le hr1⟩, Nat.le_succ_of_le hzl, hz16⟩)))
theorem signs_fine1 {gl : Nat → Obj} (hG : GlobsR gl) (w n : Nat) (p0 q0 p1 q1 : Nat) (sg0 tg0 sg1 tg1 : List (Int × Nat)) (rc0 rc1 : List Rcd) (vs0 vt0 vs1 vt1 z : Value) (ss : List (List Int)) (hen0 : enOf sg0 = enOf tg0) (hen1 : enOf sg1 = enOf tg1) (hs0 : sg0.length ≤ n) (hs1 : sg1.length ≤ n) (hr0 : rc0.length ≤ n) (hr1 : rc1.length ≤ n) (hzl : ss.length ≤ n) (hz16 : ∀ s ∈ ss, s.length = 16) (hn : n ≤ 1599289640354) (kd wh at_ a : Int) (base : Option Addr) (c : Nat) (xs sl : List Int) (tw : Int) (lg : Bool) (hsl : sl.length = 16) (hxm : xs.length ≤ 140737488351232) (hxb : IsB xs) (h0 : 0 < sg1.length) (hsm0 : (opMsg xs lg).length ≤ 1048576) : SpecR (cx gl) 49 [.pointer (some ⟨w, 0, none⟩), .int .i64 1, .agg (opC kd wh at_ a base xs.length c sl tw lg).toArray] (fun w h => Seen w h base (ints .u8 xs)) [blk w [.pointer (some ⟨p0, 0, none⟩), .pointer (some ⟨p1, 0, none⟩), .pointer (some ⟨q0, 0, none⟩), .pointer (some ⟨q1, 0, none⟩), vs0, vs1, vt0, vt1, z] 79, REG p0 (sg0) (rc0), REF q0 (tg0) (rc0), ownS 27 1 (vs0) (sg0).length (ptrs (sg0)), ownS 114 1 (vt0) (tg0).length (ptrs (tg0)), REG p1 (sg1) (rc1), REF q1 (tg1) (rc1), ownS 27 1 (vs1) (sg1).length (ptrs (sg1)), ownS 114 1 (vt1) (tg1).length (ptrs (tg1)), ownS 33 16 (z) (ss).length (flat .u8 (ss))] (.bool true) [TWO w (n + 1)] := by
  refine Spec.enter (C := cx gl) Tryd.func49 rfl 99 rfl rfl fun w0 h0 hsep hsub hpre => ?_
  show St (cx gl) _ [(0, .pointer (some ⟨w, 0, none⟩)), (1, .int .i64 1), (2, .agg (opC kd wh at_ a base xs.length c sl tw lg).toArray)] _ _
  have htl0 : tg0.length = sg0.length := (enOf_len hen0).symm
  have htl1 : tg1.length = sg1.length := (enOf_len hen1).symm
  refine St.ownForm (p := [_, _, _]) fun sb0 sc0 hsb0_ hsc0 => ?_
  subst hsb0_
  refine St.ownForm (p := [_, _, _, _]) fun tb0 tc0 htb0_ htc0 => ?_
  subst htb0_
  refine St.ownForm (p := [_, _, _, _, _, _, _]) fun sb1 sc1 hsb1_ hsc1 => ?_
  subst hsb1_
  refine St.ownForm (p := [_, _, _, _, _, _, _, _]) fun tb1 tc1 htb1_ htc1 => ?_
  subst htb1_
  refine St.ownForm (p := [_, _, _, _, _, _, _, _, _]) fun zb zc hzb_ hzc => ?_
  subst hzb_
  refine St.res (rs' := [blk w [.pointer (some ⟨p0, 0, none⟩), .pointer (some ⟨p1, 0, none⟩), .pointer (some ⟨q0, 0, none⟩), .pointer (some ⟨q1, 0, none⟩), .slice sb0 sg0.length sc0, .slice sb1 sg1.length sc1, .slice tb0 tg0.length tc0, .slice tb1 tg1.length tc1, .slice zb ss.length zc] 79, REG p0 (sg0) (rc0), REF q0 (tg0) (rc0), ownS 27 1 (.slice sb0 sg0.length sc0) (sg0).length (ptrs (sg0)), ownS 114 1 (.slice tb0 tg0.length tc0) (tg0).length (ptrs (tg0)), REG p1 (sg1) (rc1), REF q1 (tg1) (rc1), ownS 27 1 (.slice sb1 sg1.length sc1) (sg1).length (ptrs (sg1)), ownS 114 1 (.slice tb1 tg1.length tc1) (tg1).length (ptrs (tg1)), ownS 33 16 (.slice zb ss.length zc) (ss).length (flat .u8 (ss))]) (Weak.refl _) ?_
  refine St.ownSome (p := [_, _, _, _, _, _, _]) (by omega) fun sbb sbc hq _ => ?_
  simp only [Value.slice.injEq] at hq
  obtain ⟨rfl, _, rfl⟩ := hq
  refine St.ownSome (p := [_, _, _, _, _, _, _, _]) (by omega) fun tbb tbc hq _ => ?_
  simp only [Value.slice.injEq] at hq
  obtain ⟨rfl, _, rfl⟩ := hq
  refine St.res (rs' := [blk w [.pointer (some ⟨p0, 0, none⟩), .pointer (some ⟨p1, 0, none⟩), .pointer (some ⟨q0, 0, none⟩), .pointer (some ⟨q1, 0, none⟩), .slice sb0 sg0.length sc0, .slice (some ⟨sbb, 0, none⟩) sg1.length sc1, .slice tb0 tg0.length tc0, .slice (some ⟨tbb, 0, none⟩) tg1.length tc1, .slice zb ss.length zc] 79, REG p0 (sg0) (rc0), REF q0 (tg0) (rc0), ownS 27 1 (.slice sb0 sg0.length sc0) (sg0).length (ptrs (sg0)), ownS 114 1 (.slice tb0 tg0.length tc0) (tg0).length (ptrs (tg0)), REG p1 (sg1) (rc1), REF q1 (tg1) (rc1), ownS 27 1 (.slice (some ⟨sbb, 0, none⟩) sg1.length sc1) (sg1).length (ptrs (sg1)), ownS 114 1 (.slice (some ⟨tbb, 0, none⟩) tg1.length tc1) (tg1).length (ptrs (tg1)), ownS 33 16 (.slice zb ss.length zc) (ss).length (flat .u8 (ss))]) (Weak.refl _) ?_
  obtain ⟨ii, hii⟩ : ∃ ii : Nat, aroundI at_ (sg1.length : Int) = ii := ⟨(aroundI at_ sg1.length).toNat, by have := aroundI_bound (x := at_) (n := (sg1.length : Int)) (by omega); omega⟩
  have hil : ii < sg1.length := by have := aroundI_bound (x := at_) (n := (sg1.length : Int)) (by omega); omega
  obtain ⟨⟨a1, s⟩, hs⟩ : ∃ y, sg1[ii]? = some y := ⟨_, List.getElem?_eq_getElem hil⟩
  obtain ⟨t, ht⟩ := enOf_at hen1 hs
  obtain ⟨m, hm⟩ : ∃ m, m = opMsg xs lg := ⟨_, rfl⟩
  have hmb : IsB m := by rw [hm]; exact isB_opMsg hxb lg
  have hml : m.length ≤ 140737488351232 := by rw [hm]; exact opMsg_le hxm lg
  have hsm : m.length ≤ 1048576 := by rw [hm]; exact hsm0
  refine R_seq ?_
  refine R_region ?_
  refine L_op rfl (W_box (opC kd wh at_ a base xs.length c sl tw lg) rfl rfl rfl rfl rfl fun b5 => ?_)
  refine L_val rfl rfl rfl (OpP.v (P_assign rfl rfl)) ?_
  refine L_nil ?_
  refine St.env (.cons (t := 0) rfl (.cons (t := 1) rfl (.cons (t := 5) rfl (.cons (t := 6) rfl .nil)))) ?_
  refine Q_then ?_
  refine R_seq ?_
  refine R_seq ?_
  refine St.res (rs' := [blk w [.pointer (some ⟨p0, 0, none⟩), .pointer (some ⟨p1, 0, none⟩), .pointer (some ⟨q0, 0, none⟩), .pointer (some ⟨q1, 0, none⟩), .slice sb0 sg0.length sc0, .slice (some ⟨sbb, 0, none⟩) sg1.length sc1, .slice tb0 tg0.length tc0, .slice (some ⟨tbb, 0, none⟩) tg1.length tc1, .slice zb ss.length zc] 79, blk b5 (opC kd wh at_ a base xs.length c sl tw lg) 72, REG p1 (sg1) (rc1), REF q1 (tg1) (rc1), ownS 27 1 (.slice (some ⟨sbb, 0, none⟩) sg1.length sc1) (sg1).length (ptrs (sg1)), ownS 114 1 (.slice (some ⟨tbb, 0, none⟩) tg1.length tc1) (tg1).length (ptrs (tg1)), ownS 33 16 (.slice zb ss.length zc) (ss).length (flat .u8 (ss)), REG p0 (sg0) (rc0), REF q0 (tg0) (rc0), ownS 27 1 (.slice sb0 sg0.length sc0) (sg0).length (ptrs (sg0)), ownS 114 1 (.slice tb0 tg0.length tc0) (tg0).length (ptrs (tg0))]) ((Weak.swap.trans (Weak.refl _)).trans (Weak.keep (Weak.keep (Weak.pick (p := [_, _, _, _]) (Weak.pick (p := [_, _, _, _]) (Weak.pick (p := [_, _, _, _]) (Weak.pick (p := [_, _, _, _]) (Weak.pick (p := [_, _, _, _]) (Weak.keep (Weak.keep (Weak.keep (Weak.keep (Weak.nil _))))))))))))) ?_
  refine R_region ?_
  refine L_val rfl rfl rfl (OpP.v (P_move rfl rfl)) ?_
  refine L_val rfl rfl rfl (OpP.v (P_move rfl rfl)) ?_
  refine L_val rfl rfl rfl (OpP.v (P_nil rfl rfl)) ?_
  refine L_val rfl rfl rfl (OpP.v (P_fld0 rfl ty_fl_79_2 rfl)) ?_
  first | (refine L_val rfl rfl rfl (OpP.v (P_ixa0 (1) rfl ty_ar_55 rfl rfl (by first | rfl | omega) (by omega))) ?_) | (refine L_val rfl rfl rfl (OpP.v (P_ixa (1) rfl ty_ar_55 rfl rfl (by first | rfl | omega) (by omega))) ?_)
  refine L_val rfl rfl rfl (V_load rfl rfl ty_sc_54 (Rd.blk .h0 rfl)) ?_
  refine L_val rfl rfl rfl (OpP.v (P_len rfl ty_sl_54 rfl)) ?_
  refine L_val rfl rfl rfl (OpP.v (P_eql rfl rfl rfl)) ?_
  refine E_false (t := 22) rfl (decide_eq_false (by omega)) ?_
  refine L_nil ?_
  refine St.env (.cons (t := 0) rfl (.cons (t := 1) rfl (.cons (t := 5) rfl (.cons (t := 6) rfl (.cons (t := 22) rfl .nil))))) ?_
  refine Q_then ?_
  refine R_condF rfl ?_
  refine R_skip ?_
  refine Q_then ?_
  refine R_seq ?_
  refine R_open [(0, 0), (1, 1), (2, 0), (3, 0), (4, 0), (5, 0), (6, 0), (7, 1), (8, 0), (9, 2), (10, 0)] mixed (by kernel_rfl) (QOk.then QOk.body) ?_
  refine O_pure rfl rfl rfl rfl (P_fld0 rfl ty_fl_72_2 rfl) ?_
  refine O_val rfl rfl rfl rfl (V_load rfl rfl ty_sc_3 (Rd.blk .h1 rfl)) ?_
  refine O_pure rfl rfl rfl rfl (P_move rfl rfl) ?_
  refine O_pure rfl rfl rfl rfl (P_move rfl rfl) ?_
  refine O_pure rfl rfl rfl rfl (P_nil rfl rfl) ?_
  refine O_pure rfl rfl rfl rfl (P_fld0 rfl ty_fl_79_2 rfl) ?_
  first | (refine O_pure rfl rfl rfl rfl (P_ixa0 (1) rfl ty_ar_55 rfl rfl (by first | rfl | omega) (by omega)) ?_) | (refine O_pure rfl rfl rfl rfl (P_ixa (1) rfl ty_ar_55 rfl rfl (by first | rfl | omega) (by omega)) ?_)
  refine O_val rfl rfl rfl rfl (V_load rfl rfl ty_sc_54 (Rd.blk .h0 rfl)) ?_
  refine O_pure rfl rfl rfl rfl (P_len rfl ty_sl_54 rfl) ?_
  refine O_keep rfl rfl (W_callV rfl rfl rfl rfl fn_ca_26 (around_ok at_ (sg1.length : Int) (by omega) (by omega)) (fun _ _ => trivial) (K_keep (Weak.refl _) ?_))
  refine E_as (t := 32) (v' := .int .i64 (ii : Int)) rfl (by rw [hii]) ?_
  refine O_pure rfl rfl rfl rfl (P_assign rfl rfl) ?_
  refine O_nil ?_
  refine St.env (.cons (t := 0) rfl (.cons (t := 1) rfl (.cons (t := 5) rfl (.cons (t := 6) rfl (.cons (t := 7) rfl .nil))))) ?_
  refine Q_then ?_
  refine R_seq ?_
  refine R_region ?_
  refine L_val rfl rfl rfl (V_loadAgg rfl rfl ty_ag_72 (Rds.blk .h1) (opC_length hsl)) ?_
  refine L_op rfl (W_call rfl rfl rfl rfl fn_ca_63 (message_ok kd wh at_ a base c xs sl tw lg hsl hxm) (Split.nil _) (fun w a b _ hb dj m_ => (Sn.old hpre).rw_ w ⟨_, hb, m_.le (Heap.le_join_right dj)⟩) fun v34 rs1 (e1 : rs1 = _) => ?_)
  subst e1
  rw [← hm]
  refine St.ownForm (p := []) fun ub uc hub_ huc => ?_
  subst hub_
  refine St.res (rs' := [blk w [.pointer (some ⟨p0, 0, none⟩), .pointer (some ⟨p1, 0, none⟩), .pointer (some ⟨q0, 0, none⟩), .pointer (some ⟨q1, 0, none⟩), .slice sb0 sg0.length sc0, .slice (some ⟨sbb, 0, none⟩) sg1.length sc1, .slice tb0 tg0.length tc0, .slice (some ⟨tbb, 0, none⟩) tg1.length tc1, .slice zb ss.length zc] 79, blk b5 (opC kd wh at_ a base xs.length c sl tw lg) 72, ownS 5 1 (.slice ub m.length uc) m.length (ints .u8 m), REG p1 (sg1) (rc1), REF q1 (tg1) (rc1), ownS 27 1 (.slice (some ⟨sbb, 0, none⟩) sg1.length sc1) (sg1).length (ptrs (sg1)), ownS 114 1 (.slice (some ⟨tbb, 0, none⟩) tg1.length tc1) (tg1).length (ptrs (tg1)), ownS 33 16 (.slice zb ss.length zc) (ss).length (flat .u8 (ss)), REG p0 (sg0) (rc0), REF q0 (tg0) (rc0), ownS 27 1 (.slice sb0 sg0.length sc0) (sg0).length (ptrs (sg0)), ownS 114 1 (.slice tb0 tg0.length tc0) (tg0).length (ptrs (tg0))]) (Weak.p1 (Weak.p1 (Weak.refl _))) ?_
  refine L_val rfl rfl rfl (OpP.v (P_assign rfl rfl)) ?_
  refine L_nil ?_
  refine St.env (.cons (t := 0) rfl (.cons (t := 1) rfl (.cons (t := 6) rfl (.cons (t := 7) rfl (.cons (t := 8) rfl .nil))))) ?_
  refine Q_then ?_
  refine R_seq ?_
  refine R_region ?_
  refine L_val rfl rfl rfl (OpP.v (P_move rfl rfl)) ?_
  refine L_op rfl (W_call rfl rfl rfl rfl fn_ca_64 (room_ok ub uc m hml) (Split.nil _) (fun w a b _ hb dj m_ => (Sn.own .h2 rfl).rw_ w ⟨_, hb, m_.le (Heap.le_join_right dj)⟩) fun v36 rs2 (e2 : rs2 = _) => ?_)
  subst e2
  refine St.ownSome (p := []) (by omega) fun fb fc hfv hfc => ?_
  subst hfv
  refine St.res (rs' := [blk w [.pointer (some ⟨p0, 0, none⟩), .pointer (some ⟨p1, 0, none⟩), .pointer (some ⟨q0, 0, none⟩), .pointer (some ⟨q1, 0, none⟩), .slice sb0 sg0.length sc0, .slice (some ⟨sbb, 0, none⟩) sg1.length sc1, .slice tb0 tg0.length tc0, .slice (some ⟨tbb, 0, none⟩) tg1.length tc1, .slice zb ss.length zc] 79, blk b5 (opC kd wh at_ a base xs.length c sl tw lg) 72, ownS 5 1 (.slice ub m.length uc) m.length (ints .u8 m), ownS 5 1 (.slice (some ⟨fb, 0, none⟩) (m.length + 3) fc) (m.length + 3) (ints .u8 (m ++ [201, 202, 203])), REG p1 (sg1) (rc1), REF q1 (tg1) (rc1), ownS 27 1 (.slice (some ⟨sbb, 0, none⟩) sg1.length sc1) (sg1).length (ptrs (sg1)), ownS 114 1 (.slice (some ⟨tbb, 0, none⟩) tg1.length tc1) (tg1).length (ptrs (tg1)), ownS 33 16 (.slice zb ss.length zc) (ss).length (flat .u8 (ss)), REG p0 (sg0) (rc0), REF q0 (tg0) (rc0), ownS 27 1 (.slice sb0 sg0.length sc0) (sg0).length (ptrs (sg0)), ownS 114 1 (.slice tb0 tg0.length tc0) (tg0).length (ptrs (tg0))]) (Weak.p1 (Weak.p1 (Weak.p1 (Weak.refl _)))) ?_
  refine L_val rfl rfl rfl (OpP.v (P_assign rfl rfl)) ?_
  refine L_nil ?_
  refine St.env (.cons (t := 0) rfl (.cons (t := 1) rfl (.cons (t := 6) rfl (.cons (t := 7) rfl (.cons (t := 8) rfl (.cons (t := 9) rfl .nil)))))) ?_
  refine Q_then ?_
  refine R_seq ?_
  refine TQ_open (.op 0 0 (.op 1 0 (.op 2 0 (.op 3 0 (.op 4 0 (.op 5 1 (.op 6 0 (.op 7 0 (.op 8 1 (.op 9 0 (.op 10 0 (.op 11 0 (.op 12 0 (.two 13 17 (.op 14 0 (.op 15 0 (.op 16 0 (.op 17 2 (.op 18 3 (.op 19 0 .nil)))))) (.op 13 2 (.op 14 0 (.op 15 0 (.op 16 0 (.op 18 3 (.op 19 0 .nil)))))))))))))))))))) [blk w [.pointer (some ⟨p0, 0, none⟩), .pointer (some ⟨p1, 0, none⟩), .pointer (some ⟨q0, 0, none⟩), .pointer (some ⟨q1, 0, none⟩), .slice sb0 sg0.length sc0, .slice (some ⟨sbb, 0, none⟩) sg1.length sc1, .slice tb0 tg0.length tc0, .slice (some ⟨tbb, 0, none⟩) tg1.length tc1, .slice zb ss.length zc] 79, blk b5 (opC kd wh at_ a base xs.length c sl tw lg) 72, ownS 5 1 (.slice ub m.length uc) m.length (ints .u8 m), ownS 5 1 (.slice (some ⟨fb, 0, none⟩) (m.length + 3) fc) (m.length + 3) (ints .u8 (m ++ [201, 202, 203])), REF q1 (tg1) (rc1), ownS 27 1 (.slice (some ⟨sbb, 0, none⟩) sg1.length sc1) (sg1).length (ptrs (sg1)), ownS 114 1 (.slice (some ⟨tbb, 0, none⟩) tg1.length tc1) (tg1).length (ptrs (tg1)), ownS 33 16 (.slice zb ss.length zc) (ss).length (flat .u8 (ss)), REG p0 (sg0) (rc0), REF q0 (tg0) (rc0), ownS 27 1 (.slice sb0 sg0.length sc0) (sg0).length (ptrs (sg0)), ownS 114 1 (.slice tb0 tg0.length tc0) (tg0).length (ptrs (tg0))] (Weak.keep (Weak.keep (Weak.keep (Weak.keep (Weak.pick (p := [_]) (Weak.pick (p := [_]) (Weak.pick (p := [_]) (Weak.pick (p := [_]) (Weak.pick (p := [_]) (Weak.pick (p := [_]) (Weak.pick (p := [_]) (Weak.pick (p := [_]) (Weak.nil _))))))))))))) mixed (by kernel_rfl) (QOk.then QOk.body) ?_
  refine TQ_pure rfl rfl rfl rfl (P_move rfl rfl) ?_
  refine TQ_pure rfl rfl rfl rfl (P_move rfl rfl) ?_
  refine TQ_pure rfl rfl rfl rfl (P_nil rfl rfl) ?_
  refine TQ_pure rfl rfl rfl rfl (P_fld0 rfl ty_fl_79_2 rfl) ?_
  first | (refine TQ_pure rfl rfl rfl rfl (P_ixa0 (1) rfl ty_ar_55 rfl rfl (by first | rfl | omega) (by omega)) ?_) | (refine TQ_pure rfl rfl rfl rfl (P_ixa (1) rfl ty_ar_55 rfl rfl (by first | rfl | omega) (by omega)) ?_)
  refine TQ_val rfl rfl rfl rfl (V_load rfl rfl ty_sc_54 (Rd.blk .h0 rfl)) ?_
  refine TQ_pure rfl rfl rfl rfl (P_move rfl rfl) ?_
  refine TQ_pure rfl rfl rfl rfl (P_ixs (ii) rfl ty_sl_54 rfl rfl (by first | rfl | omega) (by omega)) ?_
  refine TQ_val rfl rfl rfl rfl (V_load rfl rfl ty_sc_27 (rd_own1 .h5 (ptrs_at hs))) ?_
  refine TQ_pure rfl rfl rfl rfl (P_move rfl rfl) ?_
  refine TQ_pure rfl rfl rfl rfl (P_move rfl rfl) ?_
  refine TQ_pure rfl rfl rfl rfl (P_len rfl ty_sl_24 rfl) ?_
  refine TQ_pure rfl rfl rfl rfl (P_slice 0 m.length rfl ty_sl_24 rfl rfl ⟨_, rfl⟩ (by omega) (by omega)) ?_
  refine E_as (t := 50) (v' := .slice (some ⟨fb, 0, none⟩) m.length fc) rfl (by unfold sliced; rw [if_neg (by omega)]; simp [add_zero_off]) ?_
  refine TQ_two ?_ ?_
  · skip
    first | (refine TQ_keep rfl rfl (W_callR rfl rfl rfl rfl fn_ca_18 (sign_any hG.toGlobs p1 sg1 rc1 ii a1 s hs (some ⟨fb, 0, none⟩) fc m hmb hsm (by omega)) (Split.one (p := [_, _, _, _])) (Sn.pre (sn_head (Sn.own .h3 rfl))) (K_keepTQ (Weak.drop (Weak.refl _)) ?_))) | (refine TQ_keep rfl rfl (W_callR rfl rfl rfl rfl fn_ca_18 (sign_any hG.toGlobs p1 sg1 rc1 ii a1 s hs (some ⟨fb, 0, none⟩) fc m hmb hsm (by omega)) (Split.one (p := [_, _, _, _, _])) (Sn.pre (sn_head (Sn.own .h4 rfl))) (K_keepTQ (Weak.drop (Weak.drop (Weak.refl _))) ?_)))
    refine TQ_pure rfl rfl rfl rfl (P_move rfl rfl) ?_
    refine TQ_pure rfl rfl rfl rfl (P_extract rfl rfl rfl) ?_
    refine TQ_pure rfl rfl rfl rfl (P_extract rfl rfl rfl) ?_
    first | (refine TQ_keep rfl rfl (W_alloc rfl rfl rfl ty_ze_33 fun b10 => (K_keepTQ (Weak.drop (Weak.drop (Weak.refl _))) ?_))) | (refine TQ_keep rfl rfl (W_alloc rfl rfl rfl ty_ze_33 fun b10 => (K_keepTQ (Weak.pick (p := [_]) (Weak.pick (p := [_]) (Weak.pick (p := [_]) (Weak.pick (p := [_]) (Weak.pick (p := [_, _]) (Weak.pick (p := [_, _]) (Weak.pick (p := [_, _]) (Weak.pick (p := [_, _]) (Weak.pick (p := [_, _]) (Weak.pick (p := [_, _]) (Weak.pick (p := [_, _]) (Weak.pick (p := [_, _]) (Weak.nil _))))))))))))) ?_)))
    first | (refine TQ_new rfl rfl (W_storeAll rfl rfl rfl rfl ty_ag_33 (by rw [ints_length]; exact sealH_length _ _) (ints_one) .h0 (by rw [ints_length]; exact (sealH_length _ _).trans rfl) (K_newTQ ?_))) | (refine TQ_new rfl rfl (W_storeAll rfl rfl rfl rfl ty_ag_33 (by rw [ints_length]; exact sealH_length _ _) (ints_one) .h1 (by rw [ints_length]; exact (sealH_length _ _).trans rfl) (K_newTQ ?_)))
    refine TQ_pure rfl rfl rfl rfl (P_assign rfl rfl) ?_
    refine TQ_nil ?_
    refine St.env (.cons (t := 0) rfl (.cons (t := 1) rfl (.cons (t := 6) rfl (.cons (t := 7) rfl (.cons (t := 8) rfl (.cons (t := 9) rfl (.cons (t := 10) rfl (.cons (t := 11) rfl .nil)))))))) ?_
    refine Q_then ?_
    refine R_seq ?_
    refine St.res (rs' := [blk w [.pointer (some ⟨p0, 0, none⟩), .pointer (some ⟨p1, 0, none⟩), .pointer (some ⟨q0, 0, none⟩), .pointer (some ⟨q1, 0, none⟩), .slice sb0 sg0.length sc0, .slice (some ⟨sbb, 0, none⟩) sg1.length sc1, .slice tb0 tg0.length tc0, .slice (some ⟨tbb, 0, none⟩) tg1.length tc1, .slice zb ss.length zc] 79, blk b5 (opC kd wh at_ a base xs.length c sl tw lg) 72, ownS 5 1 (.slice ub m.length uc) m.length (ints .u8 m), ownS 5 1 (.slice (some ⟨fb, 0, none⟩) (m.length + 3) fc) (m.length + 3) (ints .u8 (m ++ [201, 202, 203])), blk b10 (ints .u8 (sealH a1 m)) 33, REG p1 (sg1) (addR rc1 (a1, m)), REF q1 (tg1) (rc1), ownS 27 1 (.slice (some ⟨sbb, 0, none⟩) sg1.length sc1) (sg1).length (ptrs (sg1)), ownS 114 1 (.slice (some ⟨tbb, 0, none⟩) tg1.length tc1) (tg1).length (ptrs (tg1)), ownS 33 16 (.slice zb ss.length zc) (ss).length (flat .u8 (ss)), REG p0 (sg0) (rc0), REF q0 (tg0) (rc0), ownS 27 1 (.slice sb0 sg0.length sc0) (sg0).length (ptrs (sg0)), ownS 114 1 (.slice tb0 tg0.length tc0) (tg0).length (ptrs (tg0))]) (by first | exact Weak.pick (p := [_, _]) (Weak.pick (p := [_, _]) (Weak.pick (p := [_, _]) (Weak.pick (p := [_, _]) (Weak.keep (Weak.keep (Weak.keep (Weak.keep (Weak.keep (Weak.keep (Weak.keep (Weak.keep (Weak.keep (Weak.keep (Weak.nil _)))))))))))))) | exact Weak.pick (p := [_, _]) (Weak.pick (p := [_, _]) (Weak.pick (p := [_, _]) (Weak.pick (p := [_, _]) (Weak.pick (p := [_]) (Weak.keep (Weak.keep (Weak.keep (Weak.keep (Weak.keep (Weak.keep (Weak.keep (Weak.keep (Weak.keep (Weak.nil _))))))))))))))) ?_
    refine R_region ?_
    refine L_val rfl rfl rfl (OpP.v (P_move rfl rfl)) ?_
    refine L_val rfl rfl rfl (OpP.v (P_move rfl rfl)) ?_
    refine L_val rfl rfl rfl (OpP.v (P_nil rfl rfl)) ?_
    refine L_val rfl rfl rfl (OpP.v (P_fld0 rfl ty_fl_79_3 rfl)) ?_
    first | (refine L_val rfl rfl rfl (OpP.v (P_ixa0 (1) rfl ty_ar_76 rfl rfl (by first | rfl | omega) (by omega))) ?_) | (refine L_val rfl rfl rfl (OpP.v (P_ixa (1) rfl ty_ar_76 rfl rfl (by first | rfl | omega) (by omega))) ?_)
    refine L_val rfl rfl rfl (V_load rfl rfl ty_sc_75 (Rd.blk .h0 rfl)) ?_
    refine L_val rfl rfl rfl (OpP.v (P_move rfl rfl)) ?_
    refine L_val rfl rfl rfl (OpP.v (P_ixs (ii) rfl ty_sl_75 rfl rfl (by first | rfl | omega) (by omega))) ?_
    refine L_val rfl rfl rfl (V_load rfl rfl ty_sc_114 (rd_own1 .h8 (ptrs_at ht))) ?_
    refine L_val rfl rfl rfl (OpP.v (P_move rfl rfl)) ?_
    refine L_op rfl (W_callR rfl rfl rfl rfl fn_ca_65 (rsign_any hG q1 tg1 rc1 ii a1 t ht ub uc m hmb hsm (by omega)) (Split.one (p := [_, _, _, _, _, _])) (Sn.pre (Sn.own .h2 rfl)) ?_)
    refine St.res (rs' := [blk w [.pointer (some ⟨p0, 0, none⟩), .pointer (some ⟨p1, 0, none⟩), .pointer (some ⟨q0, 0, none⟩), .pointer (some ⟨q1, 0, none⟩), .slice sb0 sg0.length sc0, .slice (some ⟨sbb, 0, none⟩) sg1.length sc1, .slice tb0 tg0.length tc0, .slice (some ⟨tbb, 0, none⟩) tg1.length tc1, .slice zb ss.length zc] 79, blk b5 (opC kd wh at_ a base xs.length c sl tw lg) 72, ownS 5 1 (.slice ub m.length uc) m.length (ints .u8 m), ownS 5 1 (.slice (some ⟨fb, 0, none⟩) (m.length + 3) fc) (m.length + 3) (ints .u8 (m ++ [201, 202, 203])), blk b10 (ints .u8 (sealH a1 m)) 33, REG p1 (sg1) (addR rc1 (a1, m)), REF q1 (tg1) (addR rc1 (a1, m)), ownS 27 1 (.slice (some ⟨sbb, 0, none⟩) sg1.length sc1) (sg1).length (ptrs (sg1)), ownS 114 1 (.slice (some ⟨tbb, 0, none⟩) tg1.length tc1) (tg1).length (ptrs (tg1)), ownS 33 16 (.slice zb ss.length zc) (ss).length (flat .u8 (ss)), REG p0 (sg0) (rc0), REF q0 (tg0) (rc0), ownS 27 1 (.slice sb0 sg0.length sc0) (sg0).length (ptrs (sg0)), ownS 114 1 (.slice tb0 tg0.length tc0) (tg0).length (ptrs (tg0))]) (Weak.p1 (Weak.p1 (Weak.p1 (Weak.p1 (Weak.p1 (Weak.p1 (Weak.refl _))))))) ?_
    refine L_val rfl rfl rfl (OpP.v (P_move rfl rfl)) ?_
    refine L_val rfl rfl rfl (OpP.v (P_extract rfl rfl rfl)) ?_
    refine L_val rfl rfl rfl (OpP.v (P_extract rfl rfl rfl)) ?_
    refine L_op rfl (W_alloc rfl rfl rfl ty_ze_33 fun b12 => ?_)
    refine L_op rfl (W_storeAll rfl rfl rfl rfl ty_ag_33 (by rw [ints_length]; exact sealH_length _ _) (ints_one) .h0 (by rw [ints_length]; exact (sealH_length _ _).trans rfl) ?_)
    refine L_val rfl rfl rfl (OpP.v (P_assign rfl rfl)) ?_
    refine L_nil ?_
    refine St.env (.cons (t := 0) rfl (.cons (t := 6) rfl (.cons (t := 8) rfl (.cons (t := 9) rfl (.cons (t := 10) rfl (.cons (t := 11) rfl (.cons (t := 12) rfl (.cons (t := 13) rfl .nil)))))))) ?_
    refine Q_then ?_
    refine R_seq ?_
    refine St.res (rs' := [blk w [.pointer (some ⟨p0, 0, none⟩), .pointer (some ⟨p1, 0, none⟩), .pointer (some ⟨q0, 0, none⟩), .pointer (some ⟨q1, 0, none⟩), .slice sb0 sg0.length sc0, .slice (some ⟨sbb, 0, none⟩) sg1.length sc1, .slice tb0 tg0.length tc0, .slice (some ⟨tbb, 0, none⟩) tg1.length tc1, .slice zb ss.length zc] 79, blk b5 (opC kd wh at_ a base xs.length c sl tw lg) 72, ownS 5 1 (.slice ub m.length uc) m.length (ints .u8 m), ownS 5 1 (.slice (some ⟨fb, 0, none⟩) (m.length + 3) fc) (m.length + 3) (ints .u8 (m ++ [201, 202, 203])), blk b10 (ints .u8 (sealH a1 m)) 33, blk b12 (ints .u8 (sealH a1 m)) 33, REG p1 (sg1) (addR rc1 (a1, m)), REF q1 (tg1) (addR rc1 (a1, m)), ownS 27 1 (.slice (some ⟨sbb, 0, none⟩) sg1.length sc1) (sg1).length (ptrs (sg1)), ownS 114 1 (.slice (some ⟨tbb, 0, none⟩) tg1.length tc1) (tg1).length (ptrs (tg1)), ownS 33 16 (.slice zb ss.length zc) (ss).length (flat .u8 (ss)), REG p0 (sg0) (rc0), REF q0 (tg0) (rc0), ownS 27 1 (.slice sb0 sg0.length sc0) (sg0).length (ptrs (sg0)), ownS 114 1 (.slice tb0 tg0.length tc0) (tg0).length (ptrs (tg0))]) (Weak.p1 (Weak.p1 (Weak.p1 (Weak.p1 (Weak.p1 (Weak.refl _)))))) ?_
    refine R_region ?_
    refine L_val rfl rfl rfl (OpP.v (P_move rfl rfl)) ?_
    refine L_val rfl rfl rfl (OpP.v (P_move rfl rfl)) ?_
    refine L_op rfl (W_callV rfl rfl rfl rfl fn_ca_66 (left_ok fb fc ub uc m hfc hml hmb) (fun w nw => ⟨(Sn.own .h3 rfl).rowAt0 (fun _ _ h => h) w nw, (Sn.own .h2 rfl).rw_ w nw⟩) ?_)
    refine E_true (t := 70) rfl (rfl) ?_
    refine L_val rfl rfl rfl (OpP.v (P_assign rfl rfl)) ?_
    refine L_nil ?_
    refine St.env (.cons (t := 0) rfl (.cons (t := 6) rfl (.cons (t := 9) rfl (.cons (t := 10) rfl (.cons (t := 11) rfl (.cons (t := 12) rfl (.cons (t := 13) rfl (.cons (t := 14) rfl .nil)))))))) ?_
    refine Q_then ?_
    refine R_seq ?_
    refine R_region ?_
    refine L_val rfl rfl rfl (OpP.v (P_move rfl rfl)) ?_
    refine L_op rfl (W_callR rfl rfl rfl rfl fn_ca_67 (by have h := spoil_ok (gl := gl) fb fc (m ++ [201, 202, 203]) (by rw [List.length_append]; show m.length + 3 ≤ _; omega); rw [List.length_append] at h; exact h) (Split.one (p := [_, _, _])) (fun _ _ _ _ _ _ _ => trivial) ?_)
    refine St.res (rs' := [blk w [.pointer (some ⟨p0, 0, none⟩), .pointer (some ⟨p1, 0, none⟩), .pointer (some ⟨q0, 0, none⟩), .pointer (some ⟨q1, 0, none⟩), .slice sb0 sg0.length sc0, .slice (some ⟨sbb, 0, none⟩) sg1.length sc1, .slice tb0 tg0.length tc0, .slice (some ⟨tbb, 0, none⟩) tg1.length tc1, .slice zb ss.length zc] 79, blk b5 (opC kd wh at_ a base xs.length c sl tw lg) 72, ownS 5 1 (.slice ub m.length uc) m.length (ints .u8 m), blk b10 (ints .u8 (sealH a1 m)) 33, blk b12 (ints .u8 (sealH a1 m)) 33, REG p1 (sg1) (addR rc1 (a1, m)), REF q1 (tg1) (addR rc1 (a1, m)), ownS 27 1 (.slice (some ⟨sbb, 0, none⟩) sg1.length sc1) (sg1).length (ptrs (sg1)), ownS 114 1 (.slice (some ⟨tbb, 0, none⟩) tg1.length tc1) (tg1).length (ptrs (tg1)), ownS 33 16 (.slice zb ss.length zc) (ss).length (flat .u8 (ss)), REG p0 (sg0) (rc0), REF q0 (tg0) (rc0), ownS 27 1 (.slice sb0 sg0.length sc0) (sg0).length (ptrs (sg0)), ownS 114 1 (.slice tb0 tg0.length tc0) (tg0).length (ptrs (tg0))]) (Weak.drop (Weak.refl _)) ?_
    refine L_nil ?_
    refine St.env (.cons (t := 0) rfl (.cons (t := 6) rfl (.cons (t := 10) rfl (.cons (t := 11) rfl (.cons (t := 12) rfl (.cons (t := 13) rfl (.cons (t := 14) rfl .nil))))))) ?_
    refine Q_then ?_
    refine R_seq ?_
    refine R_seq ?_
    refine R_region ?_
    refine L_val rfl rfl rfl (OpP.v (P_move rfl rfl)) ?_
    refine L_op rfl (W_callV rfl rfl rfl rfl fn_ca_17 (num_ok 0) (fun _ _ => trivial) ?_)
    refine L_val rfl rfl rfl (OpP.v (P_eql rfl rfl rfl)) ?_
    refine E_true (t := 75) rfl (rfl) ?_
    refine L_nil ?_
    refine St.env (.cons (t := 0) rfl (.cons (t := 6) rfl (.cons (t := 10) rfl (.cons (t := 11) rfl (.cons (t := 12) rfl (.cons (t := 13) rfl (.cons (t := 14) rfl (.cons (t := 75) rfl .nil)))))))) ?_
    refine Q_then ?_
    refine R_condT rfl ?_
    refine R_open [(0, 0), (1, 0), (2, 0), (3, 0), (4, 1), (5, 1), (6, 2), (7, 3), (8, 0), (9, 0), (10, 3)] mixed (by kernel_rfl) (QOk.then QOk.body) ?_
    refine O_pure rfl rfl rfl rfl (P_move rfl rfl) ?_
    refine O_pure rfl rfl rfl rfl (P_move rfl rfl) ?_
    refine O_pure rfl rfl rfl rfl (P_nil rfl rfl) ?_
    refine O_pure rfl rfl rfl rfl (P_fld0 rfl ty_fl_79_4 rfl) ?_
    refine O_val rfl rfl rfl rfl (V_load rfl rfl ty_sc_77 (Rd.blk .h0 rfl)) ?_
    refine O_val rfl rfl rfl rfl (V_loadAgg rfl rfl ty_ag_33 (Rds.blk .h4) (by rw [ints_length]; exact sealH_length _ _)) ?_
    refine O_keep rfl rfl (W_lit (z := .nilIface) (ints .u8 (sealH a1 m)) rfl rfl rfl ty_sl_77 ty_lz_77 rfl rfl rfl (by decide) (by decide) (by simp [Value.cells, ints_length, sealH_length]) (by simp [Value.cells]) fun b82 => (K_keep (Weak.drop (Weak.refl _)) ?_))
    refine O_new rfl rfl (W_append (p := [_, _, _, _, _, _, _, _, _, _]) rfl rfl rfl ty_sl_77 ty_ap_77 ty_src_77 rfl rfl rfl (Src.slice (sz := 16) (news := ints .u8 (sealH a1 m)) (Rds.blk .h0) (by rw [ints_length, sealH_length]) ints_one) (by omega) (by simp only [maxLen]; omega) fun v83 => (K_new ?_))
    refine St.ownForm (p := [_, _, _, _, _, _, _, _, _, _]) fun nb nc hnb_ hnc => ?_
    subst hnb_
    refine O_pure rfl rfl rfl rfl (P_nil rfl rfl) ?_
    refine O_pure rfl rfl rfl rfl (P_fld0 rfl ty_fl_79_4 rfl) ?_
    refine O_new rfl rfl (W_store rfl rfl rfl rfl ty_sc_77 rfl .h1 (by first | decide | (simp [ints]; done) | (simp [ints]; omega)) (K_new ?_))
    refine O_nil ?_
    refine St.env (.cons (t := 6) rfl (.cons (t := 10) rfl (.cons (t := 11) rfl (.cons (t := 12) rfl (.cons (t := 13) rfl (.cons (t := 14) rfl .nil)))))) ?_
    refine Q_then ?_
    refine R_seq ?_
    refine St.res (rs' := [blk w [.pointer (some ⟨p0, 0, none⟩), .pointer (some ⟨p1, 0, none⟩), .pointer (some ⟨q0, 0, none⟩), .pointer (some ⟨q1, 0, none⟩), .slice sb0 sg0.length sc0, .slice (some ⟨sbb, 0, none⟩) sg1.length sc1, .slice tb0 tg0.length tc0, .slice (some ⟨tbb, 0, none⟩) tg1.length tc1, .slice nb (ss.length + 1) nc] 79, blk b5 (opC kd wh at_ a base xs.length c sl tw lg) 72, ownS 5 1 (.slice ub m.length uc) m.length (ints .u8 m), blk b10 (ints .u8 (sealH a1 m)) 33, blk b12 (ints .u8 (sealH a1 m)) 33, REG p1 (sg1) (addR rc1 (a1, m)), REF q1 (tg1) (addR rc1 (a1, m)), ownS 27 1 (.slice (some ⟨sbb, 0, none⟩) sg1.length sc1) (sg1).length (ptrs (sg1)), ownS 114 1 (.slice (some ⟨tbb, 0, none⟩) tg1.length tc1) (tg1).length (ptrs (tg1)), ownS 33 16 (.slice nb (ss.length + 1) nc) (ss ++ [sealH a1 m]).length (flat .u8 (ss ++ [sealH a1 m])), REG p0 (sg0) (rc0), REF q0 (tg0) (rc0), ownS 27 1 (.slice sb0 sg0.length sc0) (sg0).length (ptrs (sg0)), ownS 114 1 (.slice tb0 tg0.length tc0) (tg0).length (ptrs (tg0))]) (by have e : (ss ++ [sealH a1 m]).length = ss.length + 1 := (by simp); rw [flat_append, e, show flat .u8 [sealH a1 m] = ints .u8 (sealH a1 m) by rw [flat_cons, flat_nil, List.append_nil]]; exact Weak.drop (Weak.refl _)) ?_
    refine R_region ?_
    refine L_val rfl rfl rfl (OpP.v (P_move rfl rfl)) ?_
    refine L_val rfl rfl rfl (OpP.v (P_move rfl rfl)) ?_
    refine L_val rfl rfl rfl (V_loadAgg rfl rfl ty_ag_33 (Rds.blk .h3) (by rw [ints_length]; exact sealH_length _ _)) ?_
    refine L_val rfl rfl rfl (V_loadAgg rfl rfl ty_ag_33 (Rds.blk .h4) (by rw [ints_length]; exact sealH_length _ _)) ?_
    refine L_val rfl rfl rfl (OpP.v (P_eqArr rfl rfl rfl ty_un_33 ty_int_5 ty_sc_5 ty_eg_33 (sealH_length _ _) (sealH_length _ _))) ?_
    refine E_true (t := 90) rfl (decide_eq_true rfl) ?_
    refine L_val rfl rfl rfl (OpP.v (P_pick rfl rfl rfl)) ?_
    refine L_val rfl rfl rfl (OpP.v (P_move rfl rfl)) ?_
    refine L_val rfl rfl rfl (OpP.v (P_move rfl rfl)) ?_
    refine L_op rfl (W_callV rfl rfl rfl rfl fn_ca_17 (num_ok 0) (fun _ _ => trivial) ?_)
    refine L_val rfl rfl rfl (OpP.v (P_move rfl rfl)) ?_
    refine L_op rfl (W_callV rfl rfl rfl rfl fn_ca_17 (num_ok 0) (fun _ _ => trivial) ?_)
    refine L_val rfl rfl rfl (OpP.v (P_eql rfl rfl rfl)) ?_
    refine E_true (t := 97) rfl (rfl) ?_
    refine L_val rfl rfl rfl (OpP.v (P_pick rfl rfl rfl)) ?_
    refine L_val rfl rfl rfl (OpP.v (P_assign rfl rfl)) ?_
    refine L_nil ?_
    refine St.env (.cons (t := 6) rfl .nil) ?_
    refine Q_then ?_
    refine R_ret ?_
    exact R_end (rs2 := [TWO w (n + 1)]) rfl rfl (.tmp rfl .nil) (⟨rfl, rfl⟩) ((Weak.keep (Weak.drop (Weak.drop (Weak.drop (Weak.drop (Weak.refl _)))))).trans ((Weak.keep (Weak.pick (p := [_, _, _, _, _]) (Weak.pick (p := [_, _, _, _, _]) (Weak.pick (p := [_, _, _, _, _]) (Weak.pick (p := [_, _, _, _, _]) (Weak.keep (Weak.keep (Weak.keep (Weak.keep (Weak.keep (Weak.nil _))))))))))).trans (two_close (n := n + 1) (rs := []) ⟨⟨p0, q0, sg0, tg0, rc0, .slice sb0 sg0.length sc0, .slice tb0 tg0.length tc0⟩, ⟨p1, q1, sg1, tg1, addR rc1 (a1, m), .slice (some ⟨sbb, 0, none⟩) sg1.length sc1, .slice (some ⟨tbb, 0, none⟩) tg1.length tc1⟩, .slice nb (ss.length + 1) nc, ss ++ [sealH a1 m]⟩ ⟨⟨hen0, Nat.le_succ_of_le hs0, Nat.le_succ_of_le hr0⟩, ⟨hen1, Nat.le_succ_of_le hs1, addR_le hr1⟩, snoc_le hzl, all16_snoc hz16 (sealH_length _ _)⟩)))
  · skip
    first | (refine TQ_keep rfl rfl (W_alloc rfl rfl rfl ty_ze_33 fun b10 => (K_keepTQ (Weak.drop (Weak.drop (Weak.refl _))) ?_))) | (refine TQ_keep rfl rfl (W_alloc rfl rfl rfl ty_ze_33 fun b10 => (K_keepTQ (Weak.pick (p := [_]) (Weak.pick (p := [_]) (Weak.pick (p := [_]) (Weak.pick (p := [_]) (Weak.pick (p := [_, _]) (Weak.pick (p := [_, _]) (Weak.pick (p := [_, _]) (Weak.pick (p := [_, _]) (Weak.pick (p := [_, _]) (Weak.pick (p := [_, _]) (Weak.pick (p := [_, _]) (Weak.pick (p := [_, _]) (Weak.nil _))))))))))))) ?_)))
    first | (refine TQ_keep rfl rfl (W_callR rfl rfl rfl rfl fn_ca_18 (sign_any hG.toGlobs p1 sg1 rc1 ii a1 s hs (some ⟨fb, 0, none⟩) fc m hmb hsm (by omega)) (Split.one (p := [_, _, _, _])) (Sn.pre (sn_head (Sn.own .h3 rfl))) (K_keepTQ (Weak.drop (Weak.refl _)) ?_))) | (refine TQ_keep rfl rfl (W_callR rfl rfl rfl rfl fn_ca_18 (sign_any hG.toGlobs p1 sg1 rc1 ii a1 s hs (some ⟨fb, 0, none⟩) fc m hmb hsm (by omega)) (Split.one (p := [_, _, _, _, _])) (Sn.pre (sn_head (Sn.own .h4 rfl))) (K_keepTQ (Weak.drop (Weak.drop (Weak.refl _))) ?_)))
    refine TQ_pure rfl rfl rfl rfl (P_move rfl rfl) ?_
    refine TQ_pure rfl rfl rfl rfl (P_extract rfl rfl rfl) ?_
    refine TQ_pure rfl rfl rfl rfl (P_extract rfl rfl rfl) ?_
    first | (refine TQ_new rfl rfl (W_storeAll rfl rfl rfl rfl ty_ag_33 (by rw [ints_length]; exact sealH_length _ _) (ints_one) .h0 (by rw [ints_length]; exact (sealH_length _ _).trans rfl) (K_newTQ ?_))) | (refine TQ_new rfl rfl (W_storeAll rfl rfl rfl rfl ty_ag_33 (by rw [ints_length]; exact sealH_length _ _) (ints_one) .h1 (by rw [ints_length]; exact (sealH_length _ _).trans rfl) (K_newTQ ?_)))
    refine TQ_pure rfl rfl rfl rfl (P_assign rfl rfl) ?_
    refine TQ_nil ?_
    refine St.env (.cons (t := 0) rfl (.cons (t := 1) rfl (.cons (t := 6) rfl (.cons (t := 7) rfl (.cons (t := 8) rfl (.cons (t := 9) rfl (.cons (t := 10) rfl (.cons (t := 11) rfl .nil)))))))) ?_
    refine Q_then ?_
    refine R_seq ?_
    refine St.res (rs' := [blk w [.pointer (some ⟨p0, 0, none⟩), .pointer (some ⟨p1, 0, none⟩), .pointer (some ⟨q0, 0, none⟩), .pointer (some ⟨q1, 0, none⟩), .slice sb0 sg0.length sc0, .slice (some ⟨sbb, 0, none⟩) sg1.length sc1, .slice tb0 tg0.length tc0, .slice (some ⟨tbb, 0, none⟩) tg1.length tc1, .slice zb ss.length zc] 79, blk b5 (opC kd wh at_ a base xs.length c sl tw lg) 72, ownS 5 1 (.slice ub m.length uc) m.length (ints .u8 m), ownS 5 1 (.slice (some ⟨fb, 0, none⟩) (m.length + 3) fc) (m.length + 3) (ints .u8 (m ++ [201, 202, 203])), blk b10 (ints .u8 (sealH a1 m)) 33, REG p1 (sg1) (addR rc1 (a1, m)), REF q1 (tg1) (rc1), ownS 27 1 (.slice (some ⟨sbb, 0, none⟩) sg1.length sc1) (sg1).length (ptrs (sg1)), ownS 114 1 (.slice (some ⟨tbb, 0, none⟩) tg1.length tc1) (tg1).length (ptrs (tg1)), ownS 33 16 (.slice zb ss.length zc) (ss).length (flat .u8 (ss)), REG p0 (sg0) (rc0), REF q0 (tg0) (rc0), ownS 27 1 (.slice sb0 sg0.length sc0) (sg0).length (ptrs (sg0)), ownS 114 1 (.slice tb0 tg0.length tc0) (tg0).length (ptrs (tg0))]) (by first | exact Weak.pick (p := [_, _]) (Weak.pick (p := [_, _]) (Weak.pick (p := [_, _]) (Weak.pick (p := [_, _]) (Weak.keep (Weak.keep (Weak.keep (Weak.keep (Weak.keep (Weak.keep (Weak.keep (Weak.keep (Weak.keep (Weak.keep (Weak.nil _)))))))))))))) | exact Weak.pick (p := [_, _]) (Weak.pick (p := [_, _]) (Weak.pick (p := [_, _]) (Weak.pick (p := [_, _]) (Weak.pick (p := [_]) (Weak.keep (Weak.keep (Weak.keep (Weak.keep (Weak.keep (Weak.keep (Weak.keep (Weak.keep (Weak.keep (Weak.nil _))))))))))))))) ?_
    refine R_region ?_
    refine L_val rfl rfl rfl (OpP.v (P_move rfl rfl)) ?_
    refine L_val rfl rfl rfl (OpP.v (P_move rfl rfl)) ?_
    refine L_val rfl rfl rfl (OpP.v (P_nil rfl rfl)) ?_
    refine L_val rfl rfl rfl (OpP.v (P_fld0 rfl ty_fl_79_3 rfl)) ?_
    first | (refine L_val rfl rfl rfl (OpP.v (P_ixa0 (1) rfl ty_ar_76 rfl rfl (by first | rfl | omega) (by omega))) ?_) | (refine L_val rfl rfl rfl (OpP.v (P_ixa (1) rfl ty_ar_76 rfl rfl (by first | rfl | omega) (by omega))) ?_)
    refine L_val rfl rfl rfl (V_load rfl rfl ty_sc_75 (Rd.blk .h0 rfl)) ?_
    refine L_val rfl rfl rfl (OpP.v (P_move rfl rfl)) ?_
    refine L_val rfl rfl rfl (OpP.v (P_ixs (ii) rfl ty_sl_75 rfl rfl (by first | rfl | omega) (by omega))) ?_
    refine L_val rfl rfl rfl (V_load rfl rfl ty_sc_114 (rd_own1 .h8 (ptrs_at ht))) ?_
    refine L_val rfl rfl rfl (OpP.v (P_move rfl rfl)) ?_
    refine L_op rfl (W_callR rfl rfl rfl rfl fn_ca_65 (rsign_any hG q1 tg1 rc1 ii a1 t ht ub uc m hmb hsm (by omega)) (Split.one (p := [_, _, _, _, _, _])) (Sn.pre (Sn.own .h2 rfl)) ?_)
    refine St.res (rs' := [blk w [.pointer (some ⟨p0, 0, none⟩), .pointer (some ⟨p1, 0, none⟩), .pointer (some ⟨q0, 0, none⟩), .pointer (some ⟨q1, 0, none⟩), .slice sb0 sg0.length sc0, .slice (some ⟨sbb, 0, none⟩) sg1.length sc1, .slice tb0 tg0.length tc0, .slice (some ⟨tbb, 0, none⟩) tg1.length tc1, .slice zb ss.length zc] 79, blk b5 (opC kd wh at_ a base xs.length c sl tw lg) 72, ownS 5 1 (.slice ub m.length uc) m.length (ints .u8 m), ownS 5 1 (.slice (some ⟨fb, 0, none⟩) (m.length + 3) fc) (m.length + 3) (ints .u8 (m ++ [201, 202, 203])), blk b10 (ints .u8 (sealH a1 m)) 33, REG p1 (sg1) (addR rc1 (a1, m)), REF q1 (tg1) (addR rc1 (a1, m)), ownS 27 1 (.slice (some ⟨sbb, 0, none⟩) sg1.length sc1) (sg1).length (ptrs (sg1)), ownS 114 1 (.slice (some ⟨tbb, 0, none⟩) tg1.length tc1) (tg1).length (ptrs (tg1)), ownS 33 16 (.slice zb ss.length zc) (ss).length (flat .u8 (ss)), REG p0 (sg0) (rc0), REF q0 (tg0) (rc0), ownS 27 1 (.slice sb0 sg0.length sc0) (sg0).length (ptrs (sg0)), ownS 114 1 (.slice tb0 tg0.length tc0) (tg0).length (ptrs (tg0))]) (Weak.p1 (Weak.p1 (Weak.p1 (Weak.p1 (Weak.p1 (Weak.p1 (Weak.refl _))))))) ?_
    refine L_val rfl rfl rfl (OpP.v (P_move rfl rfl)) ?_
    refine L_val rfl rfl rfl (OpP.v (P_extract rfl rfl rfl)) ?_
    refine L_val rfl rfl rfl (OpP.v (P_extract rfl rfl rfl)) ?_
    refine L_op rfl (W_alloc rfl rfl rfl ty_ze_33 fun b12 => ?_)
    refine L_op rfl (W_storeAll rfl rfl rfl rfl ty_ag_33 (by rw [ints_length]; exact sealH_length _ _) (ints_one) .h0 (by rw [ints_length]; exact (sealH_length _ _).trans rfl) ?_)
    refine L_val rfl rfl rfl (OpP.v (P_assign rfl rfl)) ?_
    refine L_nil ?_
    refine St.env (.cons (t := 0) rfl (.cons (t := 6) rfl (.cons (t := 8) rfl (.cons (t := 9) rfl (.cons (t := 10) rfl (.cons (t := 11) rfl (.cons (t := 12) rfl (.cons (t := 13) rfl .nil)))))))) ?_
    refine Q_then ?_
    refine R_seq ?_
    refine St.res (rs' := [blk w [.pointer (some ⟨p0, 0, none⟩), .pointer (some ⟨p1, 0, none⟩), .pointer (some ⟨q0, 0, none⟩), .pointer (some ⟨q1, 0, none⟩), .slice sb0 sg0.length sc0, .slice (some ⟨sbb, 0, none⟩) sg1.length sc1, .slice tb0 tg0.length tc0, .slice (some ⟨tbb, 0, none⟩) tg1.length tc1, .slice zb ss.length zc] 79, blk b5 (opC kd wh at_ a base xs.length c sl tw lg) 72, ownS 5 1 (.slice ub m.length uc) m.length (ints .u8 m), ownS 5 1 (.slice (some ⟨fb, 0, none⟩) (m.length + 3) fc) (m.length + 3) (ints .u8 (m ++ [201, 202, 203])), blk b10 (ints .u8 (sealH a1 m)) 33, blk b12 (ints .u8 (sealH a1 m)) 33, REG p1 (sg1) (addR rc1 (a1, m)), REF q1 (tg1) (addR rc1 (a1, m)), ownS 27 1 (.slice (some ⟨sbb, 0, none⟩) sg1.length sc1) (sg1).length (ptrs (sg1)), ownS 114 1 (.slice (some ⟨tbb, 0, none⟩) tg1.length tc1) (tg1).length (ptrs (tg1)), ownS 33 16 (.slice zb ss.length zc) (ss).length (flat .u8 (ss)), REG p0 (sg0) (rc0), REF q0 (tg0) (rc0), ownS 27 1 (.slice sb0 sg0.length sc0) (sg0).length (ptrs (sg0)), ownS 114 1 (.slice tb0 tg0.length tc0) (tg0).length (ptrs (tg0))]) (Weak.p1 (Weak.p1 (Weak.p1 (Weak.p1 (Weak.p1 (Weak.refl _)))))) ?_
    refine R_region ?_
    refine L_val rfl rfl rfl (OpP.v (P_move rfl rfl)) ?_
    refine L_val rfl rfl rfl (OpP.v (P_move rfl rfl)) ?_
    refine L_op rfl (W_callV rfl rfl rfl rfl fn_ca_66 (left_ok fb fc ub uc m hfc hml hmb) (fun w nw => ⟨(Sn.own .h3 rfl).rowAt0 (fun _ _ h => h) w nw, (Sn.own .h2 rfl).rw_ w nw⟩) ?_)
    refine E_true (t := 70) rfl (rfl) ?_
    refine L_val rfl rfl rfl (OpP.v (P_assign rfl rfl)) ?_
    refine L_nil ?_
    refine St.env (.cons (t := 0) rfl (.cons (t := 6) rfl (.cons (t := 9) rfl (.cons (t := 10) rfl (.cons (t := 11) rfl (.cons (t := 12) rfl (.cons (t := 13) rfl (.cons (t := 14) rfl .nil)))))))) ?_
    refine Q_then ?_
    refine R_seq ?_
    refine R_region ?_
    refine L_val rfl rfl rfl (OpP.v (P_move rfl rfl)) ?_
    refine L_op rfl (W_callR rfl rfl rfl rfl fn_ca_67 (by have h := spoil_ok (gl := gl) fb fc (m ++ [201, 202, 203]) (by rw [List.length_append]; show m.length + 3 ≤ _; omega); rw [List.length_append] at h; exact h) (Split.one (p := [_, _, _])) (fun _ _ _ _ _ _ _ => trivial) ?_)
    refine St.res (rs' := [blk w [.pointer (some ⟨p0, 0, none⟩), .pointer (some ⟨p1, 0, none⟩), .pointer (some ⟨q0, 0, none⟩), .pointer (some ⟨q1, 0, none⟩), .slice sb0 sg0.length sc0, .slice (some ⟨sbb, 0, none⟩) sg1.length sc1, .slice tb0 tg0.length tc0, .slice (some ⟨tbb, 0, none⟩) tg1.length tc1, .slice zb ss.length zc] 79, blk b5 (opC kd wh at_ a base xs.length c sl tw lg) 72, ownS 5 1 (.slice ub m.length uc) m.length (ints .u8 m), blk b10 (ints .u8 (sealH a1 m)) 33, blk b12 (ints .u8 (sealH a1 m)) 33, REG p1 (sg1) (addR rc1 (a1, m)), REF q1 (tg1) (addR rc1 (a1, m)), ownS 27 1 (.slice (some ⟨sbb, 0, none⟩) sg1.length sc1) (sg1).length (ptrs (sg1)), ownS 114 1 (.slice (some ⟨tbb, 0, none⟩) tg1.length tc1) (tg1).length (ptrs (tg1)), ownS 33 16 (.slice zb ss.length zc) (ss).length (flat .u8 (ss)), REG p0 (sg0) (rc0), REF q0 (tg0) (rc0), ownS 27 1 (.slice sb0 sg0.length sc0) (sg0).length (ptrs (sg0)), ownS 114 1 (.slice tb0 tg0.length tc0) (tg0).length (ptrs (tg0))]) (Weak.drop (Weak.refl _)) ?_
    refine L_nil ?_
    refine St.env (.cons (t := 0) rfl (.cons (t := 6) rfl (.cons (t := 10) rfl (.cons (t := 11) rfl (.cons (t := 12) rfl (.cons (t := 13) rfl (.cons (t := 14) rfl .nil))))))) ?_
    refine Q_then ?_
    refine R_seq ?_
    refine R_seq ?_
    refine R_region ?_
    refine L_val rfl rfl rfl (OpP.v (P_move rfl rfl)) ?_
    refine L_op rfl (W_callV rfl rfl rfl rfl fn_ca_17 (num_ok 0) (fun _ _ => trivial) ?_)
    refine L_val rfl rfl rfl (OpP.v (P_eql rfl rfl rfl)) ?_
    refine E_true (t := 75) rfl (rfl) ?_
    refine L_nil ?_
    refine St.env (.cons (t := 0) rfl (.cons (t := 6) rfl (.cons (t := 10) rfl (.cons (t := 11) rfl (.cons (t := 12) rfl (.cons (t := 13) rfl (.cons (t := 14) rfl (.cons (t := 75) rfl .nil)))))))) ?_
    refine Q_then ?_
    refine R_condT rfl ?_
    refine R_open [(0, 0), (1, 0), (2, 0), (3, 0), (4, 1), (5, 1), (6, 2), (7, 3), (8, 0), (9, 0), (10, 3)] mixed (by kernel_rfl) (QOk.then QOk.body) ?_
    refine O_pure rfl rfl rfl rfl (P_move rfl rfl) ?_
    refine O_pure rfl rfl rfl rfl (P_move rfl rfl) ?_
    refine O_pure rfl rfl rfl rfl (P_nil rfl rfl) ?_
    refine O_pure rfl rfl rfl rfl (P_fld0 rfl ty_fl_79_4 rfl) ?_
    refine O_val rfl rfl rfl rfl (V_load rfl rfl ty_sc_77 (Rd.blk .h0 rfl)) ?_
    refine O_val rfl rfl rfl rfl (V_loadAgg rfl rfl ty_ag_33 (Rds.blk .h4) (by rw [ints_length]; exact sealH_length _ _)) ?_
    refine O_keep rfl rfl (W_lit (z := .nilIface) (ints .u8 (sealH a1 m)) rfl rfl rfl ty_sl_77 ty_lz_77 rfl rfl rfl (by decide) (by decide) (by simp [Value.cells, ints_length, sealH_length]) (by simp [Value.cells]) fun b82 => (K_keep (Weak.drop (Weak.refl _)) ?_))
    refine O_new rfl rfl (W_append (p := [_, _, _, _, _, _, _, _, _, _]) rfl rfl rfl ty_sl_77 ty_ap_77 ty_src_77 rfl rfl rfl (Src.slice (sz := 16) (news := ints .u8 (sealH a1 m)) (Rds.blk .h0) (by rw [ints_length, sealH_length]) ints_one) (by omega) (by simp only [maxLen]; omega) fun v83 => (K_new ?_))
    refine St.ownForm (p := [_, _, _, _, _, _, _, _, _, _]) fun nb nc hnb_ hnc => ?_
    subst hnb_
    refine O_pure rfl rfl rfl rfl (P_nil rfl rfl) ?_
    refine O_pure rfl rfl rfl rfl (P_fld0 rfl ty_fl_79_4 rfl) ?_
    refine O_new rfl rfl (W_store rfl rfl rfl rfl ty_sc_77 rfl .h1 (by first | decide | (simp [ints]; done) | (simp [ints]; omega)) (K_new ?_))
    refine O_nil ?_
    refine St.env (.cons (t := 6) rfl (.cons (t := 10) rfl (.cons (t := 11) rfl (.cons (t := 12) rfl (.cons (t := 13) rfl (.cons (t := 14) rfl .nil)))))) ?_
    refine Q_then ?_
    refine R_seq ?_
    refine St.res (rs' := [blk w [.pointer (some ⟨p0, 0, none⟩), .pointer (some ⟨p1, 0, none⟩), .pointer (some ⟨q0, 0, none⟩), .pointer (some ⟨q1, 0, none⟩), .slice sb0 sg0.length sc0, .slice (some ⟨sbb, 0, none⟩) sg1.length sc1, .slice tb0 tg0.length tc0, .slice (some ⟨tbb, 0, none⟩) tg1.length tc1, .slice nb (ss.length + 1) nc] 79, blk b5 (opC kd wh at_ a base xs.length c sl tw lg) 72, ownS 5 1 (.slice ub m.length uc) m.length (ints .u8 m), blk b10 (ints .u8 (sealH a1 m)) 33, blk b12 (ints .u8 (sealH a1 m)) 33, REG p1 (sg1) (addR rc1 (a1, m)), REF q1 (tg1) (addR rc1 (a1, m)), ownS 27 1 (.slice (some ⟨sbb, 0, none⟩) sg1.length sc1) (sg1).length (ptrs (sg1)), ownS 114 1 (.slice (some ⟨tbb, 0, none⟩) tg1.length tc1) (tg1).length (ptrs (tg1)), ownS 33 16 (.slice nb (ss.length + 1) nc) (ss ++ [sealH a1 m]).length (flat .u8 (ss ++ [sealH a1 m])), REG p0 (sg0) (rc0), REF q0 (tg0) (rc0), ownS 27 1 (.slice sb0 sg0.length sc0) (sg0).length (ptrs (sg0)), ownS 114 1 (.slice tb0 tg0.length tc0) (tg0).length (ptrs (tg0))]) (by have e : (ss ++ [sealH a1 m]).length = ss.length + 1 := (by simp); rw [flat_append, e, show flat .u8 [sealH a1 m] = ints .u8 (sealH a1 m) by rw [flat_cons, flat_nil, List.append_nil]]; exact Weak.drop (Weak.refl _)) ?_
    refine R_region ?_
    refine L_val rfl rfl rfl (OpP.v (P_move rfl rfl)) ?_
    refine L_val rfl rfl rfl (OpP.v (P_move rfl rfl)) ?_
    refine L_val rfl rfl rfl (V_loadAgg rfl rfl ty_ag_33 (Rds.blk .h3) (by rw [ints_length]; exact sealH_length _ _)) ?_
    refine L_val rfl rfl rfl (V_loadAgg rfl rfl ty_ag_33 (Rds.blk .h4) (by rw [ints_length]; exact sealH_length _ _)) ?_
    refine L_val rfl rfl rfl (OpP.v (P_eqArr rfl rfl rfl ty_un_33 ty_int_5 ty_sc_5 ty_eg_33 (sealH_length _ _) (sealH_length _ _))) ?_
    refine E_true (t := 90) rfl (decide_eq_true rfl) ?_
    refine L_val rfl rfl rfl (OpP.v (P_pick rfl rfl rfl)) ?_
    refine L_val rfl rfl rfl (OpP.v (P_move rfl rfl)) ?_
    refine L_val rfl rfl rfl (OpP.v (P_move rfl rfl)) ?_
    refine L_op rfl (W_callV rfl rfl rfl rfl fn_ca_17 (num_ok 0) (fun _ _ => trivial) ?_)
    refine L_val rfl rfl rfl (OpP.v (P_move rfl rfl)) ?_
    refine L_op rfl (W_callV rfl rfl rfl rfl fn_ca_17 (num_ok 0) (fun _ _ => trivial) ?_)
    refine L_val rfl rfl rfl (OpP.v (P_eql rfl rfl rfl)) ?_
    refine E_true (t := 97) rfl (rfl) ?_
    refine L_val rfl rfl rfl (OpP.v (P_pick rfl rfl rfl)) ?_
    refine L_val rfl rfl rfl (OpP.v (P_assign rfl rfl)) ?_
    refine L_nil ?_
    refine St.env (.cons (t := 6) rfl .nil) ?_
    refine Q_then ?_
    refine R_ret ?_
    exact R_end (rs2 := [TWO w (n + 1)]) rfl rfl (.tmp rfl .nil) (⟨rfl, rfl⟩) ((Weak.keep (Weak.drop (Weak.drop (Weak.drop (Weak.drop (Weak.refl _)))))).trans ((Weak.keep (Weak.pick (p := [_, _, _, _, _]) (Weak.pick (p := [_, _, _, _, _]) (Weak.pick (p := [_, _, _, _, _]) (Weak.pick (p := [_, _, _, _, _]) (Weak.keep (Weak.keep (Weak.keep (Weak.keep (Weak.keep (Weak.nil _))))))))))).trans (two_close (n := n + 1) (rs := []) ⟨⟨p0, q0, sg0, tg0, rc0, .slice sb0 sg0.length sc0, .slice tb0 tg0.length tc0⟩, ⟨p1, q1, sg1, tg1, addR rc1 (a1, m), .slice (some ⟨sbb, 0, none⟩) sg1.length sc1, .slice (some ⟨tbb, 0, none⟩) tg1.length tc1⟩, .slice nb (ss.length + 1) nc, ss ++ [sealH a1 m]⟩ ⟨⟨hen0, Nat.le_succ_of_le hs0, Nat.le_succ_of_le hr0⟩, ⟨hen1, Nat.le_succ_of_le hs1, addR_le hr1⟩, snoc_le hzl, all16_snoc hz16 (sealH_length _ _)⟩)))
theorem signs_ok1 {gl : Nat → Obj} (hG : GlobsR gl) (w n : Nat) (hn : n ≤ 1599289640354) (kd wh at_ a : Int) (base : Option Addr) (c : Nat) (xs sl : List Int) (tw : Int) (lg : Bool) (hsl : sl.length = 16) (hxm : xs.length ≤ 140737488351232) (hxb : IsB xs) : SpecR (cx gl) 49 [.pointer (some ⟨w, 0, none⟩), .int .i64 1, .agg (opC kd wh at_ a base xs.length c sl tw lg).toArray] (fun w h => Seen w h base (ints .u8 xs)) [TWO w n] (.bool true) [TWO w (n + 1)] := Spec.openEx fun ⟨⟨p0, q0, sg0, tg0, rc0, vs0, vt0⟩, ⟨p1, q1, sg1, tg1, rc1, vs1, vt1⟩, z, ss⟩ hok => by
  obtain ⟨⟨hen0, hs0, hr0⟩, ⟨hen1, hs1, hr1⟩, hzl, hz16⟩ := hok
  by_cases h0 : sg1.length = 0
  · exact signs_none1 hG w n p0 q0 p1 q1 sg0 tg0 sg1 tg1 rc0 rc1 vs0 vt0 vs1 vt1 z ss hen0 hen1 hs0 hs1 hr0 hr1 hzl hz16 hn kd wh at_ a base c xs sl tw lg hsl hxm hxb h0
  · by_cases hb : (opMsg xs lg).length ≤ 1048576
    · exact signs_fine1 hG w n p0 q0 p1 q1 sg0 tg0 sg1 tg1 rc0 rc1 vs0 vt0 vs1 vt1 z ss hen0 hen1 hs0 hs1 hr0 hr1 hzl hz16 hn kd wh at_ a base c xs sl tw lg hsl hxm hxb (Nat.pos_of_ne_zero h0) hb
    · exact signs_big1 hG w n p0 q0 p1 q1 sg0 tg0 sg1 tg1 rc0 rc1 vs0 vt0 vs1 vt1 z ss hen0 hen1 hs0 hs1 hr0 hr1 hzl hz16 hn kd wh at_ a base c xs sl tw lg hsl hxm hxb (Nat.pos_of_ne_zero h0) (Nat.lt_of_not_le hb)
theorem checks1 {gl : Nat → Obj} (hG : GlobsR gl) (w n : Nat) (p0 q0 p1 q1 : Nat) (sg0 tg0 sg1 tg1 : List (Int × Nat)) (rc0 rc1 : List Rcd) (vs0 vt0 vs1 vt1 z : Value) (ss : List (List Int)) (hen0 : enOf sg0 = enOf tg0) (hen1 : enOf sg1 = enOf tg1) (hs0 : sg0.length ≤ n) (hs1 : sg1.length ≤ n) (hr0 : rc0.length ≤ n) (hr1 : rc1.length ≤ n) (hzl : ss.length ≤ n) (hz16 : ∀ s ∈ ss, s.length = 16) (hn : n ≤ 1599289640354) (kd wh at_ a : Int) (base : Option Addr) (c : Nat) (xs sl : List Int) (tw : Int) (lg : Bool) (hsl : sl.length = 16) (hxm : xs.length ≤ 140737488351232) (hxb : IsB xs)  : SpecR (cx gl) 50 [.pointer (some ⟨w, 0, none⟩), .int .i64 1, .agg (opC kd wh at_ a base xs.length c sl tw lg).toArray] (fun w h => Seen w h base (ints .u8 xs)) [blk w [.pointer (some ⟨p0, 0, none⟩), .pointer (some ⟨p1, 0, none⟩), .pointer (some ⟨q0, 0, none⟩), .pointer (some ⟨q1, 0, none⟩), vs0, vs1, vt0, vt1, z] 79, REG p0 (sg0) (rc0), REF q0 (tg0) (rc0), ownS 27 1 (vs0) (sg0).length (ptrs (sg0)), ownS 114 1 (vt0) (tg0).length (ptrs (tg0)), REG p1 (sg1) (rc1), REF q1 (tg1) (rc1), ownS 27 1 (vs1) (sg1).length (ptrs (sg1)), ownS 114 1 (vt1) (tg1).length (ptrs (tg1)), ownS 33 16 (z) (ss).length (flat .u8 (ss))] (.bool true) [TWO w (n + 1)] := by
  refine Spec.enter (C := cx gl) Tryd.func50 rfl 57 rfl rfl fun w0 h0 hsep hsub hpre => ?_
  show St (cx gl) _ [(0, .pointer (some ⟨w, 0, none⟩)), (1, .int .i64 1), (2, .agg (opC kd wh at_ a base xs.length c sl tw lg).toArray)] _ _
  have htl0 : tg0.length = sg0.length := (enOf_len hen0).symm
  have htl1 : tg1.length = sg1.length := (enOf_len hen1).symm
  refine St.ownForm (p := [_, _, _]) fun sb0 sc0 hsb0_ hsc0 => ?_
  subst hsb0_
  refine St.ownForm (p := [_, _, _, _]) fun tb0 tc0 htb0_ htc0 => ?_
  subst htb0_
  refine St.ownForm (p := [_, _, _, _, _, _, _]) fun sb1 sc1 hsb1_ hsc1 => ?_
  subst hsb1_
  refine St.ownForm (p := [_, _, _, _, _, _, _, _]) fun tb1 tc1 htb1_ htc1 => ?_
  subst htb1_
  refine St.ownForm (p := [_, _, _, _, _, _, _, _, _]) fun zb zc hzb_ hzc => ?_
  subst hzb_
  refine St.res (rs' := [blk w [.pointer (some ⟨p0, 0, none⟩), .pointer (some ⟨p1, 0, none⟩), .pointer (some ⟨q0, 0, none⟩), .pointer (some ⟨q1, 0, none⟩), .slice sb0 sg0.length sc0, .slice sb1 sg1.length sc1, .slice tb0 tg0.length tc0, .slice tb1 tg1.length tc1, .slice zb ss.length zc] 79, REG p0 (sg0) (rc0), REF q0 (tg0) (rc0), ownS 27 1 (.slice sb0 sg0.length sc0) (sg0).length (ptrs (sg0)), ownS 114 1 (.slice tb0 tg0.length tc0) (tg0).length (ptrs (tg0)), REG p1 (sg1) (rc1), REF q1 (tg1) (rc1), ownS 27 1 (.slice sb1 sg1.length sc1) (sg1).length (ptrs (sg1)), ownS 114 1 (.slice tb1 tg1.length tc1) (tg1).length (ptrs (tg1)), ownS 33 16 (.slice zb ss.length zc) (ss).length (flat .u8 (ss))]) (Weak.refl _) ?_
  obtain ⟨m, hm⟩ : ∃ m, m = opMsg xs lg := ⟨_, rfl⟩
  have hmb : IsB m := by rw [hm]; exact isB_opMsg hxb lg
  have hml : m.length ≤ 140737488351232 := by rw [hm]; exact opMsg_le hxm lg
  refine R_seq ?_
  refine R_region ?_
  refine L_op rfl (W_box (opC kd wh at_ a base xs.length c sl tw lg) rfl rfl rfl rfl rfl fun b5 => ?_)
  refine L_val rfl rfl rfl (OpP.v (P_assign rfl rfl)) ?_
  refine L_nil ?_
  refine St.env (.cons (t := 0) rfl (.cons (t := 1) rfl (.cons (t := 5) rfl (.cons (t := 6) rfl .nil)))) ?_
  refine Q_then ?_
  refine R_seq ?_
  refine St.res (rs' := [blk w [.pointer (some ⟨p0, 0, none⟩), .pointer (some ⟨p1, 0, none⟩), .pointer (some ⟨q0, 0, none⟩), .pointer (some ⟨q1, 0, none⟩), .slice sb0 sg0.length sc0, .slice sb1 sg1.length sc1, .slice tb0 tg0.length tc0, .slice tb1 tg1.length tc1, .slice zb ss.length zc] 79, blk b5 (opC kd wh at_ a base xs.length c sl tw lg) 72, REG p1 (sg1) (rc1), REF q1 (tg1) (rc1), ownS 27 1 (.slice sb1 sg1.length sc1) (sg1).length (ptrs (sg1)), ownS 114 1 (.slice tb1 tg1.length tc1) (tg1).length (ptrs (tg1)), ownS 33 16 (.slice zb ss.length zc) (ss).length (flat .u8 (ss)), REG p0 (sg0) (rc0), REF q0 (tg0) (rc0), ownS 27 1 (.slice sb0 sg0.length sc0) (sg0).length (ptrs (sg0)), ownS 114 1 (.slice tb0 tg0.length tc0) (tg0).length (ptrs (tg0))]) ((Weak.swap.trans (Weak.refl _)).trans (Weak.keep (Weak.keep (Weak.pick (p := [_, _, _, _]) (Weak.pick (p := [_, _, _, _]) (Weak.pick (p := [_, _, _, _]) (Weak.pick (p := [_, _, _, _]) (Weak.pick (p := [_, _, _, _]) (Weak.keep (Weak.keep (Weak.keep (Weak.keep (Weak.nil _))))))))))))) ?_
  refine R_region ?_
  refine L_val rfl rfl rfl (V_loadAgg rfl rfl ty_ag_72 (Rds.blk .h1) (opC_length hsl)) ?_
  refine L_op rfl (W_call rfl rfl rfl rfl fn_ca_63 (message_ok kd wh at_ a base c xs sl tw lg hsl hxm) (Split.nil _) (fun w a b _ hb dj m_ => (Sn.old hpre).rw_ w ⟨_, hb, m_.le (Heap.le_join_right dj)⟩) fun v34 rs1 (e1 : rs1 = _) => ?_)
  subst e1
  rw [← hm]
  refine St.ownForm (p := []) fun ub uc hub_ huc => ?_
  subst hub_
  refine St.res (rs' := [blk w [.pointer (some ⟨p0, 0, none⟩), .pointer (some ⟨p1, 0, none⟩), .pointer (some ⟨q0, 0, none⟩), .pointer (some ⟨q1, 0, none⟩), .slice sb0 sg0.length sc0, .slice sb1 sg1.length sc1, .slice tb0 tg0.length tc0, .slice tb1 tg1.length tc1, .slice zb ss.length zc] 79, blk b5 (opC kd wh at_ a base xs.length c sl tw lg) 72, ownS 5 1 (.slice ub m.length uc) m.length (ints .u8 m), REG p1 (sg1) (rc1), REF q1 (tg1) (rc1), ownS 27 1 (.slice sb1 sg1.length sc1) (sg1).length (ptrs (sg1)), ownS 114 1 (.slice tb1 tg1.length tc1) (tg1).length (ptrs (tg1)), ownS 33 16 (.slice zb ss.length zc) (ss).length (flat .u8 (ss)), REG p0 (sg0) (rc0), REF q0 (tg0) (rc0), ownS 27 1 (.slice sb0 sg0.length sc0) (sg0).length (ptrs (sg0)), ownS 114 1 (.slice tb0 tg0.length tc0) (tg0).length (ptrs (tg0))]) (Weak.p1 (Weak.p1 (Weak.refl _))) ?_
  refine L_val rfl rfl rfl (OpP.v (P_assign rfl rfl)) ?_
  refine L_nil ?_
  refine St.env (.cons (t := 0) rfl (.cons (t := 1) rfl (.cons (t := 5) rfl (.cons (t := 6) rfl (.cons (t := 7) rfl .nil))))) ?_
  refine Q_then ?_
  refine R_seq ?_
  refine R_region ?_
  refine L_val rfl rfl rfl (OpP.v (P_move rfl rfl)) ?_
  refine L_op rfl (W_call rfl rfl rfl rfl fn_ca_64 (room_ok ub uc m hml) (Split.nil _) (fun w a b _ hb dj m_ => (Sn.own .h2 rfl).rw_ w ⟨_, hb, m_.le (Heap.le_join_right dj)⟩) fun v36 rs2 (e2 : rs2 = _) => ?_)
  subst e2
  refine St.ownSome (p := []) (by omega) fun fb fc hfv hfc => ?_
  subst hfv
  refine St.res (rs' := [blk w [.pointer (some ⟨p0, 0, none⟩), .pointer (some ⟨p1, 0, none⟩), .pointer (some ⟨q0, 0, none⟩), .pointer (some ⟨q1, 0, none⟩), .slice sb0 sg0.length sc0, .slice sb1 sg1.length sc1, .slice tb0 tg0.length tc0, .slice tb1 tg1.length tc1, .slice zb ss.length zc] 79, blk b5 (opC kd wh at_ a base xs.length c sl tw lg) 72, ownS 5 1 (.slice ub m.length uc) m.length (ints .u8 m), ownS 5 1 (.slice (some ⟨fb, 0, none⟩) (m.length + 3) fc) (m.length + 3) (ints .u8 (m ++ [201, 202, 203])), REG p1 (sg1) (rc1), REF q1 (tg1) (rc1), ownS 27 1 (.slice sb1 sg1.length sc1) (sg1).length (ptrs (sg1)), ownS 114 1 (.slice tb1 tg1.length tc1) (tg1).length (ptrs (tg1)), ownS 33 16 (.slice zb ss.length zc) (ss).length (flat .u8 (ss)), REG p0 (sg0) (rc0), REF q0 (tg0) (rc0), ownS 27 1 (.slice sb0 sg0.length sc0) (sg0).length (ptrs (sg0)), ownS 114 1 (.slice tb0 tg0.length tc0) (tg0).length (ptrs (tg0))]) (Weak.p1 (Weak.p1 (Weak.p1 (Weak.refl _)))) ?_
  refine L_val rfl rfl rfl (OpP.v (P_assign rfl rfl)) ?_
  refine L_nil ?_
  refine St.env (.cons (t := 0) rfl (.cons (t := 1) rfl (.cons (t := 5) rfl (.cons (t := 6) rfl (.cons (t := 7) rfl (.cons (t := 8) rfl .nil)))))) ?_
  refine Q_then ?_
  refine R_seq ?_
  refine R_region ?_
  refine L_val rfl rfl rfl (OpP.v (P_move rfl rfl)) ?_
  refine L_val rfl rfl rfl (V_loadAgg rfl rfl ty_ag_72 (Rds.blk .h1) (opC_length hsl)) ?_
  refine L_val rfl rfl rfl (OpP.v (P_move rfl rfl)) ?_
  refine L_op rfl (W_call rfl rfl rfl rfl fn_ca_68 (shown_ok hG w _ _ _ _ _ _ _ _ zb zc ss hz16 (by omega) kd wh at_ a base c xs sl tw lg hsl ub uc m hml) (Weak.keep (Weak.pick (p := [_, _, _, _, _, _, _]) (Weak.keep (Weak.keep (Weak.keep (Weak.keep (Weak.keep (Weak.keep (Weak.keep (Weak.keep (Weak.keep (Weak.keep (Weak.keep (Weak.nil _)))))))))))))) (Sn.pre (Sn.own .h1 rfl)) fun v20 rs3 ⟨sl2, hl2, e3, e4⟩ => ?_)
  subst e3; subst e4
  refine St.res (rs' := [blk w [.pointer (some ⟨p0, 0, none⟩), .pointer (some ⟨p1, 0, none⟩), .pointer (some ⟨q0, 0, none⟩), .pointer (some ⟨q1, 0, none⟩), .slice sb0 sg0.length sc0, .slice sb1 sg1.length sc1, .slice tb0 tg0.length tc0, .slice tb1 tg1.length tc1, .slice zb ss.length zc] 79, blk b5 (opC kd wh at_ a base xs.length c sl tw lg) 72, ownS 5 1 (.slice ub m.length uc) m.length (ints .u8 m), ownS 5 1 (.slice (some ⟨fb, 0, none⟩) (m.length + 3) fc) (m.length + 3) (ints .u8 (m ++ [201, 202, 203])), REG p1 (sg1) (rc1), REF q1 (tg1) (rc1), ownS 27 1 (.slice sb1 sg1.length sc1) (sg1).length (ptrs (sg1)), ownS 114 1 (.slice tb1 tg1.length tc1) (tg1).length (ptrs (tg1)), ownS 33 16 (.slice zb ss.length zc) (ss).length (flat .u8 (ss)), REG p0 (sg0) (rc0), REF q0 (tg0) (rc0), ownS 27 1 (.slice sb0 sg0.length sc0) (sg0).length (ptrs (sg0)), ownS 114 1 (.slice tb0 tg0.length tc0) (tg0).length (ptrs (tg0))]) (Weak.keep (Weak.pick (p := [_]) (Weak.pick (p := [_]) (Weak.pick (p := [_]) (Weak.pick (p := [_]) (Weak.pick (p := [_]) (Weak.pick (p := [_]) (Weak.pick (p := [_]) (Weak.keep (Weak.keep (Weak.keep (Weak.keep (Weak.keep (Weak.nil _)))))))))))))) ?_
  refine L_op rfl (W_alloc rfl rfl rfl ty_ze_33 fun b9 => ?_)
  refine L_op rfl (W_storeAll rfl rfl rfl rfl ty_ag_33 (by rw [ints_length, hl2]) (ints_one) .h0 (by rw [ints_length, hl2]; rfl) ?_)
  refine L_nil ?_
  refine St.env (.cons (t := 0) rfl (.cons (t := 1) rfl (.cons (t := 5) rfl (.cons (t := 6) rfl (.cons (t := 7) rfl (.cons (t := 8) rfl (.cons (t := 9) rfl .nil))))))) ?_
  refine Q_then ?_
  refine R_seq ?_
  refine St.res (rs' := [blk w [.pointer (some ⟨p0, 0, none⟩), .pointer (some ⟨p1, 0, none⟩), .pointer (some ⟨q0, 0, none⟩), .pointer (some ⟨q1, 0, none⟩), .slice sb0 sg0.length sc0, .slice sb1 sg1.length sc1, .slice tb0 tg0.length tc0, .slice tb1 tg1.length tc1, .slice zb ss.length zc] 79, blk b5 (opC kd wh at_ a base xs.length c sl tw lg) 72, ownS 5 1 (.slice ub m.length uc) m.length (ints .u8 m), ownS 5 1 (.slice (some ⟨fb, 0, none⟩) (m.length + 3) fc) (m.length + 3) (ints .u8 (m ++ [201, 202, 203])), blk b9 (ints .u8 sl2) 33, REG p1 (sg1) (rc1), REF q1 (tg1) (rc1), ownS 27 1 (.slice sb1 sg1.length sc1) (sg1).length (ptrs (sg1)), ownS 114 1 (.slice tb1 tg1.length tc1) (tg1).length (ptrs (tg1)), ownS 33 16 (.slice zb ss.length zc) (ss).length (flat .u8 (ss)), REG p0 (sg0) (rc0), REF q0 (tg0) (rc0), ownS 27 1 (.slice sb0 sg0.length sc0) (sg0).length (ptrs (sg0)), ownS 114 1 (.slice tb0 tg0.length tc0) (tg0).length (ptrs (tg0))]) (Weak.p1 (Weak.p1 (Weak.p1 (Weak.p1 (Weak.refl _))))) ?_
  refine R_open [(0, 0), (1, 0), (2, 0), (3, 0), (4, 0), (5, 1), (6, 0), (7, 1), (8, 0), (9, 0), (10, 0), (11, 0), (12, 1), (13, 2), (14, 0)] mixed (by kernel_rfl) (QOk.then QOk.body) ?_
  refine O_pure rfl rfl rfl rfl (P_move rfl rfl) ?_
  refine O_pure rfl rfl rfl rfl (P_move rfl rfl) ?_
  refine O_pure rfl rfl rfl rfl (P_nil rfl rfl) ?_
  refine O_pure rfl rfl rfl rfl (P_fld0 rfl ty_fl_79_0 rfl) ?_
  first | (refine O_pure rfl rfl rfl rfl (P_ixa0 (1) rfl ty_ar_53 rfl rfl (by first | rfl | omega) (by omega)) ?_) | (refine O_pure rfl rfl rfl rfl (P_ixa (1) rfl ty_ar_53 rfl rfl (by first | rfl | omega) (by omega)) ?_)
  refine O_val rfl rfl rfl rfl (V_load rfl rfl ty_sc_25 (Rd.blk .h0 rfl)) ?_
  refine O_pure rfl rfl rfl rfl (P_fld0 rfl ty_fl_72_3 rfl) ?_
  refine O_val rfl rfl rfl rfl (V_load rfl rfl ty_sc_23 (Rd.blk .h1 rfl)) ?_
  refine O_pure rfl rfl rfl rfl (P_move rfl rfl) ?_
  refine O_pure rfl rfl rfl rfl (P_move rfl rfl) ?_
  refine O_pure rfl rfl rfl rfl (P_len rfl ty_sl_24 rfl) ?_
  refine O_pure rfl rfl rfl rfl (P_slice 0 m.length rfl ty_sl_24 rfl rfl ⟨_, rfl⟩ (by omega) (by omega)) ?_
  refine E_as (t := 32) (v' := .slice (some ⟨fb, 0, none⟩) m.length fc) rfl (by unfold sliced; rw [if_neg (by omega)]; simp [add_zero_off]) ?_
  refine O_val rfl rfl rfl rfl (V_loadAgg rfl rfl ty_ag_33 (Rds.blk .h4) (by rw [ints_length, hl2])) ?_
  refine O_keep rfl rfl (W_callR rfl rfl rfl rfl fn_ca_19 (check_ok hG.toGlobs p1 sg1 rc1 a (some ⟨fb, 0, none⟩) fc m sl2 hmb (by omega) hl2) (Split.one (p := [_, _, _, _, _])) (Sn.pre (sn_head (Sn.own .h3 rfl))) (K_keep (Weak.p1 (Weak.p1 (Weak.p1 (Weak.p1 (Weak.p1 (Weak.refl _)))))) ?_))
  refine O_pure rfl rfl rfl rfl (P_assign rfl rfl) ?_
  refine O_nil ?_
  refine St.env (.cons (t := 0) rfl (.cons (t := 1) rfl (.cons (t := 5) rfl (.cons (t := 6) rfl (.cons (t := 7) rfl (.cons (t := 8) rfl (.cons (t := 9) rfl (.cons (t := 10) rfl .nil)))))))) ?_
  refine Q_then ?_
  refine R_seq ?_
  refine St.res (rs' := [blk w [.pointer (some ⟨p0, 0, none⟩), .pointer (some ⟨p1, 0, none⟩), .pointer (some ⟨q0, 0, none⟩), .pointer (some ⟨q1, 0, none⟩), .slice sb0 sg0.length sc0, .slice sb1 sg1.length sc1, .slice tb0 tg0.length tc0, .slice tb1 tg1.length tc1, .slice zb ss.length zc] 79, blk b5 (opC kd wh at_ a base xs.length c sl tw lg) 72, ownS 5 1 (.slice ub m.length uc) m.length (ints .u8 m), ownS 5 1 (.slice (some ⟨fb, 0, none⟩) (m.length + 3) fc) (m.length + 3) (ints .u8 (m ++ [201, 202, 203])), blk b9 (ints .u8 sl2) 33, REG p1 (sg1) (rc1), REF q1 (tg1) (rc1), ownS 27 1 (.slice sb1 sg1.length sc1) (sg1).length (ptrs (sg1)), ownS 114 1 (.slice tb1 tg1.length tc1) (tg1).length (ptrs (tg1)), ownS 33 16 (.slice zb ss.length zc) (ss).length (flat .u8 (ss)), REG p0 (sg0) (rc0), REF q0 (tg0) (rc0), ownS 27 1 (.slice sb0 sg0.length sc0) (sg0).length (ptrs (sg0)), ownS 114 1 (.slice tb0 tg0.length tc0) (tg0).length (ptrs (tg0))]) (Weak.p1 (Weak.p1 (Weak.p1 (Weak.p1 (Weak.p1 (Weak.refl _)))))) ?_
  refine R_open [(0, 0), (1, 0), (2, 0), (3, 0), (4, 0), (5, 1), (6, 0), (7, 1), (8, 0), (9, 1), (10, 2), (11, 0)] mixed (by kernel_rfl) (QOk.then QOk.body) ?_
  refine O_pure rfl rfl rfl rfl (P_move rfl rfl) ?_
  refine O_pure rfl rfl rfl rfl (P_move rfl rfl) ?_
  refine O_pure rfl rfl rfl rfl (P_nil rfl rfl) ?_
  refine O_pure rfl rfl rfl rfl (P_fld0 rfl ty_fl_79_1 rfl) ?_
  first | (refine O_pure rfl rfl rfl rfl (P_ixa0 (1) rfl ty_ar_74 rfl rfl (by first | rfl | omega) (by omega)) ?_) | (refine O_pure rfl rfl rfl rfl (P_ixa (1) rfl ty_ar_74 rfl rfl (by first | rfl | omega) (by omega)) ?_)
  refine O_val rfl rfl rfl rfl (V_load rfl rfl ty_sc_73 (Rd.blk .h0 rfl)) ?_
  refine O_pure rfl rfl rfl rfl (P_fld0 rfl ty_fl_72_3 rfl) ?_
  refine O_val rfl rfl rfl rfl (V_load rfl rfl ty_sc_23 (Rd.blk .h1 rfl)) ?_
  refine O_pure rfl rfl rfl rfl (P_move rfl rfl) ?_
  refine O_val rfl rfl rfl rfl (V_loadAgg rfl rfl ty_ag_33 (Rds.blk .h4) (by rw [ints_length, hl2])) ?_
  refine O_keep rfl rfl (W_callR rfl rfl rfl rfl fn_ca_69 (rcheck_ok hG q1 tg1 rc1 a ub uc m sl2 hmb (by omega) hl2 (by omega)) (Split.one (p := [_, _, _, _, _, _])) (Sn.pre (Sn.own .h2 rfl)) (K_keep (Weak.p1 (Weak.p1 (Weak.p1 (Weak.p1 (Weak.p1 (Weak.p1 (Weak.refl _))))))) ?_))
  refine O_pure rfl rfl rfl rfl (P_assign rfl rfl) ?_
  refine O_nil ?_
  refine St.env (.cons (t := 6) rfl (.cons (t := 7) rfl (.cons (t := 8) rfl (.cons (t := 10) rfl (.cons (t := 11) rfl .nil))))) ?_
  refine Q_then ?_
  refine R_seq ?_
  refine St.res (rs' := [blk w [.pointer (some ⟨p0, 0, none⟩), .pointer (some ⟨p1, 0, none⟩), .pointer (some ⟨q0, 0, none⟩), .pointer (some ⟨q1, 0, none⟩), .slice sb0 sg0.length sc0, .slice sb1 sg1.length sc1, .slice tb0 tg0.length tc0, .slice tb1 tg1.length tc1, .slice zb ss.length zc] 79, blk b5 (opC kd wh at_ a base xs.length c sl tw lg) 72, ownS 5 1 (.slice ub m.length uc) m.length (ints .u8 m), ownS 5 1 (.slice (some ⟨fb, 0, none⟩) (m.length + 3) fc) (m.length + 3) (ints .u8 (m ++ [201, 202, 203])), blk b9 (ints .u8 sl2) 33, REG p1 (sg1) (rc1), REF q1 (tg1) (rc1), ownS 27 1 (.slice sb1 sg1.length sc1) (sg1).length (ptrs (sg1)), ownS 114 1 (.slice tb1 tg1.length tc1) (tg1).length (ptrs (tg1)), ownS 33 16 (.slice zb ss.length zc) (ss).length (flat .u8 (ss)), REG p0 (sg0) (rc0), REF q0 (tg0) (rc0), ownS 27 1 (.slice sb0 sg0.length sc0) (sg0).length (ptrs (sg0)), ownS 114 1 (.slice tb0 tg0.length tc0) (tg0).length (ptrs (tg0))]) (Weak.p1 (Weak.p1 (Weak.p1 (Weak.p1 (Weak.p1 (Weak.p1 (Weak.refl _))))))) ?_
  refine R_region ?_
  refine L_val rfl rfl rfl (OpP.v (P_move rfl rfl)) ?_
  refine L_val rfl rfl rfl (OpP.v (P_move rfl rfl)) ?_
  refine L_op rfl (W_callV rfl rfl rfl rfl fn_ca_66 (left_ok fb fc ub uc m hfc hml hmb) (fun w nw => ⟨(Sn.own .h3 rfl).rowAt0 (fun _ _ h => h) w nw, (Sn.own .h2 rfl).rw_ w nw⟩) ?_)
  refine E_true (t := 48) rfl (rfl) ?_
  refine L_val rfl rfl rfl (OpP.v (P_assign rfl rfl)) ?_
  refine L_nil ?_
  refine St.env (.cons (t := 6) rfl (.cons (t := 8) rfl (.cons (t := 10) rfl (.cons (t := 11) rfl (.cons (t := 12) rfl .nil))))) ?_
  refine Q_then ?_
  refine R_seq ?_
  refine R_region ?_
  refine L_val rfl rfl rfl (OpP.v (P_move rfl rfl)) ?_
  refine L_op rfl (W_callR rfl rfl rfl rfl fn_ca_67 (by have h := spoil_ok (gl := gl) fb fc (m ++ [201, 202, 203]) (by rw [List.length_append]; show m.length + 3 ≤ _; omega); rw [List.length_append] at h; exact h) (Split.one (p := [_, _, _])) (fun _ _ _ _ _ _ _ => trivial) ?_)
  refine St.res (rs' := [blk w [.pointer (some ⟨p0, 0, none⟩), .pointer (some ⟨p1, 0, none⟩), .pointer (some ⟨q0, 0, none⟩), .pointer (some ⟨q1, 0, none⟩), .slice sb0 sg0.length sc0, .slice sb1 sg1.length sc1, .slice tb0 tg0.length tc0, .slice tb1 tg1.length tc1, .slice zb ss.length zc] 79, blk b5 (opC kd wh at_ a base xs.length c sl tw lg) 72, ownS 5 1 (.slice ub m.length uc) m.length (ints .u8 m), blk b9 (ints .u8 sl2) 33, REG p1 (sg1) (rc1), REF q1 (tg1) (rc1), ownS 27 1 (.slice sb1 sg1.length sc1) (sg1).length (ptrs (sg1)), ownS 114 1 (.slice tb1 tg1.length tc1) (tg1).length (ptrs (tg1)), ownS 33 16 (.slice zb ss.length zc) (ss).length (flat .u8 (ss)), REG p0 (sg0) (rc0), REF q0 (tg0) (rc0), ownS 27 1 (.slice sb0 sg0.length sc0) (sg0).length (ptrs (sg0)), ownS 114 1 (.slice tb0 tg0.length tc0) (tg0).length (ptrs (tg0))]) (Weak.drop (Weak.refl _)) ?_
  refine L_nil ?_
  refine St.env (.cons (t := 6) rfl (.cons (t := 10) rfl (.cons (t := 11) rfl (.cons (t := 12) rfl .nil)))) ?_
  refine Q_then ?_
  refine R_seq ?_
  refine R_region ?_
  refine L_val rfl rfl rfl (OpP.v (P_move rfl rfl)) ?_
  refine L_val rfl rfl rfl (OpP.v (P_move rfl rfl)) ?_
  refine L_val rfl rfl rfl (OpP.v (P_move rfl rfl)) ?_
  refine L_val rfl rfl rfl (OpP.v (P_move rfl rfl)) ?_
  refine L_val rfl rfl rfl (OpP.v (P_eql_bool rfl ty_bool_4 rfl rfl)) ?_
  refine E_true (t := 55) rfl (by simp) ?_
  refine L_val rfl rfl rfl (OpP.v (P_pick rfl rfl rfl)) ?_
  refine L_val rfl rfl rfl (OpP.v (P_assign rfl rfl)) ?_
  refine L_nil ?_
  refine St.env (.cons (t := 6) rfl .nil) ?_
  refine Q_then ?_
  refine R_ret ?_
  exact R_end (rs2 := [TWO w (n + 1)]) rfl rfl (.tmp rfl .nil) (⟨rfl, rfl⟩) ((Weak.keep (Weak.drop (Weak.drop (Weak.drop (Weak.refl _))))).trans ((Weak.keep (Weak.pick (p := [_, _, _, _, _]) (Weak.pick (p := [_, _, _, _, _]) (Weak.pick (p := [_, _, _, _, _]) (Weak.pick (p := [_, _, _, _, _]) (Weak.keep (Weak.keep (Weak.keep (Weak.keep (Weak.keep (Weak.nil _))))))))))).trans (two_close (n := n + 1) (rs := []) ⟨⟨p0, q0, sg0, tg0, rc0, .slice sb0 sg0.length sc0, .slice tb0 tg0.length tc0⟩, ⟨p1, q1, sg1, tg1, rc1, .slice sb1 sg1.length sc1, .slice tb1 tg1.length tc1⟩, .slice zb ss.length zc, ss⟩ ⟨⟨hen0, Nat.le_succ_of_le hs0, Nat.le_succ_of_le hr0⟩, ⟨hen1, Nat.le_succ_of_le hs1, Nat.le_succ_of_le hr1⟩, Nat.le_succ_of_le hzl, hz16⟩)))
theorem checks_ok1 {gl : Nat → Obj} (hG : GlobsR gl) (w n : Nat) (hn : n ≤ 1599289640354) (kd wh at_ a : Int) (base : Option Addr) (c : Nat) (xs sl : List Int) (tw : Int) (lg : Bool) (hsl : sl.length = 16) (hxm : xs.length ≤ 140737488351232) (hxb : IsB xs) : SpecR (cx gl) 50 [.pointer (some ⟨w, 0, none⟩), .int .i64 1, .agg (opC kd wh at_ a base xs.length c sl tw lg).toArray] (fun w h => Seen w h base (ints .u8 xs)) [TWO w n] (.bool true) [TWO w (n + 1)] := Spec.openEx fun ⟨⟨p0, q0, sg0, tg0, rc0, vs0, vt0⟩, ⟨p1, q1, sg1, tg1, rc1, vs1, vt1⟩, z, ss⟩ hok => by
  obtain ⟨⟨hen0, hs0, hr0⟩, ⟨hen1, hs1, hr1⟩, hzl, hz16⟩ := hok
  exact checks1 hG w n p0 q0 p1 q1 sg0 tg0 sg1 tg1 rc0 rc1 vs0 vt0 vs1 vt1 z ss hen0 hen1 hs0 hs1 hr0 hr1 hzl hz16 hn kd wh at_ a base c xs sl tw lg hsl hxm hxb
end Go.Proofs.YtnaadddnbfnahaaDoor
