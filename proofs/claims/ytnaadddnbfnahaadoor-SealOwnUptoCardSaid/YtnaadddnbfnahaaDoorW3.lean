/- The book: look. Printed by gen.py. -/
import Derived.Test.YtnaadddnbfnahaaDoorW1
set_option linter.unusedVariables false
set_option linter.unusedSimpArgs false
set_option maxRecDepth 100000
namespace Go.Proofs.YtnaadddnbfnahaaDoor
open Go Go.RowKit Go.Proofs
theorem look0 {gl : Nat → Obj} (w n b o : Nat) (hn : n ≤ 1048576) (ho_ : o ≤ 4000000) (kd wh at_ a : Int) (base : Option Addr) (c : Nat) (xs sl : List Int) (tw : Int) (lg : Bool) (hk : bitI .and .i64 wh 1 = 0) : SpecR (cx gl) 33 [.pointer (some ⟨w, 0, none⟩), .pointer (some ⟨b, 0, none⟩), .agg (opC kd wh at_ a base xs.length c sl tw lg).toArray] (fun _ _ => True) [TWO w n, BOOK b o o] (.tuple #[]) [TWO w n, BOOK b o (o + 3)] := by
  refine Spec.enter (C := cx gl) Tryd.func33 rfl 44 rfl rfl fun w0 h0 hsep hsub hpre => ?_
  show St (cx gl) _ [(0, .pointer (some ⟨w, 0, none⟩)), (1, .pointer (some ⟨b, 0, none⟩)), (2, .agg (opC kd wh at_ a base xs.length c sl tw lg).toArray)] _ _
  refine R_seq ?_
  refine R_region ?_
  refine L_op rfl (W_box (opC kd wh at_ a base xs.length c sl tw lg) rfl rfl rfl rfl rfl fun b5 => ?_)
  refine L_nil ?_
  refine St.env (.cons (t := 0) rfl (.cons (t := 1) rfl (.cons (t := 5) rfl .nil))) ?_
  refine Q_then ?_
  refine R_seq ?_
  refine St.res (rs' := [TWO w n, blk b5 (opC kd wh at_ a base xs.length c sl tw lg) 72, BOOK b o o]) (Weak.swap) ?_
  refine St.openP (p := []) (fun ⟨⟨p0, q0, sg0, tg0, rc0, vs0, vt0⟩, ⟨p1, q1, sg1, tg1, rc1, vs1, vt1⟩, z, ss⟩ hok => ?_)
  have hok2 := hok
  obtain ⟨⟨hen0, hs0, hr0⟩, ⟨hen1, hs1, hr1⟩, hzl, hz16⟩ := hok
  dsimp only at hen0 hen1 hs0 hs1 hr0 hr1 hzl hz16
  refine St.unbundle [] ?_
  refine St.res (rs' := [blk w [.pointer (some ⟨p0, 0, none⟩), .pointer (some ⟨p1, 0, none⟩), .pointer (some ⟨q0, 0, none⟩), .pointer (some ⟨q1, 0, none⟩), vs0, vs1, vt0, vt1, z] 79, REG p0 (sg0) (rc0), REF q0 (tg0) (rc0), ownS 27 1 (vs0) (sg0).length (ptrs (sg0)), ownS 114 1 (vt0) (tg0).length (ptrs (tg0)), REG p1 (sg1) (rc1), REF q1 (tg1) (rc1), ownS 27 1 (vs1) (sg1).length (ptrs (sg1)), ownS 114 1 (vt1) (tg1).length (ptrs (tg1)), ownS 33 16 (z) (ss).length (flat .u8 (ss)), blk b5 (opC kd wh at_ a base xs.length c sl tw lg) 72, BOOK b o o]) (Weak.refl _) ?_
  have htl0 : tg0.length = sg0.length := (enOf_len hen0).symm
  have htl1 : tg1.length = sg1.length := (enOf_len hen1).symm
  refine St.ownForm (p := [_, _, _]) fun sb0 sc0 hsb0_ hsc0 => ?_
  subst hsb0_
  refine St.ownForm (p := [_, _, _, _]) fun tb0 tc0 htb0_ htc0 => ?_
  subst htb0_
  refine St.ownForm (p := [_, _, _, _, _, _, _]) fun sb1 sc1 hsb1_ hsc1 => ?_
  subst hsb1_
  refine St.ownForm (p := [_, _, _, _, _, _, _, _]) fun tb1 tc1 htb1_ htc1 => ?_
  subst htb1_
  refine St.ownForm (p := [_, _, _, _, _, _, _, _, _]) fun zb zc hzb_ hzc => ?_
  subst hzb_
  refine St.res (rs' := [blk w [.pointer (some ⟨p0, 0, none⟩), .pointer (some ⟨p1, 0, none⟩), .pointer (some ⟨q0, 0, none⟩), .pointer (some ⟨q1, 0, none⟩), .slice sb0 sg0.length sc0, .slice sb1 sg1.length sc1, .slice tb0 tg0.length tc0, .slice tb1 tg1.length tc1, .slice zb ss.length zc] 79, REG p0 (sg0) (rc0), REF q0 (tg0) (rc0), ownS 27 1 (.slice sb0 sg0.length sc0) (sg0).length (ptrs (sg0)), ownS 114 1 (.slice tb0 tg0.length tc0) (tg0).length (ptrs (tg0)), REG p1 (sg1) (rc1), REF q1 (tg1) (rc1), ownS 27 1 (.slice sb1 sg1.length sc1) (sg1).length (ptrs (sg1)), ownS 114 1 (.slice tb1 tg1.length tc1) (tg1).length (ptrs (tg1)), ownS 33 16 (.slice zb ss.length zc) (ss).length (flat .u8 (ss)), blk b5 (opC kd wh at_ a base xs.length c sl tw lg) 72, BOOK b o o]) (Weak.refl _) ?_
  refine R_region ?_
  refine L_val rfl rfl rfl (OpP.v (P_fld0 rfl ty_fl_72_1 rfl)) ?_
  refine L_val rfl rfl rfl (V_load rfl rfl ty_sc_3 (Rd.blk (Has.cons .h9) rfl)) ?_
  refine L_val rfl rfl rfl (OpP.v (P_bit (op := .and) rfl rfl rfl rfl)) ?_
  refine E_as (t := 13) (v' := .int .i64 0) rfl (by rw [hk]) ?_
  refine L_val rfl rfl rfl (OpP.v (P_assign rfl rfl)) ?_
  refine L_nil ?_
  refine St.env (.cons (t := 0) rfl (.cons (t := 1) rfl (.cons (t := 5) rfl (.cons (t := 6) rfl .nil)))) ?_
  refine Q_then ?_
  refine R_seq ?_
  refine R_region ?_
  refine L_val rfl rfl rfl (OpP.v (P_assign rfl rfl)) ?_
  refine L_nil ?_
  refine Q_then ?_
  refine R_block ?_
  refine R_loopE (G := Nat) (.cons (t := 0) rfl (.cons (t := 1) rfl (.cons (t := 5) rfl (.cons (t := 6) rfl .nil)))) (fun g => [(7, .int .i64 (g : Int))]) (fun g => [blk w [.pointer (some ⟨p0, 0, none⟩), .pointer (some ⟨p1, 0, none⟩), .pointer (some ⟨q0, 0, none⟩), .pointer (some ⟨q1, 0, none⟩), .slice sb0 sg0.length sc0, .slice sb1 sg1.length sc1, .slice tb0 tg0.length tc0, .slice tb1 tg1.length tc1, .slice zb ss.length zc] 79, REG p0 (sg0) (rc0), REF q0 (tg0) (rc0), ownS 27 1 (.slice sb0 sg0.length sc0) (sg0).length (ptrs (sg0)), ownS 114 1 (.slice tb0 tg0.length tc0) (tg0).length (ptrs (tg0)), REG p1 (sg1) (rc1), REF q1 (tg1) (rc1), ownS 27 1 (.slice sb1 sg1.length sc1) (sg1).length (ptrs (sg1)), ownS 114 1 (.slice tb1 tg1.length tc1) (tg1).length (ptrs (tg1)), ownS 33 16 (.slice zb ss.length zc) (ss).length (flat .u8 (ss)), blk b5 (opC kd wh at_ a base xs.length c sl tw lg) 72, BOOK b o (o + g)]) (fun g => g ≤ 3) (fun g => 3 - g) (0) (by decide) (by repeat (first | exact .nil | refine .cons rfl ?_ | refine .consE rfl (by first | rfl | (congr 1; omega) | (congr 1; push_cast; omega)) ?_)) (Weak.refl _) ?_
  intro q hinv
  replace hinv : q ≤ 3 := hinv
  show St (cx gl) _ ((7, .int .i64 (q : Int)) :: _) [blk w [.pointer (some ⟨p0, 0, none⟩), .pointer (some ⟨p1, 0, none⟩), .pointer (some ⟨q0, 0, none⟩), .pointer (some ⟨q1, 0, none⟩), .slice sb0 sg0.length sc0, .slice sb1 sg1.length sc1, .slice tb0 tg0.length tc0, .slice tb1 tg1.length tc1, .slice zb ss.length zc] 79, REG p0 (sg0) (rc0), REF q0 (tg0) (rc0), ownS 27 1 (.slice sb0 sg0.length sc0) (sg0).length (ptrs (sg0)), ownS 114 1 (.slice tb0 tg0.length tc0) (tg0).length (ptrs (tg0)), REG p1 (sg1) (rc1), REF q1 (tg1) (rc1), ownS 27 1 (.slice sb1 sg1.length sc1) (sg1).length (ptrs (sg1)), ownS 114 1 (.slice tb1 tg1.length tc1) (tg1).length (ptrs (tg1)), ownS 33 16 (.slice zb ss.length zc) (ss).length (flat .u8 (ss)), blk b5 (opC kd wh at_ a base xs.length c sl tw lg) 72, BOOK b o (o + q)] _
  have hq := hinv
  refine R_seq ?_
  refine R_seq ?_
  refine R_region ?_
  refine L_val rfl rfl rfl (OpP.v (P_move rfl rfl)) ?_
  refine L_val rfl rfl rfl (OpP.v (P_lss rfl rfl rfl)) ?_
  refine L_nil ?_
  refine Q_then ?_
  refine R_condP rfl (fun hq0 => ?_) (fun hq0 => ?_)
  · skip
    have hq3 : q < 3 := by omega
    refine R_skip ?_
    refine Q_then ?_
    refine R_seq ?_
    refine R_block ?_
    refine R_seq ?_
    refine R_region ?_
    refine L_val rfl rfl rfl (OpP.v (P_fld0 rfl ty_fl_72_3 rfl)) ?_
    refine L_val rfl rfl rfl (V_load rfl rfl ty_sc_23 (Rd.blk (Has.cons .h9) rfl)) ?_
    refine L_val rfl rfl rfl (OpP.v (P_move rfl rfl)) ?_
    refine L_val rfl rfl rfl (OpP.v (P_rem rfl rfl rfl (by omega))) ?_
    refine L_val rfl rfl rfl (OpP.v (P_conv rfl ty_int_3 ty_int_23 rfl)) ?_
    refine L_val rfl rfl rfl (OpP.v (P_add rfl rfl rfl)) ?_
    refine L_val rfl rfl rfl (OpP.v (P_assign rfl rfl)) ?_
    refine L_nil ?_
    refine Q_then ?_
    refine R_seq ?_
    refine R_region ?_
    refine L_val rfl rfl rfl (OpP.v (P_move rfl rfl)) ?_
    refine L_val rfl rfl rfl (OpP.v (P_move rfl rfl)) ?_
    refine L_val rfl rfl rfl (OpP.v (P_nil rfl rfl)) ?_
    refine L_val rfl rfl rfl (OpP.v (P_fld0 rfl ty_fl_79_0 rfl)) ?_
    first | (refine L_val rfl rfl rfl (OpP.v (P_ixa0 (0) rfl ty_ar_53 rfl rfl (by first | rfl | omega) (by omega))) ?_) | (refine L_val rfl rfl rfl (OpP.v (P_ixa (0) rfl ty_ar_53 rfl rfl (by first | rfl | omega) (by omega))) ?_)
    refine L_val rfl rfl rfl (V_load rfl rfl ty_sc_25 (Rd.blk .h0 rfl)) ?_
    refine L_val rfl rfl rfl (OpP.v (P_move rfl rfl)) ?_
    refine L_op rfl (W_call rfl rfl rfl rfl fn_ca_27 (signed_ok p0 sg0 rc0 (IntKind.u64.wrap (a + IntKind.u64.wrap ((q : Int).tmod 2))) (by omega)) (Split.one (p := [_])) (fun _ _ _ _ _ _ _ => trivial) fun v31 rs1 ⟨ws, hws, e1⟩ => ?_)
    subst e1
    refine St.ownForm (p := []) fun ub uc hub_ huc => ?_
    subst hub_
    refine St.res (rs' := [blk w [.pointer (some ⟨p0, 0, none⟩), .pointer (some ⟨p1, 0, none⟩), .pointer (some ⟨q0, 0, none⟩), .pointer (some ⟨q1, 0, none⟩), .slice sb0 sg0.length sc0, .slice sb1 sg1.length sc1, .slice tb0 tg0.length tc0, .slice tb1 tg1.length tc1, .slice zb ss.length zc] 79, REG p0 (sg0) (rc0), REF q0 (tg0) (rc0), ownS 27 1 (.slice sb0 sg0.length sc0) (sg0).length (ptrs (sg0)), ownS 114 1 (.slice tb0 tg0.length tc0) (tg0).length (ptrs (tg0)), REG p1 (sg1) (rc1), REF q1 (tg1) (rc1), ownS 27 1 (.slice sb1 sg1.length sc1) (sg1).length (ptrs (sg1)), ownS 114 1 (.slice tb1 tg1.length tc1) (tg1).length (ptrs (tg1)), ownS 33 16 (.slice zb ss.length zc) (ss).length (flat .u8 (ss)), blk b5 (opC kd wh at_ a base xs.length c sl tw lg) 72, BOOK b o (o + q), ownS 24 1 (.slice ub ws.length uc) ws.length (fsts ws), fam msgH ws]) (Weak.pick (p := [_, _, _]) (Weak.pick (p := [_, _]) (Weak.pick (p := [_, _]) (Weak.pick (p := [_, _]) (Weak.pick (p := [_, _]) (Weak.pick (p := [_, _]) (Weak.pick (p := [_, _]) (Weak.pick (p := [_, _]) (Weak.pick (p := [_, _]) (Weak.pick (p := [_, _]) (Weak.pick (p := [_, _]) (Weak.pick (p := [_, _]) (Weak.keep (Weak.keep (Weak.nil _))))))))))))))) ?_
    refine L_val rfl rfl rfl (OpP.v (P_assign rfl rfl)) ?_
    refine L_nil ?_
    refine Q_then ?_
    refine R_seq ?_
    refine R_region ?_
    refine L_val rfl rfl rfl (OpP.v (P_move rfl rfl)) ?_
    refine L_val rfl rfl rfl (OpP.v (P_move rfl rfl)) ?_
    refine L_val rfl rfl rfl (OpP.v (P_nil rfl rfl)) ?_
    refine L_val rfl rfl rfl (OpP.v (P_fld0 rfl ty_fl_79_1 rfl)) ?_
    first | (refine L_val rfl rfl rfl (OpP.v (P_ixa0 (0) rfl ty_ar_74 rfl rfl (by first | rfl | omega) (by omega))) ?_) | (refine L_val rfl rfl rfl (OpP.v (P_ixa (0) rfl ty_ar_74 rfl rfl (by first | rfl | omega) (by omega))) ?_)
    refine L_val rfl rfl rfl (V_load rfl rfl ty_sc_73 (Rd.blk .h0 rfl)) ?_
    refine L_val rfl rfl rfl (OpP.v (P_move rfl rfl)) ?_
    refine L_op rfl (W_call rfl rfl rfl rfl fn_ca_52 (rsigned_ok q0 tg0 rc0 (IntKind.u64.wrap (a + IntKind.u64.wrap ((q : Int).tmod 2))) (by omega)) (Split.one (p := [_, _])) (fun _ _ _ _ _ _ _ => trivial) fun v39 rs2 ⟨wt, hwt, e2⟩ => ?_)
    subst e2
    refine St.ownForm (p := []) fun vb vc hvb_ hvc => ?_
    subst hvb_
    refine St.res (rs' := [blk w [.pointer (some ⟨p0, 0, none⟩), .pointer (some ⟨p1, 0, none⟩), .pointer (some ⟨q0, 0, none⟩), .pointer (some ⟨q1, 0, none⟩), .slice sb0 sg0.length sc0, .slice sb1 sg1.length sc1, .slice tb0 tg0.length tc0, .slice tb1 tg1.length tc1, .slice zb ss.length zc] 79, REG p0 (sg0) (rc0), REF q0 (tg0) (rc0), ownS 27 1 (.slice sb0 sg0.length sc0) (sg0).length (ptrs (sg0)), ownS 114 1 (.slice tb0 tg0.length tc0) (tg0).length (ptrs (tg0)), REG p1 (sg1) (rc1), REF q1 (tg1) (rc1), ownS 27 1 (.slice sb1 sg1.length sc1) (sg1).length (ptrs (sg1)), ownS 114 1 (.slice tb1 tg1.length tc1) (tg1).length (ptrs (tg1)), ownS 33 16 (.slice zb ss.length zc) (ss).length (flat .u8 (ss)), blk b5 (opC kd wh at_ a base xs.length c sl tw lg) 72, BOOK b o (o + q), ownS 24 1 (.slice ub ws.length uc) ws.length (fsts ws), fam msgH ws, ownS 24 1 (.slice vb wt.length vc) wt.length (fsts wt), fam msgH wt]) (Weak.pick (p := [_, _, _]) (Weak.pick (p := [_, _, _]) (Weak.pick (p := [_, _]) (Weak.pick (p := [_, _]) (Weak.pick (p := [_, _]) (Weak.pick (p := [_, _]) (Weak.pick (p := [_, _]) (Weak.pick (p := [_, _]) (Weak.pick (p := [_, _]) (Weak.pick (p := [_, _]) (Weak.pick (p := [_, _]) (Weak.pick (p := [_, _]) (Weak.pick (p := [_, _]) (Weak.pick (p := [_, _]) (Weak.keep (Weak.keep (Weak.nil _))))))))))))))))) ?_
    refine L_val rfl rfl rfl (OpP.v (P_assign rfl rfl)) ?_
    refine L_nil ?_
    refine Q_then ?_
    refine St.hasFact (r := REG p0 (sg0) (rc0)) .h1 reg_fact fun hrcb => ?_
    have hwsl : ws.length ≤ n := by have q1 := congrArg List.length hws; have q2 := msgsOf_le rc0 (IntKind.u64.wrap (a + IntKind.u64.wrap ((q : Int).tmod 2))); rw [List.length_map] at q1; omega
    refine St.res (rs' := [BOOK b o (o + q), blk w [.pointer (some ⟨p0, 0, none⟩), .pointer (some ⟨p1, 0, none⟩), .pointer (some ⟨q0, 0, none⟩), .pointer (some ⟨q1, 0, none⟩), .slice sb0 sg0.length sc0, .slice sb1 sg1.length sc1, .slice tb0 tg0.length tc0, .slice tb1 tg1.length tc1, .slice zb ss.length zc] 79, REG p0 (sg0) (rc0), REF q0 (tg0) (rc0), ownS 27 1 (.slice sb0 sg0.length sc0) (sg0).length (ptrs (sg0)), ownS 114 1 (.slice tb0 tg0.length tc0) (tg0).length (ptrs (tg0)), REG p1 (sg1) (rc1), REF q1 (tg1) (rc1), ownS 27 1 (.slice sb1 sg1.length sc1) (sg1).length (ptrs (sg1)), ownS 114 1 (.slice tb1 tg1.length tc1) (tg1).length (ptrs (tg1)), ownS 33 16 (.slice zb ss.length zc) (ss).length (flat .u8 (ss)), blk b5 (opC kd wh at_ a base xs.length c sl tw lg) 72, ownS 24 1 (.slice ub ws.length uc) ws.length (fsts ws), fam msgH ws, ownS 24 1 (.slice vb wt.length vc) wt.length (fsts wt), fam msgH wt]) (Weak.pick (p := [_, _, _, _, _, _, _, _, _, _, _]) (Weak.keep (Weak.keep (Weak.keep (Weak.keep (Weak.keep (Weak.keep (Weak.keep (Weak.keep (Weak.keep (Weak.keep (Weak.keep (Weak.keep (Weak.keep (Weak.keep (Weak.keep (Weak.nil _))))))))))))))))) ?_
    refine St.openP (p := []) (fun ⟨L, W, T, V, vL, vW, vT, vV⟩ hok => ?_)
    refine St.unbundle [] ?_
    refine St.res (rs' := [blk b [vL, vW, vT, vV, .int .i64 (o : Int), .int .i64 (T.length : Int)] 83, ownS 60 1 (vL) L.length (fsts L), ownS 60 1 (vW) W.length (fsts W), ownS 24 1 (vT) T.length (fsts T), ownS 24 1 (vV) V.length (fsts V), fam listH L, fam listH W, fam msgH T, fam msgH V, blk w [.pointer (some ⟨p0, 0, none⟩), .pointer (some ⟨p1, 0, none⟩), .pointer (some ⟨q0, 0, none⟩), .pointer (some ⟨q1, 0, none⟩), .slice sb0 sg0.length sc0, .slice sb1 sg1.length sc1, .slice tb0 tg0.length tc0, .slice tb1 tg1.length tc1, .slice zb ss.length zc] 79, REG p0 (sg0) (rc0), REF q0 (tg0) (rc0), ownS 27 1 (.slice sb0 sg0.length sc0) (sg0).length (ptrs (sg0)), ownS 114 1 (.slice tb0 tg0.length tc0) (tg0).length (ptrs (tg0)), REG p1 (sg1) (rc1), REF q1 (tg1) (rc1), ownS 27 1 (.slice sb1 sg1.length sc1) (sg1).length (ptrs (sg1)), ownS 114 1 (.slice tb1 tg1.length tc1) (tg1).length (ptrs (tg1)), ownS 33 16 (.slice zb ss.length zc) (ss).length (flat .u8 (ss)), blk b5 (opC kd wh at_ a base xs.length c sl tw lg) 72, ownS 24 1 (.slice ub ws.length uc) ws.length (fsts ws), fam msgH ws, ownS 24 1 (.slice vb wt.length vc) wt.length (fsts wt), fam msgH wt]) (Weak.refl _) ?_
    have hok_ := hok
    obtain ⟨hL, hW, _, _, _, _, _, _, _⟩ := hok
    dsimp only at hL hW
    refine R_region ?_
    refine L_val rfl rfl rfl (OpP.v (P_move rfl rfl)) ?_
    refine L_val rfl rfl rfl (OpP.v (P_move rfl rfl)) ?_
    refine L_val rfl rfl rfl (OpP.v (P_move rfl rfl)) ?_
    refine L_op rfl (W_call rfl rfl rfl rfl fn_ca_55 (take_ok b L.length W.length vL vW _ _ _ _ (.slice ub ws.length uc) (.slice vb wt.length vc) (fsts L) (fsts W) rfl rfl ⟨_, _, _, rfl⟩ ⟨_, _, _, rfl⟩ (by omega) (by omega)) (Weak.keep (Weak.keep (Weak.keep (Weak.keep (Weak.keep (Weak.keep (Weak.keep (Weak.keep (Weak.keep (Weak.keep (Weak.keep (Weak.keep (Weak.keep (Weak.keep (Weak.keep (Weak.keep (Weak.keep (Weak.keep (Weak.keep (Weak.keep (Weak.keep (Weak.keep (Weak.keep (Weak.keep (Weak.nil _))))))))))))))))))))))))) (fun _ _ _ _ _ _ _ => trivial) fun v43 rs5 ⟨vL', vW', e5, e6⟩ => ?_)
    subst e5; subst e6
    refine St.res (rs' := [ownS 60 1 (vL') (L.length + 1) (fsts L ++ [Value.slice ub ws.length uc]), ownS 60 1 (vW') (W.length + 1) (fsts W ++ [Value.slice vb wt.length vc]), blk b [vL', vW', vT, vV, .int .i64 (o : Int), .int .i64 (T.length : Int)] 83, ownS 24 1 (vT) T.length (fsts T), ownS 24 1 (vV) V.length (fsts V), fam listH L, fam listH W, fam msgH T, fam msgH V, blk w [.pointer (some ⟨p0, 0, none⟩), .pointer (some ⟨p1, 0, none⟩), .pointer (some ⟨q0, 0, none⟩), .pointer (some ⟨q1, 0, none⟩), .slice sb0 sg0.length sc0, .slice sb1 sg1.length sc1, .slice tb0 tg0.length tc0, .slice tb1 tg1.length tc1, .slice zb ss.length zc] 79, REG p0 (sg0) (rc0), REF q0 (tg0) (rc0), ownS 27 1 (.slice sb0 sg0.length sc0) (sg0).length (ptrs (sg0)), ownS 114 1 (.slice tb0 tg0.length tc0) (tg0).length (ptrs (tg0)), REG p1 (sg1) (rc1), REF q1 (tg1) (rc1), ownS 27 1 (.slice sb1 sg1.length sc1) (sg1).length (ptrs (sg1)), ownS 114 1 (.slice tb1 tg1.length tc1) (tg1).length (ptrs (tg1)), ownS 33 16 (.slice zb ss.length zc) (ss).length (flat .u8 (ss)), blk b5 (opC kd wh at_ a base xs.length c sl tw lg) 72, ownS 24 1 (.slice ub ws.length uc) ws.length (fsts ws), fam msgH ws, ownS 24 1 (.slice vb wt.length vc) wt.length (fsts wt), fam msgH wt]) (Weak.pick (p := [_]) (Weak.pick (p := [_]) (Weak.keep (Weak.keep (Weak.keep (Weak.keep (Weak.keep (Weak.keep (Weak.keep (Weak.keep (Weak.keep (Weak.keep (Weak.keep (Weak.keep (Weak.keep (Weak.keep (Weak.keep (Weak.keep (Weak.keep (Weak.keep (Weak.keep (Weak.keep (Weak.keep (Weak.keep (Weak.nil _))))))))))))))))))))))))) ?_
    refine St.res (rs' := [ownS 60 1 (vL') (L ++ [(Value.slice ub ws.length uc, ws)]).length (fsts (L ++ [(Value.slice ub ws.length uc, ws)])), ownS 60 1 (vW') (W ++ [(Value.slice vb wt.length vc, wt)]).length (fsts (W ++ [(Value.slice vb wt.length vc, wt)])), blk b [vL', vW', vT, vV, .int .i64 (o : Int), .int .i64 (T.length : Int)] 83, ownS 24 1 (vT) T.length (fsts T), ownS 24 1 (vV) V.length (fsts V), fam listH L, fam listH W, fam msgH T, fam msgH V, blk w [.pointer (some ⟨p0, 0, none⟩), .pointer (some ⟨p1, 0, none⟩), .pointer (some ⟨q0, 0, none⟩), .pointer (some ⟨q1, 0, none⟩), .slice sb0 sg0.length sc0, .slice sb1 sg1.length sc1, .slice tb0 tg0.length tc0, .slice tb1 tg1.length tc1, .slice zb ss.length zc] 79, REG p0 (sg0) (rc0), REF q0 (tg0) (rc0), ownS 27 1 (.slice sb0 sg0.length sc0) (sg0).length (ptrs (sg0)), ownS 114 1 (.slice tb0 tg0.length tc0) (tg0).length (ptrs (tg0)), REG p1 (sg1) (rc1), REF q1 (tg1) (rc1), ownS 27 1 (.slice sb1 sg1.length sc1) (sg1).length (ptrs (sg1)), ownS 114 1 (.slice tb1 tg1.length tc1) (tg1).length (ptrs (tg1)), ownS 33 16 (.slice zb ss.length zc) (ss).length (flat .u8 (ss)), blk b5 (opC kd wh at_ a base xs.length c sl tw lg) 72, ownS 24 1 (.slice ub ws.length uc) ws.length (fsts ws), fam msgH ws, ownS 24 1 (.slice vb wt.length vc) wt.length (fsts wt), fam msgH wt]) (Weak.trans (ownS.to1 (by rw [List.length_append]; rfl) (fsts_snoc L (Value.slice ub ws.length uc, ws)).symm) (Weak.keep (ownS.to1 (by rw [List.length_append]; rfl) (fsts_snoc W (Value.slice vb wt.length vc, wt)).symm))) ?_
    refine St.res (rs' := [fam listH (L ++ [(Value.slice ub ws.length uc, ws)]), ownS 60 1 (vL') (L ++ [(Value.slice ub ws.length uc, ws)]).length (fsts (L ++ [(Value.slice ub ws.length uc, ws)])), ownS 60 1 (vW') (W ++ [(Value.slice vb wt.length vc, wt)]).length (fsts (W ++ [(Value.slice vb wt.length vc, wt)])), blk b [vL', vW', vT, vV, .int .i64 (o : Int), .int .i64 (T.length : Int)] 83, ownS 24 1 (vT) T.length (fsts T), ownS 24 1 (vV) V.length (fsts V), fam listH W, fam msgH T, fam msgH V, blk w [.pointer (some ⟨p0, 0, none⟩), .pointer (some ⟨p1, 0, none⟩), .pointer (some ⟨q0, 0, none⟩), .pointer (some ⟨q1, 0, none⟩), .slice sb0 sg0.length sc0, .slice sb1 sg1.length sc1, .slice tb0 tg0.length tc0, .slice tb1 tg1.length tc1, .slice zb ss.length zc] 79, REG p0 (sg0) (rc0), REF q0 (tg0) (rc0), ownS 27 1 (.slice sb0 sg0.length sc0) (sg0).length (ptrs (sg0)), ownS 114 1 (.slice tb0 tg0.length tc0) (tg0).length (ptrs (tg0)), REG p1 (sg1) (rc1), REF q1 (tg1) (rc1), ownS 27 1 (.slice sb1 sg1.length sc1) (sg1).length (ptrs (sg1)), ownS 114 1 (.slice tb1 tg1.length tc1) (tg1).length (ptrs (tg1)), ownS 33 16 (.slice zb ss.length zc) (ss).length (flat .u8 (ss)), blk b5 (opC kd wh at_ a base xs.length c sl tw lg) 72, ownS 24 1 (.slice vb wt.length vc) wt.length (fsts wt), fam msgH wt]) ((Weak.pick (p := [_, _, _, _, _, _, _, _, _, _, _, _, _, _, _, _, _, _, _, _]) (Weak.pick (p := [_, _, _, _, _, _, _, _, _, _, _, _, _, _, _, _, _, _, _, _]) (Weak.pick (p := [_, _, _, _, _]) (Weak.keep (Weak.keep (Weak.keep (Weak.keep (Weak.keep (Weak.keep (Weak.keep (Weak.keep (Weak.keep (Weak.keep (Weak.keep (Weak.keep (Weak.keep (Weak.keep (Weak.keep (Weak.keep (Weak.keep (Weak.keep (Weak.keep (Weak.keep (Weak.keep (Weak.nil _))))))))))))))))))))))))).trans ((Weak.bundle (L := [ownS 24 1 (.slice ub ws.length uc) ws.length (fsts ws), fam msgH ws]) (rs := [fam listH L, ownS 60 1 (vL') (L ++ [(Value.slice ub ws.length uc, ws)]).length (fsts (L ++ [(Value.slice ub ws.length uc, ws)])), ownS 60 1 (vW') (W ++ [(Value.slice vb wt.length vc, wt)]).length (fsts (W ++ [(Value.slice vb wt.length vc, wt)])), blk b [vL', vW', vT, vV, .int .i64 (o : Int), .int .i64 (T.length : Int)] 83, ownS 24 1 (vT) T.length (fsts T), ownS 24 1 (vV) V.length (fsts V), fam listH W, fam msgH T, fam msgH V, blk w [.pointer (some ⟨p0, 0, none⟩), .pointer (some ⟨p1, 0, none⟩), .pointer (some ⟨q0, 0, none⟩), .pointer (some ⟨q1, 0, none⟩), .slice sb0 sg0.length sc0, .slice sb1 sg1.length sc1, .slice tb0 tg0.length tc0, .slice tb1 tg1.length tc1, .slice zb ss.length zc] 79, REG p0 (sg0) (rc0), REF q0 (tg0) (rc0), ownS 27 1 (.slice sb0 sg0.length sc0) (sg0).length (ptrs (sg0)), ownS 114 1 (.slice tb0 tg0.length tc0) (tg0).length (ptrs (tg0)), REG p1 (sg1) (rc1), REF q1 (tg1) (rc1), ownS 27 1 (.slice sb1 sg1.length sc1) (sg1).length (ptrs (sg1)), ownS 114 1 (.slice tb1 tg1.length tc1) (tg1).length (ptrs (tg1)), ownS 33 16 (.slice zb ss.length zc) (ss).length (flat .u8 (ss)), blk b5 (opC kd wh at_ a base xs.length c sl tw lg) 72, ownS 24 1 (.slice vb wt.length vc) wt.length (fsts wt), fam msgH wt])).trans (Weak.famAdd (f := listH) (x := (Value.slice ub ws.length uc, ws))))) ?_
    refine St.res (rs' := [fam listH (W ++ [(Value.slice vb wt.length vc, wt)]), fam listH (L ++ [(Value.slice ub ws.length uc, ws)]), ownS 60 1 (vL') (L ++ [(Value.slice ub ws.length uc, ws)]).length (fsts (L ++ [(Value.slice ub ws.length uc, ws)])), ownS 60 1 (vW') (W ++ [(Value.slice vb wt.length vc, wt)]).length (fsts (W ++ [(Value.slice vb wt.length vc, wt)])), blk b [vL', vW', vT, vV, .int .i64 (o : Int), .int .i64 (T.length : Int)] 83, ownS 24 1 (vT) T.length (fsts T), ownS 24 1 (vV) V.length (fsts V), fam msgH T, fam msgH V, blk w [.pointer (some ⟨p0, 0, none⟩), .pointer (some ⟨p1, 0, none⟩), .pointer (some ⟨q0, 0, none⟩), .pointer (some ⟨q1, 0, none⟩), .slice sb0 sg0.length sc0, .slice sb1 sg1.length sc1, .slice tb0 tg0.length tc0, .slice tb1 tg1.length tc1, .slice zb ss.length zc] 79, REG p0 (sg0) (rc0), REF q0 (tg0) (rc0), ownS 27 1 (.slice sb0 sg0.length sc0) (sg0).length (ptrs (sg0)), ownS 114 1 (.slice tb0 tg0.length tc0) (tg0).length (ptrs (tg0)), REG p1 (sg1) (rc1), REF q1 (tg1) (rc1), ownS 27 1 (.slice sb1 sg1.length sc1) (sg1).length (ptrs (sg1)), ownS 114 1 (.slice tb1 tg1.length tc1) (tg1).length (ptrs (tg1)), ownS 33 16 (.slice zb ss.length zc) (ss).length (flat .u8 (ss)), blk b5 (opC kd wh at_ a base xs.length c sl tw lg) 72]) ((Weak.pick (p := [_, _, _, _, _, _, _, _, _, _, _, _, _, _, _, _, _, _, _, _]) (Weak.pick (p := [_, _, _, _, _, _, _, _, _, _, _, _, _, _, _, _, _, _, _, _]) (Weak.pick (p := [_, _, _, _, _, _]) (Weak.keep (Weak.keep (Weak.keep (Weak.keep (Weak.keep (Weak.keep (Weak.keep (Weak.keep (Weak.keep (Weak.keep (Weak.keep (Weak.keep (Weak.keep (Weak.keep (Weak.keep (Weak.keep (Weak.keep (Weak.keep (Weak.keep (Weak.nil _))))))))))))))))))))))).trans ((Weak.bundle (L := [ownS 24 1 (.slice vb wt.length vc) wt.length (fsts wt), fam msgH wt]) (rs := [fam listH W, fam listH (L ++ [(Value.slice ub ws.length uc, ws)]), ownS 60 1 (vL') (L ++ [(Value.slice ub ws.length uc, ws)]).length (fsts (L ++ [(Value.slice ub ws.length uc, ws)])), ownS 60 1 (vW') (W ++ [(Value.slice vb wt.length vc, wt)]).length (fsts (W ++ [(Value.slice vb wt.length vc, wt)])), blk b [vL', vW', vT, vV, .int .i64 (o : Int), .int .i64 (T.length : Int)] 83, ownS 24 1 (vT) T.length (fsts T), ownS 24 1 (vV) V.length (fsts V), fam msgH T, fam msgH V, blk w [.pointer (some ⟨p0, 0, none⟩), .pointer (some ⟨p1, 0, none⟩), .pointer (some ⟨q0, 0, none⟩), .pointer (some ⟨q1, 0, none⟩), .slice sb0 sg0.length sc0, .slice sb1 sg1.length sc1, .slice tb0 tg0.length tc0, .slice tb1 tg1.length tc1, .slice zb ss.length zc] 79, REG p0 (sg0) (rc0), REF q0 (tg0) (rc0), ownS 27 1 (.slice sb0 sg0.length sc0) (sg0).length (ptrs (sg0)), ownS 114 1 (.slice tb0 tg0.length tc0) (tg0).length (ptrs (tg0)), REG p1 (sg1) (rc1), REF q1 (tg1) (rc1), ownS 27 1 (.slice sb1 sg1.length sc1) (sg1).length (ptrs (sg1)), ownS 114 1 (.slice tb1 tg1.length tc1) (tg1).length (ptrs (tg1)), ownS 33 16 (.slice zb ss.length zc) (ss).length (flat .u8 (ss)), blk b5 (opC kd wh at_ a base xs.length c sl tw lg) 72])).trans (Weak.famAdd (f := listH) (x := (Value.slice vb wt.length vc, wt))))) ?_
    refine St.res (rs' := [BOOK b o (o + (q + 1)), blk w [.pointer (some ⟨p0, 0, none⟩), .pointer (some ⟨p1, 0, none⟩), .pointer (some ⟨q0, 0, none⟩), .pointer (some ⟨q1, 0, none⟩), .slice sb0 sg0.length sc0, .slice sb1 sg1.length sc1, .slice tb0 tg0.length tc0, .slice tb1 tg1.length tc1, .slice zb ss.length zc] 79, REG p0 (sg0) (rc0), REF q0 (tg0) (rc0), ownS 27 1 (.slice sb0 sg0.length sc0) (sg0).length (ptrs (sg0)), ownS 114 1 (.slice tb0 tg0.length tc0) (tg0).length (ptrs (tg0)), REG p1 (sg1) (rc1), REF q1 (tg1) (rc1), ownS 27 1 (.slice sb1 sg1.length sc1) (sg1).length (ptrs (sg1)), ownS 114 1 (.slice tb1 tg1.length tc1) (tg1).length (ptrs (tg1)), ownS 33 16 (.slice zb ss.length zc) (ss).length (flat .u8 (ss)), blk b5 (opC kd wh at_ a base xs.length c sl tw lg) 72]) ((Weak.pick (p := [_, _, _, _]) (Weak.pick (p := [_, _]) (Weak.pick (p := [_, _]) (Weak.pick (p := [_, _]) (Weak.pick (p := [_, _]) (Weak.pick (p := [_]) (Weak.keep (Weak.keep (Weak.keep (Weak.keep (Weak.keep (Weak.keep (Weak.keep (Weak.keep (Weak.keep (Weak.keep (Weak.keep (Weak.keep (Weak.keep (Weak.keep (Weak.nil _))))))))))))))))))))).trans (book_close (rs := [blk w [.pointer (some ⟨p0, 0, none⟩), .pointer (some ⟨p1, 0, none⟩), .pointer (some ⟨q0, 0, none⟩), .pointer (some ⟨q1, 0, none⟩), .slice sb0 sg0.length sc0, .slice sb1 sg1.length sc1, .slice tb0 tg0.length tc0, .slice tb1 tg1.length tc1, .slice zb ss.length zc] 79, REG p0 (sg0) (rc0), REF q0 (tg0) (rc0), ownS 27 1 (.slice sb0 sg0.length sc0) (sg0).length (ptrs (sg0)), ownS 114 1 (.slice tb0 tg0.length tc0) (tg0).length (ptrs (tg0)), REG p1 (sg1) (rc1), REF q1 (tg1) (rc1), ownS 27 1 (.slice sb1 sg1.length sc1) (sg1).length (ptrs (sg1)), ownS 114 1 (.slice tb1 tg1.length tc1) (tg1).length (ptrs (tg1)), ownS 33 16 (.slice zb ss.length zc) (ss).length (flat .u8 (ss)), blk b5 (opC kd wh at_ a base xs.length c sl tw lg) 72]) ⟨L ++ [(Value.slice ub ws.length uc, ws)], W ++ [(Value.slice vb wt.length vc, wt)], T, V, vL', vW', vT, vV⟩ (hok_.take (by show List.map _ ws = List.map _ wt; rw [hws, hwt]) (fun t ht => by have h1 : t.2 ∈ msgsOf rc0 (IntKind.u64.wrap (a + IntKind.u64.wrap ((q : Int).tmod 2))) := (by rw [← hws]; exact List.mem_map_of_mem (f := fun t : Txt => t.2) ht); exact hrcb _ (msgsOf_mem h1)) (by show ws.length ≤ _; omega)))) ?_
    refine St.res (rs' := [blk w [.pointer (some ⟨p0, 0, none⟩), .pointer (some ⟨p1, 0, none⟩), .pointer (some ⟨q0, 0, none⟩), .pointer (some ⟨q1, 0, none⟩), .slice sb0 sg0.length sc0, .slice sb1 sg1.length sc1, .slice tb0 tg0.length tc0, .slice tb1 tg1.length tc1, .slice zb ss.length zc] 79, REG p0 (sg0) (rc0), REF q0 (tg0) (rc0), ownS 27 1 (.slice sb0 sg0.length sc0) (sg0).length (ptrs (sg0)), ownS 114 1 (.slice tb0 tg0.length tc0) (tg0).length (ptrs (tg0)), REG p1 (sg1) (rc1), REF q1 (tg1) (rc1), ownS 27 1 (.slice sb1 sg1.length sc1) (sg1).length (ptrs (sg1)), ownS 114 1 (.slice tb1 tg1.length tc1) (tg1).length (ptrs (tg1)), ownS 33 16 (.slice zb ss.length zc) (ss).length (flat .u8 (ss)), blk b5 (opC kd wh at_ a base xs.length c sl tw lg) 72, BOOK b o (o + (q + 1))]) (Weak.pick (p := [_]) (Weak.pick (p := [_]) (Weak.pick (p := [_]) (Weak.pick (p := [_]) (Weak.pick (p := [_]) (Weak.pick (p := [_]) (Weak.pick (p := [_]) (Weak.pick (p := [_]) (Weak.pick (p := [_]) (Weak.pick (p := [_]) (Weak.pick (p := [_]) (Weak.keep (Weak.nil _))))))))))))) ?_
    refine L_nil ?_
    refine St.env (.cons (t := 0) rfl (.cons (t := 1) rfl (.cons (t := 5) rfl (.cons (t := 6) rfl (.cons (t := 7) rfl (.cons (t := 8) rfl (.cons (t := 9) rfl (.cons (t := 10) rfl (.cons (t := 14) rfl (.cons (t := 15) rfl (.cons (t := 18) rfl (.cons (t := 19) rfl (.cons (t := 20) rfl (.cons (t := 21) rfl (.cons (t := 22) rfl (.cons (t := 23) rfl (.cons (t := 24) rfl (.cons (t := 25) rfl (.cons (t := 26) rfl (.cons (t := 27) rfl (.cons (t := 28) rfl (.cons (t := 29) rfl (.cons (t := 30) rfl (.cons (t := 31) rfl (.cons (t := 32) rfl (.cons (t := 33) rfl (.cons (t := 34) rfl (.cons (t := 35) rfl (.cons (t := 36) rfl (.cons (t := 37) rfl (.cons (t := 38) rfl (.cons (t := 39) rfl (.cons (t := 40) rfl (.cons (t := 41) rfl (.cons (t := 42) rfl .nil))))))))))))))))))))))))))))))))))) ?_
    refine Q_block ?_
    refine Q_then ?_
    refine R_region ?_
    refine L_val rfl rfl rfl (OpP.v (P_move rfl rfl)) ?_
    first | (refine L_val rfl rfl rfl (OpP.v (P_addN rfl rfl rfl (by simp only [fits]; omega))) ?_) | (refine L_val rfl rfl rfl (OpP.v (P_add rfl rfl rfl)) ?_)
    refine L_val rfl rfl rfl (OpP.v (P_assign rfl rfl)) ?_
    refine L_nil ?_
    exact Q_round (q + 1) (by show (q + 1) ≤ 3; omega) (by show 3 - (q + 1) < 3 - q; omega) (by repeat (first | exact .nil | refine .cons rfl ?_ | refine .consE rfl (by first | rfl | (congr 1; omega) | (congr 1; push_cast; omega)) ?_)) (Weak.refl _)
  · skip
    obtain rfl : q = 3 := by omega
    refine R_exit ?_
    refine Q_then_exit ?_
    refine Q_then_exit ?_
    refine Q_block_eq ?_
    refine St.env (.nil) ?_
    exact R_end0 (rs2 := [TWO w n, BOOK b o (o + 3)]) rfl rfl (.nil) (⟨rfl, rfl⟩) ((Weak.keep (Weak.keep (Weak.keep (Weak.keep (Weak.keep (Weak.keep (Weak.keep (Weak.keep (Weak.keep (Weak.keep (Weak.pick (p := [_]) (Weak.nil _)))))))))))).trans (two_close (n := n) (rs := [BOOK b o (o + 3)]) ⟨⟨p0, q0, sg0, tg0, rc0, .slice sb0 sg0.length sc0, .slice tb0 tg0.length tc0⟩, ⟨p1, q1, sg1, tg1, rc1, .slice sb1 sg1.length sc1, .slice tb1 tg1.length tc1⟩, .slice zb ss.length zc, ss⟩ hok2))
theorem look1 {gl : Nat → Obj} (w n b o : Nat) (hn : n ≤ 1048576) (ho_ : o ≤ 4000000) (kd wh at_ a : Int) (base : Option Addr) (c : Nat) (xs sl : List Int) (tw : Int) (lg : Bool) (hk : bitI .and .i64 wh 1 = 1) : SpecR (cx gl) 33 [.pointer (some ⟨w, 0, none⟩), .pointer (some ⟨b, 0, none⟩), .agg (opC kd wh at_ a base xs.length c sl tw lg).toArray] (fun _ _ => True) [TWO w n, BOOK b o o] (.tuple #[]) [TWO w n, BOOK b o (o + 3)] := by
  refine Spec.enter (C := cx gl) Tryd.func33 rfl 44 rfl rfl fun w0 h0 hsep hsub hpre => ?_
  show St (cx gl) _ [(0, .pointer (some ⟨w, 0, none⟩)), (1, .pointer (some ⟨b, 0, none⟩)), (2, .agg (opC kd wh at_ a base xs.length c sl tw lg).toArray)] _ _
  refine R_seq ?_
  refine R_region ?_
  refine L_op rfl (W_box (opC kd wh at_ a base xs.length c sl tw lg) rfl rfl rfl rfl rfl fun b5 => ?_)
  refine L_nil ?_
  refine St.env (.cons (t := 0) rfl (.cons (t := 1) rfl (.cons (t := 5) rfl .nil))) ?_
  refine Q_then ?_
  refine R_seq ?_
  refine St.res (rs' := [TWO w n, blk b5 (opC kd wh at_ a base xs.length c sl tw lg) 72, BOOK b o o]) (Weak.swap) ?_
  refine St.openP (p := []) (fun ⟨⟨p0, q0, sg0, tg0, rc0, vs0, vt0⟩, ⟨p1, q1, sg1, tg1, rc1, vs1, vt1⟩, z, ss⟩ hok => ?_)
  have hok2 := hok
  obtain ⟨⟨hen0, hs0, hr0⟩, ⟨hen1, hs1, hr1⟩, hzl, hz16⟩ := hok
  dsimp only at hen0 hen1 hs0 hs1 hr0 hr1 hzl hz16
  refine St.unbundle [] ?_
  refine St.res (rs' := [blk w [.pointer (some ⟨p0, 0, none⟩), .pointer (some ⟨p1, 0, none⟩), .pointer (some ⟨q0, 0, none⟩), .pointer (some ⟨q1, 0, none⟩), vs0, vs1, vt0, vt1, z] 79, REG p0 (sg0) (rc0), REF q0 (tg0) (rc0), ownS 27 1 (vs0) (sg0).length (ptrs (sg0)), ownS 114 1 (vt0) (tg0).length (ptrs (tg0)), REG p1 (sg1) (rc1), REF q1 (tg1) (rc1), ownS 27 1 (vs1) (sg1).length (ptrs (sg1)), ownS 114 1 (vt1) (tg1).length (ptrs (tg1)), ownS 33 16 (z) (ss).length (flat .u8 (ss)), blk b5 (opC kd wh at_ a base xs.length c sl tw lg) 72, BOOK b o o]) (Weak.refl _) ?_
  have htl0 : tg0.length = sg0.length := (enOf_len hen0).symm
  have htl1 : tg1.length = sg1.length := (enOf_len hen1).symm
  refine St.ownForm (p := [_, _, _]) fun sb0 sc0 hsb0_ hsc0 => ?_
  subst hsb0_
  refine St.ownForm (p := [_, _, _, _]) fun tb0 tc0 htb0_ htc0 => ?_
  subst htb0_
  refine St.ownForm (p := [_, _, _, _, _, _, _]) fun sb1 sc1 hsb1_ hsc1 => ?_
  subst hsb1_
  refine St.ownForm (p := [_, _, _, _, _, _, _, _]) fun tb1 tc1 htb1_ htc1 => ?_
  subst htb1_
  refine St.ownForm (p := [_, _, _, _, _, _, _, _, _]) fun zb zc hzb_ hzc => ?_
  subst hzb_
  refine St.res (rs' := [blk w [.pointer (some ⟨p0, 0, none⟩), .pointer (some ⟨p1, 0, none⟩), .pointer (some ⟨q0, 0, none⟩), .pointer (some ⟨q1, 0, none⟩), .slice sb0 sg0.length sc0, .slice sb1 sg1.length sc1, .slice tb0 tg0.length tc0, .slice tb1 tg1.length tc1, .slice zb ss.length zc] 79, REG p0 (sg0) (rc0), REF q0 (tg0) (rc0), ownS 27 1 (.slice sb0 sg0.length sc0) (sg0).length (ptrs (sg0)), ownS 114 1 (.slice tb0 tg0.length tc0) (tg0).length (ptrs (tg0)), REG p1 (sg1) (rc1), REF q1 (tg1) (rc1), ownS 27 1 (.slice sb1 sg1.length sc1) (sg1).length (ptrs (sg1)), ownS 114 1 (.slice tb1 tg1.length tc1) (tg1).length (ptrs (tg1)), ownS 33 16 (.slice zb ss.length zc) (ss).length (flat .u8 (ss)), blk b5 (opC kd wh at_ a base xs.length c sl tw lg) 72, BOOK b o o]) (Weak.refl _) ?_
  refine R_region ?_
  refine L_val rfl rfl rfl (OpP.v (P_fld0 rfl ty_fl_72_1 rfl)) ?_
  refine L_val rfl rfl rfl (V_load rfl rfl ty_sc_3 (Rd.blk (Has.cons .h9) rfl)) ?_
  refine L_val rfl rfl rfl (OpP.v (P_bit (op := .and) rfl rfl rfl rfl)) ?_
  refine E_as (t := 13) (v' := .int .i64 1) rfl (by rw [hk]) ?_
  refine L_val rfl rfl rfl (OpP.v (P_assign rfl rfl)) ?_
  refine L_nil ?_
  refine St.env (.cons (t := 0) rfl (.cons (t := 1) rfl (.cons (t := 5) rfl (.cons (t := 6) rfl .nil)))) ?_
  refine Q_then ?_
  refine R_seq ?_
  refine R_region ?_
  refine L_val rfl rfl rfl (OpP.v (P_assign rfl rfl)) ?_
  refine L_nil ?_
  refine Q_then ?_
  refine R_block ?_
  refine R_loopE (G := Nat) (.cons (t := 0) rfl (.cons (t := 1) rfl (.cons (t := 5) rfl (.cons (t := 6) rfl .nil)))) (fun g => [(7, .int .i64 (g : Int))]) (fun g => [blk w [.pointer (some ⟨p0, 0, none⟩), .pointer (some ⟨p1, 0, none⟩), .pointer (some ⟨q0, 0, none⟩), .pointer (some ⟨q1, 0, none⟩), .slice sb0 sg0.length sc0, .slice sb1 sg1.length sc1, .slice tb0 tg0.length tc0, .slice tb1 tg1.length tc1, .slice zb ss.length zc] 79, REG p0 (sg0) (rc0), REF q0 (tg0) (rc0), ownS 27 1 (.slice sb0 sg0.length sc0) (sg0).length (ptrs (sg0)), ownS 114 1 (.slice tb0 tg0.length tc0) (tg0).length (ptrs (tg0)), REG p1 (sg1) (rc1), REF q1 (tg1) (rc1), ownS 27 1 (.slice sb1 sg1.length sc1) (sg1).length (ptrs (sg1)), ownS 114 1 (.slice tb1 tg1.length tc1) (tg1).length (ptrs (tg1)), ownS 33 16 (.slice zb ss.length zc) (ss).length (flat .u8 (ss)), blk b5 (opC kd wh at_ a base xs.length c sl tw lg) 72, BOOK b o (o + g)]) (fun g => g ≤ 3) (fun g => 3 - g) (0) (by decide) (by repeat (first | exact .nil | refine .cons rfl ?_ | refine .consE rfl (by first | rfl | (congr 1; omega) | (congr 1; push_cast; omega)) ?_)) (Weak.refl _) ?_
  intro q hinv
  replace hinv : q ≤ 3 := hinv
  show St (cx gl) _ ((7, .int .i64 (q : Int)) :: _) [blk w [.pointer (some ⟨p0, 0, none⟩), .pointer (some ⟨p1, 0, none⟩), .pointer (some ⟨q0, 0, none⟩), .pointer (some ⟨q1, 0, none⟩), .slice sb0 sg0.length sc0, .slice sb1 sg1.length sc1, .slice tb0 tg0.length tc0, .slice tb1 tg1.length tc1, .slice zb ss.length zc] 79, REG p0 (sg0) (rc0), REF q0 (tg0) (rc0), ownS 27 1 (.slice sb0 sg0.length sc0) (sg0).length (ptrs (sg0)), ownS 114 1 (.slice tb0 tg0.length tc0) (tg0).length (ptrs (tg0)), REG p1 (sg1) (rc1), REF q1 (tg1) (rc1), ownS 27 1 (.slice sb1 sg1.length sc1) (sg1).length (ptrs (sg1)), ownS 114 1 (.slice tb1 tg1.length tc1) (tg1).length (ptrs (tg1)), ownS 33 16 (.slice zb ss.length zc) (ss).length (flat .u8 (ss)), blk b5 (opC kd wh at_ a base xs.length c sl tw lg) 72, BOOK b o (o + q)] _
  have hq := hinv
  refine R_seq ?_
  refine R_seq ?_
  refine R_region ?_
  refine L_val rfl rfl rfl (OpP.v (P_move rfl rfl)) ?_
  refine L_val rfl rfl rfl (OpP.v (P_lss rfl rfl rfl)) ?_
  refine L_nil ?_
  refine Q_then ?_
  refine R_condP rfl (fun hq0 => ?_) (fun hq0 => ?_)
  · skip
    have hq3 : q < 3 := by omega
    refine R_skip ?_
    refine Q_then ?_
    refine R_seq ?_
    refine R_block ?_
    refine R_seq ?_
    refine R_region ?_
    refine L_val rfl rfl rfl (OpP.v (P_fld0 rfl ty_fl_72_3 rfl)) ?_
    refine L_val rfl rfl rfl (V_load rfl rfl ty_sc_23 (Rd.blk (Has.cons .h9) rfl)) ?_
    refine L_val rfl rfl rfl (OpP.v (P_move rfl rfl)) ?_
    refine L_val rfl rfl rfl (OpP.v (P_rem rfl rfl rfl (by omega))) ?_
    refine L_val rfl rfl rfl (OpP.v (P_conv rfl ty_int_3 ty_int_23 rfl)) ?_
    refine L_val rfl rfl rfl (OpP.v (P_add rfl rfl rfl)) ?_
    refine L_val rfl rfl rfl (OpP.v (P_assign rfl rfl)) ?_
    refine L_nil ?_
    refine Q_then ?_
    refine R_seq ?_
    refine R_region ?_
    refine L_val rfl rfl rfl (OpP.v (P_move rfl rfl)) ?_
    refine L_val rfl rfl rfl (OpP.v (P_move rfl rfl)) ?_
    refine L_val rfl rfl rfl (OpP.v (P_nil rfl rfl)) ?_
    refine L_val rfl rfl rfl (OpP.v (P_fld0 rfl ty_fl_79_0 rfl)) ?_
    first | (refine L_val rfl rfl rfl (OpP.v (P_ixa0 (1) rfl ty_ar_53 rfl rfl (by first | rfl | omega) (by omega))) ?_) | (refine L_val rfl rfl rfl (OpP.v (P_ixa (1) rfl ty_ar_53 rfl rfl (by first | rfl | omega) (by omega))) ?_)
    refine L_val rfl rfl rfl (V_load rfl rfl ty_sc_25 (Rd.blk .h0 rfl)) ?_
    refine L_val rfl rfl rfl (OpP.v (P_move rfl rfl)) ?_
    refine L_op rfl (W_call rfl rfl rfl rfl fn_ca_27 (signed_ok p1 sg1 rc1 (IntKind.u64.wrap (a + IntKind.u64.wrap ((q : Int).tmod 2))) (by omega)) (Split.one (p := [_, _, _, _, _])) (fun _ _ _ _ _ _ _ => trivial) fun v31 rs1 ⟨ws, hws, e1⟩ => ?_)
    subst e1
    refine St.ownForm (p := []) fun ub uc hub_ huc => ?_
    subst hub_
    refine St.res (rs' := [blk w [.pointer (some ⟨p0, 0, none⟩), .pointer (some ⟨p1, 0, none⟩), .pointer (some ⟨q0, 0, none⟩), .pointer (some ⟨q1, 0, none⟩), .slice sb0 sg0.length sc0, .slice sb1 sg1.length sc1, .slice tb0 tg0.length tc0, .slice tb1 tg1.length tc1, .slice zb ss.length zc] 79, REG p0 (sg0) (rc0), REF q0 (tg0) (rc0), ownS 27 1 (.slice sb0 sg0.length sc0) (sg0).length (ptrs (sg0)), ownS 114 1 (.slice tb0 tg0.length tc0) (tg0).length (ptrs (tg0)), REG p1 (sg1) (rc1), REF q1 (tg1) (rc1), ownS 27 1 (.slice sb1 sg1.length sc1) (sg1).length (ptrs (sg1)), ownS 114 1 (.slice tb1 tg1.length tc1) (tg1).length (ptrs (tg1)), ownS 33 16 (.slice zb ss.length zc) (ss).length (flat .u8 (ss)), blk b5 (opC kd wh at_ a base xs.length c sl tw lg) 72, BOOK b o (o + q), ownS 24 1 (.slice ub ws.length uc) ws.length (fsts ws), fam msgH ws]) (Weak.pick (p := [_, _, _]) (Weak.pick (p := [_, _, _]) (Weak.pick (p := [_, _, _]) (Weak.pick (p := [_, _, _]) (Weak.pick (p := [_, _, _]) (Weak.pick (p := [_, _]) (Weak.pick (p := [_, _]) (Weak.pick (p := [_, _]) (Weak.pick (p := [_, _]) (Weak.pick (p := [_, _]) (Weak.pick (p := [_, _]) (Weak.pick (p := [_, _]) (Weak.keep (Weak.keep (Weak.nil _))))))))))))))) ?_
    refine L_val rfl rfl rfl (OpP.v (P_assign rfl rfl)) ?_
    refine L_nil ?_
    refine Q_then ?_
    refine R_seq ?_
    refine R_region ?_
    refine L_val rfl rfl rfl (OpP.v (P_move rfl rfl)) ?_
    refine L_val rfl rfl rfl (OpP.v (P_move rfl rfl)) ?_
    refine L_val rfl rfl rfl (OpP.v (P_nil rfl rfl)) ?_
    refine L_val rfl rfl rfl (OpP.v (P_fld0 rfl ty_fl_79_1 rfl)) ?_
    first | (refine L_val rfl rfl rfl (OpP.v (P_ixa0 (1) rfl ty_ar_74 rfl rfl (by first | rfl | omega) (by omega))) ?_) | (refine L_val rfl rfl rfl (OpP.v (P_ixa (1) rfl ty_ar_74 rfl rfl (by first | rfl | omega) (by omega))) ?_)
    refine L_val rfl rfl rfl (V_load rfl rfl ty_sc_73 (Rd.blk .h0 rfl)) ?_
    refine L_val rfl rfl rfl (OpP.v (P_move rfl rfl)) ?_
    refine L_op rfl (W_call rfl rfl rfl rfl fn_ca_52 (rsigned_ok q1 tg1 rc1 (IntKind.u64.wrap (a + IntKind.u64.wrap ((q : Int).tmod 2))) (by omega)) (Split.one (p := [_, _, _, _, _, _])) (fun _ _ _ _ _ _ _ => trivial) fun v39 rs2 ⟨wt, hwt, e2⟩ => ?_)
    subst e2
    refine St.ownForm (p := []) fun vb vc hvb_ hvc => ?_
    subst hvb_
    refine St.res (rs' := [blk w [.pointer (some ⟨p0, 0, none⟩), .pointer (some ⟨p1, 0, none⟩), .pointer (some ⟨q0, 0, none⟩), .pointer (some ⟨q1, 0, none⟩), .slice sb0 sg0.length sc0, .slice sb1 sg1.length sc1, .slice tb0 tg0.length tc0, .slice tb1 tg1.length tc1, .slice zb ss.length zc] 79, REG p0 (sg0) (rc0), REF q0 (tg0) (rc0), ownS 27 1 (.slice sb0 sg0.length sc0) (sg0).length (ptrs (sg0)), ownS 114 1 (.slice tb0 tg0.length tc0) (tg0).length (ptrs (tg0)), REG p1 (sg1) (rc1), REF q1 (tg1) (rc1), ownS 27 1 (.slice sb1 sg1.length sc1) (sg1).length (ptrs (sg1)), ownS 114 1 (.slice tb1 tg1.length tc1) (tg1).length (ptrs (tg1)), ownS 33 16 (.slice zb ss.length zc) (ss).length (flat .u8 (ss)), blk b5 (opC kd wh at_ a base xs.length c sl tw lg) 72, BOOK b o (o + q), ownS 24 1 (.slice ub ws.length uc) ws.length (fsts ws), fam msgH ws, ownS 24 1 (.slice vb wt.length vc) wt.length (fsts wt), fam msgH wt]) (Weak.pick (p := [_, _, _]) (Weak.pick (p := [_, _, _]) (Weak.pick (p := [_, _, _]) (Weak.pick (p := [_, _, _]) (Weak.pick (p := [_, _, _]) (Weak.pick (p := [_, _, _]) (Weak.pick (p := [_, _]) (Weak.pick (p := [_, _]) (Weak.pick (p := [_, _]) (Weak.pick (p := [_, _]) (Weak.pick (p := [_, _]) (Weak.pick (p := [_, _]) (Weak.pick (p := [_, _]) (Weak.pick (p := [_, _]) (Weak.keep (Weak.keep (Weak.nil _))))))))))))))))) ?_
    refine L_val rfl rfl rfl (OpP.v (P_assign rfl rfl)) ?_
    refine L_nil ?_
    refine Q_then ?_
    refine St.hasFact (r := REG p1 (sg1) (rc1)) .h5 reg_fact fun hrcb => ?_
    have hwsl : ws.length ≤ n := by have q1 := congrArg List.length hws; have q2 := msgsOf_le rc1 (IntKind.u64.wrap (a + IntKind.u64.wrap ((q : Int).tmod 2))); rw [List.length_map] at q1; omega
    refine St.res (rs' := [BOOK b o (o + q), blk w [.pointer (some ⟨p0, 0, none⟩), .pointer (some ⟨p1, 0, none⟩), .pointer (some ⟨q0, 0, none⟩), .pointer (some ⟨q1, 0, none⟩), .slice sb0 sg0.length sc0, .slice sb1 sg1.length sc1, .slice tb0 tg0.length tc0, .slice tb1 tg1.length tc1, .slice zb ss.length zc] 79, REG p0 (sg0) (rc0), REF q0 (tg0) (rc0), ownS 27 1 (.slice sb0 sg0.length sc0) (sg0).length (ptrs (sg0)), ownS 114 1 (.slice tb0 tg0.length tc0) (tg0).length (ptrs (tg0)), REG p1 (sg1) (rc1), REF q1 (tg1) (rc1), ownS 27 1 (.slice sb1 sg1.length sc1) (sg1).length (ptrs (sg1)), ownS 114 1 (.slice tb1 tg1.length tc1) (tg1).length (ptrs (tg1)), ownS 33 16 (.slice zb ss.length zc) (ss).length (flat .u8 (ss)), blk b5 (opC kd wh at_ a base xs.length c sl tw lg) 72, ownS 24 1 (.slice ub ws.length uc) ws.length (fsts ws), fam msgH ws, ownS 24 1 (.slice vb wt.length vc) wt.length (fsts wt), fam msgH wt]) (Weak.pick (p := [_, _, _, _, _, _, _, _, _, _, _]) (Weak.keep (Weak.keep (Weak.keep (Weak.keep (Weak.keep (Weak.keep (Weak.keep (Weak.keep (Weak.keep (Weak.keep (Weak.keep (Weak.keep (Weak.keep (Weak.keep (Weak.keep (Weak.nil _))))))))))))))))) ?_
    refine St.openP (p := []) (fun ⟨L, W, T, V, vL, vW, vT, vV⟩ hok => ?_)
    refine St.unbundle [] ?_
    refine St.res (rs' := [blk b [vL, vW, vT, vV, .int .i64 (o : Int), .int .i64 (T.length : Int)] 83, ownS 60 1 (vL) L.length (fsts L), ownS 60 1 (vW) W.length (fsts W), ownS 24 1 (vT) T.length (fsts T), ownS 24 1 (vV) V.length (fsts V), fam listH L, fam listH W, fam msgH T, fam msgH V, blk w [.pointer (some ⟨p0, 0, none⟩), .pointer (some ⟨p1, 0, none⟩), .pointer (some ⟨q0, 0, none⟩), .pointer (some ⟨q1, 0, none⟩), .slice sb0 sg0.length sc0, .slice sb1 sg1.length sc1, .slice tb0 tg0.length tc0, .slice tb1 tg1.length tc1, .slice zb ss.length zc] 79, REG p0 (sg0) (rc0), REF q0 (tg0) (rc0), ownS 27 1 (.slice sb0 sg0.length sc0) (sg0).length (ptrs (sg0)), ownS 114 1 (.slice tb0 tg0.length tc0) (tg0).length (ptrs (tg0)), REG p1 (sg1) (rc1), REF q1 (tg1) (rc1), ownS 27 1 (.slice sb1 sg1.length sc1) (sg1).length (ptrs (sg1)), ownS 114 1 (.slice tb1 tg1.length tc1) (tg1).length (ptrs (tg1)), ownS 33 16 (.slice zb ss.length zc) (ss).length (flat .u8 (ss)), blk b5 (opC kd wh at_ a base xs.length c sl tw lg) 72, ownS 24 1 (.slice ub ws.length uc) ws.length (fsts ws), fam msgH ws, ownS 24 1 (.slice vb wt.length vc) wt.length (fsts wt), fam msgH wt]) (Weak.refl _) ?_
    have hok_ := hok
    obtain ⟨hL, hW, _, _, _, _, _, _, _⟩ := hok
    dsimp only at hL hW
    refine R_region ?_
    refine L_val rfl rfl rfl (OpP.v (P_move rfl rfl)) ?_
    refine L_val rfl rfl rfl (OpP.v (P_move rfl rfl)) ?_
    refine L_val rfl rfl rfl (OpP.v (P_move rfl rfl)) ?_
    refine L_op rfl (W_call rfl rfl rfl rfl fn_ca_55 (take_ok b L.length W.length vL vW _ _ _ _ (.slice ub ws.length uc) (.slice vb wt.length vc) (fsts L) (fsts W) rfl rfl ⟨_, _, _, rfl⟩ ⟨_, _, _, rfl⟩ (by omega) (by omega)) (Weak.keep (Weak.keep (Weak.keep (Weak.keep (Weak.keep (Weak.keep (Weak.keep (Weak.keep (Weak.keep (Weak.keep (Weak.keep (Weak.keep (Weak.keep (Weak.keep (Weak.keep (Weak.keep (Weak.keep (Weak.keep (Weak.keep (Weak.keep (Weak.keep (Weak.keep (Weak.keep (Weak.keep (Weak.nil _))))))))))))))))))))))))) (fun _ _ _ _ _ _ _ => trivial) fun v43 rs5 ⟨vL', vW', e5, e6⟩ => ?_)
    subst e5; subst e6
    refine St.res (rs' := [ownS 60 1 (vL') (L.length + 1) (fsts L ++ [Value.slice ub ws.length uc]), ownS 60 1 (vW') (W.length + 1) (fsts W ++ [Value.slice vb wt.length vc]), blk b [vL', vW', vT, vV, .int .i64 (o : Int), .int .i64 (T.length : Int)] 83, ownS 24 1 (vT) T.length (fsts T), ownS 24 1 (vV) V.length (fsts V), fam listH L, fam listH W, fam msgH T, fam msgH V, blk w [.pointer (some ⟨p0, 0, none⟩), .pointer (some ⟨p1, 0, none⟩), .pointer (some ⟨q0, 0, none⟩), .pointer (some ⟨q1, 0, none⟩), .slice sb0 sg0.length sc0, .slice sb1 sg1.length sc1, .slice tb0 tg0.length tc0, .slice tb1 tg1.length tc1, .slice zb ss.length zc] 79, REG p0 (sg0) (rc0), REF q0 (tg0) (rc0), ownS 27 1 (.slice sb0 sg0.length sc0) (sg0).length (ptrs (sg0)), ownS 114 1 (.slice tb0 tg0.length tc0) (tg0).length (ptrs (tg0)), REG p1 (sg1) (rc1), REF q1 (tg1) (rc1), ownS 27 1 (.slice sb1 sg1.length sc1) (sg1).length (ptrs (sg1)), ownS 114 1 (.slice tb1 tg1.length tc1) (tg1).length (ptrs (tg1)), ownS 33 16 (.slice zb ss.length zc) (ss).length (flat .u8 (ss)), blk b5 (opC kd wh at_ a base xs.length c sl tw lg) 72, ownS 24 1 (.slice ub ws.length uc) ws.length (fsts ws), fam msgH ws, ownS 24 1 (.slice vb wt.length vc) wt.length (fsts wt), fam msgH wt]) (Weak.pick (p := [_]) (Weak.pick (p := [_]) (Weak.keep (Weak.keep (Weak.keep (Weak.keep (Weak.keep (Weak.keep (Weak.keep (Weak.keep (Weak.keep (Weak.keep (Weak.keep (Weak.keep (Weak.keep (Weak.keep (Weak.keep (Weak.keep (Weak.keep (Weak.keep (Weak.keep (Weak.keep (Weak.keep (Weak.keep (Weak.nil _))))))))))))))))))))))))) ?_
    refine St.res (rs' := [ownS 60 1 (vL') (L ++ [(Value.slice ub ws.length uc, ws)]).length (fsts (L ++ [(Value.slice ub ws.length uc, ws)])), ownS 60 1 (vW') (W ++ [(Value.slice vb wt.length vc, wt)]).length (fsts (W ++ [(Value.slice vb wt.length vc, wt)])), blk b [vL', vW', vT, vV, .int .i64 (o : Int), .int .i64 (T.length : Int)] 83, ownS 24 1 (vT) T.length (fsts T), ownS 24 1 (vV) V.length (fsts V), fam listH L, fam listH W, fam msgH T, fam msgH V, blk w [.pointer (some ⟨p0, 0, none⟩), .pointer (some ⟨p1, 0, none⟩), .pointer (some ⟨q0, 0, none⟩), .pointer (some ⟨q1, 0, none⟩), .slice sb0 sg0.length sc0, .slice sb1 sg1.length sc1, .slice tb0 tg0.length tc0, .slice tb1 tg1.length tc1, .slice zb ss.length zc] 79, REG p0 (sg0) (rc0), REF q0 (tg0) (rc0), ownS 27 1 (.slice sb0 sg0.length sc0) (sg0).length (ptrs (sg0)), ownS 114 1 (.slice tb0 tg0.length tc0) (tg0).length (ptrs (tg0)), REG p1 (sg1) (rc1), REF q1 (tg1) (rc1), ownS 27 1 (.slice sb1 sg1.length sc1) (sg1).length (ptrs (sg1)), ownS 114 1 (.slice tb1 tg1.length tc1) (tg1).length (ptrs (tg1)), ownS 33 16 (.slice zb ss.length zc) (ss).length (flat .u8 (ss)), blk b5 (opC kd wh at_ a base xs.length c sl tw lg) 72, ownS 24 1 (.slice ub ws.length uc) ws.length (fsts ws), fam msgH ws, ownS 24 1 (.slice vb wt.length vc) wt.length (fsts wt), fam msgH wt]) (Weak.trans (ownS.to1 (by rw [List.length_append]; rfl) (fsts_snoc L (Value.slice ub ws.length uc, ws)).symm) (Weak.keep (ownS.to1 (by rw [List.length_append]; rfl) (fsts_snoc W (Value.slice vb wt.length vc, wt)).symm))) ?_
    refine St.res (rs' := [fam listH (L ++ [(Value.slice ub ws.length uc, ws)]), ownS 60 1 (vL') (L ++ [(Value.slice ub ws.length uc, ws)]).length (fsts (L ++ [(Value.slice ub ws.length uc, ws)])), ownS 60 1 (vW') (W ++ [(Value.slice vb wt.length vc, wt)]).length (fsts (W ++ [(Value.slice vb wt.length vc, wt)])), blk b [vL', vW', vT, vV, .int .i64 (o : Int), .int .i64 (T.length : Int)] 83, ownS 24 1 (vT) T.length (fsts T), ownS 24 1 (vV) V.length (fsts V), fam listH W, fam msgH T, fam msgH V, blk w [.pointer (some ⟨p0, 0, none⟩), .pointer (some ⟨p1, 0, none⟩), .pointer (some ⟨q0, 0, none⟩), .pointer (some ⟨q1, 0, none⟩), .slice sb0 sg0.length sc0, .slice sb1 sg1.length sc1, .slice tb0 tg0.length tc0, .slice tb1 tg1.length tc1, .slice zb ss.length zc] 79, REG p0 (sg0) (rc0), REF q0 (tg0) (rc0), ownS 27 1 (.slice sb0 sg0.length sc0) (sg0).length (ptrs (sg0)), ownS 114 1 (.slice tb0 tg0.length tc0) (tg0).length (ptrs (tg0)), REG p1 (sg1) (rc1), REF q1 (tg1) (rc1), ownS 27 1 (.slice sb1 sg1.length sc1) (sg1).length (ptrs (sg1)), ownS 114 1 (.slice tb1 tg1.length tc1) (tg1).length (ptrs (tg1)), ownS 33 16 (.slice zb ss.length zc) (ss).length (flat .u8 (ss)), blk b5 (opC kd wh at_ a base xs.length c sl tw lg) 72, ownS 24 1 (.slice vb wt.length vc) wt.length (fsts wt), fam msgH wt]) ((Weak.pick (p := [_, _, _, _, _, _, _, _, _, _, _, _, _, _, _, _, _, _, _, _]) (Weak.pick (p := [_, _, _, _, _, _, _, _, _, _, _, _, _, _, _, _, _, _, _, _]) (Weak.pick (p := [_, _, _, _, _]) (Weak.keep (Weak.keep (Weak.keep (Weak.keep (Weak.keep (Weak.keep (Weak.keep (Weak.keep (Weak.keep (Weak.keep (Weak.keep (Weak.keep (Weak.keep (Weak.keep (Weak.keep (Weak.keep (Weak.keep (Weak.keep (Weak.keep (Weak.keep (Weak.keep (Weak.nil _))))))))))))))))))))))))).trans ((Weak.bundle (L := [ownS 24 1 (.slice ub ws.length uc) ws.length (fsts ws), fam msgH ws]) (rs := [fam listH L, ownS 60 1 (vL') (L ++ [(Value.slice ub ws.length uc, ws)]).length (fsts (L ++ [(Value.slice ub ws.length uc, ws)])), ownS 60 1 (vW') (W ++ [(Value.slice vb wt.length vc, wt)]).length (fsts (W ++ [(Value.slice vb wt.length vc, wt)])), blk b [vL', vW', vT, vV, .int .i64 (o : Int), .int .i64 (T.length : Int)] 83, ownS 24 1 (vT) T.length (fsts T), ownS 24 1 (vV) V.length (fsts V), fam listH W, fam msgH T, fam msgH V, blk w [.pointer (some ⟨p0, 0, none⟩), .pointer (some ⟨p1, 0, none⟩), .pointer (some ⟨q0, 0, none⟩), .pointer (some ⟨q1, 0, none⟩), .slice sb0 sg0.length sc0, .slice sb1 sg1.length sc1, .slice tb0 tg0.length tc0, .slice tb1 tg1.length tc1, .slice zb ss.length zc] 79, REG p0 (sg0) (rc0), REF q0 (tg0) (rc0), ownS 27 1 (.slice sb0 sg0.length sc0) (sg0).length (ptrs (sg0)), ownS 114 1 (.slice tb0 tg0.length tc0) (tg0).length (ptrs (tg0)), REG p1 (sg1) (rc1), REF q1 (tg1) (rc1), ownS 27 1 (.slice sb1 sg1.length sc1) (sg1).length (ptrs (sg1)), ownS 114 1 (.slice tb1 tg1.length tc1) (tg1).length (ptrs (tg1)), ownS 33 16 (.slice zb ss.length zc) (ss).length (flat .u8 (ss)), blk b5 (opC kd wh at_ a base xs.length c sl tw lg) 72, ownS 24 1 (.slice vb wt.length vc) wt.length (fsts wt), fam msgH wt])).trans (Weak.famAdd (f := listH) (x := (Value.slice ub ws.length uc, ws))))) ?_
    refine St.res (rs' := [fam listH (W ++ [(Value.slice vb wt.length vc, wt)]), fam listH (L ++ [(Value.slice ub ws.length uc, ws)]), ownS 60 1 (vL') (L ++ [(Value.slice ub ws.length uc, ws)]).length (fsts (L ++ [(Value.slice ub ws.length uc, ws)])), ownS 60 1 (vW') (W ++ [(Value.slice vb wt.length vc, wt)]).length (fsts (W ++ [(Value.slice vb wt.length vc, wt)])), blk b [vL', vW', vT, vV, .int .i64 (o : Int), .int .i64 (T.length : Int)] 83, ownS 24 1 (vT) T.length (fsts T), ownS 24 1 (vV) V.length (fsts V), fam msgH T, fam msgH V, blk w [.pointer (some ⟨p0, 0, none⟩), .pointer (some ⟨p1, 0, none⟩), .pointer (some ⟨q0, 0, none⟩), .pointer (some ⟨q1, 0, none⟩), .slice sb0 sg0.length sc0, .slice sb1 sg1.length sc1, .slice tb0 tg0.length tc0, .slice tb1 tg1.length tc1, .slice zb ss.length zc] 79, REG p0 (sg0) (rc0), REF q0 (tg0) (rc0), ownS 27 1 (.slice sb0 sg0.length sc0) (sg0).length (ptrs (sg0)), ownS 114 1 (.slice tb0 tg0.length tc0) (tg0).length (ptrs (tg0)), REG p1 (sg1) (rc1), REF q1 (tg1) (rc1), ownS 27 1 (.slice sb1 sg1.length sc1) (sg1).length (ptrs (sg1)), ownS 114 1 (.slice tb1 tg1.length tc1) (tg1).length (ptrs (tg1)), ownS 33 16 (.slice zb ss.length zc) (ss).length (flat .u8 (ss)), blk b5 (opC kd wh at_ a base xs.length c sl tw lg) 72]) ((Weak.pick (p := [_, _, _, _, _, _, _, _, _, _, _, _, _, _, _, _, _, _, _, _]) (Weak.pick (p := [_, _, _, _, _, _, _, _, _, _, _, _, _, _, _, _, _, _, _, _]) (Weak.pick (p := [_, _, _, _, _, _]) (Weak.keep (Weak.keep (Weak.keep (Weak.keep (Weak.keep (Weak.keep (Weak.keep (Weak.keep (Weak.keep (Weak.keep (Weak.keep (Weak.keep (Weak.keep (Weak.keep (Weak.keep (Weak.keep (Weak.keep (Weak.keep (Weak.keep (Weak.nil _))))))))))))))))))))))).trans ((Weak.bundle (L := [ownS 24 1 (.slice vb wt.length vc) wt.length (fsts wt), fam msgH wt]) (rs := [fam listH W, fam listH (L ++ [(Value.slice ub ws.length uc, ws)]), ownS 60 1 (vL') (L ++ [(Value.slice ub ws.length uc, ws)]).length (fsts (L ++ [(Value.slice ub ws.length uc, ws)])), ownS 60 1 (vW') (W ++ [(Value.slice vb wt.length vc, wt)]).length (fsts (W ++ [(Value.slice vb wt.length vc, wt)])), blk b [vL', vW', vT, vV, .int .i64 (o : Int), .int .i64 (T.length : Int)] 83, ownS 24 1 (vT) T.length (fsts T), ownS 24 1 (vV) V.length (fsts V), fam msgH T, fam msgH V, blk w [.pointer (some ⟨p0, 0, none⟩), .pointer (some ⟨p1, 0, none⟩), .pointer (some ⟨q0, 0, none⟩), .pointer (some ⟨q1, 0, none⟩), .slice sb0 sg0.length sc0, .slice sb1 sg1.length sc1, .slice tb0 tg0.length tc0, .slice tb1 tg1.length tc1, .slice zb ss.length zc] 79, REG p0 (sg0) (rc0), REF q0 (tg0) (rc0), ownS 27 1 (.slice sb0 sg0.length sc0) (sg0).length (ptrs (sg0)), ownS 114 1 (.slice tb0 tg0.length tc0) (tg0).length (ptrs (tg0)), REG p1 (sg1) (rc1), REF q1 (tg1) (rc1), ownS 27 1 (.slice sb1 sg1.length sc1) (sg1).length (ptrs (sg1)), ownS 114 1 (.slice tb1 tg1.length tc1) (tg1).length (ptrs (tg1)), ownS 33 16 (.slice zb ss.length zc) (ss).length (flat .u8 (ss)), blk b5 (opC kd wh at_ a base xs.length c sl tw lg) 72])).trans (Weak.famAdd (f := listH) (x := (Value.slice vb wt.length vc, wt))))) ?_
    refine St.res (rs' := [BOOK b o (o + (q + 1)), blk w [.pointer (some ⟨p0, 0, none⟩), .pointer (some ⟨p1, 0, none⟩), .pointer (some ⟨q0, 0, none⟩), .pointer (some ⟨q1, 0, none⟩), .slice sb0 sg0.length sc0, .slice sb1 sg1.length sc1, .slice tb0 tg0.length tc0, .slice tb1 tg1.length tc1, .slice zb ss.length zc] 79, REG p0 (sg0) (rc0), REF q0 (tg0) (rc0), ownS 27 1 (.slice sb0 sg0.length sc0) (sg0).length (ptrs (sg0)), ownS 114 1 (.slice tb0 tg0.length tc0) (tg0).length (ptrs (tg0)), REG p1 (sg1) (rc1), REF q1 (tg1) (rc1), ownS 27 1 (.slice sb1 sg1.length sc1) (sg1).length (ptrs (sg1)), ownS 114 1 (.slice tb1 tg1.length tc1) (tg1).length (ptrs (tg1)), ownS 33 16 (.slice zb ss.length zc) (ss).length (flat .u8 (ss)), blk b5 (opC kd wh at_ a base xs.length c sl tw lg) 72]) ((Weak.pick (p := [_, _, _, _]) (Weak.pick (p := [_, _]) (Weak.pick (p := [_, _]) (Weak.pick (p := [_, _]) (Weak.pick (p := [_, _]) (Weak.pick (p := [_]) (Weak.keep (Weak.keep (Weak.keep (Weak.keep (Weak.keep (Weak.keep (Weak.keep (Weak.keep (Weak.keep (Weak.keep (Weak.keep (Weak.keep (Weak.keep (Weak.keep (Weak.nil _))))))))))))))))))))).trans (book_close (rs := [blk w [.pointer (some ⟨p0, 0, none⟩), .pointer (some ⟨p1, 0, none⟩), .pointer (some ⟨q0, 0, none⟩), .pointer (some ⟨q1, 0, none⟩), .slice sb0 sg0.length sc0, .slice sb1 sg1.length sc1, .slice tb0 tg0.length tc0, .slice tb1 tg1.length tc1, .slice zb ss.length zc] 79, REG p0 (sg0) (rc0), REF q0 (tg0) (rc0), ownS 27 1 (.slice sb0 sg0.length sc0) (sg0).length (ptrs (sg0)), ownS 114 1 (.slice tb0 tg0.length tc0) (tg0).length (ptrs (tg0)), REG p1 (sg1) (rc1), REF q1 (tg1) (rc1), ownS 27 1 (.slice sb1 sg1.length sc1) (sg1).length (ptrs (sg1)), ownS 114 1 (.slice tb1 tg1.length tc1) (tg1).length (ptrs (tg1)), ownS 33 16 (.slice zb ss.length zc) (ss).length (flat .u8 (ss)), blk b5 (opC kd wh at_ a base xs.length c sl tw lg) 72]) ⟨L ++ [(Value.slice ub ws.length uc, ws)], W ++ [(Value.slice vb wt.length vc, wt)], T, V, vL', vW', vT, vV⟩ (hok_.take (by show List.map _ ws = List.map _ wt; rw [hws, hwt]) (fun t ht => by have h1 : t.2 ∈ msgsOf rc1 (IntKind.u64.wrap (a + IntKind.u64.wrap ((q : Int).tmod 2))) := (by rw [← hws]; exact List.mem_map_of_mem (f := fun t : Txt => t.2) ht); exact hrcb _ (msgsOf_mem h1)) (by show ws.length ≤ _; omega)))) ?_
    refine St.res (rs' := [blk w [.pointer (some ⟨p0, 0, none⟩), .pointer (some ⟨p1, 0, none⟩), .pointer (some ⟨q0, 0, none⟩), .pointer (some ⟨q1, 0, none⟩), .slice sb0 sg0.length sc0, .slice sb1 sg1.length sc1, .slice tb0 tg0.length tc0, .slice tb1 tg1.length tc1, .slice zb ss.length zc] 79, REG p0 (sg0) (rc0), REF q0 (tg0) (rc0), ownS 27 1 (.slice sb0 sg0.length sc0) (sg0).length (ptrs (sg0)), ownS 114 1 (.slice tb0 tg0.length tc0) (tg0).length (ptrs (tg0)), REG p1 (sg1) (rc1), REF q1 (tg1) (rc1), ownS 27 1 (.slice sb1 sg1.length sc1) (sg1).length (ptrs (sg1)), ownS 114 1 (.slice tb1 tg1.length tc1) (tg1).length (ptrs (tg1)), ownS 33 16 (.slice zb ss.length zc) (ss).length (flat .u8 (ss)), blk b5 (opC kd wh at_ a base xs.length c sl tw lg) 72, BOOK b o (o + (q + 1))]) (Weak.pick (p := [_]) (Weak.pick (p := [_]) (Weak.pick (p := [_]) (Weak.pick (p := [_]) (Weak.pick (p := [_]) (Weak.pick (p := [_]) (Weak.pick (p := [_]) (Weak.pick (p := [_]) (Weak.pick (p := [_]) (Weak.pick (p := [_]) (Weak.pick (p := [_]) (Weak.keep (Weak.nil _))))))))))))) ?_
    refine L_nil ?_
    refine St.env (.cons (t := 0) rfl (.cons (t := 1) rfl (.cons (t := 5) rfl (.cons (t := 6) rfl (.cons (t := 7) rfl (.cons (t := 8) rfl (.cons (t := 9) rfl (.cons (t := 10) rfl (.cons (t := 14) rfl (.cons (t := 15) rfl (.cons (t := 18) rfl (.cons (t := 19) rfl (.cons (t := 20) rfl (.cons (t := 21) rfl (.cons (t := 22) rfl (.cons (t := 23) rfl (.cons (t := 24) rfl (.cons (t := 25) rfl (.cons (t := 26) rfl (.cons (t := 27) rfl (.cons (t := 28) rfl (.cons (t := 29) rfl (.cons (t := 30) rfl (.cons (t := 31) rfl (.cons (t := 32) rfl (.cons (t := 33) rfl (.cons (t := 34) rfl (.cons (t := 35) rfl (.cons (t := 36) rfl (.cons (t := 37) rfl (.cons (t := 38) rfl (.cons (t := 39) rfl (.cons (t := 40) rfl (.cons (t := 41) rfl (.cons (t := 42) rfl .nil))))))))))))))))))))))))))))))))))) ?_
    refine Q_block ?_
    refine Q_then ?_
    refine R_region ?_
    refine L_val rfl rfl rfl (OpP.v (P_move rfl rfl)) ?_
    first | (refine L_val rfl rfl rfl (OpP.v (P_addN rfl rfl rfl (by simp only [fits]; omega))) ?_) | (refine L_val rfl rfl rfl (OpP.v (P_add rfl rfl rfl)) ?_)
    refine L_val rfl rfl rfl (OpP.v (P_assign rfl rfl)) ?_
    refine L_nil ?_
    exact Q_round (q + 1) (by show (q + 1) ≤ 3; omega) (by show 3 - (q + 1) < 3 - q; omega) (by repeat (first | exact .nil | refine .cons rfl ?_ | refine .consE rfl (by first | rfl | (congr 1; omega) | (congr 1; push_cast; omega)) ?_)) (Weak.refl _)
  · skip
    obtain rfl : q = 3 := by omega
    refine R_exit ?_
    refine Q_then_exit ?_
    refine Q_then_exit ?_
    refine Q_block_eq ?_
    refine St.env (.nil) ?_
    exact R_end0 (rs2 := [TWO w n, BOOK b o (o + 3)]) rfl rfl (.nil) (⟨rfl, rfl⟩) ((Weak.keep (Weak.keep (Weak.keep (Weak.keep (Weak.keep (Weak.keep (Weak.keep (Weak.keep (Weak.keep (Weak.keep (Weak.pick (p := [_]) (Weak.nil _)))))))))))).trans (two_close (n := n) (rs := [BOOK b o (o + 3)]) ⟨⟨p0, q0, sg0, tg0, rc0, .slice sb0 sg0.length sc0, .slice tb0 tg0.length tc0⟩, ⟨p1, q1, sg1, tg1, rc1, .slice sb1 sg1.length sc1, .slice tb1 tg1.length tc1⟩, .slice zb ss.length zc, ss⟩ hok2))
theorem look_ok {gl : Nat → Obj} (w n b o : Nat) (hn : n ≤ 1048576) (ho_ : o ≤ 4000000) (kd wh at_ a : Int) (base : Option Addr) (c : Nat) (xs sl : List Int) (tw : Int) (lg : Bool) : SpecR (cx gl) 33 [.pointer (some ⟨w, 0, none⟩), .pointer (some ⟨b, 0, none⟩), .agg (opC kd wh at_ a base xs.length c sl tw lg).toArray] (fun _ _ => True) [TWO w n, BOOK b o o] (.tuple #[]) [TWO w n, BOOK b o (o + 3)] := by
  rcases and1 wh with h | h
  · exact look0 w n b o hn ho_ kd wh at_ a base c xs sl tw lg h
  · exact look1 w n b o hn ho_ kd wh at_ a base c xs sl tw lg h
theorem isB_set {l : List Int} {i : Nat} {x : Int} (h : IsB l) (hx : 0 ≤ x ∧ x ≤ 255) : IsB (l.set i x) := fun y hy => by
  rcases List.mem_or_eq_of_mem_set hy with hy | rfl
  · exact h y hy
  · exact hx
theorem fsts_set {α : Type} {l : List (Value × α)} {i : Nat} {v : Value} {x y : α} (h : l[i]? = some (v, x)) : fsts (l.set i (v, y)) = fsts l := map_set_same h rfl
theorem txs_set {l : List Txt} {i : Nat} {x : Txt} (h : ∀ t ∈ l, TxOK t.2) (hx : TxOK x.2) : ∀ t ∈ l.set i x, TxOK t.2 := fun t ht => by
  rcases List.mem_or_eq_of_mem_set ht with ht | rfl
  · exact h t ht
  · exact hx
theorem wr_set {ws2 ws : List Txt} {j : Nat} {v : Value} {x : List Int} (h : ws2.length = j) (hj : j < ws.length) : (fsts ws2 ++ (fsts ws).drop j).set j v = fsts (ws2 ++ [(v, x)]) ++ (fsts ws).drop (j + 1) := by
  rw [List.set_append_right _ _ (by rw [fsts_length]; omega), fsts_length, h, Nat.sub_self, List.drop_eq_getElem_cons (by rw [fsts_length]; exact hj), List.set_cons_zero, fsts_snoc, List.append_assoc]
  rfl
theorem all_snoc {α : Type} {p : Nat → α → Prop} {l : List α} {x : α} (h : ∀ (j : Nat) (y : α), l[j]? = some y → p j y) (hx : p l.length x) : ∀ (j : Nat) (y : α), (l ++ [x])[j]? = some y → p j y := fun j y hy => by
  rcases snoc_at hy with hy | ⟨rfl, rfl⟩
  · exact h j y hy
  · exact hx
theorem Bk.ok.mark {o l : Nat} {A U W Z : List Lst} {T V Mc V2 : List Txt} {vL vW vT vV vT' vV' : Value} (h : Bk.ok o l ⟨A ++ U, W, T, V, vL, vW, vT, vV⟩) (hA : A.length = o) (h1 : Z.length = U.length) (h2 : ∀ (j : Nat) (y : Lst), Z[j]? = some y → (∀ z ∈ y.2, z.2 = mkB (o + j)) ∧ y.2.length ≤ 1048576)
    (h3 : Mc.length = (msgsU U).length) (h4 : ∀ t ∈ Mc, TxOK t.2) (h5 : V2.map (fun t : Txt => t.2) = Mc.map (fun t : Txt => t.2)) : Bk.ok l l ⟨A ++ Z, W, T ++ Mc, V ++ V2, vL, vW, vT', vV'⟩ := by
  obtain ⟨k1, k2, k3, k4, k5, k6, k7, k8, k9⟩ := h
  dsimp only at k1 k2 k4 k5 k6 k7 k8 k9
  rw [List.length_append] at k1
  have hM : (msgsU U).length ≤ 1048576 * U.length := msgsU_le fun y hy => k6 y (List.mem_append_right _ hy)
  refine ⟨by show (A ++ Z).length = l; rw [List.length_append, h1]; exact k1, k2, Nat.le_refl _, ?_, ?_, ?_, ?_, ?_, ?_⟩
  · intro j y hj hy
    have hy : (A ++ Z)[j]? = some y := hy
    by_cases hjA : j < A.length
    · rw [List.getElem?_append_left hjA] at hy
      exact k4 j y (by omega) (by rw [List.getElem?_append_left hjA]; exact hy)
    · rw [List.getElem?_append_right (by omega)] at hy
      have := (h2 _ y hy).1
      rwa [show o + (j - A.length) = j by omega] at this
  · intro j y z hj hy
    have hy : (A ++ Z)[j]? = some y := hy
    have := (List.getElem?_eq_some_iff.1 hy).1
    rw [List.length_append] at this
    omega
  · intro y hy
    rcases List.mem_append.1 hy with hy | hy
    · exact k6 y (List.mem_append_left _ hy)
    · obtain ⟨j, hj⟩ := List.mem_iff_getElem?.1 hy
      exact (h2 j y hj).2
  · show List.map _ (T ++ Mc) = List.map _ (V ++ V2)
    rw [List.map_append, List.map_append, k7, h5]
  · intro t ht
    rcases List.mem_append.1 ht with ht | ht
    · exact k8 t ht
    · exact h4 t ht
  · show (T ++ Mc).length ≤ _
    rw [List.length_append, h3]; omega
theorem mark_main {gl : Nat → Obj} (b o : Nat) (A U : List Lst) (T V : List Txt) (vL vW vT0 vV0 : Value) (hAo : A.length = o) (hUl : ∀ y ∈ U, y.2.length ≤ 1048576) (hUt : ∀ y ∈ U, ∀ t ∈ y.2, TxOK t.2) (hVl : V.length = T.length) (hTok : ∀ t ∈ T, TxOK t.2) (hTle : T.length ≤ 1048576 * o) (hbig : o + U.length ≤ 4000000) : Spec (cx gl) 35 [.pointer (some ⟨b, 0, none⟩)] (fun _ _ => True) [blk b [vL, vW, vT0, vV0, .int .i64 (o : Int), .int .i64 (T.length : Int)] 83, ownS 60 1 (vL) (A ++ U).length (fsts (A ++ U)), ownS 24 1 (vT0) T.length (fsts T), ownS 24 1 (vV0) V.length (fsts V), fam listH A, fam listH U, fam msgH T, fam msgH V] (fun v rs => ∃ (Z : List Lst) (Mc V2 : List Txt) (vT vV : Value), (v = .tuple #[] ∧ (Z.length = U.length ∧ fsts Z = fsts U ∧ ∀ (j : Nat) (y : Lst), Z[j]? = some y → (∀ z ∈ y.2, z.2 = mkB (o + j)) ∧ y.2.length ≤ 1048576) ∧ Mc.length = (msgsU U).length ∧ (∀ t ∈ Mc, TxOK t.2) ∧ V2.map (fun t : Txt => t.2) = Mc.map (fun t : Txt => t.2)) ∧ rs = [blk b [vL, vW, vT, vV, .int .i64 ((A ++ U).length : Int), .int .i64 ((T ++ Mc).length : Int)] 83, ownS 60 1 (vL) (A ++ U).length (fsts (A ++ U)), ownS 24 1 (vT) (T ++ Mc).length (fsts (T ++ Mc)), ownS 24 1 (vV) (V ++ V2).length (fsts (V ++ V2)), fam listH (A ++ Z), fam msgH (T ++ Mc), fam msgH (V ++ V2)]) := by
  refine Spec.enter (C := cx gl) Tryd.func35 rfl 182 rfl rfl fun w0 h0 hsep hsub hpre => ?_
  show St (cx gl) _ [(0, .pointer (some ⟨b, 0, none⟩))] _ _
  have hLn : (A ++ U).length = o + U.length := by rw [List.length_append, hAo]
  have hMle : (msgsU U).length ≤ 1048576 * U.length := msgsU_le hUl
  have hM0 : ∀ t ∈ msgsU U, TxOK t.2 := fun t ht => by obtain ⟨y, hy, h⟩ := mem_msgsU ht; exact hUt y hy t h
  have hLat : ∀ (m : Nat) (y : Lst), U[m]? = some y → (A ++ U)[o + m]? = some y := fun m y hy => by rw [List.getElem?_append_right (by omega), hAo, Nat.add_sub_cancel_left]; exact hy
  refine St.res (rs' := [blk b [vL, vW, vT0, vV0, .int .i64 (o : Int), .int .i64 (T.length : Int)] 83, ownS 60 1 (vL) (A ++ U).length (fsts (A ++ U)), ownS 24 1 (vT0) T.length (fsts T), ownS 24 1 (vV0) V.length (fsts V), fam listH A, fam holH U, fam msgH (msgsU U), fam msgH T, fam msgH V]) ((Weak.pick (p := [_, _, _, _, _]) (Weak.keep (Weak.keep (Weak.keep (Weak.keep (Weak.keep (Weak.keep (Weak.keep (Weak.nil _))))))))).trans (Weak.hollow.trans (Weak.pick (p := [_, _]) (Weak.pick (p := [_, _]) (Weak.pick (p := [_, _]) (Weak.pick (p := [_, _]) (Weak.pick (p := [_, _]) (Weak.keep (Weak.keep (Weak.keep (Weak.keep (Weak.nil _)))))))))))) ?_
  refine St.ownForm (p := [_]) fun lb lc hlb_ hlc => ?_
  subst hlb_
  obtain ⟨VL0, hVL0⟩ : ∃ v, v = Value.slice lb (A ++ U).length lc := ⟨_, rfl⟩
  refine R_seq ?_
  refine R_seq ?_
  refine R_region ?_
  refine L_val rfl rfl rfl (OpP.v (P_move rfl rfl)) ?_
  refine L_val rfl rfl rfl (OpP.v (P_nil rfl rfl)) ?_
  refine L_val rfl rfl rfl (OpP.v (P_fld0 rfl ty_fl_83_4 rfl)) ?_
  refine L_val rfl rfl rfl (V_load rfl rfl ty_sc_3 (Rd.blk .h0 rfl)) ?_
  refine L_val rfl rfl rfl (OpP.v (P_assign rfl rfl)) ?_
  refine L_nil ?_
  refine St.env (.cons (t := 0) rfl (.cons (t := 2) rfl .nil)) ?_
  refine Q_then ?_
  refine R_block ?_
  refine R_loopE (G := Nat × Value × List Txt) (.cons (t := 0) rfl .nil) (fun g => [(2, .int .i64 ((o + g.1 : Nat) : Int))]) (fun g => [blk b [.slice lb (A ++ U).length lc, vW, g.2.1, vV0, .int .i64 (o : Int), .int .i64 (T.length : Int)] 83, ownS 60 1 (.slice lb (A ++ U).length lc) (A ++ U).length (fsts (A ++ U)), ownS 24 1 (g.2.1) (T.length + (offU U g.1)) (fsts T ++ (fsts (msgsU U)).take (offU U g.1)), ownS 24 1 (vV0) V.length (fsts V), fam listH A, fam holH U, fam msgH g.2.2, fam msgH T, fam msgH V]) (fun g => g.1 ≤ U.length ∧ fsts g.2.2 = fsts (msgsU U) ∧ ∀ t ∈ g.2.2, TxOK t.2) (fun g => U.length - g.1) (0, vT0, (msgsU U)) (⟨Nat.zero_le _, rfl, hM0⟩) (by repeat (first | exact .nil | refine .cons rfl ?_ | refine .consE rfl (by first | rfl | (congr 1; omega) | (congr 1; push_cast; omega)) ?_)) (Weak.keep (Weak.keep (Weak.trans (ownS.to1 (by rw [offU_zero]; rfl) (by rw [offU_zero, List.take_zero, List.append_nil])) (Weak.refl _)))) ?_
  rintro ⟨m, vT, Mc⟩ hinv
  replace hinv : m ≤ U.length ∧ fsts Mc = fsts (msgsU U) ∧ ∀ t ∈ Mc, TxOK t.2 := hinv
  show St (cx gl) _ ((2, .int .i64 ((o + m : Nat) : Int)) :: _) [blk b [.slice lb (A ++ U).length lc, vW, vT, vV0, .int .i64 (o : Int), .int .i64 (T.length : Int)] 83, ownS 60 1 (.slice lb (A ++ U).length lc) (A ++ U).length (fsts (A ++ U)), ownS 24 1 (vT) (T.length + (offU U m)) (fsts T ++ (fsts (msgsU U)).take (offU U m)), ownS 24 1 (vV0) V.length (fsts V), fam listH A, fam holH U, fam msgH Mc, fam msgH T, fam msgH V] _
  obtain ⟨hm, hfe, htk⟩ := hinv
  refine R_seq ?_
  refine R_seq ?_
  refine R_region ?_
  refine L_val rfl rfl rfl (OpP.v (P_move rfl rfl)) ?_
  refine L_val rfl rfl rfl (OpP.v (P_move rfl rfl)) ?_
  refine L_val rfl rfl rfl (OpP.v (P_nil rfl rfl)) ?_
  refine L_val rfl rfl rfl (OpP.v (P_fld0 rfl ty_fl_83_0 rfl)) ?_
  refine L_val rfl rfl rfl (V_load rfl rfl ty_sc_81 (Rd.blk .h0 rfl)) ?_
  refine L_val rfl rfl rfl (OpP.v (P_len rfl ty_sl_81 rfl)) ?_
  refine L_val rfl rfl rfl (OpP.v (P_lss rfl rfl rfl)) ?_
  refine L_nil ?_
  refine Q_then ?_
  refine R_condP rfl (fun hm0 => ?_) (fun hm0 => ?_)
  · skip
    have hml : m < U.length := by omega
    obtain ⟨⟨xv, ws⟩, hy⟩ : ∃ y, U[m]? = some y := ⟨_, List.getElem?_eq_getElem hml⟩
    have hat := fsts_at (hLat m _ hy)
    dsimp only at hat
    refine St.ownSome (p := [_]) (by omega) fun lbb lbb_ hq _ => ?_
    simp only [Value.slice.injEq] at hq
    obtain ⟨rfl, _, rfl⟩ := hq
    refine St.famFact .h5 hy (p := ∃ b c, (xv : Value) = .slice b ws.length c) (fun h hh => ownS.formB hh) fun ⟨xb, xc, hq⟩ => ?_
    subst hq
    refine R_skip ?_
    refine Q_then ?_
    refine R_seq ?_
    refine R_block ?_
    refine R_seq ?_
    refine R_region ?_
    refine L_val rfl rfl rfl (OpP.v (P_assign rfl rfl)) ?_
    refine L_nil ?_
    refine Q_then ?_
    refine R_block ?_
    refine R_loopE (G := Nat × Value × List Txt) (.cons (t := 0) rfl (.cons (t := 2) rfl (.cons (t := 18) rfl (.cons (t := 19) rfl (.cons (t := 20) rfl (.cons (t := 21) rfl (.cons (t := 22) rfl (.cons (t := 23) rfl (.cons (t := 24) rfl .nil))))))))) (fun g => [(3, .int .i64 (g.1 : Int))]) (fun g => [blk b [.slice (some ⟨lbb, 0, none⟩) (A ++ U).length lc, vW, g.2.1, vV0, .int .i64 (o : Int), .int .i64 (T.length : Int)] 83, ownS 60 1 (.slice (some ⟨lbb, 0, none⟩) (A ++ U).length lc) (A ++ U).length (fsts (A ++ U)), ownS 24 1 (g.2.1) (T.length + (offU U m + g.1)) (fsts T ++ (fsts (msgsU U)).take (offU U m + g.1)), ownS 24 1 (vV0) V.length (fsts V), fam listH A, fam holH U, fam msgH g.2.2, fam msgH T, fam msgH V]) (fun g => g.1 ≤ ws.length ∧ fsts g.2.2 = fsts (msgsU U) ∧ ∀ t ∈ g.2.2, TxOK t.2) (fun g => ws.length - g.1) (0, vT, Mc) (⟨Nat.zero_le _, hfe, htk⟩) (by repeat (first | exact .nil | refine .cons rfl ?_ | refine .consE rfl (by first | rfl | (congr 1; omega) | (congr 1; push_cast; omega)) ?_)) (Weak.refl _) ?_
    rintro ⟨j, vT, Mc⟩ hinv
    replace hinv : j ≤ ws.length ∧ fsts Mc = fsts (msgsU U) ∧ ∀ t ∈ Mc, TxOK t.2 := hinv
    show St (cx gl) _ ((3, .int .i64 (j : Int)) :: _) [blk b [.slice (some ⟨lbb, 0, none⟩) (A ++ U).length lc, vW, vT, vV0, .int .i64 (o : Int), .int .i64 (T.length : Int)] 83, ownS 60 1 (.slice (some ⟨lbb, 0, none⟩) (A ++ U).length lc) (A ++ U).length (fsts (A ++ U)), ownS 24 1 (vT) (T.length + (offU U m + j)) (fsts T ++ (fsts (msgsU U)).take (offU U m + j)), ownS 24 1 (vV0) V.length (fsts V), fam listH A, fam holH U, fam msgH Mc, fam msgH T, fam msgH V] _
    obtain ⟨hj, hfe, htk⟩ := hinv
    refine R_seq ?_
    refine R_seq ?_
    refine R_region ?_
    refine L_val rfl rfl rfl (OpP.v (P_move rfl rfl)) ?_
    refine L_val rfl rfl rfl (OpP.v (P_move rfl rfl)) ?_
    refine L_val rfl rfl rfl (OpP.v (P_nil rfl rfl)) ?_
    refine L_val rfl rfl rfl (OpP.v (P_fld0 rfl ty_fl_83_0 rfl)) ?_
    refine L_val rfl rfl rfl (V_load rfl rfl ty_sc_81 (Rd.blk .h0 rfl)) ?_
    refine L_val rfl rfl rfl (OpP.v (P_move rfl rfl)) ?_
    refine L_val rfl rfl rfl (OpP.v (P_ixs (o + m) rfl ty_sl_81 rfl rfl (by first | rfl | omega) (by omega))) ?_
    refine L_val rfl rfl rfl (V_load rfl rfl ty_sc_60 (rd_own1 .h1 hat)) ?_
    refine L_val rfl rfl rfl (OpP.v (P_len rfl ty_sl_60 rfl)) ?_
    refine L_val rfl rfl rfl (OpP.v (P_lss rfl rfl rfl)) ?_
    refine L_nil ?_
    refine Q_then ?_
    refine R_condP rfl (fun hj0 => ?_) (fun hj0 => ?_)
    · skip
      have hjl : j < ws.length := by omega
      obtain ⟨⟨tv, tx0⟩, hz⟩ : ∃ y, ws[j]? = some y := ⟨_, List.getElem?_eq_getElem hjl⟩
      have hc := msgsU_at hy hz
      have hcl := (List.getElem?_eq_some_iff.1 hc).1
      have hMl : Mc.length = (msgsU U).length := by have h := congrArg List.length hfe; rwa [fsts_length, fsts_length] at h
      obtain ⟨⟨tv2, tx⟩, hc2_⟩ : ∃ y, Mc[(offU U m + j)]? = some y := ⟨_, List.getElem?_eq_getElem (by omega)⟩
      have hc2 : Mc[(offU U m + j)]? = some (tv, tx) := by have h1 := fsts_at hc2_; rw [hfe, fsts_at hc] at h1; rw [hc2_]; exact congrArg (fun v => some (v, tx)) (Option.some.inj h1).symm
      have htx := htk _ (List.mem_of_getElem? hc2)
      dsimp only at htx
      have htx2 := htx.2
      refine St.famFact .h6 hc2 (p := ∃ b c, (tv : Value) = .slice b tx.length c) (fun h hh => ownS.formB hh) fun ⟨tb, tc, hq⟩ => ?_
      subst hq
      refine St.famFact .h5 hy (p := ∃ b c, (.slice xb ws.length xc : Value) = .slice (some ⟨b, 0, none⟩) ws.length c) (fun h hh => ownS.someB hh (by omega)) fun ⟨xbb, xbb_, hq⟩ => ?_
      simp only [Value.slice.injEq] at hq
      obtain ⟨rfl, _, rfl⟩ := hq
      refine St.ownForm (p := [_, _]) fun ttb ttc httb_ httc => ?_
      subst httb_
      refine R_skip ?_
      refine Q_then ?_
      refine R_seq ?_
      refine R_block ?_
      refine R_seq ?_
      refine R_region ?_
      refine L_val rfl rfl rfl (OpP.v (P_move rfl rfl)) ?_
      refine L_val rfl rfl rfl (OpP.v (P_nil rfl rfl)) ?_
      refine L_val rfl rfl rfl (OpP.v (P_fld0 rfl ty_fl_83_0 rfl)) ?_
      refine L_val rfl rfl rfl (V_load rfl rfl ty_sc_81 (Rd.blk .h0 rfl)) ?_
      refine L_val rfl rfl rfl (OpP.v (P_move rfl rfl)) ?_
      refine L_val rfl rfl rfl (OpP.v (P_ixs (o + m) rfl ty_sl_81 rfl rfl (by first | rfl | omega) (by omega))) ?_
      refine L_val rfl rfl rfl (V_load rfl rfl ty_sc_60 (rd_own1 .h1 hat)) ?_
      refine L_val rfl rfl rfl (OpP.v (P_move rfl rfl)) ?_
      refine L_val rfl rfl rfl (OpP.v (P_ixs (j) rfl ty_sl_60 rfl rfl (by first | rfl | omega) (by omega))) ?_
      refine L_val rfl rfl rfl (V_load rfl rfl ty_sc_24 (Sn.rd1 (Sn.fam .h5 hy fun rs m => Sn.own m rfl) (fsts_at hz))) ?_
      refine L_val rfl rfl rfl (OpP.v (P_assign rfl rfl)) ?_
      refine L_nil ?_
      refine Q_then ?_
      refine R_seq ?_
      refine R_seq ?_
      refine St.res (rs' := [ownS 5 1 (.slice tb tx.length tc) (tx.length) (ints .u8 (tx)), fam msgH (Mc.take (offU U m + j)), fam msgH (Mc.drop ((offU U m + j) + 1)), blk b [.slice (some ⟨lbb, 0, none⟩) (A ++ U).length lc, vW, .slice ttb (T.length + (offU U m + j)) ttc, vV0, .int .i64 (o : Int), .int .i64 (T.length : Int)] 83, ownS 60 1 (.slice (some ⟨lbb, 0, none⟩) (A ++ U).length lc) (A ++ U).length (fsts (A ++ U)), ownS 24 1 (.slice ttb (T.length + (offU U m + j)) ttc) (T.length + (offU U m + j)) (fsts T ++ (fsts (msgsU U)).take (offU U m + j)), ownS 24 1 (vV0) V.length (fsts V), fam listH A, fam holH U, fam msgH T, fam msgH V]) ((Weak.pick (p := [_, _, _, _, _, _]) (Weak.keep (Weak.keep (Weak.keep (Weak.keep (Weak.keep (Weak.keep (Weak.keep (Weak.keep (Weak.nil _)))))))))).trans (Weak.famOpen (f := msgH) hc2)) ?_
      refine R_region ?_
      refine L_val rfl rfl rfl (OpP.v (P_assign rfl rfl)) ?_
      refine L_nil ?_
      refine Q_then ?_
      refine R_block ?_
      refine R_loopE (G := Nat × List Int) (.cons (t := 0) rfl (.cons (t := 2) rfl (.cons (t := 3) rfl (.cons (t := 4) rfl (.cons (t := 18) rfl (.cons (t := 19) rfl (.cons (t := 20) rfl (.cons (t := 21) rfl (.cons (t := 22) rfl (.cons (t := 23) rfl (.cons (t := 24) rfl (.cons (t := 27) rfl (.cons (t := 28) rfl (.cons (t := 29) rfl (.cons (t := 30) rfl (.cons (t := 31) rfl (.cons (t := 32) rfl (.cons (t := 33) rfl (.cons (t := 34) rfl (.cons (t := 35) rfl (.cons (t := 36) rfl (.cons (t := 39) rfl (.cons (t := 40) rfl (.cons (t := 41) rfl (.cons (t := 42) rfl (.cons (t := 43) rfl (.cons (t := 44) rfl (.cons (t := 45) rfl (.cons (t := 46) rfl (.cons (t := 47) rfl (.cons (t := 48) rfl .nil))))))))))))))))))))))))))))))) (fun g => [(5, .int .i64 (g.1 : Int))]) (fun g => [ownS 5 1 (.slice tb tx.length tc) (tx.length) (ints .u8 (g.2)), fam msgH (Mc.take (offU U m + j)), fam msgH (Mc.drop ((offU U m + j) + 1)), blk b [.slice (some ⟨lbb, 0, none⟩) (A ++ U).length lc, vW, .slice ttb (T.length + (offU U m + j)) ttc, vV0, .int .i64 (o : Int), .int .i64 (T.length : Int)] 83, ownS 60 1 (.slice (some ⟨lbb, 0, none⟩) (A ++ U).length lc) (A ++ U).length (fsts (A ++ U)), ownS 24 1 (.slice ttb (T.length + (offU U m + j)) ttc) (T.length + (offU U m + j)) (fsts T ++ (fsts (msgsU U)).take (offU U m + j)), ownS 24 1 (vV0) V.length (fsts V), fam listH A, fam holH U, fam msgH T, fam msgH V]) (fun g => g.1 ≤ tx.length ∧ g.2.length = tx.length ∧ IsB g.2) (fun g => tx.length - g.1) (0, tx) (⟨Nat.zero_le _, rfl, htx.1⟩) (by repeat (first | exact .nil | refine .cons rfl ?_ | refine .consE rfl (by first | rfl | (congr 1; omega) | (congr 1; push_cast; omega)) ?_)) (Weak.refl _) ?_
      rintro ⟨q, xs⟩ hinv
      replace hinv : q ≤ tx.length ∧ xs.length = tx.length ∧ IsB xs := hinv
      show St (cx gl) _ ((5, .int .i64 (q : Int)) :: _) [ownS 5 1 (.slice tb tx.length tc) (tx.length) (ints .u8 (xs)), fam msgH (Mc.take (offU U m + j)), fam msgH (Mc.drop ((offU U m + j) + 1)), blk b [.slice (some ⟨lbb, 0, none⟩) (A ++ U).length lc, vW, .slice ttb (T.length + (offU U m + j)) ttc, vV0, .int .i64 (o : Int), .int .i64 (T.length : Int)] 83, ownS 60 1 (.slice (some ⟨lbb, 0, none⟩) (A ++ U).length lc) (A ++ U).length (fsts (A ++ U)), ownS 24 1 (.slice ttb (T.length + (offU U m + j)) ttc) (T.length + (offU U m + j)) (fsts T ++ (fsts (msgsU U)).take (offU U m + j)), ownS 24 1 (vV0) V.length (fsts V), fam listH A, fam holH U, fam msgH T, fam msgH V] _
      obtain ⟨hq, hxl, hxb⟩ := hinv
      refine R_seq ?_
      refine R_seq ?_
      refine R_region ?_
      refine L_val rfl rfl rfl (OpP.v (P_move rfl rfl)) ?_
      refine L_val rfl rfl rfl (OpP.v (P_move rfl rfl)) ?_
      refine L_val rfl rfl rfl (OpP.v (P_len rfl ty_sl_24 rfl)) ?_
      refine L_val rfl rfl rfl (OpP.v (P_lss rfl rfl rfl)) ?_
      refine L_nil ?_
      refine Q_then ?_
      refine R_condP rfl (fun hq0 => ?_) (fun hq0 => ?_)
      · skip
        have hql : q < tx.length := by omega
        refine St.ownSome (p := []) (by omega) fun tbb tbb_ hq _ => ?_
        simp only [Value.slice.injEq] at hq
        obtain ⟨rfl, _, rfl⟩ := hq
        refine R_skip ?_
        refine Q_then ?_
        refine R_seq ?_
        refine R_block ?_
        refine R_region ?_
        refine L_val rfl rfl rfl (OpP.v (P_move rfl rfl)) ?_
        refine L_val rfl rfl rfl (OpP.v (P_move rfl rfl)) ?_
        refine L_val rfl rfl rfl (OpP.v (P_move rfl rfl)) ?_
        refine L_val rfl rfl rfl (OpP.v (P_nil rfl rfl)) ?_
        refine L_val rfl rfl rfl (OpP.v (P_fld0 rfl ty_fl_83_2 rfl)) ?_
        refine L_val rfl rfl rfl (V_load rfl rfl ty_sc_60 (Rd.blk .h3 rfl)) ?_
        refine L_val rfl rfl rfl (OpP.v (P_len rfl ty_sl_60 rfl)) ?_
        refine L_val rfl rfl rfl (OpP.v (P_conv rfl ty_int_3 ty_int_5 rfl)) ?_
        refine L_val rfl rfl rfl (OpP.v (P_move rfl rfl)) ?_
        refine L_val rfl rfl rfl (OpP.v (P_conv rfl ty_int_3 ty_int_5 rfl)) ?_
        refine L_val rfl rfl rfl (OpP.v (P_bit (op := .xor) rfl rfl rfl rfl)) ?_
        refine L_val rfl rfl rfl (OpP.v (P_ixs (q) rfl ty_sl_24 rfl rfl (by first | rfl | omega) (by omega))) ?_
        refine L_op rfl (W_storeOwn1 rfl rfl rfl rfl ty_sc_5 rfl .h0 (by rw [ints_length]; omega) ?_)
        refine L_nil ?_
        refine Q_block ?_
        refine Q_then ?_
        refine R_region ?_
        refine L_val rfl rfl rfl (OpP.v (P_move rfl rfl)) ?_
        first | (refine L_val rfl rfl rfl (OpP.v (P_addN rfl rfl rfl (by simp only [fits]; omega))) ?_) | (refine L_val rfl rfl rfl (OpP.v (P_add rfl rfl rfl)) ?_)
        refine L_val rfl rfl rfl (OpP.v (P_assign rfl rfl)) ?_
        refine L_nil ?_
        exact Q_round (q + 1, xs.set q (bitI .xor .u8 (IntKind.u8.wrap ((T.length + (offU U m + j) : Nat) : Int)) (IntKind.u8.wrap (q : Int)))) (⟨by show q + 1 ≤ _; omega, by show (xs.set q _).length = _; rw [List.length_set]; exact hxl, isB_set hxb (bit_u8 _ _ _)⟩) (by show tx.length - (q + 1) < tx.length - q; omega) (by repeat (first | exact .nil | refine .cons rfl ?_ | refine .consE rfl (by first | rfl | (congr 1; omega) | (congr 1; push_cast; omega)) ?_)) (by rw [Nat.zero_add, Nat.mul_one, ints_set]; exact Weak.refl _)
      · skip
        obtain rfl : q = tx.length := by omega
        refine R_exit ?_
        refine Q_then_exit ?_
        refine Q_then_exit ?_
        refine Q_block_eq ?_
        refine Q_then ?_
        refine St.res (rs' := [ownS 5 1 (.slice tb tx.length tc) (xs.length) (ints .u8 (xs)), fam msgH (Mc.take (offU U m + j)), fam msgH (Mc.drop ((offU U m + j) + 1)), blk b [.slice (some ⟨lbb, 0, none⟩) (A ++ U).length lc, vW, .slice ttb (T.length + (offU U m + j)) ttc, vV0, .int .i64 (o : Int), .int .i64 (T.length : Int)] 83, ownS 60 1 (.slice (some ⟨lbb, 0, none⟩) (A ++ U).length lc) (A ++ U).length (fsts (A ++ U)), ownS 24 1 (.slice ttb (T.length + (offU U m + j)) ttc) (T.length + (offU U m + j)) (fsts T ++ (fsts (msgsU U)).take (offU U m + j)), ownS 24 1 (vV0) V.length (fsts V), fam listH A, fam holH U, fam msgH T, fam msgH V]) (ownS.to1 hxl.symm rfl) ?_
        refine St.res (rs' := [blk b [.slice (some ⟨lbb, 0, none⟩) (A ++ U).length lc, vW, .slice ttb (T.length + (offU U m + j)) ttc, vV0, .int .i64 (o : Int), .int .i64 (T.length : Int)] 83, ownS 60 1 (.slice (some ⟨lbb, 0, none⟩) (A ++ U).length lc) (A ++ U).length (fsts (A ++ U)), ownS 24 1 (.slice ttb (T.length + (offU U m + j)) ttc) (T.length + (offU U m + j)) (fsts T ++ (fsts (msgsU U)).take (offU U m + j)), ownS 24 1 (vV0) V.length (fsts V), fam listH A, fam holH U, fam msgH (Mc.set (offU U m + j) (Value.slice tb tx.length tc, xs)), fam msgH T, fam msgH V]) ((Weak.famClose (f := msgH) (y := (.slice tb tx.length tc, xs)) (by omega)).trans (Weak.pick (p := [_]) (Weak.pick (p := [_]) (Weak.pick (p := [_]) (Weak.pick (p := [_]) (Weak.pick (p := [_]) (Weak.pick (p := [_]) (Weak.keep (Weak.keep (Weak.keep (Weak.nil _))))))))))) ?_
        refine R_region ?_
        refine L_val rfl rfl rfl (OpP.v (P_move rfl rfl)) ?_
        refine L_val rfl rfl rfl (OpP.v (P_move rfl rfl)) ?_
        refine L_val rfl rfl rfl (OpP.v (P_nil rfl rfl)) ?_
        refine L_val rfl rfl rfl (OpP.v (P_fld0 rfl ty_fl_83_2 rfl)) ?_
        refine L_val rfl rfl rfl (V_load rfl rfl ty_sc_60 (Rd.blk .h0 rfl)) ?_
        refine L_val rfl rfl rfl (OpP.v (P_move rfl rfl)) ?_
        refine L_op rfl (W_lit (z := .nilIface) ([.slice tb tx.length tc]) rfl rfl rfl ty_sl_60 ty_lz_60 rfl rfl rfl (by decide) (by decide) (by simp [Value.cells]) (rfl) fun b73 => ?_)
        refine L_op rfl (W_append (p := [_, _, _]) rfl rfl rfl ty_sl_60 ty_ap_60 ty_src_60 rfl rfl rfl (Src.slice (sz := 1) (news := [.slice tb tx.length tc]) (Rds.blk .h0) rfl (by intro v hv; simp only [List.mem_singleton] at hv; subst hv; rfl)) (by omega) (by simp only [maxLen]; omega) fun v74 => ?_)
        refine St.ownForm (p := [_, _, _]) fun ub uc hub_ huc => ?_
        subst hub_
        refine L_val rfl rfl rfl (OpP.v (P_nil rfl rfl)) ?_
        refine L_val rfl rfl rfl (OpP.v (P_fld0 rfl ty_fl_83_2 rfl)) ?_
        refine L_op rfl (W_store rfl rfl rfl rfl ty_sc_60 rfl .h1 (by first | decide | (simp [ints]; done) | (simp [ints]; omega)) ?_)
        refine L_nil ?_
        refine Q_block ?_
        refine Q_then ?_
        refine R_region ?_
        refine L_val rfl rfl rfl (OpP.v (P_move rfl rfl)) ?_
        first | (refine L_val rfl rfl rfl (OpP.v (P_addN rfl rfl rfl (by simp only [fits]; omega))) ?_) | (refine L_val rfl rfl rfl (OpP.v (P_add rfl rfl rfl)) ?_)
        refine L_val rfl rfl rfl (OpP.v (P_assign rfl rfl)) ?_
        refine L_nil ?_
        exact Q_round (j + 1, (.slice ub ((T.length + (offU U m + j)) + 1) uc), (Mc.set (offU U m + j) (Value.slice tb tx.length tc, xs))) (⟨by show j + 1 ≤ _; omega, (fsts_set hc2).trans hfe, txs_set htk ⟨hxb, by show xs.length ≤ _; rw [hxl]; exact htx.2⟩⟩) (by show ws.length - (j + 1) < ws.length - j; omega) (by repeat (first | exact .nil | refine .cons rfl ?_ | refine .consE rfl (by first | rfl | (congr 1; omega) | (congr 1; push_cast; omega)) ?_)) (Weak.drop (Weak.keep (Weak.keep (Weak.trans (ownS.to1 rfl (by rw [List.append_assoc, take_snoc (fsts_at hc)]; rfl)) (Weak.refl _)))))
    · skip
      obtain rfl : j = ws.length := by omega
      refine R_exit ?_
      refine Q_then_exit ?_
      refine Q_then_exit ?_
      refine Q_block_eq ?_
      refine Q_block ?_
      refine Q_then ?_
      refine R_region ?_
      refine L_val rfl rfl rfl (OpP.v (P_move rfl rfl)) ?_
      first | (refine L_val rfl rfl rfl (OpP.v (P_addN rfl rfl rfl (by simp only [fits]; omega))) ?_) | (refine L_val rfl rfl rfl (OpP.v (P_add rfl rfl rfl)) ?_)
      refine L_val rfl rfl rfl (OpP.v (P_assign rfl rfl)) ?_
      refine L_nil ?_
      exact Q_round (m + 1, vT, Mc) (⟨by show m + 1 ≤ _; omega, hfe, htk⟩) (by show U.length - (m + 1) < U.length - m; omega) (by repeat (first | exact .nil | refine .cons rfl ?_ | refine .consE rfl (by first | rfl | (congr 1; omega) | (congr 1; push_cast; omega)) ?_)) (by rw [offU_next hy]; exact Weak.refl _)
  · skip
    obtain rfl : m = U.length := by omega
    have hMl : Mc.length = (msgsU U).length := by have h := congrArg List.length hfe; rwa [fsts_length, fsts_length] at h
    have hTM : (T ++ Mc).length = T.length + Mc.length := List.length_append
    refine St.res (rs' := [blk b [.slice lb (A ++ U).length lc, vW, vT, vV0, .int .i64 (o : Int), .int .i64 (T.length : Int)] 83, ownS 60 1 (.slice lb (A ++ U).length lc) (A ++ U).length (fsts (A ++ U)), ownS 24 1 (vT) (T ++ Mc).length (fsts (T ++ Mc)), ownS 24 1 (vV0) V.length (fsts V), fam listH A, fam holH U, fam msgH Mc, fam msgH T, fam msgH V]) (Weak.keep (Weak.keep (Weak.trans (ownS.to1 (by rw [offU_full, List.length_append, hMl]) (by rw [offU_full, ← hMl, ← hfe, ← fsts_length Mc, List.take_length, fsts_append])) (Weak.refl _)))) ?_
    refine St.ownForm (p := [_, _]) fun ttb ttc httb_ httc => ?_
    subst httb_
    refine R_exit ?_
    refine Q_then_exit ?_
    refine Q_then_exit ?_
    refine Q_block_eq ?_
    refine St.env (.cons (t := 0) rfl .nil) ?_
    refine Q_then ?_
    refine R_seq ?_
    refine R_seq ?_
    refine R_region ?_
    refine L_val rfl rfl rfl (OpP.v (P_move rfl rfl)) ?_
    refine L_val rfl rfl rfl (OpP.v (P_nil rfl rfl)) ?_
    refine L_val rfl rfl rfl (OpP.v (P_fld0 rfl ty_fl_83_5 rfl)) ?_
    refine L_val rfl rfl rfl (V_load rfl rfl ty_sc_3 (Rd.blk .h0 rfl)) ?_
    refine L_val rfl rfl rfl (OpP.v (P_assign rfl rfl)) ?_
    refine L_nil ?_
    refine St.env (.cons (t := 0) rfl (.cons (t := 6) rfl .nil)) ?_
    refine Q_then ?_
    refine R_block ?_
    refine R_loopE (G := Nat × Value × List Txt) (.cons (t := 0) rfl .nil) (fun g => [(6, .int .i64 ((T.length + g.1 : Nat) : Int))]) (fun g => [blk b [.slice lb (A ++ U).length lc, vW, .slice ttb (T ++ Mc).length ttc, g.2.1, .int .i64 (o : Int), .int .i64 (T.length : Int)] 83, ownS 60 1 (.slice lb (A ++ U).length lc) (A ++ U).length (fsts (A ++ U)), ownS 24 1 (.slice ttb (T ++ Mc).length ttc) (T ++ Mc).length (fsts (T ++ Mc)), ownS 24 1 (g.2.1) (V ++ g.2.2).length (fsts (V ++ g.2.2)), fam listH A, fam holH U, fam msgH Mc, fam msgH T, fam msgH V, fam msgH g.2.2]) (fun g => g.1 ≤ Mc.length ∧ g.2.2.map (fun t : Txt => t.2) = (Mc.take g.1).map (fun t : Txt => t.2)) (fun g => Mc.length - g.1) (0, vV0, []) (⟨Nat.zero_le _, rfl⟩) (by repeat (first | exact .nil | refine .cons rfl ?_ | refine .consE rfl (by first | rfl | (congr 1; omega) | (congr 1; push_cast; omega)) ?_)) (Weak.trans Weak.famNil (Weak.trans (Weak.pick (p := [_]) (Weak.pick (p := [_]) (Weak.pick (p := [_]) (Weak.pick (p := [_]) (Weak.pick (p := [_]) (Weak.pick (p := [_]) (Weak.pick (p := [_]) (Weak.pick (p := [_]) (Weak.pick (p := [_]) (Weak.keep (Weak.nil _))))))))))) (Weak.keep (Weak.keep (Weak.keep (ownS.to1 (by rw [List.append_nil]) (by rw [List.append_nil]))))))) ?_
    rintro ⟨c, vV, V2⟩ hinv
    replace hinv : c ≤ Mc.length ∧ V2.map (fun t : Txt => t.2) = (Mc.take c).map (fun t : Txt => t.2) := hinv
    show St (cx gl) _ ((6, .int .i64 ((T.length + c : Nat) : Int)) :: _) [blk b [.slice lb (A ++ U).length lc, vW, .slice ttb (T ++ Mc).length ttc, vV, .int .i64 (o : Int), .int .i64 (T.length : Int)] 83, ownS 60 1 (.slice lb (A ++ U).length lc) (A ++ U).length (fsts (A ++ U)), ownS 24 1 (.slice ttb (T ++ Mc).length ttc) (T ++ Mc).length (fsts (T ++ Mc)), ownS 24 1 (vV) (V ++ V2).length (fsts (V ++ V2)), fam listH A, fam holH U, fam msgH Mc, fam msgH T, fam msgH V, fam msgH V2] _
    obtain ⟨hcle, hV2⟩ := hinv
    refine R_seq ?_
    refine R_seq ?_
    refine R_region ?_
    refine L_val rfl rfl rfl (OpP.v (P_move rfl rfl)) ?_
    refine L_val rfl rfl rfl (OpP.v (P_move rfl rfl)) ?_
    refine L_val rfl rfl rfl (OpP.v (P_nil rfl rfl)) ?_
    refine L_val rfl rfl rfl (OpP.v (P_fld0 rfl ty_fl_83_2 rfl)) ?_
    refine L_val rfl rfl rfl (V_load rfl rfl ty_sc_60 (Rd.blk .h0 rfl)) ?_
    refine L_val rfl rfl rfl (OpP.v (P_len rfl ty_sl_60 rfl)) ?_
    refine L_val rfl rfl rfl (OpP.v (P_lss rfl rfl rfl)) ?_
    refine L_nil ?_
    refine Q_then ?_
    refine R_condP rfl (fun hc0 => ?_) (fun hc0 => ?_)
    · skip
      have hcl : c < Mc.length := by omega
      have hV2l : V2.length = c := by have h := congrArg List.length hV2; rw [List.length_map, List.length_map, List.length_take] at h; omega
      have hVV : (V ++ V2).length = V.length + V2.length := List.length_append
      obtain ⟨⟨tv, tx⟩, hc⟩ : ∃ y, Mc[c]? = some y := ⟨_, List.getElem?_eq_getElem hcl⟩
      have htx := htk _ (List.mem_of_getElem? hc)
      dsimp only at htx
      have htx2 := htx.2
      refine St.famFact .h6 hc (p := ∃ b c, (tv : Value) = .slice b tx.length c) (fun h hh => ownS.formB hh) fun ⟨tb, tc, hq⟩ => ?_
      subst hq
      refine St.ownSome (p := [_, _]) (by omega) fun ttbb ttbb_ hq _ => ?_
      simp only [Value.slice.injEq] at hq
      obtain ⟨rfl, _, rfl⟩ := hq
      refine St.ownForm (p := [_, _, _]) fun vvb vvc hvvb_ hvvc => ?_
      subst hvvb_
      have hat2 : (fsts (T ++ Mc))[T.length + c]? = some (.slice tb tx.length tc) := fsts_at (x := (.slice tb tx.length tc, tx)) (by rw [List.getElem?_append_right (by omega), Nat.add_sub_cancel_left]; exact hc)
      refine R_skip ?_
      refine Q_then ?_
      refine R_seq ?_
      refine R_block ?_
      refine R_seq ?_
      refine R_region ?_
      refine L_val rfl rfl rfl (OpP.v (P_assign rfl rfl)) ?_
      refine L_nil ?_
      refine Q_then ?_
      refine R_seq ?_
      refine St.res (rs' := [ownS 5 1 (.slice none 0 0) (0) [], blk b [.slice lb (A ++ U).length lc, vW, .slice (some ⟨ttbb, 0, none⟩) (T ++ Mc).length ttc, .slice vvb (V ++ V2).length vvc, .int .i64 (o : Int), .int .i64 (T.length : Int)] 83, ownS 60 1 (.slice lb (A ++ U).length lc) (A ++ U).length (fsts (A ++ U)), ownS 24 1 (.slice (some ⟨ttbb, 0, none⟩) (T ++ Mc).length ttc) (T ++ Mc).length (fsts (T ++ Mc)), ownS 24 1 (.slice vvb (V ++ V2).length vvc) (V ++ V2).length (fsts (V ++ V2)), fam listH A, fam holH U, fam msgH Mc, fam msgH T, fam msgH V, fam msgH V2]) (Weak.newNil) ?_
      refine R_region ?_
      refine L_val rfl rfl rfl (OpP.v (P_move rfl rfl)) ?_
      refine L_val rfl rfl rfl (OpP.v (P_move rfl rfl)) ?_
      refine L_val rfl rfl rfl (OpP.v (P_nil rfl rfl)) ?_
      refine L_val rfl rfl rfl (OpP.v (P_fld0 rfl ty_fl_83_2 rfl)) ?_
      refine L_val rfl rfl rfl (V_load rfl rfl ty_sc_60 (Rd.blk .h1 rfl)) ?_
      refine L_val rfl rfl rfl (OpP.v (P_move rfl rfl)) ?_
      refine L_val rfl rfl rfl (OpP.v (P_ixs (T.length + c) rfl ty_sl_60 rfl rfl (by first | rfl | omega) (by omega))) ?_
      refine L_val rfl rfl rfl (V_load rfl rfl ty_sc_24 (rd_own1 .h3 hat2)) ?_
      refine L_op rfl (W_append (p := []) rfl rfl rfl ty_sl_24 ty_ap_24 ty_src_24 rfl rfl rfl (Src.row (Sn.fam .h7 hc fun rs m => Sn.own m rfl).rw_ (by rw [ints_length, Nat.mul_one]) ints_one) (by omega) (by simp only [maxLen]; omega) fun v98 => ?_)
      refine St.res (rs' := [ownS 5 1 (v98) (tx.length) (ints .u8 (tx)), blk b [.slice lb (A ++ U).length lc, vW, .slice (some ⟨ttbb, 0, none⟩) (T ++ Mc).length ttc, .slice vvb (V ++ V2).length vvc, .int .i64 (o : Int), .int .i64 (T.length : Int)] 83, ownS 60 1 (.slice lb (A ++ U).length lc) (A ++ U).length (fsts (A ++ U)), ownS 24 1 (.slice (some ⟨ttbb, 0, none⟩) (T ++ Mc).length ttc) (T ++ Mc).length (fsts (T ++ Mc)), ownS 24 1 (.slice vvb (V ++ V2).length vvc) (V ++ V2).length (fsts (V ++ V2)), fam listH A, fam holH U, fam msgH Mc, fam msgH T, fam msgH V, fam msgH V2]) (ownS.to1 (Nat.zero_add _) (List.nil_append _)) ?_
      refine St.ownForm (p := []) fun cpb cpc hcpb_ hcpc => ?_
      subst hcpb_
      refine L_val rfl rfl rfl (OpP.v (P_assign rfl rfl)) ?_
      refine L_nil ?_
      refine Q_then ?_
      refine R_seq ?_
      refine R_region ?_
      refine L_val rfl rfl rfl (OpP.v (P_move rfl rfl)) ?_
      refine L_val rfl rfl rfl (OpP.v (P_move rfl rfl)) ?_
      refine L_val rfl rfl rfl (OpP.v (P_nil rfl rfl)) ?_
      refine L_val rfl rfl rfl (OpP.v (P_fld0 rfl ty_fl_83_3 rfl)) ?_
      refine L_val rfl rfl rfl (V_load rfl rfl ty_sc_60 (Rd.blk .h1 rfl)) ?_
      refine L_val rfl rfl rfl (OpP.v (P_move rfl rfl)) ?_
      refine L_op rfl (W_lit (z := .nilIface) ([.slice cpb tx.length cpc]) rfl rfl rfl ty_sl_60 ty_lz_60 rfl rfl rfl (by decide) (by decide) (by simp [Value.cells]) (rfl) fun b105 => ?_)
      refine L_op rfl (W_append (p := [_, _, _, _, _]) rfl rfl rfl ty_sl_60 ty_ap_60 ty_src_60 rfl rfl rfl (Src.slice (sz := 1) (news := [.slice cpb tx.length cpc]) (Rds.blk .h0) rfl (by intro v hv; simp only [List.mem_singleton] at hv; subst hv; rfl)) (by omega) (by simp only [maxLen]; omega) fun v106 => ?_)
      refine St.ownForm (p := [_, _, _, _, _]) fun nvb nvc hnvb_ hnvc => ?_
      subst hnvb_
      refine L_val rfl rfl rfl (OpP.v (P_nil rfl rfl)) ?_
      refine L_val rfl rfl rfl (OpP.v (P_fld0 rfl ty_fl_83_3 rfl)) ?_
      refine L_op rfl (W_store rfl rfl rfl rfl ty_sc_60 rfl .h2 (by first | decide | (simp [ints]; done) | (simp [ints]; omega)) ?_)
      refine L_nil ?_
      refine Q_then ?_
      refine R_seq ?_
      refine St.res (rs' := [ownS 5 1 (.slice cpb tx.length cpc) (tx.length) (ints .u8 (tx)), blk b [.slice lb (A ++ U).length lc, vW, .slice (some ⟨ttbb, 0, none⟩) (T ++ Mc).length ttc, .slice nvb ((V ++ V2).length + 1) nvc, .int .i64 (o : Int), .int .i64 (T.length : Int)] 83, ownS 60 1 (.slice lb (A ++ U).length lc) (A ++ U).length (fsts (A ++ U)), ownS 24 1 (.slice (some ⟨ttbb, 0, none⟩) (T ++ Mc).length ttc) (T ++ Mc).length (fsts (T ++ Mc)), ownS 24 1 (.slice nvb ((V ++ V2).length + 1) nvc) ((V ++ V2).length + 1) (fsts (V ++ V2) ++ [Value.slice cpb tx.length cpc]), fam listH A, fam holH U, fam msgH Mc, fam msgH T, fam msgH V, fam msgH V2]) (Weak.drop (Weak.refl _)) ?_
      refine St.res (rs' := [fam msgH (V2 ++ [(Value.slice cpb tx.length cpc, tx)]), blk b [.slice lb (A ++ U).length lc, vW, .slice (some ⟨ttbb, 0, none⟩) (T ++ Mc).length ttc, .slice nvb ((V ++ V2).length + 1) nvc, .int .i64 (o : Int), .int .i64 (T.length : Int)] 83, ownS 60 1 (.slice lb (A ++ U).length lc) (A ++ U).length (fsts (A ++ U)), ownS 24 1 (.slice (some ⟨ttbb, 0, none⟩) (T ++ Mc).length ttc) (T ++ Mc).length (fsts (T ++ Mc)), ownS 24 1 (.slice nvb ((V ++ V2).length + 1) nvc) ((V ++ V2).length + 1) (fsts (V ++ V2) ++ [Value.slice cpb tx.length cpc]), fam listH A, fam holH U, fam msgH Mc, fam msgH T, fam msgH V]) ((Weak.keep (Weak.pick (p := [_, _, _, _, _, _, _, _, _]) (Weak.keep (Weak.keep (Weak.keep (Weak.keep (Weak.keep (Weak.keep (Weak.keep (Weak.keep (Weak.keep (Weak.nil _)))))))))))).trans (Weak.famAdd (f := msgH) (x := (.slice cpb tx.length cpc, tx)))) ?_
      refine St.res (rs' := [blk b [.slice lb (A ++ U).length lc, vW, .slice (some ⟨ttbb, 0, none⟩) (T ++ Mc).length ttc, .slice nvb ((V ++ V2).length + 1) nvc, .int .i64 (o : Int), .int .i64 (T.length : Int)] 83, ownS 60 1 (.slice lb (A ++ U).length lc) (A ++ U).length (fsts (A ++ U)), ownS 24 1 (.slice (some ⟨ttbb, 0, none⟩) (T ++ Mc).length ttc) (T ++ Mc).length (fsts (T ++ Mc)), ownS 24 1 (.slice nvb ((V ++ V2).length + 1) nvc) ((V ++ V2).length + 1) (fsts (V ++ V2) ++ [Value.slice cpb tx.length cpc]), fam listH A, fam holH U, fam msgH Mc, fam msgH T, fam msgH V, fam msgH (V2 ++ [(Value.slice cpb tx.length cpc, tx)])]) (Weak.pick (p := [_]) (Weak.pick (p := [_]) (Weak.pick (p := [_]) (Weak.pick (p := [_]) (Weak.pick (p := [_]) (Weak.pick (p := [_]) (Weak.pick (p := [_]) (Weak.pick (p := [_]) (Weak.pick (p := [_]) (Weak.keep (Weak.nil _))))))))))) ?_
      refine St.res (rs' := [blk b [.slice lb (A ++ U).length lc, vW, .slice (some ⟨ttbb, 0, none⟩) (T ++ Mc).length ttc, .slice nvb ((V ++ V2).length + 1) nvc, .int .i64 (o : Int), .int .i64 (T.length : Int)] 83, ownS 60 1 (.slice lb (A ++ U).length lc) (A ++ U).length (fsts (A ++ U)), ownS 24 1 (.slice (some ⟨ttbb, 0, none⟩) (T ++ Mc).length ttc) (T ++ Mc).length (fsts (T ++ Mc)), ownS 24 1 (.slice nvb ((V ++ V2).length + 1) nvc) (V ++ (V2 ++ [(Value.slice cpb tx.length cpc, tx)])).length (fsts (V ++ (V2 ++ [(Value.slice cpb tx.length cpc, tx)]))), fam listH A, fam holH U, fam msgH Mc, fam msgH T, fam msgH V, fam msgH (V2 ++ [(Value.slice cpb tx.length cpc, tx)])]) (Weak.keep (Weak.keep (Weak.keep (Weak.trans (ownS.to1 (by simp only [List.length_append, List.length_singleton]; omega) (by rw [← List.append_assoc, fsts_snoc])) (Weak.refl _))))) ?_
      refine R_region ?_
      refine L_val rfl rfl rfl (OpP.v (P_move rfl rfl)) ?_
      refine L_val rfl rfl rfl (OpP.v (P_nil rfl rfl)) ?_
      refine L_val rfl rfl rfl (OpP.v (P_fld0 rfl ty_fl_83_2 rfl)) ?_
      refine L_val rfl rfl rfl (V_load rfl rfl ty_sc_60 (Rd.blk .h0 rfl)) ?_
      refine L_val rfl rfl rfl (OpP.v (P_move rfl rfl)) ?_
      refine L_val rfl rfl rfl (OpP.v (P_ixs (T.length + c) rfl ty_sl_60 rfl rfl (by first | rfl | omega) (by omega))) ?_
      refine L_val rfl rfl rfl (V_load rfl rfl ty_sc_24 (rd_own1 .h2 hat2)) ?_
      refine L_val rfl rfl rfl (OpP.v (P_assign rfl rfl)) ?_
      refine L_nil ?_
      refine Q_then ?_
      refine R_seq ?_
      refine St.res (rs' := [pair 5 1 (.slice tb tx.length tc) tx.length (ints .u8 tx) (.slice tb tx.length tc) tx.length (ints .u8 tx), fam msgH (Mc.take c), fam msgH (Mc.drop (c + 1)), blk b [.slice lb (A ++ U).length lc, vW, .slice (some ⟨ttbb, 0, none⟩) (T ++ Mc).length ttc, .slice nvb ((V ++ V2).length + 1) nvc, .int .i64 (o : Int), .int .i64 (T.length : Int)] 83, ownS 60 1 (.slice lb (A ++ U).length lc) (A ++ U).length (fsts (A ++ U)), ownS 24 1 (.slice (some ⟨ttbb, 0, none⟩) (T ++ Mc).length ttc) (T ++ Mc).length (fsts (T ++ Mc)), ownS 24 1 (.slice nvb ((V ++ V2).length + 1) nvc) (V ++ (V2 ++ [(Value.slice cpb tx.length cpc, tx)])).length (fsts (V ++ (V2 ++ [(Value.slice cpb tx.length cpc, tx)]))), fam listH A, fam holH U, fam msgH T, fam msgH V, fam msgH (V2 ++ [(Value.slice cpb tx.length cpc, tx)])]) ((Weak.pick (p := [_, _, _, _, _, _]) (Weak.keep (Weak.keep (Weak.keep (Weak.keep (Weak.keep (Weak.keep (Weak.keep (Weak.keep (Weak.keep (Weak.nil _))))))))))).trans ((Weak.famOpen (f := msgH) hc).trans Weak.pairOf)) ?_
      refine R_region ?_
      refine L_val rfl rfl rfl (OpP.v (P_assign rfl rfl)) ?_
      refine L_nil ?_
      refine Q_then ?_
      refine R_block ?_
      refine R_loopE (G := Nat × Value × List Value) (.cons (t := 0) rfl (.cons (t := 6) rfl (.cons (t := 7) rfl (.cons (t := 81) rfl (.cons (t := 82) rfl (.cons (t := 83) rfl (.cons (t := 84) rfl (.cons (t := 85) rfl (.cons (t := 86) rfl (.cons (t := 87) rfl (.cons (t := 90) rfl (.cons (t := 91) rfl (.cons (t := 92) rfl (.cons (t := 93) rfl (.cons (t := 94) rfl (.cons (t := 95) rfl (.cons (t := 96) rfl (.cons (t := 97) rfl (.cons (t := 98) rfl (.cons (t := 99) rfl (.cons (t := 100) rfl (.cons (t := 101) rfl (.cons (t := 102) rfl (.cons (t := 103) rfl (.cons (t := 104) rfl (.cons (t := 105) rfl (.cons (t := 106) rfl (.cons (t := 107) rfl (.cons (t := 108) rfl (.cons (t := 109) rfl (.cons (t := 110) rfl (.cons (t := 111) rfl (.cons (t := 112) rfl (.cons (t := 113) rfl (.cons (t := 114) rfl (.cons (t := 115) rfl .nil)))))))))))))))))))))))))))))))))))) (fun g => [(8, g.2.1), (9, .int .i64 (g.1 : Int))]) (fun g => [pair 5 1 (.slice tb tx.length tc) tx.length (ints .u8 tx) (g.2.1) (tx.length + g.1) (g.2.2), fam msgH (Mc.take c), fam msgH (Mc.drop (c + 1)), blk b [.slice lb (A ++ U).length lc, vW, .slice (some ⟨ttbb, 0, none⟩) (T ++ Mc).length ttc, .slice nvb ((V ++ V2).length + 1) nvc, .int .i64 (o : Int), .int .i64 (T.length : Int)] 83, ownS 60 1 (.slice lb (A ++ U).length lc) (A ++ U).length (fsts (A ++ U)), ownS 24 1 (.slice (some ⟨ttbb, 0, none⟩) (T ++ Mc).length ttc) (T ++ Mc).length (fsts (T ++ Mc)), ownS 24 1 (.slice nvb ((V ++ V2).length + 1) nvc) (V ++ (V2 ++ [(Value.slice cpb tx.length cpc, tx)])).length (fsts (V ++ (V2 ++ [(Value.slice cpb tx.length cpc, tx)]))), fam listH A, fam holH U, fam msgH T, fam msgH V, fam msgH (V2 ++ [(Value.slice cpb tx.length cpc, tx)])]) (fun g => g.1 ≤ 64) (fun g => 64 - g.1) (0, (.slice tb tx.length tc), (ints .u8 tx)) (Nat.zero_le _) (by repeat (first | exact .nil | refine .cons rfl ?_ | refine .consE rfl (by first | rfl | (congr 1; omega) | (congr 1; push_cast; omega)) ?_)) (Weak.refl _) ?_
      rintro ⟨g, v, cs⟩ hinv
      replace hinv : g ≤ 64 := hinv
      show St (cx gl) _ ((8, v) :: (9, .int .i64 (g : Int)) :: _) [pair 5 1 (.slice tb tx.length tc) tx.length (ints .u8 tx) (v) (tx.length + g) (cs), fam msgH (Mc.take c), fam msgH (Mc.drop (c + 1)), blk b [.slice lb (A ++ U).length lc, vW, .slice (some ⟨ttbb, 0, none⟩) (T ++ Mc).length ttc, .slice nvb ((V ++ V2).length + 1) nvc, .int .i64 (o : Int), .int .i64 (T.length : Int)] 83, ownS 60 1 (.slice lb (A ++ U).length lc) (A ++ U).length (fsts (A ++ U)), ownS 24 1 (.slice (some ⟨ttbb, 0, none⟩) (T ++ Mc).length ttc) (T ++ Mc).length (fsts (T ++ Mc)), ownS 24 1 (.slice nvb ((V ++ V2).length + 1) nvc) (V ++ (V2 ++ [(Value.slice cpb tx.length cpc, tx)])).length (fsts (V ++ (V2 ++ [(Value.slice cpb tx.length cpc, tx)]))), fam listH A, fam holH U, fam msgH T, fam msgH V, fam msgH (V2 ++ [(Value.slice cpb tx.length cpc, tx)])] _
      have hg := hinv
      refine R_seq ?_
      refine R_seq ?_
      refine R_region ?_
      refine L_val rfl rfl rfl (OpP.v (P_move rfl rfl)) ?_
      refine L_val rfl rfl rfl (OpP.v (P_lss rfl rfl rfl)) ?_
      refine L_nil ?_
      refine Q_then ?_
      refine R_condP rfl (fun hg0 => ?_) (fun hg0 => ?_)
      · skip
        have hgl : g < 64 := by omega
        refine R_skip ?_
        refine Q_then ?_
        refine R_seq ?_
        refine R_block ?_
        refine R_region ?_
        refine L_val rfl rfl rfl (OpP.v (P_move rfl rfl)) ?_
        refine L_op rfl (W_lit (z := .nilIface) (ints .u8 [211]) rfl rfl rfl ty_sl_24 ty_lz_24 rfl rfl rfl (by decide) (by decide) (by simp [Value.cells]) (rfl) fun b121 => ?_)
        refine L_op rfl (W_appendPair (p := [_]) (m := 1) (news := ints .u8 [211]) rfl rfl rfl ty_sl_24 ty_ap_24 ty_src_24 rfl rfl rfl (Src.slice (sz := 1) (Rds.blk .h0) rfl ints_one) (by omega) (by simp only [maxLen]; omega) fun v122 => ?_)
        refine L_val rfl rfl rfl (OpP.v (P_assign rfl rfl)) ?_
        refine L_nil ?_
        refine Q_block ?_
        refine Q_then ?_
        refine R_region ?_
        refine L_val rfl rfl rfl (OpP.v (P_move rfl rfl)) ?_
        first | (refine L_val rfl rfl rfl (OpP.v (P_addN rfl rfl rfl (by simp only [fits]; omega))) ?_) | (refine L_val rfl rfl rfl (OpP.v (P_add rfl rfl rfl)) ?_)
        refine L_val rfl rfl rfl (OpP.v (P_assign rfl rfl)) ?_
        refine L_nil ?_
        exact Q_round (g + 1, v122, (cs ++ ints .u8 [211])) (by show (g + 1) ≤ 64; omega) (by show 64 - (g + 1) < 64 - g; omega) (by repeat (first | exact .nil | refine .cons rfl ?_ | refine .consE rfl (by first | rfl | (congr 1; omega) | (congr 1; push_cast; omega)) ?_)) (Weak.drop (Weak.refl _))
      · skip
        obtain rfl : g = 64 := by omega
        refine R_exit ?_
        refine Q_then_exit ?_
        refine Q_then_exit ?_
        refine Q_block_eq ?_
        refine Q_block ?_
        refine Q_then ?_
        refine R_region ?_
        refine L_val rfl rfl rfl (OpP.v (P_move rfl rfl)) ?_
        first | (refine L_val rfl rfl rfl (OpP.v (P_addN rfl rfl rfl (by simp only [fits]; omega))) ?_) | (refine L_val rfl rfl rfl (OpP.v (P_add rfl rfl rfl)) ?_)
        refine L_val rfl rfl rfl (OpP.v (P_assign rfl rfl)) ?_
        refine L_nil ?_
        exact Q_round (c + 1, (.slice nvb ((V ++ V2).length + 1) nvc), (V2 ++ [(Value.slice cpb tx.length cpc, tx)])) (⟨by show c + 1 ≤ _; omega, by show List.map _ (V2 ++ [_]) = _; rw [List.map_append, hV2, List.take_add_one, hc, List.map_append]; rfl⟩) (by show Mc.length - (c + 1) < Mc.length - c; omega) (by repeat (first | exact .nil | refine .cons rfl ?_ | refine .consE rfl (by first | rfl | (congr 1; omega) | (congr 1; push_cast; omega)) ?_)) (Weak.trans Weak.pairBack (Weak.trans (Weak.famShut (f := msgH) hc) (Weak.pick (p := [_]) (Weak.pick (p := [_]) (Weak.pick (p := [_]) (Weak.pick (p := [_]) (Weak.pick (p := [_]) (Weak.pick (p := [_]) (Weak.keep (Weak.keep (Weak.keep (Weak.keep (Weak.nil _)))))))))))))
    · skip
      obtain rfl : c = Mc.length := by omega
      rw [List.take_length] at hV2
      refine R_exit ?_
      refine Q_then_exit ?_
      refine Q_then_exit ?_
      refine Q_block_eq ?_
      refine St.env (.cons (t := 0) rfl .nil) ?_
      refine Q_then ?_
      refine R_seq ?_
      refine R_seq ?_
      refine R_region ?_
      refine L_val rfl rfl rfl (OpP.v (P_move rfl rfl)) ?_
      refine L_val rfl rfl rfl (OpP.v (P_nil rfl rfl)) ?_
      refine L_val rfl rfl rfl (OpP.v (P_fld0 rfl ty_fl_83_4 rfl)) ?_
      refine L_val rfl rfl rfl (V_load rfl rfl ty_sc_3 (Rd.blk .h0 rfl)) ?_
      refine L_val rfl rfl rfl (OpP.v (P_assign rfl rfl)) ?_
      refine L_nil ?_
      refine St.env (.cons (t := 0) rfl (.cons (t := 10) rfl .nil)) ?_
      refine Q_then ?_
      refine R_block ?_
      refine R_loopE (G := Nat × List Lst) (.cons (t := 0) rfl .nil) (fun g => [(10, .int .i64 ((o + g.1 : Nat) : Int))]) (fun g => [blk b [.slice lb (A ++ U).length lc, vW, .slice ttb (T ++ Mc).length ttc, vV, .int .i64 (o : Int), .int .i64 (T.length : Int)] 83, ownS 60 1 (.slice lb (A ++ U).length lc) (A ++ U).length (fsts (A ++ U)), ownS 24 1 (.slice ttb (T ++ Mc).length ttc) (T ++ Mc).length (fsts (T ++ Mc)), ownS 24 1 (vV) (V ++ V2).length (fsts (V ++ V2)), fam listH (A ++ g.2), fam holH (U.drop g.1), fam msgH Mc, fam msgH T, fam msgH V, fam msgH V2]) (fun g => g.1 ≤ U.length ∧ g.2.length = g.1 ∧ fsts g.2 = (fsts U).take g.1 ∧ ∀ (j : Nat) (y : Lst), g.2[j]? = some y → (∀ z ∈ y.2, z.2 = mkB (o + j)) ∧ y.2.length ≤ 1048576) (fun g => U.length - g.1) (0, []) (⟨Nat.zero_le _, rfl, rfl, fun _ _ h => by cases h⟩) (by repeat (first | exact .nil | refine .cons rfl ?_ | refine .consE rfl (by first | rfl | (congr 1; omega) | (congr 1; push_cast; omega)) ?_)) (by rw [List.append_nil]; exact Weak.refl _) ?_
      rintro ⟨m, Z⟩ hinv
      replace hinv : m ≤ U.length ∧ Z.length = m ∧ fsts Z = (fsts U).take m ∧ ∀ (j : Nat) (y : Lst), Z[j]? = some y → (∀ z ∈ y.2, z.2 = mkB (o + j)) ∧ y.2.length ≤ 1048576 := hinv
      show St (cx gl) _ ((10, .int .i64 ((o + m : Nat) : Int)) :: _) [blk b [.slice lb (A ++ U).length lc, vW, .slice ttb (T ++ Mc).length ttc, vV, .int .i64 (o : Int), .int .i64 (T.length : Int)] 83, ownS 60 1 (.slice lb (A ++ U).length lc) (A ++ U).length (fsts (A ++ U)), ownS 24 1 (.slice ttb (T ++ Mc).length ttc) (T ++ Mc).length (fsts (T ++ Mc)), ownS 24 1 (vV) (V ++ V2).length (fsts (V ++ V2)), fam listH (A ++ Z), fam holH (U.drop m), fam msgH Mc, fam msgH T, fam msgH V, fam msgH V2] _
      obtain ⟨hm, hZl, hZf, hZm⟩ := hinv
      refine R_seq ?_
      refine R_seq ?_
      refine R_region ?_
      refine L_val rfl rfl rfl (OpP.v (P_move rfl rfl)) ?_
      refine L_val rfl rfl rfl (OpP.v (P_move rfl rfl)) ?_
      refine L_val rfl rfl rfl (OpP.v (P_nil rfl rfl)) ?_
      refine L_val rfl rfl rfl (OpP.v (P_fld0 rfl ty_fl_83_0 rfl)) ?_
      refine L_val rfl rfl rfl (V_load rfl rfl ty_sc_81 (Rd.blk .h0 rfl)) ?_
      refine L_val rfl rfl rfl (OpP.v (P_len rfl ty_sl_81 rfl)) ?_
      refine L_val rfl rfl rfl (OpP.v (P_lss rfl rfl rfl)) ?_
      refine L_nil ?_
      refine Q_then ?_
      refine R_condP rfl (fun hm0 => ?_) (fun hm0 => ?_)
      · skip
        have hml : m < U.length := by omega
        obtain ⟨⟨xv, ws⟩, hy⟩ : ∃ y, U[m]? = some y := ⟨_, List.getElem?_eq_getElem hml⟩
        have hat := fsts_at (hLat m _ hy)
        dsimp only at hat
        have hy0 : (U.drop m)[0]? = some (xv, ws) := by rw [List.getElem?_drop, Nat.add_zero]; exact hy
        have hwl := hUl _ (List.mem_of_getElem? hy)
        dsimp only at hwl
        refine St.ownSome (p := [_]) (by omega) fun lbb lbb_ hq _ => ?_
        simp only [Value.slice.injEq] at hq
        obtain ⟨rfl, _, rfl⟩ := hq
        refine St.famFact .h5 hy0 (p := ∃ b c, (xv : Value) = .slice b ws.length c) (fun h hh => ownS.formB hh) fun ⟨xb, xc, hq⟩ => ?_
        subst hq
        refine R_skip ?_
        refine Q_then ?_
        refine R_seq ?_
        refine R_block ?_
        refine R_seq ?_
        refine R_region ?_
        refine L_val rfl rfl rfl (OpP.v (P_move rfl rfl)) ?_
        refine L_val rfl rfl rfl (OpP.v (P_nil rfl rfl)) ?_
        refine L_val rfl rfl rfl (OpP.v (P_fld0 rfl ty_fl_83_0 rfl)) ?_
        refine L_val rfl rfl rfl (V_load rfl rfl ty_sc_81 (Rd.blk .h0 rfl)) ?_
        refine L_val rfl rfl rfl (OpP.v (P_move rfl rfl)) ?_
        refine L_val rfl rfl rfl (OpP.v (P_ixs (o + m) rfl ty_sl_81 rfl rfl (by first | rfl | omega) (by omega))) ?_
        refine L_val rfl rfl rfl (V_load rfl rfl ty_sc_60 (rd_own1 .h1 hat)) ?_
        refine L_val rfl rfl rfl (OpP.v (P_assign rfl rfl)) ?_
        refine L_nil ?_
        refine Q_then ?_
        refine R_seq ?_
        refine R_seq ?_
        refine St.res (rs' := [fam msgH ([] : List Txt), ownS 24 1 (.slice xb ws.length xc) ws.length (fsts ws), fam holH ((U.drop m).take 0), fam holH ((U.drop m).drop (0 + 1)), blk b [.slice (some ⟨lbb, 0, none⟩) (A ++ U).length lc, vW, .slice ttb (T ++ Mc).length ttc, vV, .int .i64 (o : Int), .int .i64 (T.length : Int)] 83, ownS 60 1 (.slice (some ⟨lbb, 0, none⟩) (A ++ U).length lc) (A ++ U).length (fsts (A ++ U)), ownS 24 1 (.slice ttb (T ++ Mc).length ttc) (T ++ Mc).length (fsts (T ++ Mc)), ownS 24 1 (vV) (V ++ V2).length (fsts (V ++ V2)), fam listH (A ++ Z), fam msgH Mc, fam msgH T, fam msgH V, fam msgH V2]) (Weak.trans (Weak.pick (p := [_, _, _, _, _]) (Weak.keep (Weak.keep (Weak.keep (Weak.keep (Weak.keep (Weak.keep (Weak.keep (Weak.keep (Weak.keep (Weak.nil _))))))))))) (Weak.trans (Weak.famOpen (f := holH) hy0) Weak.famNil)) ?_
        refine St.res (rs' := [ownS 24 1 (.slice xb ws.length xc) ws.length (fsts ws), fam msgH ([] : List Txt), fam holH ((U.drop m).drop (0 + 1)), blk b [.slice (some ⟨lbb, 0, none⟩) (A ++ U).length lc, vW, .slice ttb (T ++ Mc).length ttc, vV, .int .i64 (o : Int), .int .i64 (T.length : Int)] 83, ownS 60 1 (.slice (some ⟨lbb, 0, none⟩) (A ++ U).length lc) (A ++ U).length (fsts (A ++ U)), ownS 24 1 (.slice ttb (T ++ Mc).length ttc) (T ++ Mc).length (fsts (T ++ Mc)), ownS 24 1 (vV) (V ++ V2).length (fsts (V ++ V2)), fam listH (A ++ Z), fam msgH Mc, fam msgH T, fam msgH V, fam msgH V2]) (Weak.pick (p := [_]) (Weak.keep (Weak.pick (p := [_]) (Weak.pick (p := [_]) (Weak.pick (p := [_]) (Weak.pick (p := [_]) (Weak.pick (p := [_]) (Weak.pick (p := [_]) (Weak.pick (p := [_]) (Weak.pick (p := [_]) (Weak.pick (p := [_]) (Weak.pick (p := [_]) (Weak.nil _))))))))))))) ?_
        refine St.res (rs' := [ownS 24 1 (.slice xb ws.length xc) ws.length (fsts ws), fam msgH ([] : List Txt), fam holH (U.drop (m + 1)), blk b [.slice (some ⟨lbb, 0, none⟩) (A ++ U).length lc, vW, .slice ttb (T ++ Mc).length ttc, vV, .int .i64 (o : Int), .int .i64 (T.length : Int)] 83, ownS 60 1 (.slice (some ⟨lbb, 0, none⟩) (A ++ U).length lc) (A ++ U).length (fsts (A ++ U)), ownS 24 1 (.slice ttb (T ++ Mc).length ttc) (T ++ Mc).length (fsts (T ++ Mc)), ownS 24 1 (vV) (V ++ V2).length (fsts (V ++ V2)), fam listH (A ++ Z), fam msgH Mc, fam msgH T, fam msgH V, fam msgH V2]) (by rw [List.drop_drop]; exact Weak.refl _) ?_
        refine R_region ?_
        refine L_val rfl rfl rfl (OpP.v (P_assign rfl rfl)) ?_
        refine L_nil ?_
        refine Q_then ?_
        refine R_block ?_
        refine R_loopE (G := Nat × List Txt) (.cons (t := 0) rfl (.cons (t := 10) rfl (.cons (t := 11) rfl (.cons (t := 127) rfl (.cons (t := 128) rfl (.cons (t := 129) rfl (.cons (t := 130) rfl (.cons (t := 131) rfl (.cons (t := 132) rfl (.cons (t := 133) rfl (.cons (t := 136) rfl (.cons (t := 137) rfl (.cons (t := 138) rfl (.cons (t := 139) rfl (.cons (t := 140) rfl (.cons (t := 141) rfl (.cons (t := 142) rfl .nil))))))))))))))))) (fun g => [(12, .int .i64 (g.1 : Int))]) (fun g => [ownS 24 1 (.slice xb ws.length xc) ws.length (fsts g.2 ++ (fsts ws).drop g.1), fam msgH g.2, fam holH (U.drop (m + 1)), blk b [.slice (some ⟨lbb, 0, none⟩) (A ++ U).length lc, vW, .slice ttb (T ++ Mc).length ttc, vV, .int .i64 (o : Int), .int .i64 (T.length : Int)] 83, ownS 60 1 (.slice (some ⟨lbb, 0, none⟩) (A ++ U).length lc) (A ++ U).length (fsts (A ++ U)), ownS 24 1 (.slice ttb (T ++ Mc).length ttc) (T ++ Mc).length (fsts (T ++ Mc)), ownS 24 1 (vV) (V ++ V2).length (fsts (V ++ V2)), fam listH (A ++ Z), fam msgH Mc, fam msgH T, fam msgH V, fam msgH V2]) (fun g => g.1 ≤ ws.length ∧ g.2.length = g.1 ∧ ∀ z ∈ g.2, z.2 = mkB (o + m)) (fun g => ws.length - g.1) (0, []) (⟨Nat.zero_le _, rfl, fun _ h => by cases h⟩) (by repeat (first | exact .nil | refine .cons rfl ?_ | refine .consE rfl (by first | rfl | (congr 1; omega) | (congr 1; push_cast; omega)) ?_)) (Weak.refl _) ?_
        rintro ⟨j, ws2⟩ hinv
        replace hinv : j ≤ ws.length ∧ ws2.length = j ∧ ∀ z ∈ ws2, z.2 = mkB (o + m) := hinv
        show St (cx gl) _ ((12, .int .i64 (j : Int)) :: _) [ownS 24 1 (.slice xb ws.length xc) ws.length (fsts ws2 ++ (fsts ws).drop j), fam msgH ws2, fam holH (U.drop (m + 1)), blk b [.slice (some ⟨lbb, 0, none⟩) (A ++ U).length lc, vW, .slice ttb (T ++ Mc).length ttc, vV, .int .i64 (o : Int), .int .i64 (T.length : Int)] 83, ownS 60 1 (.slice (some ⟨lbb, 0, none⟩) (A ++ U).length lc) (A ++ U).length (fsts (A ++ U)), ownS 24 1 (.slice ttb (T ++ Mc).length ttc) (T ++ Mc).length (fsts (T ++ Mc)), ownS 24 1 (vV) (V ++ V2).length (fsts (V ++ V2)), fam listH (A ++ Z), fam msgH Mc, fam msgH T, fam msgH V, fam msgH V2] _
        obtain ⟨hj, hwl2, hwm⟩ := hinv
        refine R_seq ?_
        refine R_seq ?_
        refine R_region ?_
        refine L_val rfl rfl rfl (OpP.v (P_move rfl rfl)) ?_
        refine L_val rfl rfl rfl (OpP.v (P_move rfl rfl)) ?_
        refine L_val rfl rfl rfl (OpP.v (P_len rfl ty_sl_60 rfl)) ?_
        refine L_val rfl rfl rfl (OpP.v (P_lss rfl rfl rfl)) ?_
        refine L_nil ?_
        refine Q_then ?_
        refine R_condP rfl (fun hj0 => ?_) (fun hj0 => ?_)
        · skip
          have hjl : j < ws.length := by omega
          refine St.ownSome (p := []) (by omega) fun xbb xbb_ hq _ => ?_
          simp only [Value.slice.injEq] at hq
          obtain ⟨rfl, _, rfl⟩ := hq
          refine R_skip ?_
          refine Q_then ?_
          refine R_seq ?_
          refine R_block ?_
          refine R_region ?_
          refine L_val rfl rfl rfl (OpP.v (P_move rfl rfl)) ?_
          refine L_val rfl rfl rfl (OpP.v (P_move rfl rfl)) ?_
          refine L_val rfl rfl rfl (OpP.v (P_move rfl rfl)) ?_
          refine L_val rfl rfl rfl (OpP.v (P_conv rfl ty_int_3 ty_int_5 rfl)) ?_
          refine L_val rfl rfl rfl (OpP.v (P_move rfl rfl)) ?_
          refine L_val rfl rfl rfl (OpP.v (P_shr rfl rfl rfl (by omega))) ?_
          refine L_val rfl rfl rfl (OpP.v (P_conv rfl ty_int_3 ty_int_5 rfl)) ?_
          refine L_op rfl (W_lit (z := .nilIface) (ints .u8 (mkB (o + m))) rfl rfl rfl ty_sl_24 ty_lz_24 rfl rfl rfl (by decide) (by decide) (by simp [Value.cells]) (rfl) fun b156 => ?_)
          refine L_val rfl rfl rfl (OpP.v (P_ixs (j) rfl ty_sl_60 rfl rfl (by first | rfl | omega) (by omega))) ?_
          refine L_op rfl (W_storeOwn1 rfl rfl rfl rfl ty_sc_24 rfl .h1 (by rw [List.length_append, List.length_drop, fsts_length, fsts_length]; omega) ?_)
          refine L_nil ?_
          refine Q_block ?_
          refine Q_then ?_
          refine R_region ?_
          refine L_val rfl rfl rfl (OpP.v (P_move rfl rfl)) ?_
          first | (refine L_val rfl rfl rfl (OpP.v (P_addN rfl rfl rfl (by simp only [fits]; omega))) ?_) | (refine L_val rfl rfl rfl (OpP.v (P_add rfl rfl rfl)) ?_)
          refine L_val rfl rfl rfl (OpP.v (P_assign rfl rfl)) ?_
          refine L_nil ?_
          exact Q_round (j + 1, (ws2 ++ [(Value.slice (some ⟨b156, 0, none⟩) 2 2, mkB (o + m))])) (⟨by show j + 1 ≤ _; omega, by show (ws2 ++ [_]).length = j + 1; rw [List.length_append, hwl2]; rfl, fun z hz => by
              rcases List.mem_append.1 hz with hz | hz
              · exact hwm z hz
              · simp only [List.mem_singleton] at hz; subst hz; rfl⟩) (by show ws.length - (j + 1) < ws.length - j; omega) (by repeat (first | exact .nil | refine .cons rfl ?_ | refine .consE rfl (by first | rfl | (congr 1; omega) | (congr 1; push_cast; omega)) ?_)) (Weak.trans (Weak.turn .h0 (ownS.of_blk (n := 2) rfl (by simp only [maxLen]; omega))) (Weak.trans Weak.swap (Weak.trans (ownS.to1 rfl (by rw [Nat.zero_add, Nat.mul_one]; exact wr_set (x := mkB (o + m)) hwl2 hjl)) (Weak.keep (Weak.famAdd (f := msgH) (x := (Value.slice (some ⟨b156, 0, none⟩) 2 2, mkB (o + m))))))))
        · skip
          obtain rfl : j = ws.length := by omega
          refine R_exit ?_
          refine Q_then_exit ?_
          refine Q_then_exit ?_
          refine Q_block_eq ?_
          refine Q_then ?_
          refine R_seq ?_
          refine St.res (rs' := [ownS 24 1 (.slice xb ws.length xc) ws.length (fsts ws2), fam msgH ws2, fam holH (U.drop (m + 1)), blk b [.slice (some ⟨lbb, 0, none⟩) (A ++ U).length lc, vW, .slice ttb (T ++ Mc).length ttc, vV, .int .i64 (o : Int), .int .i64 (T.length : Int)] 83, ownS 60 1 (.slice (some ⟨lbb, 0, none⟩) (A ++ U).length lc) (A ++ U).length (fsts (A ++ U)), ownS 24 1 (.slice ttb (T ++ Mc).length ttc) (T ++ Mc).length (fsts (T ++ Mc)), ownS 24 1 (vV) (V ++ V2).length (fsts (V ++ V2)), fam listH (A ++ Z), fam msgH Mc, fam msgH T, fam msgH V, fam msgH V2]) (ownS.to1 rfl (by rw [List.drop_of_length_le (by rw [fsts_length]; exact Nat.le_refl _), List.append_nil])) ?_
          refine St.res (rs' := [pair 24 1 (.slice xb ws.length xc) ws.length (fsts ws2) (.slice xb ws.length xc) ws.length (fsts ws2), fam msgH ws2, fam holH (U.drop (m + 1)), blk b [.slice (some ⟨lbb, 0, none⟩) (A ++ U).length lc, vW, .slice ttb (T ++ Mc).length ttc, vV, .int .i64 (o : Int), .int .i64 (T.length : Int)] 83, ownS 60 1 (.slice (some ⟨lbb, 0, none⟩) (A ++ U).length lc) (A ++ U).length (fsts (A ++ U)), ownS 24 1 (.slice ttb (T ++ Mc).length ttc) (T ++ Mc).length (fsts (T ++ Mc)), ownS 24 1 (vV) (V ++ V2).length (fsts (V ++ V2)), fam listH (A ++ Z), fam msgH Mc, fam msgH T, fam msgH V, fam msgH V2]) (Weak.pairOf) ?_
          refine R_region ?_
          refine L_val rfl rfl rfl (OpP.v (P_assign rfl rfl)) ?_
          refine L_nil ?_
          refine Q_then ?_
          refine R_block ?_
          refine R_loopE (G := Nat × Value × List Value) (.cons (t := 0) rfl (.cons (t := 10) rfl (.cons (t := 12) rfl (.cons (t := 127) rfl (.cons (t := 128) rfl (.cons (t := 129) rfl (.cons (t := 130) rfl (.cons (t := 131) rfl (.cons (t := 132) rfl (.cons (t := 133) rfl (.cons (t := 136) rfl (.cons (t := 137) rfl (.cons (t := 138) rfl (.cons (t := 139) rfl (.cons (t := 140) rfl (.cons (t := 141) rfl (.cons (t := 142) rfl (.cons (t := 143) rfl (.cons (t := 144) rfl (.cons (t := 145) rfl (.cons (t := 146) rfl .nil))))))))))))))))))))) (fun g => [(11, g.2.1), (13, .int .i64 (g.1 : Int))]) (fun g => [pair 24 1 (.slice xb ws.length xc) ws.length (fsts ws2) (g.2.1) (ws.length + g.1) (g.2.2), fam msgH ws2, fam holH (U.drop (m + 1)), blk b [.slice (some ⟨lbb, 0, none⟩) (A ++ U).length lc, vW, .slice ttb (T ++ Mc).length ttc, vV, .int .i64 (o : Int), .int .i64 (T.length : Int)] 83, ownS 60 1 (.slice (some ⟨lbb, 0, none⟩) (A ++ U).length lc) (A ++ U).length (fsts (A ++ U)), ownS 24 1 (.slice ttb (T ++ Mc).length ttc) (T ++ Mc).length (fsts (T ++ Mc)), ownS 24 1 (vV) (V ++ V2).length (fsts (V ++ V2)), fam listH (A ++ Z), fam msgH Mc, fam msgH T, fam msgH V, fam msgH V2]) (fun g => g.1 ≤ 64) (fun g => 64 - g.1) (0, (.slice xb ws.length xc), (fsts ws2)) (Nat.zero_le _) (by repeat (first | exact .nil | refine .cons rfl ?_ | refine .consE rfl (by first | rfl | (congr 1; omega) | (congr 1; push_cast; omega)) ?_)) (Weak.refl _) ?_
          rintro ⟨g, v, cs⟩ hinv
          replace hinv : g ≤ 64 := hinv
          show St (cx gl) _ ((11, v) :: (13, .int .i64 (g : Int)) :: _) [pair 24 1 (.slice xb ws.length xc) ws.length (fsts ws2) (v) (ws.length + g) (cs), fam msgH ws2, fam holH (U.drop (m + 1)), blk b [.slice (some ⟨lbb, 0, none⟩) (A ++ U).length lc, vW, .slice ttb (T ++ Mc).length ttc, vV, .int .i64 (o : Int), .int .i64 (T.length : Int)] 83, ownS 60 1 (.slice (some ⟨lbb, 0, none⟩) (A ++ U).length lc) (A ++ U).length (fsts (A ++ U)), ownS 24 1 (.slice ttb (T ++ Mc).length ttc) (T ++ Mc).length (fsts (T ++ Mc)), ownS 24 1 (vV) (V ++ V2).length (fsts (V ++ V2)), fam listH (A ++ Z), fam msgH Mc, fam msgH T, fam msgH V, fam msgH V2] _
          have hg := hinv
          refine R_seq ?_
          refine R_seq ?_
          refine R_region ?_
          refine L_val rfl rfl rfl (OpP.v (P_move rfl rfl)) ?_
          refine L_val rfl rfl rfl (OpP.v (P_lss rfl rfl rfl)) ?_
          refine L_nil ?_
          refine Q_then ?_
          refine R_condP rfl (fun hg0 => ?_) (fun hg0 => ?_)
          · skip
            have hgl : g < 64 := by omega
            refine R_skip ?_
            refine Q_then ?_
            refine R_seq ?_
            refine R_block ?_
            refine R_region ?_
            refine L_val rfl rfl rfl (OpP.v (P_move rfl rfl)) ?_
            refine L_op rfl (W_lit (z := .nilIface) (ints .u8 [212]) rfl rfl rfl ty_sl_24 ty_lz_24 rfl rfl rfl (by decide) (by decide) (by simp [Value.cells]) (rfl) fun b163 => ?_)
            refine L_op rfl (W_lit (z := .nilIface) ([.slice (some ⟨b163, 0, none⟩) 1 1]) rfl rfl rfl ty_sl_60 ty_lz_60 rfl rfl rfl (by decide) (by decide) (by simp [Value.cells]) (rfl) fun b164 => ?_)
            refine L_op rfl (W_appendPair (p := [_, _]) (m := 1) (news := [.slice (some ⟨b163, 0, none⟩) 1 1]) rfl rfl rfl ty_sl_60 ty_ap_60 ty_src_60 rfl rfl rfl (Src.slice (sz := 1) (news := [.slice (some ⟨b163, 0, none⟩) 1 1]) (Rds.blk .h0) rfl (by intro v hv; simp only [List.mem_singleton] at hv; subst hv; rfl)) (by omega) (by simp only [maxLen]; omega) fun v165 => ?_)
            refine L_val rfl rfl rfl (OpP.v (P_assign rfl rfl)) ?_
            refine L_nil ?_
            refine Q_block ?_
            refine Q_then ?_
            refine R_region ?_
            refine L_val rfl rfl rfl (OpP.v (P_move rfl rfl)) ?_
            first | (refine L_val rfl rfl rfl (OpP.v (P_addN rfl rfl rfl (by simp only [fits]; omega))) ?_) | (refine L_val rfl rfl rfl (OpP.v (P_add rfl rfl rfl)) ?_)
            refine L_val rfl rfl rfl (OpP.v (P_assign rfl rfl)) ?_
            refine L_nil ?_
            exact Q_round (g + 1, v165, (cs ++ [Value.slice (some ⟨b163, 0, none⟩) 1 1])) (by show (g + 1) ≤ 64; omega) (by show 64 - (g + 1) < 64 - g; omega) (by repeat (first | exact .nil | refine .cons rfl ?_ | refine .consE rfl (by first | rfl | (congr 1; omega) | (congr 1; push_cast; omega)) ?_)) (Weak.drop (Weak.drop (Weak.refl _)))
          · skip
            obtain rfl : g = 64 := by omega
            refine R_exit ?_
            refine Q_then_exit ?_
            refine Q_then_exit ?_
            refine Q_block_eq ?_
            refine Q_block ?_
            refine Q_then ?_
            refine R_region ?_
            refine L_val rfl rfl rfl (OpP.v (P_move rfl rfl)) ?_
            first | (refine L_val rfl rfl rfl (OpP.v (P_addN rfl rfl rfl (by simp only [fits]; omega))) ?_) | (refine L_val rfl rfl rfl (OpP.v (P_add rfl rfl rfl)) ?_)
            refine L_val rfl rfl rfl (OpP.v (P_assign rfl rfl)) ?_
            refine L_nil ?_
            exact Q_round (m + 1, (Z ++ [(Value.slice xb ws.length xc, ws2)])) (⟨by show m + 1 ≤ _; omega, by show (Z ++ [_]).length = m + 1; rw [List.length_append, hZl]; rfl, by show fsts (Z ++ [_]) = (fsts U).take (m + 1); rw [fsts_snoc, hZf, take_snoc (fsts_at hy)], all_snoc hZm ⟨fun z hz => by rw [hZl]; exact hwm z hz, by show ws2.length ≤ _; omega⟩⟩) (by show U.length - (m + 1) < U.length - m; omega) (by repeat (first | exact .nil | refine .cons rfl ?_ | refine .consE rfl (by first | rfl | (congr 1; omega) | (congr 1; push_cast; omega)) ?_)) (Weak.trans Weak.pairBack (Weak.trans (ownS.to1 hwl2.symm rfl) (Weak.trans (Weak.bundle (L := [ownS 24 1 (.slice xb ws.length xc) ws2.length (fsts ws2), fam msgH ws2]) (rs := [fam holH (U.drop (m + 1)), blk b [.slice (some ⟨lbb, 0, none⟩) (A ++ U).length lc, vW, .slice ttb (T ++ Mc).length ttc, vV, .int .i64 (o : Int), .int .i64 (T.length : Int)] 83, ownS 60 1 (.slice (some ⟨lbb, 0, none⟩) (A ++ U).length lc) (A ++ U).length (fsts (A ++ U)), ownS 24 1 (.slice ttb (T ++ Mc).length ttc) (T ++ Mc).length (fsts (T ++ Mc)), ownS 24 1 (vV) (V ++ V2).length (fsts (V ++ V2)), fam listH (A ++ Z), fam msgH Mc, fam msgH T, fam msgH V, fam msgH V2])) (Weak.trans (Weak.keep (Weak.pick (p := [_, _, _, _, _]) (Weak.keep (Weak.keep (Weak.keep (Weak.keep (Weak.keep (Weak.keep (Weak.keep (Weak.keep (Weak.keep (Weak.nil _)))))))))))) (by rw [← List.append_assoc]; exact Weak.trans (Weak.famAdd (f := listH) (x := (Value.slice xb ws.length xc, ws2))) (Weak.pick (p := [_, _]) (Weak.pick (p := [_, _]) (Weak.pick (p := [_, _]) (Weak.pick (p := [_, _]) (Weak.keep (Weak.keep (Weak.keep (Weak.keep (Weak.keep (Weak.keep (Weak.nil _))))))))))))))))
      · skip
        obtain rfl : m = U.length := by omega
        refine R_exit ?_
        refine Q_then_exit ?_
        refine Q_then_exit ?_
        refine Q_block_eq ?_
        refine St.env (.cons (t := 0) rfl .nil) ?_
        refine Q_then ?_
        refine R_seq ?_
        refine R_region ?_
        refine L_val rfl rfl rfl (OpP.v (P_move rfl rfl)) ?_
        refine L_val rfl rfl rfl (OpP.v (P_move rfl rfl)) ?_
        refine L_val rfl rfl rfl (OpP.v (P_nil rfl rfl)) ?_
        refine L_val rfl rfl rfl (OpP.v (P_fld0 rfl ty_fl_83_0 rfl)) ?_
        refine L_val rfl rfl rfl (V_load rfl rfl ty_sc_81 (Rd.blk .h0 rfl)) ?_
        refine L_val rfl rfl rfl (OpP.v (P_len rfl ty_sl_81 rfl)) ?_
        refine L_val rfl rfl rfl (OpP.v (P_nil rfl rfl)) ?_
        refine L_val rfl rfl rfl (OpP.v (P_fld0 rfl ty_fl_83_4 rfl)) ?_
        refine L_op rfl (W_store rfl rfl rfl rfl ty_sc_3 rfl .h0 (by first | decide | (simp [ints]; done) | (simp [ints]; omega)) ?_)
        refine L_nil ?_
        refine St.env (.cons (t := 0) rfl .nil) ?_
        refine Q_then ?_
        refine R_region ?_
        refine L_val rfl rfl rfl (OpP.v (P_move rfl rfl)) ?_
        refine L_val rfl rfl rfl (OpP.v (P_move rfl rfl)) ?_
        refine L_val rfl rfl rfl (OpP.v (P_nil rfl rfl)) ?_
        refine L_val rfl rfl rfl (OpP.v (P_fld0 rfl ty_fl_83_2 rfl)) ?_
        refine L_val rfl rfl rfl (V_load rfl rfl ty_sc_60 (Rd.blk .h0 rfl)) ?_
        refine L_val rfl rfl rfl (OpP.v (P_len rfl ty_sl_60 rfl)) ?_
        refine L_val rfl rfl rfl (OpP.v (P_nil rfl rfl)) ?_
        refine L_val rfl rfl rfl (OpP.v (P_fld0 rfl ty_fl_83_5 rfl)) ?_
        refine L_op rfl (W_store rfl rfl rfl rfl ty_sc_3 rfl .h0 (by first | decide | (simp [ints]; done) | (simp [ints]; omega)) ?_)
        refine L_nil ?_
        refine St.env (.nil) ?_
        exact R_end0 (rs2 := _) rfl rfl (.nil) (⟨Z, Mc, V2, _, vV, ⟨rfl, ⟨hZl, by rw [hZf, ← fsts_length U, List.take_length], hZm⟩, hMl, htk, hV2⟩, rfl⟩) (Weak.trans (Weak.pick (p := [_, _, _, _, _, _, _]) (Weak.pick (p := [_, _, _, _, _, _]) (Weak.pick (p := [_, _, _, _, _, _]) (Weak.pick (p := [_, _, _, _, _, _]) (Weak.keep (Weak.keep (Weak.keep (Weak.keep (Weak.keep (Weak.nil _)))))))))) (Weak.trans (Weak.famJoin (f := msgH)) (Weak.trans (Weak.pick (p := [_]) (Weak.pick (p := [_]) (Weak.keep (Weak.keep (Weak.keep (Weak.keep (Weak.keep (Weak.keep (Weak.nil _))))))))) (Weak.trans (Weak.famJoin (f := msgH)) (Weak.pick (p := [_, _]) (Weak.pick (p := [_, _]) (Weak.pick (p := [_, _]) (Weak.pick (p := [_, _]) (Weak.pick (p := [_, _]) (Weak.pick (p := [_]) (Weak.keep (Weak.nil _))))))))))))
end Go.Proofs.YtnaadddnbfnahaaDoor
