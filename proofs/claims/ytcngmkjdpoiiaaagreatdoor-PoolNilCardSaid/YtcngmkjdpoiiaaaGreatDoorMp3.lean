/- Texts that poolNil_holds leans on, part 3: each says at its head what it holds; no condition beyond its theorems' own. -/
import Derived.Test.YtcngmkjdpoiiaaaGreatDoorMp2
set_option linter.unusedVariables false
set_option linter.unusedSimpArgs false
set_option linter.unusedSectionVars false
/- A pool: fits. Printed by gen.py. -/
set_option maxRecDepth 100000
namespace Go.Proofs.YtcngmkjdpoiiaaaGreatDoor
open Go Go.RowKit Go.Proofs
set_option maxHeartbeats 1000000 in
theorem pfits_ok {gl : Nat → Obj} (p : Nat) (most : Int) (H : List TxR) (hP : PoolOk H) (base : Option Addr) (c : Nat) (l : List Acc) (hc : l.length ≤ c) (hm : l.length ≤ 3518437208883)(hok : ∀ x ∈ l, x.ok) (v : Value) (hv : v.oneCell' = true) (s : StR) (x : TxR) (hx : plainE x.t = 0) : SpecR (cx gl) 112 [.pointer (some ⟨p, 0, none⟩), .agg (s.cells (.slice base l.length c) v).toArray, .agg x.t.cells.toArray] (fun w hp => Seen w hp base (rc l)) [POOL p most (H)] (.int .i64 (fitE H l x)) [POOL p most (H)] := by
 refine Spec.enter (C := cx gl) Tryz.func112 rfl 87 rfl rfl fun w0 h0 hsep hsub hpre => ?_
 show St (cx gl) _ [(0, .pointer (some ⟨p, 0, none⟩)), (1, .agg (s.cells (.slice base l.length c) v).toArray), (2, .agg x.t.cells.toArray)] _ _
 refine St.openP [] fun ⟨mh, mi⟩ _ => ?_
 refine St.unbundle [] ?_
 obtain ⟨_, ⟨hab0, hab1⟩, _, ⟨han0, han1⟩⟩ := findX_ok hok x.t.frm
 obtain ⟨hxn0, hxn1⟩ := x.ok.non
 refine rT ?_
 refine lO (W_box ((s.cells (.slice base l.length c) v)) rfl rfl rfl rfl rfl fun b4 => ?_)
 refine lO (W_box (x.t.cells) rfl rfl rfl rfl rfl fun b5 => lA (k:=?_))
 refine lQ (cE 0 rfl (cE 4 rfl (cE 5 rfl (cE 6 rfl .nil)))) (rS ?_)
 refine St.res (rs' := [blk p (poolC mh mi most) 78, mapK rec2K mh (hM (H)), mapK iK mi (iM (H)), blk b5 x.t.cells 67, blk b4 (s.cells (.slice base l.length c) v) 63]) (Weak.pick (p := [_, _]) (Weak.pick (p := [_, _]) (Weak.pick (p := [_, _]) (Weak.keep (Weak.keep (Weak.nil _)))))) (rR (lP (pF ty_fl_63_9) (k:=?_)))
 refine lV (V_loadAgg rfl rfl ty_ag_30 ((Rds.blk .h4).part 51 (st_led s _ _)) (rfl)) (k:=lP (pF ty_fl_67_1) (k:=lV (vB ty_sc_26 .h3) (k:=?_)))
 refine lO (W_callV rfl rfl rfl rfl fn_ca_75 (find_ok base c l hc (by omega) v hv s.bu s.su x.t.frm) (fun w nw => (Sn.old hpre).rw_ w nw) (lM (k:=lP pX (k:=lP pX (k:=?_)))))
 refine lO (W_alloc rfl rfl rfl ty_ze_50 fun b7 => ?_)
 refine lO (W_storeAll rfl rfl rfl rfl ty_ag_50 (rfl) (Rec.one (findX l x.t.frm)) .h0 (rfl) (lA (k:=?_)))
 refine lQ (cE 0 rfl (cE 5 rfl (cE 6 rfl (cE 7 rfl (cE 8 rfl .nil))))) (rS (R_block (rS ?_)))
 refine St.res (rs' := [blk p (poolC mh mi most) 78, mapK rec2K mh (hM (H)), mapK iK mi (iM (H)), blk b5 x.t.cells 67, blk b4 (s.cells (.slice base l.length c) v) 63, blk b7 (findX l x.t.frm).cells 50]) (Weak.pick (p := [_]) (Weak.pick (p := [_]) (Weak.pick (p := [_]) (Weak.pick (p := [_]) (Weak.pick (p := [_]) (Weak.keep (Weak.nil _))))))) (rR (lM (k:=lP pNe (k:=lA (k:=?_)))))
 refine lQ (cE 0 rfl (cE 5 rfl (cE 6 rfl (cE 7 rfl (cE 23 rfl .nil))))) ?_
 refine R_condP rfl (fun h1 => ?_) (fun h1 => ?_)
 ·skip
  refine rT (lA (k:=?_))
  refine lQ (cE 0 rfl (cE 5 rfl (cE 6 rfl (cE 7 rfl .nil)))) (R_ret (Q_block_ret (Q_then_ret ?_)))
  exact R_end (rs2 := _) rfl rfl (.tmp rfl .nil) (⟨by rw [show fitE H l x = 85 by unfold fitE; rw [if_pos h1]]; rfl, rfl⟩) (Weak.trans (Weak.keep (Weak.keep (Weak.keep (Weak.nil _)))) (pool_close (rs := [])))
 ·skip
  have h1 : findE l x.t.frm = 0 := Classical.not_not.1 h1
  refine rT (lP (pF ty_fl_67_5) (k:=lV (vB ty_sc_23 .h3) (k:=lP (pF ty_fl_50_3) (k:=lV (vB ty_sc_23 .h5) (k:=lP pLt (k:=lA (k:=?_)))))))
  refine lQ (cE 0 rfl (cE 5 rfl (cE 6 rfl (cE 7 rfl (cE 26 rfl .nil))))) ?_
  refine R_condP rfl (fun h2 => ?_) (fun h2 => ?_)
  ·skip
   refine rT (lA (k:=?_))
   refine lQ (cE 0 rfl (cE 5 rfl (cE 6 rfl (cE 7 rfl .nil)))) (R_ret (Q_block_ret (Q_then_ret ?_)))
   exact R_end (rs2 := _) rfl rfl (.tmp rfl .nil) (⟨by rw [show fitE H l x = 91 by unfold fitE; rw [if_neg (by rw [h1]; simp), if_pos h2]]; rfl, rfl⟩) (Weak.trans (Weak.keep (Weak.keep (Weak.keep (Weak.nil _)))) (pool_close (rs := [])))
  ·skip
   refine rT (lP (pF ty_fl_67_5) (k:=lV (vB ty_sc_23 .h3) (k:=lP (pF ty_fl_50_3) (k:=lV (vB ty_sc_23 .h5) (k:=?_)))))
   refine lP (P_subN rfl rfl rfl (by simp only [fits]; omega)) (k:=lP pGe (k:=?_))
   refine E_bool (t := 38) rfl (fun h3 => ?_) (fun h3 => ?_)
   ·skip
    have h3 := of_decide_eq_true h3
    refine lM (k:=lN (k:=lN (k:=lN (k:=lP pK (k:=lA (k:=?_))))))
    refine lQ (cE 0 rfl (cE 5 rfl (cE 6 rfl (cE 7 rfl (cE 32 rfl .nil))))) (kT (k:=rT (lA (k:=?_))))
    refine lQ (cE 0 rfl (cE 5 rfl (cE 6 rfl (cE 7 rfl .nil)))) (R_ret (Q_block_ret (Q_then_ret ?_)))
    exact R_end (rs2 := _) rfl rfl (.tmp rfl .nil) (⟨by rw [show fitE H l x = 92 by unfold fitE; rw [if_neg (by rw [h1]; simp), if_neg h2, if_pos (by omega)]]; rfl, rfl⟩) (Weak.trans (Weak.keep (Weak.keep (Weak.keep (Weak.nil _)))) (pool_close (rs := [])))
   ·skip
    have h3 := of_decide_eq_false h3
    refine lM (k:=lP (pF ty_fl_67_5) (k:=lV (vB ty_sc_23 .h3) (k:=lP pEq (k:=lP pK (k:=lA (k:=?_))))))
    refine lQ (cE 0 rfl (cE 5 rfl (cE 6 rfl (cE 7 rfl (cE 32 rfl .nil))))) ?_
    refine R_condP rfl (fun h4 => ?_) (fun h4 => ?_)
    ·skip
     refine rT (lA (k:=?_))
     refine lQ (cE 0 rfl (cE 5 rfl (cE 6 rfl (cE 7 rfl .nil)))) (R_ret (Q_block_ret (Q_then_ret ?_)))
     exact R_end (rs2 := _) rfl rfl (.tmp rfl .nil) (⟨by rw [show fitE H l x = 92 by unfold fitE; rw [if_neg (by rw [h1]; simp), if_neg h2, if_pos (by omega)]]; rfl, rfl⟩) (Weak.trans (Weak.keep (Weak.keep (Weak.keep (Weak.nil _)))) (pool_close (rs := [])))
    ·skip
     refine R_skip (Q_block (qT (rS ?_)))
     have h5 : ¬ (16 ≤ x.t.non - (findX l x.t.frm).non ∨ x.t.non = 18446744073709551615) := by omega
     refine rR (lA (k:=?_))
     refine lQ (cE 0 rfl (cE 5 rfl (cE 6 rfl (cE 7 rfl (cE 9 rfl .nil))))) (rT (lP (pF ty_fl_50_1) (k:=lV (vB ty_sc_23 .h5) (k:=lA (k:=?_)))))
     refine lQ (cE 0 rfl (cE 5 rfl (cE 6 rfl (cE 7 rfl (cE 9 rfl (cE 10 rfl .nil)))))) (rS (rT (lP (pF ty_fl_50_3) (k:=lV (vB ty_sc_23 .h5) (k:=lA (k:=?_))))))
     refine lQ (cE 0 rfl (cE 5 rfl (cE 6 rfl (cE 9 rfl (cE 10 rfl (cE 11 rfl .nil)))))) (R_block ?_)
     refine R_loopE (G := Int × Int × Bool) (cE 0 rfl (cE 5 rfl (cE 6 rfl .nil))) (fun g => [(9, .bool g.2.2), (10, .int .u64 (g.2.1)), (11, .int .u64 (g.1))]) (fun _ => _) (fun g => (findX l x.t.frm).non ≤ g.1 ∧ g.1 ≤ x.t.non + 1 ∧ fitE H l x = fitL H x (x.t.non + 1 - g.1).toNat g.1 g.2.1 g.2.2 ∧ 0 ≤ g.2.1 ∧ g.2.1 ≤ 18446744073709551615) (fun g => (x.t.non + 1 - g.1).toNat) ((findX l x.t.frm).non, (findX l x.t.frm).bal, false) (by show (findX l x.t.frm).non ≤ ((findX l x.t.frm).non) ∧ ((findX l x.t.frm).non) ≤ x.t.non + 1 ∧ fitE H l x = fitL H x (x.t.non + 1 - ((findX l x.t.frm).non)).toNat ((findX l x.t.frm).non) ((findX l x.t.frm).bal) (false) ∧ 0 ≤ ((findX l x.t.frm).bal) ∧ ((findX l x.t.frm).bal) ≤ 18446744073709551615; exact ⟨Int.le_refl _, by omega, by unfold fitE; rw [if_neg (by rw [h1]; simp), if_neg h2, if_neg h5], by omega, by omega⟩) (by repeat (first | exact .nil | refine .cons rfl ?_ | refine .consE rfl (by first | rfl | (congr 1; omega) | (congr 1; push_cast; omega)) ?_)) (Weak.refl _) ?_
     rintro ⟨n, left, poor⟩ hinv
     replace hinv : (findX l x.t.frm).non ≤ n ∧ n ≤ x.t.non + 1 ∧ fitE H l x = fitL H x (x.t.non + 1 - n).toNat n left poor ∧ 0 ≤ left ∧ left ≤ 18446744073709551615 := hinv
     show St (cx gl) _ ((9, .bool poor) :: (10, .int .u64 (left)) :: (11, .int .u64 (n)) :: _) _ _
     obtain ⟨hn0, hn1, hfl, hl0, hl1⟩ := hinv
     refine rS (rT (lM (k:=lP (pF ty_fl_67_5) (k:=lV (vB ty_sc_23 .h3) (k:=lP pLe (k:=?_))))))
     refine L_nil (qT ?_)
     refine R_condP rfl (fun hle => ?_) (fun hle => ?_)
     ·skip
      refine R_skip (qT (rS (R_block (rS ?_))))
      refine R_open [(0, 0), (1, 0), (2, 0), (3, 1), (4, 0), (5, 1), (6, 0), (7, 0), (8, 1), (9, 0), (10, 0), (11, 0), (12, 2), (13, 3), (14, 0)] mixed (by kernel_rfl) (QOk.then (QOk.block (QOk.then (QOk.then (QOk.block (QOk.then QOk.body)))))) (oP rfl pM (k:=oP rfl pN (k:=oP rfl (pF ty_fl_78_1) (k:=oV rfl (vB ty_sc_75 .h0) (k:=oP rfl (pF ty_fl_67_1) (k:=oV rfl (vB ty_sc_26 .h3) (k:=oP rfl pM (k:=?_))))))))
      refine oP rfl (P_buildStruct rfl ty_pl_207 ty_ze_207 rfl rfl (rfl)) (k:=?_)
      refine E_as (t := 62) (v' := rec2K (x.t.frm, n)) rfl (rfl) ?_
      refine oV rfl (V_lookupK (k := (x.t.frm, n)) rfl ty_map_75 (keyRec2 rec2_key) rfl rfl (trivial) (fun _ _ => trivial) .h1 (run_zeroValue_of ty_zv_67)) (k:=oP rfl pM (k:=?_))
      refine E_as (t := 54) (v' := .tuple #[.agg ((heldAt H (x.t.frm, n)).getD txrz).t.cells.toArray, .bool (heldAt H (x.t.frm, n)).isSome]) rfl (by rw [look_held]) (oP rfl pX (k:=oP rfl pX (k:=?_)))
      refine O_keep rfl rfl (W_alloc rfl rfl rfl ty_ze_67 fun b12 => (K_keep (Weak.drop (Weak.refl _)) ?_))
      refine O_new rfl rfl (W_storeAll rfl rfl rfl rfl ty_ag_67 (((heldAt H (x.t.frm, n)).getD txrz).ok.cellsLen) (Tx.one _) .h0 (((heldAt H (x.t.frm, n)).getD txrz).ok.cellsLen) (K_new (oP rfl pA (k:=O_nil (qT ?_)))))
      refine R_joinE (G := Unit) (cE 0 rfl (cE 5 rfl (cE 6 rfl (cE 9 rfl (cE 10 rfl (cE 11 rfl (cE 12 rfl (cE 48 rfl (cE 49 rfl (cE 50 rfl (cE 51 rfl (cE 54 rfl (cE 55 rfl (cE 56 rfl (cE 57 rfl (cE 58 rfl (cE 59 rfl (cE 60 rfl (cE 61 rfl (cE 62 rfl (cE 63 rfl (cE 64 rfl (cE 65 rfl .nil))))))))))))))))))))))) (fun g => [(13, .bool (yAt H x n).isSome)]) (fun g => [blk b12 ((yAt H x n).getD txrz).t.cells 67, blk p (poolC mh mi most) 78, mapK rec2K mh (hM (H)), mapK iK mi (iM (H)), blk b5 x.t.cells 67, blk b4 (s.cells (.slice base l.length c) v) 63, blk b7 (findX l x.t.frm).cells 50]) (fun g => True) ?_ ?_
      ·skip
       refine rT (lM (k:=lP (pF ty_fl_67_5) (k:=lV (vB ty_sc_23 .h4) (k:=lP pEq (k:=?_)))))
       refine L_nil (qT ?_)
       refine R_condP rfl (fun hnx => ?_) (fun hnx => ?_)
       ·skip
        refine rR ?_
        refine lV (V_loadAgg rfl rfl ty_ag_67 (Rds.blk .h4) (x.ok.cellsLen)) (k:=?_)
        refine lO (W_storeAll rfl rfl rfl rfl ty_ag_67 (x.ok.cellsLen) (Tx.one _) .h0 (x.ok.cellsLen.trans ((heldAt H (x.t.frm, n)).getD txrz).ok.cellsLen.symm) (lA (k:=?_)))
        refine L_nil ?_
        refine E_as (t := 13) (v' := .bool (yAt H x n).isSome) rfl (by rw [yAt_self hnx]; rfl) ?_
        exact Q_meet () (trivial) (by repeat (first | exact .nil | refine .cons rfl ?_ | refine .consE rfl (by first | rfl | (congr 1; omega) | (congr 1; push_cast; omega)) ?_)) (by rw [yAt_self hnx]; exact Weak.refl _)
       ·skip
        refine R_skip ?_
        refine E_as (t := 13) (v' := .bool (yAt H x n).isSome) rfl (by rw [yAt_other hnx]) ?_
        exact Q_meet () (trivial) (by repeat (first | exact .nil | refine .cons rfl ?_ | refine .consE rfl (by first | rfl | (congr 1; omega) | (congr 1; push_cast; omega)) ?_)) (by rw [yAt_other hnx]; exact Weak.refl _)
      ·rintro ⟨⟩ hinv
       replace hinv : True := hinv
       show St (cx gl) _ ((13, .bool (yAt H x n).isSome) :: _) [blk b12 ((yAt H x n).getD txrz).t.cells 67, blk p (poolC mh mi most) 78, mapK rec2K mh (hM (H)), mapK iK mi (iM (H)), blk b5 x.t.cells 67, blk b4 (s.cells (.slice base l.length c) v) 63, blk b7 (findX l x.t.frm).cells 50] _
       refine rS (rT (lM (k:=lP pO (k:=?_))))
       refine L_nil (qT ?_)
       refine R_cond rfl (fun hs => ?_) (fun hs => ?_)
       ·skip
        have hy : (yAt H x n) = none := by cases h9 : (yAt H x n) with | none => rfl | some y => rw [h9] at hs; cases hs
        refine rT (lA (k:=?_))
        refine L_nil (qT (R_ret (Q_then_ret (Q_block_ret (Q_then_ret (Q_then_ret (Q_block_ret (Q_then_ret ?_))))))))
        exact R_end (rs2 := _) rfl rfl (.tmp rfl .nil) (⟨by rw [show fitE H l x = 92 by rw [hfl, fitL_none hle hy]]; rfl, rfl⟩) (Weak.trans (Weak.pick (p := [_]) (Weak.pick (p := [_]) (Weak.pick (p := [_]) (Weak.nil _)))) (pool_close (rs := [])))
       ·skip
        obtain ⟨y, hy⟩ : ∃ y, (yAt H x n) = some y := by cases h9 : (yAt H x n) with | none => rw [h9] at hs; cases hs | some y => exact ⟨y, rfl⟩
        have hF := txFine_of (yAt_plain hP hx hy)
        have hcn : 0 ≤ costI y.t ∧ costI y.t ≤ 2305843009213693950 := by unfold costI; have := y.ok.fee.1; have := y.ok.amt.1; have := hF.amt; have := hF.fee; have : MS = 1152921504606846975 := rfl; split <;> omega
        have hmn : 0 ≤ minI (costI y.t) left ∧ minI (costI y.t) left ≤ left := by unfold minI; split <;> omega
        refine R_skip (qT (rT ?_))
        refine lV (V_loadAgg rfl rfl ty_ag_67 (Rds.blk .h0) (((yAt H x n).getD txrz).ok.cellsLen)) (k:=?_)
        refine E_as (t := 73) (v' := .agg y.t.cells.toArray) rfl (by rw [hy]; rfl) ?_
        refine lO (W_callV rfl rfl rfl rfl fn_ca_190 (cost_ok y.t y.ok hF.amt hF.fee) (fun _ _ => trivial) (lA (k:=?_)))
        refine L_nil (qT (rT (lM (k:=lM (k:=?_)))))
        refine E_bool (t := 76) rfl (fun hpo => ?_) (fun hpo => ?_)
        ·skip
         refine lN (k:=lN (k:=lN (k:=lP pK (k:=lA (k:=?_)))))
         refine L_nil (qT (rR (lM (k:=lM (k:=lM (k:=?_))))))
         refine lP (P_min2 rfl rfl rfl) (k:=?_)
         refine lP (P_subN rfl rfl rfl (by simp only [fits]; omega)) (k:=lA (k:=?_))
         refine L_nil (Q_block (qT (rR (lM (k:=?_)))))
         refine lP (P_addN rfl rfl rfl (by simp only [fits]; omega)) (k:=lA (k:=?_))
         refine L_nil ?_
         exact Q_round (n + 1, left - minI (costI y.t) left, true) (by show (findX l x.t.frm).non ≤ (n + 1) ∧ (n + 1) ≤ x.t.non + 1 ∧ fitE H l x = fitL H x (x.t.non + 1 - (n + 1)).toNat (n + 1) (left - minI (costI y.t) left) (true) ∧ 0 ≤ (left - minI (costI y.t) left) ∧ (left - minI (costI y.t) left) ≤ 18446744073709551615; exact ⟨by omega, by omega, by rw [hfl, fitL_next hle hy]; rw [hpo, Bool.true_or], by omega, by omega⟩) (by show (x.t.non + 1 - (n + 1)).toNat < (x.t.non + 1 - n).toNat; omega) (by repeat (first | exact .nil | refine .cons rfl ?_ | refine .consE rfl (by first | rfl | (congr 1; omega) | (congr 1; push_cast; omega)) ?_)) (Weak.drop (Weak.refl _))
        ·skip
         refine lM (k:=lM (k:=lP pGt (k:=lP pK (k:=lA (k:=?_)))))
         refine L_nil (qT (rR (lM (k:=lM (k:=lM (k:=?_))))))
         refine lP (P_min2 rfl rfl rfl) (k:=?_)
         refine lP (P_subN rfl rfl rfl (by simp only [fits]; omega)) (k:=lA (k:=?_))
         refine L_nil (Q_block (qT (rR (lM (k:=?_)))))
         refine lP (P_addN rfl rfl rfl (by simp only [fits]; omega)) (k:=lA (k:=?_))
         refine L_nil ?_
         exact Q_round (n + 1, left - minI (costI y.t) left, decide (left < costI y.t)) (by show (findX l x.t.frm).non ≤ (n + 1) ∧ (n + 1) ≤ x.t.non + 1 ∧ fitE H l x = fitL H x (x.t.non + 1 - (n + 1)).toNat (n + 1) (left - minI (costI y.t) left) (decide (left < costI y.t)) ∧ 0 ≤ (left - minI (costI y.t) left) ∧ (left - minI (costI y.t) left) ≤ 18446744073709551615; exact ⟨by omega, by omega, by rw [hfl, fitL_next hle hy]; rw [hpo, Bool.false_or], by omega, by omega⟩) (by show (x.t.non + 1 - (n + 1)).toNat < (x.t.non + 1 - n).toNat; omega) (by repeat (first | exact .nil | refine .cons rfl ?_ | refine .consE rfl (by first | rfl | (congr 1; omega) | (congr 1; push_cast; omega)) ?_)) (Weak.drop (Weak.refl _))
     ·skip
      refine R_exit (Q_then_exit (Q_then_exit (Q_block_eq ?_)))
      refine St.env (cE 6 rfl (cE 9 rfl .nil)) (qT (rS (rT (lM (k:=?_)))))
      refine lQ (cE 6 rfl (cE 86 rfl .nil)) ?_
      refine R_cond rfl (fun hpp => ?_) (fun hpp => ?_)
      ·skip
       refine rT (lA (k:=?_))
       refine lQ (cE 6 rfl .nil) (R_ret (Q_then_ret ?_))
       exact R_end (rs2 := _) rfl rfl (.tmp rfl .nil) (⟨by rw [show fitE H l x = 93 by rw [hfl, fitL_end hle, if_pos hpp]]; rfl, rfl⟩) (Weak.trans (Weak.keep (Weak.keep (Weak.keep (Weak.nil _)))) (pool_close (rs := [])))
      ·skip
       refine R_skip (qT (rT (lA (k:=?_))))
       refine lQ (cE 6 rfl .nil) (R_ret ?_)
       exact R_end (rs2 := _) rfl rfl (.tmp rfl .nil) (⟨by rw [show fitE H l x = 0 by rw [hfl, fitL_end hle, if_neg (by rw [hpp]; decide)]]; rfl, rfl⟩) (Weak.trans (Weak.keep (Weak.keep (Weak.keep (Weak.nil _)))) (pool_close (rs := [])))
end Go.Proofs.YtcngmkjdpoiiaaaGreatDoor

/- How states are read. Printed by gen.py. -/
set_option maxRecDepth 100000
namespace Go.Proofs.YtcngmkjdpoiiaaaGreatDoor
open Go Go.RowKit Go.ChangeShapes Go.WideShapes Go.Proofs
theorem Reads.rawSlice {P : Program} {t e sz by_ : Nat} (ht : slB P t e sz by_ = true) : Reads P t (fun s : Option Addr × Nat × Nat => [.slice s.1 s.2.1 s.2.2]) (fun _ _ => True) (fun _ => 1) (fun _ => True) := fun H enc W hd fuel cs x h => by
 rcases DataW.trod_slice (slB_spec ht).1 h with ⟨e1, e2⟩ | ⟨a, len, cap, elems, rest, n, _, e1, _⟩
 ·exact ⟨(none, 0, 0), e1, trivial, bulk_one _, fun _ => trivial⟩
 ·exact ⟨(some a, len, cap), e1, trivial, bulk_one _, fun _ => trivial⟩
/-- A state, as it is read. -/
structure StJ where
 ch : List Int
 p : Par
 h : Int
 tm : Int
 last : List Int
 c1 : Option Addr × Nat × Nat
 c2 : Option Addr × Nat × Nat
 pa : Option Addr × Nat × Nat
 pu : Option Addr × Nat × Nat
 l : LedI
def rawV (s : Option Addr × Nat × Nat) : Value := .slice s.1 s.2.1 s.2.2
def StJ.mid (x : StJ) : List Value := .int .u64 x.tm :: (ints .u8 x.last ++ [rawV x.c1, rawV x.c2, rawV x.pa, rawV x.pu])
def StJ.cells (x : StJ) : List Value := .string (strOfNums x.ch) :: (x.p.cells ++ (.int .u64 x.h :: (x.mid ++ x.l.cells)))
structure StJ.ok (W : World) (x : StJ) : Prop where
 ch : IsB x.ch
 p : x.p.ok
 h : u64 x.h
 last : x.last.length = 32
 l : x.l.ok W
theorem StJ.midLen {x : StJ} (h : x.last.length = 32) : x.mid.length = 37 := by
 unfold StJ.mid; rw [List.length_cons, List.length_append, ints_length, h]; rfl
theorem StJ.midOne (x : StJ) : ∀ v ∈ x.mid, v.oneCell' = true := by
 intro v hv
 unfold StJ.mid at hv
 rcases List.mem_cons.1 hv with rfl | hv
 ·rfl
 ·rcases List.mem_append.1 hv with hv | hv
  ·exact ints_one v hv
  ·simp only [List.mem_cons, List.not_mem_nil, or_false] at hv
   rcases hv with rfl | rfl | rfl | rfl <;> rfl
def StJ.r (x : StJ) (h : x.last.length = 32) : StR := ⟨x.ch, x.p, x.h, x.mid, x.l.bu, x.l.su, StJ.midLen h, x.midOne⟩
theorem StJ.rcells (x : StJ) (h : x.last.length = 32) : x.cells = (x.r h).cells x.l.s.val x.l.r.val := rfl
theorem cells_st : Tryz.prog.cellsOf 63 = 55 := by kernel_rfl
theorem cells_hs : Tryz.prog.cellsOf 40 = 32 := by kernel_rfl
theorem cells_co : Tryz.prog.cellsOf 59 = 1 := by kernel_rfl
theorem fs_co : fsB Tryz.prog 59 [(37, 0, 1)] = true := by kernel_rfl
theorem fs_st : fsB Tryz.prog 63 [(9, 0, 1), (25, 1, 12), (23, 13, 1), (23, 14, 1), (40, 15, 32), (59, 47, 1), (59, 48, 1), (60, 49, 1), (61, 50, 1), (30, 51, 4)] = true := by kernel_rfl
def rd_co := PLift.up (Reads.struct fs_co cells_co (ReadsF.cons (Reads.rawSlice ty_sl_37) ReadsF.nil))
def stOf (a : List Int × Par × Int × Int × List Int × ((Option Addr × Nat × Nat) × Unit) × ((Option Addr × Nat × Nat) × Unit) × (Option Addr × Nat × Nat) × (Option Addr × Nat × Nat) × LedI × Unit) : StJ := ⟨a.1, a.2.1, a.2.2.1, a.2.2.2.1, a.2.2.2.2.1, a.2.2.2.2.2.1.1, a.2.2.2.2.2.2.1.1, a.2.2.2.2.2.2.2.1, a.2.2.2.2.2.2.2.2.1, a.2.2.2.2.2.2.2.2.2.1⟩
def rd_st := PLift.up (Reads.as (cells' := StJ.cells) (Hd' := StJ.ok) (bulk' := fun _ => 1) (Small' := fun x => x.l.s.xs.length * 40 ≤ reachBytes ∧ x.l.r.xs.length * 32 ≤ reachBytes) stOf (Reads.struct fs_st cells_st (ReadsF.cons (Reads.string ty_str_9) (ReadsF.cons rd_par.down (ReadsF.cons (Reads.int ty_int_23) (ReadsF.cons (Reads.int ty_int_23) (ReadsF.cons (Reads.ints (k := .u8) ty_un_40 ty_int_5 cells_u8 cells_hs) (ReadsF.cons rd_co.down (ReadsF.cons rd_co.down (ReadsF.cons (Reads.rawSlice ty_sl_60) (ReadsF.cons (Reads.rawSlice ty_sl_61) (ReadsF.cons rd_led.down ReadsF.nil))))))))))) (fun a => by simp [StJ.cells, StJ.mid, stOf, rawV]) (fun W a h => by
 obtain ⟨⟨⟨⟨h0, _⟩, _⟩, ⟨h1, _⟩, ⟨h2, _⟩, _, ⟨⟨h4, _⟩, _⟩, _, _, _, _, ⟨h9, _⟩, _⟩, _⟩ := h
 exact ⟨h0, h1, fits64 h2, h4, h9⟩) (fun _ => by omega) (fun a h => h.2.2.2.2.2.2.2.2.2.1))
end Go.Proofs.YtcngmkjdpoiiaaaGreatDoor

/- A pool: refusals; Add where there is room. Printed by gen.py. -/
set_option maxRecDepth 100000
namespace Go.Proofs.YtcngmkjdpoiiaaaGreatDoor
open Go Go.RowKit Go.Proofs
structure LookFine (rc : List Rcd) (ch : List Int) (H : List TxR) (x : Tx) : Prop where
 plain : plainE x = 0
 tx : txbE ch x = 0
 sealed : seald rc ch x = true
 new : hasId H (idH x) = false
theorem lookFine_of {rc : List Rcd} {ch : List Int} {H : List TxR} {x : Tx} (h : lookE rc ch H x = 0) : LookFine rc ch H x := by
 unfold lookE at h
 split at h
 ·rename_i h1; exact absurd h h1
 ·split at h
  ·rename_i h1; exact absurd h h1
  ·split at h
   ·omega
   ·split at h
    ·omega
    ·rename_i h1 h2 h3 h4
     exact ⟨Classical.not_not.1 h1, Classical.not_not.1 h2, by simpa using h3, by simpa using h4⟩
/-- What Add answers where there is room. -/
def addE0 (rc : List Rcd) (ch : List Int) (H : List TxR) (l : List Acc) (x : TxR) : Int :=
 if lookE rc ch H x.t ≠ 0 then lookE rc ch H x.t else if fitE H l x ≠ 0 then fitE H l x else if (heldAt H (keyT x)).isSome = true ∧ x.t.fee ≤ ((heldAt H (keyT x)).getD txrz).t.fee then 94 else 0
def addH0 (rc : List Rcd) (ch : List Int) (H : List TxR) (l : List Acc) (x : TxR) : List TxR := if addE0 rc ch H l x = 0 then putH x H else H
theorem plainE_ne1 (x : Tx) : plainE x ≠ 1 := by unfold plainE; (repeat' split) <;> decide
theorem nameE_ne1 (ch : List Int) : nameE ch ≠ 1 := by unfold nameE; (repeat' split) <;> decide
theorem lookE_ne1 (rc : List Rcd) (ch : List Int) (H : List TxR) (x : Tx) : lookE rc ch H x ≠ 1 := by
 unfold lookE
 split
 ·exact plainE_ne1 x
 ·split
  ·unfold txbE; split
   ·exact nameE_ne1 ch
   ·exact plainE_ne1 x
  ·split
   ·decide
   ·split <;> decide
theorem fitL_ne1 (H : List TxR) (x : TxR) : ∀ k n left poor, fitL H x k n left poor ≠ 1
 | 0, _, _, _ => by rw [fitL]; split <;> decide
 | k + 1, n, left, poor => by
  rw [fitL]
  split
  ·decide
  ·exact fitL_ne1 H x k _ _ _
theorem addE0_ne1 (rc : List Rcd) (ch : List Int) (H : List TxR) (l : List Acc) (x : TxR) : addE0 rc ch H l x ≠ 1 := by
 unfold addE0
 split
 ·exact lookE_ne1 _ _ _ _
 ·split
  ·unfold fitE
   split
   ·decide
   ·split
    ·decide
    ·split
     ·decide
     ·exact fitL_ne1 _ _ _ _ _ _
  ·split <;> decide
theorem padd_nil {gl : Nat → Obj} (s : StR) (u v : Value) (rv : Value) (x : TxR) : SpecV (cx gl) 35 [.pointer none, .agg (s.cells u v).toArray, rv, .agg x.t.cells.toArray] noPre (.int .i64 1) := by
 refine Spec.enter (C := cx gl) Tryz.func35 rfl 87 rfl rfl fun w0 h0 hsep hsub hpre => ?_
 obtain rfl : h0 = Heap.none := hsep
 show St (cx gl) _ [(0, .pointer none), (1, .agg (s.cells u v).toArray), (2, rv), (3, .agg x.t.cells.toArray)] _ _
 refine rT ?_
 refine lO (W_box ((s.cells u v)) rfl rfl rfl rfl rfl fun b5 => ?_)
 refine lO (W_box (x.t.cells) rfl rfl rfl rfl rfl fun b7 => lA (k:=?_))
 refine lQ (cE 0 rfl (cE 2 rfl (cE 5 rfl (cE 7 rfl (cE 8 rfl .nil))))) (rS (rT (lM (k:=?_))))
 refine lO (W_callV rfl rfl rfl rfl fn_ca_109 (pmissing_nil) (fun _ _ => trivial) ?_)
 refine E_true (t := 16) rfl (rfl) (lM (k:=lN (k:=lN (k:=lP pK (k:=?_)))))
 refine lQ (cE 0 rfl (cE 2 rfl (cE 5 rfl (cE 7 rfl (cE 8 rfl (cE 20 rfl .nil)))))) (kT (k:=rT (lA (k:=?_))))
 refine lQ (cE 0 rfl (cE 2 rfl (cE 5 rfl (cE 7 rfl (cE 8 rfl .nil))))) (R_ret (Q_then_ret ?_))
 exact R_endV rfl rfl (.tmp rfl .nil) (rfl)
theorem padd_zero {gl : Nat → Obj} (p : Nat) (s : StR) (u v : Value) (rv : Value) (x : TxR) : SpecR (cx gl) 35 [.pointer (some ⟨p, 0, none⟩), .agg (s.cells u v).toArray, rv, .agg x.t.cells.toArray] (fun _ _ => True) [blk p [.int .i64 0, .map none, .map none] 78] (.int .i64 1) [blk p [.int .i64 0, .map none, .map none] 78] := by
 refine Spec.enter (C := cx gl) Tryz.func35 rfl 87 rfl rfl fun w0 h0 hsep hsub hpre => ?_
 show St (cx gl) _ [(0, .pointer (some ⟨p, 0, none⟩)), (1, .agg (s.cells u v).toArray), (2, rv), (3, .agg x.t.cells.toArray)] _ _
 refine rT ?_
 refine lO (W_box ((s.cells u v)) rfl rfl rfl rfl rfl fun b5 => ?_)
 refine lO (W_box (x.t.cells) rfl rfl rfl rfl rfl fun b7 => lA (k:=?_))
 refine lQ (cE 0 rfl (cE 2 rfl (cE 5 rfl (cE 7 rfl (cE 8 rfl .nil))))) (rS (rT (lM (k:=?_))))
 refine lO (W_callR rfl rfl rfl rfl fn_ca_109 (pmissing_zero p) (Split.one (p := [_, _])) (fun _ _ _ _ _ _ _ => trivial) ?_)
 refine E_true (t := 16) rfl (rfl) (lM (k:=lN (k:=lN (k:=lP pK (k:=?_)))))
 refine lQ (cE 0 rfl (cE 2 rfl (cE 5 rfl (cE 7 rfl (cE 8 rfl (cE 20 rfl .nil)))))) (kT (k:=rT (lA (k:=?_))))
 refine lQ (cE 0 rfl (cE 2 rfl (cE 5 rfl (cE 7 rfl (cE 8 rfl .nil))))) (R_ret (Q_then_ret ?_))
 exact R_end (rs2 := _) rfl rfl (.tmp rfl .nil) (⟨rfl, rfl⟩) (Weak.keep (Weak.nil _))
theorem ppick_nil {gl : Nat → Obj} (s : StR) (u v : Value) (rv pv : Value) : SpecV (cx gl) 36 [.pointer none, .agg (s.cells u v).toArray, rv, pv] noPre (.slice none 0 0) := by
 refine Spec.enter (C := cx gl) Tryz.func36 rfl 88 rfl rfl fun w0 h0 hsep hsub hpre => ?_
 obtain rfl : h0 = Heap.none := hsep
 show St (cx gl) _ [(0, .pointer none), (1, .agg (s.cells u v).toArray), (2, rv), (3, pv)] _ _
 refine rT ?_
 refine lO (W_box ((s.cells u v)) rfl rfl rfl rfl rfl fun b5 => lA (k:=?_))
 refine lQ (cE 0 rfl (cE 2 rfl (cE 3 rfl (cE 5 rfl (cE 8 rfl .nil))))) (rS (rT (lM (k:=?_))))
 refine lO (W_callV rfl rfl rfl rfl fn_ca_109 (pmissing_nil) (fun _ _ => trivial) ?_)
 refine E_true (t := 17) rfl (rfl) (lM (k:=lN (k:=lN (k:=lP pK (k:=lM (k:=lN (k:=lN (k:=lN (k:=lP pK (k:=?_))))))))))
 refine lQ (cE 0 rfl (cE 2 rfl (cE 3 rfl (cE 5 rfl (cE 8 rfl (cE 26 rfl .nil)))))) (kT (k:=rT (lA (k:=?_))))
 refine lQ (cE 0 rfl (cE 2 rfl (cE 3 rfl (cE 5 rfl (cE 8 rfl .nil))))) (R_ret (Q_then_ret ?_))
 exact R_endV rfl rfl (.tmp rfl .nil) (rfl)
theorem ppick_zero {gl : Nat → Obj} (p : Nat) (s : StR) (u v : Value) (rv pv : Value) : SpecR (cx gl) 36 [.pointer (some ⟨p, 0, none⟩), .agg (s.cells u v).toArray, rv, pv] (fun _ _ => True) [blk p [.int .i64 0, .map none, .map none] 78] (.slice none 0 0) [blk p [.int .i64 0, .map none, .map none] 78] := by
 refine Spec.enter (C := cx gl) Tryz.func36 rfl 88 rfl rfl fun w0 h0 hsep hsub hpre => ?_
 show St (cx gl) _ [(0, .pointer (some ⟨p, 0, none⟩)), (1, .agg (s.cells u v).toArray), (2, rv), (3, pv)] _ _
 refine rT ?_
 refine lO (W_box ((s.cells u v)) rfl rfl rfl rfl rfl fun b5 => lA (k:=?_))
 refine lQ (cE 0 rfl (cE 2 rfl (cE 3 rfl (cE 5 rfl (cE 8 rfl .nil))))) (rS (rT (lM (k:=?_))))
 refine lO (W_callR rfl rfl rfl rfl fn_ca_109 (pmissing_zero p) (Split.one (p := [_])) (fun _ _ _ _ _ _ _ => trivial) ?_)
 refine E_true (t := 17) rfl (rfl) (lM (k:=lN (k:=lN (k:=lP pK (k:=lM (k:=lN (k:=lN (k:=lN (k:=lP pK (k:=?_))))))))))
 refine lQ (cE 0 rfl (cE 2 rfl (cE 3 rfl (cE 5 rfl (cE 8 rfl (cE 26 rfl .nil)))))) (kT (k:=rT (lA (k:=?_))))
 refine lQ (cE 0 rfl (cE 2 rfl (cE 3 rfl (cE 5 rfl (cE 8 rfl .nil))))) (R_ret (Q_then_ret ?_))
 exact R_end (rs2 := _) rfl rfl (.tmp rfl .nil) (⟨rfl, rfl⟩) (Weak.keep (Weak.nil _))
theorem precheck_nil {gl : Nat → Obj} (s : StR) (u v : Value) : SpecV (cx gl) 45 [.pointer none, .agg (s.cells u v).toArray] noPre (.slice none 0 0) := by
 refine Spec.enter (C := cx gl) Tryz.func45 rfl 58 rfl rfl fun w0 h0 hsep hsub hpre => ?_
 obtain rfl : h0 = Heap.none := hsep
 show St (cx gl) _ [(0, .pointer none), (1, .agg (s.cells u v).toArray)] _ _
 refine rT ?_
 refine lO (W_box ((s.cells u v)) rfl rfl rfl rfl rfl fun b3 => lA (k:=?_))
 refine lQ (cE 0 rfl (cE 3 rfl (cE 4 rfl .nil))) (rS (rT (lM (k:=?_))))
 refine lO (W_callV rfl rfl rfl rfl fn_ca_109 (pmissing_nil) (fun _ _ => trivial) ?_)
 refine E_true (t := 13) rfl (rfl) ?_
 refine lQ (cE 0 rfl (cE 3 rfl (cE 4 rfl (cE 13 rfl .nil)))) (kT (k:=rT (lA (k:=?_))))
 refine lQ (cE 0 rfl (cE 3 rfl (cE 4 rfl .nil))) (R_ret (Q_then_ret ?_))
 exact R_endV rfl rfl (.tmp rfl .nil) (rfl)
theorem precheck_zero {gl : Nat → Obj} (p : Nat) (s : StR) (u v : Value) : SpecR (cx gl) 45 [.pointer (some ⟨p, 0, none⟩), .agg (s.cells u v).toArray] (fun _ _ => True) [blk p [.int .i64 0, .map none, .map none] 78] (.slice none 0 0) [blk p [.int .i64 0, .map none, .map none] 78] := by
 refine Spec.enter (C := cx gl) Tryz.func45 rfl 58 rfl rfl fun w0 h0 hsep hsub hpre => ?_
 show St (cx gl) _ [(0, .pointer (some ⟨p, 0, none⟩)), (1, .agg (s.cells u v).toArray)] _ _
 refine rT ?_
 refine lO (W_box ((s.cells u v)) rfl rfl rfl rfl rfl fun b3 => lA (k:=?_))
 refine lQ (cE 0 rfl (cE 3 rfl (cE 4 rfl .nil))) (rS (rT (lM (k:=?_))))
 refine lO (W_callR rfl rfl rfl rfl fn_ca_109 (pmissing_zero p) (Split.one (p := [_])) (fun _ _ _ _ _ _ _ => trivial) ?_)
 refine E_true (t := 13) rfl (rfl) ?_
 refine lQ (cE 0 rfl (cE 3 rfl (cE 4 rfl (cE 13 rfl .nil)))) (kT (k:=rT (lA (k:=?_))))
 refine lQ (cE 0 rfl (cE 3 rfl (cE 4 rfl .nil))) (R_ret (Q_then_ret ?_))
 exact R_end (rs2 := _) rfl rfl (.tmp rfl .nil) (⟨rfl, rfl⟩) (Weak.keep (Weak.nil _))
theorem phas_nil {gl : Nat → Obj} (h : Nums 32) : SpecV (cx gl) 108 [.pointer none, .agg (ints .u8 h.1).toArray] noPre (.bool false) := by
 refine Spec.enter (C := cx gl) Tryz.func108 rfl 19 rfl rfl fun w0 h0 hsep hsub hpre => ?_
 obtain rfl : h0 = Heap.none := hsep
 show St (cx gl) _ [(0, .pointer none), (1, .agg (ints .u8 h.1).toArray)] _ _
 refine rT ?_
 refine lO (W_box (ints .u8 h.1) rfl rfl rfl rfl rfl fun b3 => lA (k:=?_))
 refine lQ (cE 0 rfl (cE 3 rfl (cE 4 rfl .nil))) (rS (rT (lM (k:=?_))))
 refine lO (W_callV rfl rfl rfl rfl fn_ca_109 (pmissing_nil) (fun _ _ => trivial) ?_)
 refine E_true (t := 8) rfl (rfl) ?_
 refine lQ (cE 0 rfl (cE 3 rfl (cE 4 rfl (cE 8 rfl .nil)))) (kT (k:=rT (lA (k:=?_))))
 refine lQ (cE 0 rfl (cE 3 rfl (cE 4 rfl .nil))) (R_ret (Q_then_ret ?_))
 exact R_endV rfl rfl (.tmp rfl .nil) (rfl)
theorem phas_zero {gl : Nat → Obj} (p : Nat) (h : Nums 32) : SpecR (cx gl) 108 [.pointer (some ⟨p, 0, none⟩), .agg (ints .u8 h.1).toArray] (fun _ _ => True) [blk p [.int .i64 0, .map none, .map none] 78] (.bool false) [blk p [.int .i64 0, .map none, .map none] 78] := by
 refine Spec.enter (C := cx gl) Tryz.func108 rfl 19 rfl rfl fun w0 h0 hsep hsub hpre => ?_
 show St (cx gl) _ [(0, .pointer (some ⟨p, 0, none⟩)), (1, .agg (ints .u8 h.1).toArray)] _ _
 refine rT ?_
 refine lO (W_box (ints .u8 h.1) rfl rfl rfl rfl rfl fun b3 => lA (k:=?_))
 refine lQ (cE 0 rfl (cE 3 rfl (cE 4 rfl .nil))) (rS (rT (lM (k:=?_))))
 refine lO (W_callR rfl rfl rfl rfl fn_ca_109 (pmissing_zero p) (Split.one (p := [_])) (fun _ _ _ _ _ _ _ => trivial) ?_)
 refine E_true (t := 8) rfl (rfl) ?_
 refine lQ (cE 0 rfl (cE 3 rfl (cE 4 rfl (cE 8 rfl .nil)))) (kT (k:=rT (lA (k:=?_))))
 refine lQ (cE 0 rfl (cE 3 rfl (cE 4 rfl .nil))) (R_ret (Q_then_ret ?_))
 exact R_end (rs2 := _) rfl rfl (.tmp rfl .nil) (⟨rfl, rfl⟩) (Weak.keep (Weak.nil _))
theorem plen_nil {gl : Nat → Obj}  : SpecV (cx gl) 51 [.pointer none] noPre (.int .i64 (0)) := by
 refine Spec.enter (C := cx gl) Tryz.func51 rfl 10 rfl rfl fun w0 h0 hsep hsub hpre => ?_
 obtain rfl : h0 = Heap.none := hsep
 show St (cx gl) _ [(0, .pointer none)] _ _
 refine rT (lA (k:=?_))
 refine L_nil (qT (rS (rT (lM (k:=?_)))))
 refine lO (W_callV rfl rfl rfl rfl fn_ca_109 (pmissing_nil) (fun _ _ => trivial) ?_)
 refine E_true (t := 4) rfl (rfl) ?_
 refine lQ (cE 0 rfl (cE 2 rfl (cE 4 rfl .nil))) (kT (k:=rT (lA (k:=?_))))
 refine lQ (cE 0 rfl (cE 2 rfl .nil)) (R_ret (Q_then_ret ?_))
 exact R_endV rfl rfl (.tmp rfl .nil) (rfl)
theorem plen_zero {gl : Nat → Obj} (p : Nat)  : SpecR (cx gl) 51 [.pointer (some ⟨p, 0, none⟩)] (fun _ _ => True) [blk p [.int .i64 0, .map none, .map none] 78] (.int .i64 (0)) [blk p [.int .i64 0, .map none, .map none] 78] := by
 refine Spec.enter (C := cx gl) Tryz.func51 rfl 10 rfl rfl fun w0 h0 hsep hsub hpre => ?_
 show St (cx gl) _ [(0, .pointer (some ⟨p, 0, none⟩))] _ _
 refine rT (lA (k:=?_))
 refine L_nil (qT (rS (rT (lM (k:=?_)))))
 refine lO (W_callR rfl rfl rfl rfl fn_ca_109 (pmissing_zero p) (Split.one (p := [])) (fun _ _ _ _ _ _ _ => trivial) ?_)
 refine E_true (t := 4) rfl (rfl) ?_
 refine lQ (cE 0 rfl (cE 2 rfl (cE 4 rfl .nil))) (kT (k:=rT (lA (k:=?_))))
 refine lQ (cE 0 rfl (cE 2 rfl .nil)) (R_ret (Q_then_ret ?_))
 exact R_end (rs2 := _) rfl rfl (.tmp rfl .nil) (⟨rfl, rfl⟩) (Weak.keep (Weak.nil _))
theorem plist_nil {gl : Nat → Obj}  : SpecV (cx gl) 47 [.pointer none] noPre (.slice none 0 0) := by
 refine Spec.enter (C := cx gl) Tryz.func47 rfl 24 rfl rfl fun w0 h0 hsep hsub hpre => ?_
 obtain rfl : h0 = Heap.none := hsep
 show St (cx gl) _ [(0, .pointer none)] _ _
 refine rT (lA (k:=?_))
 refine L_nil (qT (rS (rT (lM (k:=?_)))))
 refine lO (W_callV rfl rfl rfl rfl fn_ca_109 (pmissing_nil) (fun _ _ => trivial) ?_)
 refine E_true (t := 7) rfl (rfl) ?_
 refine lQ (cE 0 rfl (cE 2 rfl (cE 7 rfl .nil))) (kT (k:=rT (lA (k:=?_))))
 refine lQ (cE 0 rfl (cE 2 rfl .nil)) (R_ret (Q_then_ret ?_))
 exact R_endV rfl rfl (.tmp rfl .nil) (rfl)
theorem plist_zero {gl : Nat → Obj} (p : Nat)  : SpecR (cx gl) 47 [.pointer (some ⟨p, 0, none⟩)] (fun _ _ => True) [blk p [.int .i64 0, .map none, .map none] 78] (.slice none 0 0) [blk p [.int .i64 0, .map none, .map none] 78] := by
 refine Spec.enter (C := cx gl) Tryz.func47 rfl 24 rfl rfl fun w0 h0 hsep hsub hpre => ?_
 show St (cx gl) _ [(0, .pointer (some ⟨p, 0, none⟩))] _ _
 refine rT (lA (k:=?_))
 refine L_nil (qT (rS (rT (lM (k:=?_)))))
 refine lO (W_callR rfl rfl rfl rfl fn_ca_109 (pmissing_zero p) (Split.one (p := [])) (fun _ _ _ _ _ _ _ => trivial) ?_)
 refine E_true (t := 7) rfl (rfl) ?_
 refine lQ (cE 0 rfl (cE 2 rfl (cE 7 rfl .nil))) (kT (k:=rT (lA (k:=?_))))
 refine lQ (cE 0 rfl (cE 2 rfl .nil)) (R_ret (Q_then_ret ?_))
 exact R_end (rs2 := _) rfl rfl (.tmp rfl .nil) (⟨rfl, rfl⟩) (Weak.keep (Weak.nil _))
theorem padd_nilreg {gl : Nat → Obj} (p : Nat) (most : Int) (H : List TxR) (s : StR) (u v : Value) (x : TxR) : SpecR (cx gl) 35 [.pointer (some ⟨p, 0, none⟩), .agg (s.cells u v).toArray, .pointer none, .agg x.t.cells.toArray] (fun _ _ => True) [POOL p most (H)] (.int .i64 1) [POOL p most (H)] := by
 refine Spec.enter (C := cx gl) Tryz.func35 rfl 87 rfl rfl fun w0 h0 hsep hsub hpre => ?_
 show St (cx gl) _ [(0, .pointer (some ⟨p, 0, none⟩)), (1, .agg (s.cells u v).toArray), (2, .pointer none), (3, .agg x.t.cells.toArray)] _ _
 refine St.openP [] fun ⟨mh, mi⟩ _ => ?_
 refine St.unbundle [] (rT ?_)
 refine lO (W_box ((s.cells u v)) rfl rfl rfl rfl rfl fun b5 => ?_)
 refine lO (W_box (x.t.cells) rfl rfl rfl rfl rfl fun b7 => lA (k:=?_))
 refine lQ (cE 0 rfl (cE 2 rfl (cE 5 rfl (cE 7 rfl (cE 8 rfl .nil))))) (rS (rT (lM (k:=?_))))
 refine lO (W_callR rfl rfl rfl rfl fn_ca_109 (pmissing_ok p mh mi most) (Split.one (p := [_, _])) (fun _ _ _ _ _ _ _ => trivial) ?_)
 refine E_false (t := 16) rfl (rfl) (lM (k:=lM (k:=?_)))
 refine lO (W_callV rfl rfl rfl rfl fn_ca_110 (unmade_nil) (fun _ _ => trivial) ?_)
 refine E_true (t := 19) rfl (rfl) (lP pK (k:=?_))
 refine lQ (cE 0 rfl (cE 2 rfl (cE 5 rfl (cE 7 rfl (cE 8 rfl (cE 20 rfl .nil)))))) (kT (k:=rT (lA (k:=?_))))
 refine lQ (cE 0 rfl (cE 2 rfl (cE 5 rfl (cE 7 rfl (cE 8 rfl .nil))))) (R_ret (Q_then_ret ?_))
 exact R_end (rs2 := _) rfl rfl (.tmp rfl .nil) (⟨rfl, rfl⟩) (Weak.trans (Weak.keep (Weak.pick (p := [_, _]) (Weak.pick (p := [_, _]) (Weak.nil _)))) (pool_close (rs := [])))
theorem padd_zeroreg {gl : Nat → Obj} (p : Nat) (most : Int) (H : List TxR) (q : Nat) (s : StR) (u v : Value) (x : TxR) : SpecR (cx gl) 35 [.pointer (some ⟨p, 0, none⟩), .agg (s.cells u v).toArray, .pointer (some ⟨q, 0, none⟩), .agg x.t.cells.toArray] (fun _ _ => True) [POOL p most (H), blk q [.int .i32 0, .int .u32 0, .map none, .map none, .map none] 91] (.int .i64 1) [POOL p most (H), blk q [.int .i32 0, .int .u32 0, .map none, .map none, .map none] 91] := by
 refine Spec.enter (C := cx gl) Tryz.func35 rfl 87 rfl rfl fun w0 h0 hsep hsub hpre => ?_
 show St (cx gl) _ [(0, .pointer (some ⟨p, 0, none⟩)), (1, .agg (s.cells u v).toArray), (2, .pointer (some ⟨q, 0, none⟩)), (3, .agg x.t.cells.toArray)] _ _
 refine St.openP [] fun ⟨mh, mi⟩ _ => ?_
 refine St.unbundle [] (rT ?_)
 refine lO (W_box ((s.cells u v)) rfl rfl rfl rfl rfl fun b5 => ?_)
 refine lO (W_box (x.t.cells) rfl rfl rfl rfl rfl fun b7 => lA (k:=?_))
 refine lQ (cE 0 rfl (cE 2 rfl (cE 5 rfl (cE 7 rfl (cE 8 rfl .nil))))) (rS (rT (lM (k:=?_))))
 refine lO (W_callR rfl rfl rfl rfl fn_ca_109 (pmissing_ok p mh mi most) (Split.one (p := [_, _])) (fun _ _ _ _ _ _ _ => trivial) ?_)
 refine E_false (t := 16) rfl (rfl) (lM (k:=lM (k:=?_)))
 refine lO (W_callR rfl rfl rfl rfl fn_ca_110 (unmade_zero q) (Weak.pick (p := [_, _, _, _, _]) (Weak.keep (Weak.keep (Weak.keep (Weak.keep (Weak.keep (Weak.nil _))))))) (fun _ _ _ _ _ _ _ => trivial) ?_)
 refine E_true (t := 19) rfl (rfl) (lP pK (k:=?_))
 refine lQ (cE 0 rfl (cE 2 rfl (cE 5 rfl (cE 7 rfl (cE 8 rfl (cE 20 rfl .nil)))))) (kT (k:=rT (lA (k:=?_))))
 refine lQ (cE 0 rfl (cE 2 rfl (cE 5 rfl (cE 7 rfl (cE 8 rfl .nil))))) (R_ret (Q_then_ret ?_))
 exact R_end (rs2 := _) rfl rfl (.tmp rfl .nil) (⟨rfl, rfl⟩) (Weak.trans (Weak.pick (p := [_]) (Weak.pick (p := [_, _, _]) (Weak.pick (p := [_, _, _]) (Weak.keep (Weak.nil _))))) (pool_close (rs := [_])))
theorem ppick_nilreg {gl : Nat → Obj} (p : Nat) (most : Int) (H : List TxR) (s : StR) (u v : Value) (pv : Value) : SpecR (cx gl) 36 [.pointer (some ⟨p, 0, none⟩), .agg (s.cells u v).toArray, .pointer none, pv] (fun _ _ => True) [POOL p most (H)] (.slice none 0 0) [POOL p most (H)] := by
 refine Spec.enter (C := cx gl) Tryz.func36 rfl 88 rfl rfl fun w0 h0 hsep hsub hpre => ?_
 show St (cx gl) _ [(0, .pointer (some ⟨p, 0, none⟩)), (1, .agg (s.cells u v).toArray), (2, .pointer none), (3, pv)] _ _
 refine St.openP [] fun ⟨mh, mi⟩ _ => ?_
 refine St.unbundle [] (rT ?_)
 refine lO (W_box ((s.cells u v)) rfl rfl rfl rfl rfl fun b5 => lA (k:=?_))
 refine lQ (cE 0 rfl (cE 2 rfl (cE 3 rfl (cE 5 rfl (cE 8 rfl .nil))))) (rS (rT (lM (k:=?_))))
 refine lO (W_callR rfl rfl rfl rfl fn_ca_109 (pmissing_ok p mh mi most) (Split.one (p := [_])) (fun _ _ _ _ _ _ _ => trivial) ?_)
 refine E_false (t := 17) rfl (rfl) (lM (k:=lM (k:=?_)))
 refine lO (W_callV rfl rfl rfl rfl fn_ca_110 (unmade_nil) (fun _ _ => trivial) ?_)
 refine E_true (t := 20) rfl (rfl) (lP pK (k:=lM (k:=lN (k:=lN (k:=lN (k:=lP pK (k:=?_)))))))
 refine lQ (cE 0 rfl (cE 2 rfl (cE 3 rfl (cE 5 rfl (cE 8 rfl (cE 26 rfl .nil)))))) (kT (k:=rT (lA (k:=?_))))
 refine lQ (cE 0 rfl (cE 2 rfl (cE 3 rfl (cE 5 rfl (cE 8 rfl .nil))))) (R_ret (Q_then_ret ?_))
 exact R_end (rs2 := _) rfl rfl (.tmp rfl .nil) (⟨rfl, rfl⟩) (Weak.trans (Weak.keep (Weak.pick (p := [_]) (Weak.pick (p := [_]) (Weak.nil _)))) (pool_close (rs := [])))
theorem ppick_zeroreg {gl : Nat → Obj} (p : Nat) (most : Int) (H : List TxR) (q : Nat) (s : StR) (u v : Value) (pv : Value) : SpecR (cx gl) 36 [.pointer (some ⟨p, 0, none⟩), .agg (s.cells u v).toArray, .pointer (some ⟨q, 0, none⟩), pv] (fun _ _ => True) [POOL p most (H), blk q [.int .i32 0, .int .u32 0, .map none, .map none, .map none] 91] (.slice none 0 0) [POOL p most (H), blk q [.int .i32 0, .int .u32 0, .map none, .map none, .map none] 91] := by
 refine Spec.enter (C := cx gl) Tryz.func36 rfl 88 rfl rfl fun w0 h0 hsep hsub hpre => ?_
 show St (cx gl) _ [(0, .pointer (some ⟨p, 0, none⟩)), (1, .agg (s.cells u v).toArray), (2, .pointer (some ⟨q, 0, none⟩)), (3, pv)] _ _
 refine St.openP [] fun ⟨mh, mi⟩ _ => ?_
 refine St.unbundle [] (rT ?_)
 refine lO (W_box ((s.cells u v)) rfl rfl rfl rfl rfl fun b5 => lA (k:=?_))
 refine lQ (cE 0 rfl (cE 2 rfl (cE 3 rfl (cE 5 rfl (cE 8 rfl .nil))))) (rS (rT (lM (k:=?_))))
 refine lO (W_callR rfl rfl rfl rfl fn_ca_109 (pmissing_ok p mh mi most) (Split.one (p := [_])) (fun _ _ _ _ _ _ _ => trivial) ?_)
 refine E_false (t := 17) rfl (rfl) (lM (k:=lM (k:=?_)))
 refine lO (W_callR rfl rfl rfl rfl fn_ca_110 (unmade_zero q) (Weak.pick (p := [_, _, _, _]) (Weak.keep (Weak.keep (Weak.keep (Weak.keep (Weak.nil _)))))) (fun _ _ _ _ _ _ _ => trivial) ?_)
 refine E_true (t := 20) rfl (rfl) (lP pK (k:=lM (k:=lN (k:=lN (k:=lN (k:=lP pK (k:=?_)))))))
 refine lQ (cE 0 rfl (cE 2 rfl (cE 3 rfl (cE 5 rfl (cE 8 rfl (cE 26 rfl .nil)))))) (kT (k:=rT (lA (k:=?_))))
 refine lQ (cE 0 rfl (cE 2 rfl (cE 3 rfl (cE 5 rfl (cE 8 rfl .nil))))) (R_ret (Q_then_ret ?_))
 exact R_end (rs2 := _) rfl rfl (.tmp rfl .nil) (⟨rfl, rfl⟩) (Weak.trans (Weak.pick (p := [_]) (Weak.pick (p := [_, _]) (Weak.pick (p := [_, _]) (Weak.keep (Weak.nil _))))) (pool_close (rs := [_])))
set_option maxHeartbeats 1000000 in
theorem padd_room {gl : Nat → Obj} (hG : Globs gl) (p : Nat) (most : Int) (H : List TxR) (hP : PoolOk H) (q : Nat) (sg : List (Int × Nat)) (rc : List Rcd) (base : Option Addr) (c : Nat) (l : List Acc) (hc : l.length ≤ c) (hm : l.length ≤ 3518437208883)(hok : ∀ x ∈ l, x.ok) (v : Value) (hv : v.oneCell' = true) (s : StR) (hcb : IsB s.ch) (x : TxR) (hroom : heldAt H (keyT x) = none → (H.length : Int) < most) : SpecR (cx gl) 35 [.pointer (some ⟨p, 0, none⟩), .agg (s.cells (.slice base l.length c) v).toArray, .pointer (some ⟨q, 0, none⟩), .agg x.t.cells.toArray] (fun w hp => Seen w hp base (Go.Proofs.YtcngmkjdpoiiaaaGreatDoor.rc l)) [POOL p most (H), REG q sg rc] (.int .i64 (addE0 rc s.ch H l x)) [POOL p most ((addH0 rc s.ch H l x)), REG q sg rc] := by
 refine Spec.enter (C := cx gl) Tryz.func35 rfl 87 rfl rfl fun w0 h0 hsep hsub hpre => ?_
 show St (cx gl) _ [(0, .pointer (some ⟨p, 0, none⟩)), (1, .agg (s.cells (.slice base l.length c) v).toArray), (2, .pointer (some ⟨q, 0, none⟩)), (3, .agg x.t.cells.toArray)] _ _
 refine St.openP [] fun ⟨mh, mi⟩ _ => ?_
 refine St.unbundle [] (rT ?_)
 refine lO (W_box ((s.cells (.slice base l.length c) v)) rfl rfl rfl rfl rfl fun b5 => ?_)
 refine lO (W_box (x.t.cells) rfl rfl rfl rfl rfl fun b7 => lA (k:=?_))
 refine lQ (cE 0 rfl (cE 2 rfl (cE 5 rfl (cE 7 rfl (cE 8 rfl .nil))))) (rS (rS ?_))
 refine St.res (rs' := [blk p (poolC mh mi most) 78, mapK rec2K mh (hM (H)), mapK iK mi (iM (H)), REG q sg rc, blk b7 x.t.cells 67, blk b5 (s.cells (.slice base l.length c) v) 63]) (Weak.pick (p := [_, _]) (Weak.pick (p := [_, _]) (Weak.pick (p := [_, _]) (Weak.pick (p := [_, _]) (Weak.keep (Weak.keep (Weak.nil _))))))) (rR (lM (k:=?_)))
 refine lO (W_callR rfl rfl rfl rfl fn_ca_109 (pmissing_ok p mh mi most) (Split.one (p := [])) (fun _ _ _ _ _ _ _ => trivial) ?_)
 refine E_false (t := 16) rfl (rfl) (lM (k:=lM (k:=?_)))
 refine lO (W_callR rfl rfl rfl rfl fn_ca_110 (unmade_ok q sg rc) (Weak.pick (p := [_, _, _]) (Weak.keep (Weak.keep (Weak.keep (Weak.keep (Weak.keep (Weak.nil _))))))) (fun _ _ _ _ _ _ _ => trivial) ?_)
 refine E_false (t := 19) rfl (rfl) (lP pK (k:=?_))
 refine lQ (cE 0 rfl (cE 2 rfl (cE 5 rfl (cE 7 rfl (cE 8 rfl (cE 20 rfl .nil)))))) (kF (k:=R_skip (qT (rS (rS ?_)))))
 refine St.res (rs' := [POOL p most (H), REG q sg rc, blk b7 x.t.cells 67, blk b5 (s.cells (.slice base l.length c) v) 63]) (Weak.trans (Weak.pick (p := [_]) (Weak.pick (p := [_]) (Weak.pick (p := [_]) (Weak.keep (Weak.keep (Weak.keep (Weak.nil _))))))) (pool_close (rs := [_, _, _]))) (rR (lM (k:=?_)))
 refine lV (V_loadAgg rfl rfl ty_ag_63 (Rds.blk .h3) (s.len _ _)) (k:=lM (k:=?_))
 refine lV (V_loadAgg rfl rfl ty_ag_67 (Rds.blk .h2) (x.ok.cellsLen)) (k:=?_)
 refine lO (W_callR rfl rfl rfl rfl fn_ca_111 (plook_ok hG p most H q sg rc s hcb (.slice base l.length c) v x) (Weak.refl _) (fun _ _ _ _ _ _ _ => trivial) (lA (k:=?_)))
 refine lQ (cE 0 rfl (cE 5 rfl (cE 7 rfl (cE 8 rfl (cE 9 rfl .nil))))) (rT (lM (k:=lP pNe (k:=?_))))
 refine lQ (cE 0 rfl (cE 5 rfl (cE 7 rfl (cE 8 rfl (cE 9 rfl (cE 27 rfl .nil)))))) ?_
 refine R_condP rfl (fun h1 => ?_) (fun h1 => ?_)
 ·skip
  refine rT (lM (k:=lA (k:=?_)))
  refine lQ (cE 0 rfl (cE 5 rfl (cE 7 rfl (cE 8 rfl .nil)))) (R_ret (Q_then_ret ?_))
  exact R_end (rs2 := _) rfl rfl (.tmp rfl .nil) (⟨by rw [show addE0 rc s.ch H l x = lookE rc s.ch H x.t by unfold addE0; rw [if_pos h1]]; rfl, rfl⟩) (by rw [show (addH0 rc s.ch H l x) = H by unfold addH0; rw [if_neg]; rw [show addE0 rc s.ch H l x = lookE rc s.ch H x.t by unfold addE0; rw [if_pos h1]]; exact h1]; exact Weak.keep (Weak.keep (Weak.nil _)))
 ·skip
  have h1 : lookE rc s.ch H x.t = 0 := Classical.not_not.1 h1
  obtain ⟨hpx, htx, hsx, hid⟩ := lookFine_of h1
  refine R_skip (qT (rS (rT (lM (k:=?_)))))
  refine lV (V_loadAgg rfl rfl ty_ag_63 (Rds.blk .h3) (s.len _ _)) (k:=?_)
  refine lV (V_loadAgg rfl rfl ty_ag_67 (Rds.blk .h2) (x.ok.cellsLen)) (k:=?_)
  refine lO (W_callR rfl rfl rfl rfl fn_ca_112 (pfits_ok p most H hP base c l hc hm hok v hv s x hpx) (Split.one (p := [])) (Sn.pre (Sn.old hpre)) (lA (k:=?_)))
  refine lQ (cE 0 rfl (cE 7 rfl (cE 8 rfl (cE 10 rfl .nil)))) (rT (lM (k:=lP pNe (k:=?_))))
  refine lQ (cE 0 rfl (cE 7 rfl (cE 8 rfl (cE 10 rfl (cE 34 rfl .nil))))) ?_
  refine R_condP rfl (fun h2 => ?_) (fun h2 => ?_)
  ·skip
   refine rT (lM (k:=lA (k:=?_)))
   refine lQ (cE 0 rfl (cE 7 rfl (cE 8 rfl .nil))) (R_ret (Q_then_ret ?_))
   exact R_end (rs2 := _) rfl rfl (.tmp rfl .nil) (⟨by rw [show addE0 rc s.ch H l x = fitE H l x by unfold addE0; rw [if_neg (by rw [h1]; simp), if_pos h2]]; rfl, rfl⟩) (by rw [show (addH0 rc s.ch H l x) = H by unfold addH0; rw [if_neg]; rw [show addE0 rc s.ch H l x = fitE H l x by unfold addE0; rw [if_neg (by rw [h1]; simp), if_pos h2]]; exact h2]; exact Weak.keep (Weak.keep (Weak.nil _)))
  ·skip
   have h2 : fitE H l x = 0 := Classical.not_not.1 h2
   refine R_skip (qT ?_)
   refine R_joinE (G := Unit) (cE 0 rfl (cE 7 rfl (cE 8 rfl .nil))) (fun g => []) (fun g => [POOL p most (H), REG q sg rc, blk b7 x.t.cells 67, blk b5 (s.cells (.slice base l.length c) v) 63]) (fun g => addE0 rc s.ch H l x = 0) ?_ ?_
   ·skip
    refine rS ?_
    refine St.openP [] fun ⟨mh, mi⟩ _ => ?_
    refine St.unbundle [] ?_
    refine R_open [(0, 0), (1, 0), (2, 0), (3, 1), (4, 0), (5, 1), (6, 0), (7, 1), (8, 0), (9, 1), (10, 0), (11, 0), (12, 0), (13, 2), (14, 3), (15, 0)] mixed (by kernel_rfl) (QOk.then (QOk.then QOk.body)) (oP rfl pM (k:=oP rfl pN (k:=oP rfl (pF ty_fl_78_1) (k:=oV rfl (vB ty_sc_75 .h0) (k:=oP rfl (pF ty_fl_67_1) (k:=oV rfl (vB ty_sc_26 .h4) (k:=oP rfl (pF ty_fl_67_5) (k:=oV rfl (vB ty_sc_23 .h4) (k:=?_)))))))))
    refine oP rfl (P_buildStruct rfl ty_pl_207 ty_ze_207 rfl rfl (rfl)) (k:=?_)
    refine E_as (t := 45) (v' := rec2K (keyT x)) rfl (rfl) ?_
    refine oV rfl (V_lookupK (k := keyT x) rfl ty_map_75 (keyRec2 rec2_key) rfl rfl (trivial) (fun _ _ => trivial) .h1 (run_zeroValue_of ty_zv_67)) (k:=oP rfl pM (k:=?_))
    refine E_as (t := 36) (v' := .tuple #[.agg ((heldAt H (keyT x)).getD txrz).t.cells.toArray, .bool (heldAt H (keyT x)).isSome]) rfl (by rw [look_held]) (oP rfl pX (k:=oP rfl pX (k:=?_)))
    refine O_keep rfl rfl (W_alloc rfl rfl rfl ty_ze_67 fun b11 => (K_keep (Weak.drop (Weak.refl _)) ?_))
    refine O_new rfl rfl (W_storeAll rfl rfl rfl rfl ty_ag_67 (((heldAt H (keyT x)).getD txrz).ok.cellsLen) (Tx.one _) .h0 (((heldAt H (keyT x)).getD txrz).ok.cellsLen) (K_new (oP rfl pA (k:=O_nil ?_))))
    refine St.env (cE 0 rfl (cE 7 rfl (cE 8 rfl (cE 11 rfl (cE 12 rfl .nil))))) (qT (rT (lM (k:=?_))))
    refine lQ (cE 0 rfl (cE 7 rfl (cE 8 rfl (cE 11 rfl (cE 49 rfl .nil))))) ?_
    refine R_cond rfl (fun hs => ?_) (fun hs => ?_)
    ·skip
     obtain ⟨y, hy⟩ := Option.isSome_iff_exists.1 hs
     refine rT (lP (pF ty_fl_67_4) (k:=lV (vB ty_sc_23 .h5) (k:=lP (pF ty_fl_67_4) (k:=lV (vB ty_sc_23 .h0) (k:=?_)))))
     refine E_as (t := 53) (v' := .int .u64 (y.t.fee)) rfl (by rw [hy]; rfl) (lP pLe (k:=?_))
     refine lQ (cE 0 rfl (cE 7 rfl (cE 8 rfl (cE 54 rfl .nil)))) ?_
     refine R_condP rfl (fun h3 => ?_) (fun h3 => ?_)
     ·skip
      refine rT (lA (k:=?_))
      refine lQ (cE 0 rfl (cE 7 rfl (cE 8 rfl .nil))) (R_ret (Q_then_ret ?_))
      exact R_end (rs2 := _) rfl rfl (.tmp rfl .nil) (⟨by rw [show addE0 rc s.ch H l x = 94 by unfold addE0; rw [if_neg (by rw [h1]; simp), if_neg (by rw [h2]; simp), if_pos ⟨hs, by rw [hy]; exact h3⟩]]; rfl, rfl⟩) (by rw [show (addH0 rc s.ch H l x) = H by unfold addH0; rw [if_neg]; rw [show addE0 rc s.ch H l x = 94 by unfold addE0; rw [if_neg (by rw [h1]; simp), if_neg (by rw [h2]; simp), if_pos ⟨hs, by rw [hy]; exact h3⟩]]; decide]; exact Weak.trans (Weak.pick (p := [_]) (Weak.pick (p := [_]) (Weak.pick (p := [_]) (Weak.pick (p := [_]) (Weak.nil _))))) (pool_close (rs := [_])))
     ·skip
      refine R_skip ?_
      exact Q_meet () (by show addE0 rc s.ch H l x = 0; unfold addE0; rw [if_neg (by rw [h1]; simp), if_neg (by rw [h2]; simp), if_neg]; rintro ⟨_, h9⟩; rw [hy] at h9; exact h3 h9) (by repeat (first | exact .nil | refine .cons rfl ?_ | refine .consE rfl (by first | rfl | (congr 1; omega) | (congr 1; push_cast; omega)) ?_)) (Weak.trans (Weak.pick (p := [_]) (Weak.pick (p := [_]) (Weak.pick (p := [_]) (Weak.pick (p := [_]) (Weak.pick (p := [_]) (Weak.pick (p := [_]) (Weak.nil _))))))) (pool_close (rs := [_, _, _])))
    ·skip
     have hnn : heldAt H (keyT x) = none := by cases h9 : heldAt H (keyT x) with | none => rfl | some y => rw [h9] at hs; cases hs
     have hrm := hroom hnn
     refine rS ?_
     refine R_open [(0, 0), (1, 0), (2, 0), (3, 1), (4, 1), (5, 0), (6, 0), (7, 0), (8, 1), (9, 0)] mixed (by kernel_rfl) (QOk.then (QOk.then QOk.body)) (oP rfl pM (k:=oP rfl pN (k:=oP rfl (pF ty_fl_78_1) (k:=oV rfl (vB ty_sc_75 .h1) (k:=?_)))))
     refine oV rfl (V_lenMapK rfl ty_map_75 rfl .h2) (k:=oP rfl pM (k:=oP rfl pN (k:=oP rfl (pF ty_fl_78_0) (k:=oV rfl (vB ty_sc_3 .h1) (k:=oP rfl pGe (k:=?_))))))
     refine E_false (t := 64) rfl (decide_eq_false (by rw [show (hM H).length = H.length from List.length_map ..]; omega)) (O_nil ?_)
     refine St.env (cE 0 rfl (cE 7 rfl (cE 8 rfl (cE 64 rfl .nil)))) (qT (kF (k:=R_skip ?_)))
     exact Q_meet () (by show addE0 rc s.ch H l x = 0; unfold addE0; rw [if_neg (by rw [h1]; simp), if_neg (by rw [h2]; simp), if_neg]; rintro ⟨h9, _⟩; rw [hs] at h9; cases h9) (by repeat (first | exact .nil | refine .cons rfl ?_ | refine .consE rfl (by first | rfl | (congr 1; omega) | (congr 1; push_cast; omega)) ?_)) (Weak.trans (Weak.pick (p := [_]) (Weak.pick (p := [_]) (Weak.pick (p := [_]) (Weak.pick (p := [_]) (Weak.pick (p := [_]) (Weak.pick (p := [_]) (Weak.nil _))))))) (pool_close (rs := [_, _, _])))
   ·rintro ⟨⟩ hinv
    replace hinv : addE0 rc s.ch H l x = 0 := hinv
    show St (cx gl) _ _ [POOL p most (H), REG q sg rc, blk b7 x.t.cells 67, blk b5 (s.cells (.slice base l.length c) v) 63] _
    have hae := hinv
    refine rT (lM (k:=?_))
    refine lV (V_loadAgg rfl rfl ty_ag_67 (Rds.blk .h2) (x.ok.cellsLen)) (k:=?_)
    refine lO (W_callR rfl rfl rfl rfl fn_ca_115 (pput_ok p most H hG hP x hid) (Split.one (p := [])) (fun _ _ _ _ _ _ _ => trivial) ?_)
    refine lQ (cE 8 rfl .nil) (rT (lA (k:=?_)))
    refine L_nil (qT (R_ret ?_))
    exact R_end (rs2 := _) rfl rfl (.tmp rfl .nil) (⟨by rw [hae]; rfl, rfl⟩) (by rw [show (addH0 rc s.ch H l x) = putH x H from if_pos hae]; exact Weak.keep (Weak.keep (Weak.nil _)))
end Go.Proofs.YtcngmkjdpoiiaaaGreatDoor

/- PoolNil: the walk. Printed by gen.py. -/
set_option maxRecDepth 100000
namespace Go.Proofs.YtcngmkjdpoiiaaaGreatDoor
open Go Go.RowKit Go.Proofs
def zN : Nums 32 := ⟨zero32, rfl⟩
theorem num_ok {gl : Nat → Obj} (e : Int) : SpecV (cx gl) 33 [.int .i64 e] noPre (.int .i64 e) := by
 refine Spec.enter (C := cx gl) Tryz.func33 rfl 4 rfl rfl fun w0 h0 hsep hsub hpre => ?_
 obtain rfl : h0 = Heap.none := hsep
 show St (cx gl) _ [(0, .int .i64 (e))] _ _
 refine rT (lA (k:=?_))
 refine L_nil (qT (rT (lM (k:=lA (k:=?_)))))
 refine lQ (cE 2 rfl .nil) (R_ret ?_)
 exact R_endV rfl rfl (.tmp rfl .nil) (rfl)
theorem nothing_nil {gl : Nat → Obj} (s : StR) (u v : Value) (rv pv : Value) (x : TxR) : SpecV (cx gl) 34 [.pointer none, .agg (s.cells u v).toArray, rv, .agg x.t.cells.toArray, pv] noPre (.bool true) := by
 refine Spec.enter (C := cx gl) Tryz.func34 rfl 49 rfl rfl fun w0 h0 hsep hsub hpre => ?_
 obtain rfl : h0 = Heap.none := hsep
 show St (cx gl) _ [(0, .pointer none), (1, .agg (s.cells u v).toArray), (2, rv), (3, .agg x.t.cells.toArray), (4, pv)] _ _
 refine rT ?_
 refine lO (W_box ((s.cells u v)) rfl rfl rfl rfl rfl fun b6 => ?_)
 refine lO (W_box (x.t.cells) rfl rfl rfl rfl rfl fun b8 => lA (k:=?_))
 refine lQ (cE 0 rfl (cE 2 rfl (cE 4 rfl (cE 6 rfl (cE 8 rfl (cE 10 rfl .nil)))))) (rS (rT (lM (k:=?_))))
 refine lV (V_loadAgg rfl rfl ty_ag_63 (Rds.blk .h1) (s.len _ _)) (k:=lM (k:=?_))
 refine lV (V_loadAgg rfl rfl ty_ag_67 (Rds.blk .h0) (x.ok.cellsLen)) (k:=?_)
 refine lO (W_callV rfl rfl rfl rfl fn_ca_35 (padd_nil s u v rv x) (fun _ _ => trivial) ?_)
 refine lO (W_callV rfl rfl rfl rfl fn_ca_33 (num_ok 1) (fun _ _ => trivial) (lP pNe (k:=?_)))
 refine E_false (t := 17) rfl (rfl) (lM (k:=lM (k:=?_)))
 refine lV (V_loadAgg rfl rfl ty_ag_63 (Rds.blk .h1) (s.len _ _)) (k:=lM (k:=lM (k:=?_)))
 refine lO (W_callV rfl rfl rfl rfl fn_ca_36 (ppick_nil s u v rv pv) (fun _ _ => trivial) (lP (pL ty_sl_92) (k:=lP pNe (k:=?_))))
 refine E_false (t := 25) rfl (rfl) (lP pK (k:=lM (k:=lM (k:=?_))))
 refine lV (V_loadAgg rfl rfl ty_ag_63 (Rds.blk .h1) (s.len _ _)) (k:=?_)
 refine lO (W_callV rfl rfl rfl rfl fn_ca_45 (precheck_nil s u v) (fun _ _ => trivial) (lP (pL ty_sl_92) (k:=lP pNe (k:=?_))))
 refine E_false (t := 32) rfl (rfl) (lP pK (k:=?_))
 refine lQ (cE 0 rfl (cE 10 rfl (cE 33 rfl .nil))) (kF (k:=R_skip (qT (rT (lM (k:=?_))))))
 refine lP (P_buildArrR rfl ty_ar_40 ty_ze_40 rfl rfl rfl (by first | decide | (simp only [List.length_cons, List.length_nil]; omega)) (by simp [Value.oneCell'])) (k:=?_)
 refine E_as (t := 35) (v' := .agg (ints .u8 zN.1).toArray) rfl (rfl) ?_
 refine lO (W_callV rfl rfl rfl rfl fn_ca_108 (phas_nil zN) (fun _ _ => trivial) (lP pO (k:=?_)))
 refine E_true (t := 37) rfl (rfl) (lM (k:=lM (k:=?_)))
 refine lO (W_callV rfl rfl rfl rfl fn_ca_51 (plen_nil) (fun _ _ => trivial) (lP pEq (k:=?_)))
 refine E_true (t := 41) rfl (rfl) (lP pK (k:=lM (k:=lM (k:=?_))))
 refine lO (W_callV rfl rfl rfl rfl fn_ca_47 (plist_nil) (fun _ _ => trivial) (lP (pL ty_sl_92) (k:=lP pEq (k:=?_))))
 refine E_true (t := 47) rfl (rfl) (lP pK (k:=lA (k:=?_)))
 refine lQ (cE 10 rfl .nil) (R_ret ?_)
 exact R_endV rfl rfl (.tmp rfl .nil) (rfl)
theorem nothing_zero {gl : Nat → Obj} (p : Nat) (s : StR) (u v : Value) (rv pv : Value) (x : TxR) : SpecR (cx gl) 34 [.pointer (some ⟨p, 0, none⟩), .agg (s.cells u v).toArray, rv, .agg x.t.cells.toArray, pv] (fun _ _ => True) [blk p [.int .i64 0, .map none, .map none] 78] (.bool true) [blk p [.int .i64 0, .map none, .map none] 78] := by
 refine Spec.enter (C := cx gl) Tryz.func34 rfl 49 rfl rfl fun w0 h0 hsep hsub hpre => ?_
 show St (cx gl) _ [(0, .pointer (some ⟨p, 0, none⟩)), (1, .agg (s.cells u v).toArray), (2, rv), (3, .agg x.t.cells.toArray), (4, pv)] _ _
 refine rT ?_
 refine lO (W_box ((s.cells u v)) rfl rfl rfl rfl rfl fun b6 => ?_)
 refine lO (W_box (x.t.cells) rfl rfl rfl rfl rfl fun b8 => lA (k:=?_))
 refine lQ (cE 0 rfl (cE 2 rfl (cE 4 rfl (cE 6 rfl (cE 8 rfl (cE 10 rfl .nil)))))) (rS (rT (lM (k:=?_))))
 refine lV (V_loadAgg rfl rfl ty_ag_63 (Rds.blk .h1) (s.len _ _)) (k:=lM (k:=?_))
 refine lV (V_loadAgg rfl rfl ty_ag_67 (Rds.blk .h0) (x.ok.cellsLen)) (k:=?_)
 refine lO (W_callR rfl rfl rfl rfl fn_ca_35 (padd_zero p s u v rv x) (Split.one (p := [_, _])) (fun _ _ _ _ _ _ _ => trivial) ?_)
 refine lO (W_callV rfl rfl rfl rfl fn_ca_33 (num_ok 1) (fun _ _ => trivial) (lP pNe (k:=?_)))
 refine E_false (t := 17) rfl (rfl) (lM (k:=lM (k:=?_)))
 refine lV (V_loadAgg rfl rfl ty_ag_63 (Rds.blk .h2) (s.len _ _)) (k:=lM (k:=lM (k:=?_)))
 refine lO (W_callR rfl rfl rfl rfl fn_ca_36 (ppick_zero p s u v rv pv) (Split.one (p := [])) (fun _ _ _ _ _ _ _ => trivial) (lP (pL ty_sl_92) (k:=lP pNe (k:=?_))))
 refine E_false (t := 25) rfl (rfl) (lP pK (k:=lM (k:=lM (k:=?_))))
 refine lV (V_loadAgg rfl rfl ty_ag_63 (Rds.blk .h2) (s.len _ _)) (k:=?_)
 refine lO (W_callR rfl rfl rfl rfl fn_ca_45 (precheck_zero p s u v) (Split.one (p := [])) (fun _ _ _ _ _ _ _ => trivial) (lP (pL ty_sl_92) (k:=lP pNe (k:=?_))))
 refine E_false (t := 32) rfl (rfl) (lP pK (k:=?_))
 refine lQ (cE 0 rfl (cE 10 rfl (cE 33 rfl .nil))) (kF (k:=R_skip (qT (rT (lM (k:=?_))))))
 refine lP (P_buildArrR rfl ty_ar_40 ty_ze_40 rfl rfl rfl (by first | decide | (simp only [List.length_cons, List.length_nil]; omega)) (by simp [Value.oneCell'])) (k:=?_)
 refine E_as (t := 35) (v' := .agg (ints .u8 zN.1).toArray) rfl (rfl) ?_
 refine lO (W_callR rfl rfl rfl rfl fn_ca_108 (phas_zero p zN) (Split.one (p := [])) (fun _ _ _ _ _ _ _ => trivial) (lP pO (k:=?_)))
 refine E_true (t := 37) rfl (rfl) (lM (k:=lM (k:=?_)))
 refine lO (W_callR rfl rfl rfl rfl fn_ca_51 (plen_zero p) (Split.one (p := [])) (fun _ _ _ _ _ _ _ => trivial) (lP pEq (k:=?_)))
 refine E_true (t := 41) rfl (rfl) (lP pK (k:=lM (k:=lM (k:=?_))))
 refine lO (W_callR rfl rfl rfl rfl fn_ca_47 (plist_zero p) (Split.one (p := [])) (fun _ _ _ _ _ _ _ => trivial) (lP (pL ty_sl_92) (k:=lP pEq (k:=?_))))
 refine E_true (t := 47) rfl (rfl) (lP pK (k:=lA (k:=?_)))
 refine lQ (cE 10 rfl .nil) (R_ret ?_)
 exact R_end (rs2 := _) rfl rfl (.tmp rfl .nil) (⟨rfl, rfl⟩) (Weak.keep (Weak.nil _))
set_option maxHeartbeats 1000000 in
theorem poolNil_walk {gl : Nat → Obj} (hG : Globs gl) (base : Option Addr) (c : Nat) (l : List Acc) (hc : l.length ≤ c) (hm : l.length ≤ 3518437208883)(hok : ∀ x ∈ l, x.ok) (v : Value) (hv : v.oneCell' = true) (s : StR) (hcb : IsB s.ch) (x : TxR) (pr : Int) : SpecV (cx gl) 4 [.agg (s.cells (.slice base l.length c) v).toArray, .agg x.t.cells.toArray, .int .u64 (pr)] (fun w => Row w base (Go.Proofs.YtcngmkjdpoiiaaaGreatDoor.rc l)) (.bool true) := by
 refine Spec.enter (C := cx gl) Tryz.func4 rfl 90 rfl rfl fun w0 h0 hsep hsub hpre => ?_
 obtain rfl : h0 = Heap.none := hsep
 show St (cx gl) _ [(0, .agg (s.cells (.slice base l.length c) v).toArray), (1, .agg x.t.cells.toArray), (2, .int .u64 (pr))] _ _
 refine rT ?_
 refine lO (W_box ((s.cells (.slice base l.length c) v)) rfl rfl rfl rfl rfl fun b3 => ?_)
 refine lO (W_box (x.t.cells) rfl rfl rfl rfl rfl fun b4 => lA (k:=?_))
 refine lQ (cE 2 rfl (cE 3 rfl (cE 4 rfl (cE 6 rfl .nil)))) (rT (lA (k:=?_)))
 refine L_nil (qT (rT (lA (k:=?_))))
 refine L_nil (qT (rT ?_))
 refine lO (W_call rfl rfl rfl rfl fn_ca_31 (snew_ok) (Split.nil _) (fun _ _ _ _ _ _ _ => trivial) fun v1 rs1 ⟨q, e1, e2⟩ => ?_)
 subst e1; subst e2
 refine lA (k:=?_)
 refine lQ (cE 2 rfl (cE 3 rfl (cE 4 rfl (cE 6 rfl (cE 7 rfl (cE 8 rfl (cE 9 rfl .nil))))))) (rT ?_)
 refine lO (W_call rfl rfl rfl rfl fn_ca_32 (pnew_ok 1 (by decide) (by decide)) (Split.nil _) (fun _ _ _ _ _ _ _ => trivial) fun v2 rs2 ⟨p, e1, e2⟩ => ?_)
 subst e1; subst e2
 refine St.res (rs' := [POOL p 1 [], REG q [] [], blk b4 x.t.cells 67, blk b3 (s.cells (.slice base l.length c) v) 63]) (Weak.refl _) (lM (k:=lP pX (k:=lP pX (k:=lA (k:=lA (k:=?_))))))
 refine lQ (cE 2 rfl (cE 3 rfl (cE 4 rfl (cE 6 rfl (cE 7 rfl (cE 8 rfl (cE 9 rfl (cE 10 rfl (cE 11 rfl .nil))))))))) (rS (rT (lM (k:=?_))))
 refine lP (P_eqNil rfl ty_ptr_69 rfl rfl) (k:=lM (k:=lM (k:=?_)))
 refine lP (P_eqNil rfl ty_ptr_68 rfl rfl) (k:=lP pK (k:=lM (k:=lM (k:=?_))))
 refine lO (W_callV rfl rfl rfl rfl fn_ca_33 (num_ok 0) (fun _ _ => trivial) (lP pNe (k:=?_)))
 refine E_false (t := 26) rfl (rfl) (lP pK (k:=lM (k:=lM (k:=?_))))
 refine lV (V_loadAgg rfl rfl ty_ag_63 (Rds.blk .h3) (s.len _ _)) (k:=lM (k:=?_))
 refine lV (V_loadAgg rfl rfl ty_ag_67 (Rds.blk .h2) (x.ok.cellsLen)) (k:=lM (k:=?_))
 refine lO (W_callV rfl rfl rfl rfl fn_ca_34 (nothing_nil s (.slice base l.length c) v (.pointer (some ⟨q, 0, none⟩)) (.int .u64 (pr)) x) (fun _ _ => trivial) (lP pO (k:=?_)))
 refine E_false (t := 35) rfl (rfl) (lP pK (k:=lM (k:=?_)))
 refine lP (P_buildStruct rfl ty_pl_78 ty_ze_78 rfl rfl (rfl)) (k:=?_)
 refine E_as (t := 38) (v' := .agg [.int .i64 0, .map none, .map none].toArray) rfl (rfl) ?_
 refine lO (W_box ([.int .i64 0, .map none, .map none]) rfl rfl rfl rfl rfl fun b39 => ?_)
 refine lV (V_loadAgg rfl rfl ty_ag_63 (Rds.blk .h4) (s.len _ _)) (k:=lM (k:=?_))
 refine lV (V_loadAgg rfl rfl ty_ag_67 (Rds.blk .h3) (x.ok.cellsLen)) (k:=lM (k:=?_))
 refine lO (W_callR rfl rfl rfl rfl fn_ca_34 (nothing_zero b39 s (.slice base l.length c) v (.pointer (some ⟨q, 0, none⟩)) (.int .u64 (pr)) x) (Split.one (p := [])) (fun _ _ _ _ _ _ _ => trivial) (lP pO (k:=?_)))
 refine E_false (t := 45) rfl (rfl) (lP pK (k:=?_))
 refine lQ (cE 2 rfl (cE 3 rfl (cE 4 rfl (cE 6 rfl (cE 8 rfl (cE 9 rfl (cE 10 rfl (cE 46 rfl .nil)))))))) (kF (k:=R_skip (qT (rS (rS ?_)))))
 refine St.res (rs' := [POOL p 1 [], REG q [] [], blk b4 x.t.cells 67, blk b3 (s.cells (.slice base l.length c) v) 63]) (Weak.pick (p := [_]) (Weak.pick (p := [_]) (Weak.pick (p := [_]) (Weak.pick (p := [_]) (Weak.nil _))))) (rR (lM (k:=?_)))
 refine lV (V_loadAgg rfl rfl ty_ag_63 (Rds.blk .h3) (s.len _ _)) (k:=lM (k:=?_))
 refine lV (V_loadAgg rfl rfl ty_ag_67 (Rds.blk .h2) (x.ok.cellsLen)) (k:=?_)
 refine lO (W_callR rfl rfl rfl rfl fn_ca_35 (padd_nilreg p 1 [] s (.slice base l.length c) v x) (Split.one (p := [])) (fun _ _ _ _ _ _ _ => trivial) ?_)
 refine lO (W_callV rfl rfl rfl rfl fn_ca_33 (num_ok 1) (fun _ _ => trivial) (lP pNe (k:=?_)))
 refine E_false (t := 53) rfl (rfl) (lM (k:=lM (k:=?_)))
 refine lV (V_loadAgg rfl rfl ty_ag_63 (Rds.blk .h3) (s.len _ _)) (k:=?_)
 refine lP (P_buildStruct rfl ty_pl_91 ty_ze_91 rfl rfl (rfl)) (k:=?_)
 refine E_as (t := 57) (v' := .agg [.int .i32 0, .int .u32 0, .map none, .map none, .map none].toArray) rfl (rfl) ?_
 refine lO (W_box ([.int .i32 0, .int .u32 0, .map none, .map none, .map none]) rfl rfl rfl rfl rfl fun b58 => ?_)
 refine lV (V_loadAgg rfl rfl ty_ag_67 (Rds.blk .h3) (x.ok.cellsLen)) (k:=?_)
 refine lO (W_callR rfl rfl rfl rfl fn_ca_35 (padd_zeroreg p 1 [] b58 s (.slice base l.length c) v x) (Weak.pick (p := [_]) (Weak.keep (Weak.keep (Weak.keep (Weak.keep (Weak.nil _)))))) (fun _ _ _ _ _ _ _ => trivial) ?_)
 refine lO (W_callV rfl rfl rfl rfl fn_ca_33 (num_ok 1) (fun _ _ => trivial) (lP pNe (k:=?_)))
 refine E_false (t := 62) rfl (rfl) (lP pK (k:=?_))
 refine lQ (cE 2 rfl (cE 3 rfl (cE 4 rfl (cE 6 rfl (cE 8 rfl (cE 9 rfl (cE 10 rfl (cE 63 rfl .nil)))))))) (kF (k:=R_skip (qT (rS ?_))))
 refine St.res (rs' := [POOL p 1 [], REG q [] [], blk b4 x.t.cells 67, blk b3 (s.cells (.slice base l.length c) v) 63]) (Weak.keep (Weak.pick (p := [_]) (Weak.pick (p := [_]) (Weak.pick (p := [_]) (Weak.nil _))))) (rR (lM (k:=?_)))
 refine lV (V_loadAgg rfl rfl ty_ag_63 (Rds.blk .h3) (s.len _ _)) (k:=lM (k:=lM (k:=?_)))
 refine lO (W_callR rfl rfl rfl rfl fn_ca_36 (ppick_nilreg p 1 [] s (.slice base l.length c) v (.int .u64 (pr))) (Split.one (p := [])) (fun _ _ _ _ _ _ _ => trivial) (lP (pL ty_sl_92) (k:=lP pEq (k:=?_))))
 refine E_true (t := 70) rfl (rfl) (lM (k:=lM (k:=?_)))
 refine lV (V_loadAgg rfl rfl ty_ag_63 (Rds.blk .h3) (s.len _ _)) (k:=?_)
 refine lP (P_buildStruct rfl ty_pl_91 ty_ze_91 rfl rfl (rfl)) (k:=?_)
 refine E_as (t := 74) (v' := .agg [.int .i32 0, .int .u32 0, .map none, .map none, .map none].toArray) rfl (rfl) ?_
 refine lO (W_box ([.int .i32 0, .int .u32 0, .map none, .map none, .map none]) rfl rfl rfl rfl rfl fun b75 => lM (k:=?_))
 refine lO (W_callR rfl rfl rfl rfl fn_ca_36 (ppick_zeroreg p 1 [] b75 s (.slice base l.length c) v (.int .u64 (pr))) (Weak.pick (p := [_]) (Weak.keep (Weak.keep (Weak.keep (Weak.keep (Weak.nil _)))))) (fun _ _ _ _ _ _ _ => trivial) (lP (pL ty_sl_92) (k:=lP pEq (k:=?_))))
 refine E_true (t := 79) rfl (rfl) (lP pK (k:=lM (k:=lM (k:=?_))))
 refine lV (V_loadAgg rfl rfl ty_ag_63 (Rds.blk .h4) (s.len _ _)) (k:=lM (k:=?_))
 refine lV (V_loadAgg rfl rfl ty_ag_67 (Rds.blk .h3) (x.ok.cellsLen)) (k:=?_)
 refine lO (W_callR rfl rfl rfl rfl fn_ca_35 (padd_room hG p 1 [] PoolOk.nil q [] [] base c l hc hm hok v hv s hcb x (fun _ => by decide)) (Weak.keep (Weak.pick (p := [_]) (Weak.keep (Weak.keep (Weak.keep (Weak.nil _)))))) (Sn.pre (Sn.row hpre rfl)) ?_)
 refine lO (W_callV rfl rfl rfl rfl fn_ca_33 (num_ok (addE0 [] s.ch [] l x)) (fun _ _ => trivial) (lP pNe (k:=?_)))
 refine E_true (t := 88) rfl (decide_eq_true (addE0_ne1 _ _ _ _ _)) (lP pK (k:=lA (k:=?_)))
 refine lQ (cE 6 rfl .nil) (R_ret ?_)
 exact R_endV rfl rfl (.tmp rfl .nil) (rfl)
end Go.Proofs.YtcngmkjdpoiiaaaGreatDoor

/- What the listed variables hold. Printed by gen.py. -/
set_option maxRecDepth 100000
namespace Go.Proofs.YtcngmkjdpoiiaaaGreatDoor
open Go Go.RowKit Go.ChangeShapes Go.WideShapes Go.Proofs
theorem ownNone : ownKnob Tryz.prog.godebug = none := by kernel_rfl
theorem gAdds : Tryz.prog.globalNamed "assent/digest.adds" = some 4 := by kernel_rfl
theorem gBegin : Tryz.prog.globalNamed "assent/digest.begin" = some 3 := by kernel_rfl
theorem tAdds : (Tryz.prog.globals[4]?).map (·.type) = some 352 := by kernel_rfl
theorem tBegin : (Tryz.prog.globals[3]?).map (·.type) = some 285 := by kernel_rfl
theorem cells_82 : Tryz.prog.cellsOf 82 = 1 := by kernel_rfl
theorem cells_352 : Tryz.prog.cellsOf 352 = 64 := by kernel_rfl
theorem cells_285 : Tryz.prog.cellsOf 285 = 8 := by kernel_rfl
theorem arr_of_laid {H : Type} {enc : TypeId × Value → H} {W : World} {base : Nat} {sp : Nat → Bool} {hd : Bool} {t n fuel : Nat} {cs : Array Value} {zs : List Int} {ps : List MemPlace} (ht : Tryz.prog.underlying t = some (.array n 82)) (hc : Tryz.prog.cellsOf t = n)
  (h : DataW.trod enc Tryz.prog W base sp hd fuel t cs.toList = some (.agg (lits .u32 zs), ps)) : cs = (ints .u32 zs).toArray := by
 obtain ⟨ys, h1, _, h3, _⟩ := open_intArr ht ty_int_82 cells_82 hc h
 simp only [Prod.mk.injEq, DataW.agg.injEq] at h3
 rw [lits_inj h3.1, ← h1]
theorem glob_of {W : World} {i : Nat} {o : Obj} (h : W.heap[i]? = some o) : (W.heap[i]?).getD default = o := by rw [h]; rfl
noncomputable def laid2 : List (String × DataW Unit) := [("assent/digest.adds", Rows.laid_assent_digest_adds), ("assent/digest.begin", Rows.laid_assent_digest_begin)]
theorem laid2_door (os : Os) (args : Array Value) : laidMetH Tryz.prog laid2 ((World.doorLaid Tryz.prog 400 os).forCall (fun _ _ => 0) ⟨#[], args, []⟩).memory :=
 laidMetH_of_parts3 (fuel := 8) (laidMet_of_run' 8 (by kernel_rfl) (by kernel_rfl)) (by kernel_rfl) (by kernel_rfl)
theorem globs2_of_laid {W : World} (h : laidMetH Tryz.prog laid2 W) : ∃ gl, Globs gl ∧ (cx gl).ok W := by
 rw [MakeChecks.laidMetH_plain _ _ _ (by kernel_rfl)] at h
 obtain ⟨ps, ⟨g1, t1, cs1, f1, p1, q1, hg1, ht1, hv1, hd1, ⟨g2, t2, cs2, f2, p2, q2, hg2, ht2, hv2, hd2, _, _⟩, _⟩, _, _⟩ := h
 obtain rfl := Option.some.inj (gAdds.symm.trans hg1)
 obtain rfl := Option.some.inj (gBegin.symm.trans hg2)
 obtain rfl := Option.some.inj (tAdds.symm.trans ht1)
 obtain rfl := Option.some.inj (tBegin.symm.trans ht2)
 obtain rfl := arr_of_laid (zs := addsK) ty_un_352 cells_352 hd1
 obtain rfl := arr_of_laid (zs := beginK) ty_un_285 cells_285 hd2
 obtain ⟨T1, r1, e1⟩ := var_heap gAdds hv1
 obtain ⟨T2, r2, e2⟩ := var_heap gBegin hv2
 refine ⟨fun i => (W.heap[i]?).getD default, ⟨⟨T2, r2, glob_of e2⟩, ⟨T1, r1, glob_of e1⟩⟩, fun i hi => ?_⟩
 have hi : i < 5 := hi
 have hs := lt_of_some (w := W) e1
 show W.heap[i]? = some ((W.heap[i]?).getD default)
 rw [Array.getElem?_eq_getElem (by omega)]; rfl
end Go.Proofs.YtcngmkjdpoiiaaaGreatDoor
