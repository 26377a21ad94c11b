/- Texts that poolChainUpto_holds leans on, part 4: each says at its head what it holds; no condition beyond its theorems' own. -/
import Derived.Test.YtcngmkjdpoiiaaaGreatDoorMs3
import Derived.Test.YtcngmkjdpoiiaaaGreatDoorChecked
set_option linter.unusedVariables false
set_option linter.unusedSimpArgs false
set_option linter.unusedSectionVars false
/- Walks: made, Check. Printed by gen.py. -/
set_option maxRecDepth 100000
namespace Go.Proofs.YtcngmkjdpoiiaaaGreatDoor
open Go Go.RowKit Go.Proofs
theorem made_ok {gl : Nat → Obj} (q : Nat) (sg : List (Int × Nat)) (rc : List Rcd) : SpecR (cx gl) 158 [.pointer (some ⟨q, 0, none⟩)] (fun _ _ => True) [REG q sg rc] (.bool true) [REG q sg rc] := by
 refine Spec.enter (C := cx gl) Tryz.func158 rfl 12 rfl rfl fun w0 h0 hsep hsub hpre => ?_
 show St (cx gl) _ [(0, .pointer (some ⟨q, 0, none⟩))] _ _
 refine rT (lA (k:=?_))
 refine L_nil (qT (rT (lMv (k:=?_))))
 refine lO (W_callR rfl rfl rfl rfl fn_ca_146 (enter_zero q sg rc) (Weak.refl _) (fun _ _ _ _ _ _ _ => trivial) (lMv (k:=lP pX (k:=lP pX (k:=lA (k:=lA (k:=?_)))))))
 refine lQ (cE 2 rfl (cE 4 rfl .nil)) (rT (lMv (k:=lP pNe (k:=?_))))
 refine E_true (t := 11) rfl (rfl) (lA (k:=?_))
 refine lQ (cE 2 rfl .nil) (R_ret ?_)
 exact R_end (rs2 := _) rfl rfl (.tmp rfl .nil) (⟨rfl, rfl⟩) (Weak.refl _)
set_option maxHeartbeats 1000000 in
theorem lcheck_ok {gl : Nat → Obj} (hG : Globs gl) (q : Nat) (sg : List (Int × Nat)) (rc : List Rcd) (base : Option Addr) (c : Nat) (l : List Acc) (hc : l.length ≤ c) (hm : l.length ≤ 4999999999000) (base' : Option Addr) (c' : Nat) (r : List Rel) (hc' : r.length ≤ c') (hm' : r.length ≤ 6000000000000) (bu su : Int) (ch : List Int) (hcb : IsB ch) (p : Par) (hp3 : u64 p.p3) (h : Int) (hh : u64 h) (x : Tx) (hx : x.ok) : SpecR (cx gl) 70 [.agg (ledV (.slice base l.length c) (.slice base' r.length c') bu su).toArray, .pointer (some ⟨q, 0, none⟩), .string (strOfNums ch), .agg p.cells.toArray, .int .u64 h, .agg x.cells.toArray] (fun w hp => Seen w hp base (Go.Proofs.YtcngmkjdpoiiaaaGreatDoor.rc l) ∧ Seen w hp base' (Go.Proofs.YtcngmkjdpoiiaaaGreatDoor.rc r)) [REG q sg rc] (.int .i64 (chkE rc ch (⟨l, r, bu, su⟩ : Led) p h x)) [REG q sg rc] := by
 refine Spec.enter (C := cx gl) Tryz.func70 rfl 86 rfl rfl fun w0 h0 hsep hsub hpre => ?_
 show St (cx gl) _ [(0, .agg (ledV (.slice base l.length c) (.slice base' r.length c') bu su).toArray), (1, .pointer (some ⟨q, 0, none⟩)), (2, .string (strOfNums ch)), (3, .agg p.cells.toArray), (4, .int .u64 h), (5, .agg x.cells.toArray)] _ _
 obtain ⟨hh0, hh1⟩ := hh
 have hnn := hx.non
 refine rT ?_
 refine lO (W_box (ledV (.slice base l.length c) (.slice base' r.length c') bu su) rfl rfl rfl rfl rfl fun b6 => ?_)
 refine lO (W_box (p.cells) rfl rfl rfl rfl rfl fun b9 => ?_)
 refine lO (W_box (x.cells) rfl rfl rfl rfl rfl fun b11 => lA (k:=?_))
 refine lQ (cE 1 rfl (cE 2 rfl (cE 4 rfl (cE 6 rfl (cE 9 rfl (cE 11 rfl (cE 12 rfl .nil))))))) (rS (rS ?_))
 refine St.res (rs' := [REG q sg rc, blk b11 x.cells 67, blk b9 p.cells 25, blk b6 (ledV (.slice base l.length c) (.slice base' r.length c') bu su) 30]) (Weak.pick (p := [_, _, _]) (Weak.keep (Weak.keep (Weak.keep (Weak.nil _))))) (rR (lMv (k:=?_)))
 refine lP (P_eqNil rfl ty_ptr_69 rfl rfl) (k:=lMv (k:=lMv (k:=?_)))
 refine lO (W_callR rfl rfl rfl rfl fn_ca_158 (made_ok q sg rc) (Split.one (p := [])) (fun _ _ _ _ _ _ _ => trivial) (lP pO (k:=?_)))
 refine E_false (t := 22) rfl (rfl) (lP pK (k:=?_))
 refine lQ (cE 1 rfl (cE 2 rfl (cE 4 rfl (cE 6 rfl (cE 9 rfl (cE 11 rfl (cE 12 rfl (cE 23 rfl .nil)))))))) (kF (k:=R_skip (qT (rS (rT (lMv (k:=lP pEq (k:=?_))))))))
 refine E_bool (t := 25) rfl (fun h1 => ?_) (fun h1 => ?_)
 ·skip
  have h1 := of_decide_eq_true h1
  refine lMv (k:=lN (k:=lN (k:=lP pK (k:=lMv (k:=lN (k:=lN (k:=lN (k:=lP pK (k:=?_)))))))))
  refine lQ (cE 1 rfl (cE 2 rfl (cE 4 rfl (cE 6 rfl (cE 9 rfl (cE 11 rfl (cE 12 rfl (cE 34 rfl .nil)))))))) (kT (k:=rT (lA (k:=?_))))
  refine lQ (cE 1 rfl (cE 2 rfl (cE 4 rfl (cE 6 rfl (cE 9 rfl (cE 11 rfl (cE 12 rfl .nil))))))) (R_ret (Q_then_ret ?_))
  exact R_end (rs2 := [REG q sg rc]) rfl rfl (.tmp rfl .nil) (⟨by rw [show chkE rc ch (⟨l, r, bu, su⟩ : Led) p h x = 2 by unfold chkE; rw [if_pos (by unfold timeB; omega)]]; rfl, rfl⟩) (Weak.keep (Weak.nil _))
 ·skip
  have h1 := of_decide_eq_false h1
  refine lMv (k:=lMv (k:=lP pGt (k:=?_)))
  refine E_bool (t := 28) rfl (fun h2 => ?_) (fun h2 => ?_)
  ·skip
   have h2 := of_decide_eq_true h2
   refine lP pK (k:=lMv (k:=lN (k:=lN (k:=lN (k:=lP pK (k:=?_))))))
   refine lQ (cE 1 rfl (cE 2 rfl (cE 4 rfl (cE 6 rfl (cE 9 rfl (cE 11 rfl (cE 12 rfl (cE 34 rfl .nil)))))))) (kT (k:=rT (lA (k:=?_))))
   refine lQ (cE 1 rfl (cE 2 rfl (cE 4 rfl (cE 6 rfl (cE 9 rfl (cE 11 rfl (cE 12 rfl .nil))))))) (R_ret (Q_then_ret ?_))
   exact R_end (rs2 := [REG q sg rc]) rfl rfl (.tmp rfl .nil) (⟨by rw [show chkE rc ch (⟨l, r, bu, su⟩ : Led) p h x = 2 by unfold chkE; rw [if_pos (by unfold timeB; omega)]]; rfl, rfl⟩) (Weak.keep (Weak.nil _))
  ·skip
   have h2 := of_decide_eq_false h2
   refine lP pK (k:=lMv (k:=lP (pF ty_fl_25_3) (k:=lV (vB ty_sc_23 .h2) (k:=lP pGt (k:=lP pK (k:=?_))))))
   refine lQ (cE 1 rfl (cE 2 rfl (cE 4 rfl (cE 6 rfl (cE 9 rfl (cE 11 rfl (cE 12 rfl (cE 34 rfl .nil)))))))) ?_
   refine R_condP rfl (fun h3 => ?_) (fun h3 => ?_)
   ·skip
    refine rT (lA (k:=?_))
    refine lQ (cE 1 rfl (cE 2 rfl (cE 4 rfl (cE 6 rfl (cE 9 rfl (cE 11 rfl (cE 12 rfl .nil))))))) (R_ret (Q_then_ret ?_))
    exact R_end (rs2 := [REG q sg rc]) rfl rfl (.tmp rfl .nil) (⟨by rw [show chkE rc ch (⟨l, r, bu, su⟩ : Led) p h x = 2 by unfold chkE; rw [if_pos (by unfold timeB; omega)]]; rfl, rfl⟩) (Weak.keep (Weak.nil _))
   ·skip
    have ht : ¬ timeB p h := by unfold timeB; omega
    refine R_skip (qT (rT (lMv (k:=?_))))
    refine lV (V_loadAgg rfl rfl ty_ag_67 (Rds.blk .h1) (hx.cellsLen)) (k:=?_)
    refine lO (W_call rfl rfl rfl rfl fn_ca_144 (txBytes_ok ch hcb x hx) (Split.nil _) (fun _ _ _ _ _ _ _ => trivial) fun v1 rs1 ⟨u, e1, e2⟩ => ?_)
    subst e1; subst e2
    refine St.ownForm (p := []) fun ub uc huv huc => ?_
    subst huv
    refine lMv (k:=lP pX (k:=lP pX (k:=lA (k:=lA (k:=?_)))))
    refine lQ (cE 1 rfl (cE 4 rfl (cE 6 rfl (cE 9 rfl (cE 11 rfl (cE 12 rfl (cE 13 rfl (cE 14 rfl .nil)))))))) (rS (rT (lMv (k:=lP pNe (k:=?_)))))
    refine lQ (cE 1 rfl (cE 4 rfl (cE 6 rfl (cE 9 rfl (cE 11 rfl (cE 12 rfl (cE 13 rfl (cE 14 rfl (cE 42 rfl .nil))))))))) ?_
    refine R_condP rfl (fun he => ?_) (fun he => ?_)
    ·skip
     refine rT (lMv (k:=lA (k:=?_)))
     refine lQ (cE 1 rfl (cE 4 rfl (cE 6 rfl (cE 9 rfl (cE 11 rfl (cE 12 rfl (cE 13 rfl .nil))))))) (R_ret (Q_then_ret ?_))
     exact R_end (rs2 := [REG q sg rc]) rfl rfl (.tmp rfl .nil) (⟨by rw [show chkE rc ch (⟨l, r, bu, su⟩ : Led) p h x = txbE ch x by unfold chkE; rw [if_neg ht, if_pos he]]; rfl, rfl⟩) (Weak.drop (Weak.keep (Weak.nil _)))
    ·skip
     have he : txbE ch x = 0 := Classical.not_not.1 he
     have hF := txFine_of (txbE_fine he).2
     have htl := txbB_len ch x
     refine R_skip (qT (rS (rT (lMv (k:=lP (pF ty_fl_67_1) (k:=lV (vB ty_sc_26 .h2) (k:=lMv (k:=lP (pF ty_fl_67_6) (k:=?_)))))))))
     refine lV (V_loadAgg rfl rfl ty_ag_65 (rds_seal (Rds.blk .h2)) (by rw [ints_length, hx.len])) (k:=?_)
     refine lO (W_callR rfl rfl rfl rfl fn_ca_159 (check_ok hG q sg rc x.frm ub uc (txbB ch x) x.sg16 (txbB_b hcb hx) (by omega) hx.len) (Weak.pick (p := [_]) (Weak.keep (Weak.keep (Weak.keep (Weak.keep (Weak.nil _)))))) (Sn.pre (Sn.own .h0 rfl)) ?_)
     refine St.res (rs' := [REG q sg rc, blk b11 x.cells 67, blk b9 p.cells 25, blk b6 (ledV (.slice base l.length c) (.slice base' r.length c') bu su) 30]) (Weak.keep (Weak.drop (Weak.refl _))) ?_
     refine E_as (t := 50) (v' := .bool (seald rc ch x)) rfl (rfl) (lP pO (k:=?_))
     refine lQ (cE 4 rfl (cE 6 rfl (cE 9 rfl (cE 11 rfl (cE 12 rfl (cE 51 rfl .nil)))))) ?_
     refine R_cond rfl (fun hs => ?_) (fun hs => ?_)
     ·skip
      have hs : seald rc ch x = false := by simpa using hs
      refine rT (lA (k:=?_))
      refine lQ (cE 4 rfl (cE 6 rfl (cE 9 rfl (cE 11 rfl (cE 12 rfl .nil))))) (R_ret (Q_then_ret ?_))
      exact R_end (rs2 := [REG q sg rc]) rfl rfl (.tmp rfl .nil) (⟨by rw [show chkE rc ch (⟨l, r, bu, su⟩ : Led) p h x = 84 by unfold chkE; rw [if_neg ht, if_neg (by rw [he]; simp), if_pos hs]]; rfl, rfl⟩) (Weak.keep (Weak.nil _))
     ·skip
      have hs : ¬ seald rc ch x = false := by simpa using hs
      refine R_skip (qT (rT (lV (vG ty_ag_30 .h3) (k:=lP (pF ty_fl_67_1) (k:=lV (vB ty_sc_26 .h1) (k:=?_))))))
      refine lO (W_callV rfl rfl rfl rfl fn_ca_83 (place_ok base c l hc (by omega) (.slice base' r.length c') rfl bu su x.frm) (fun w nw => (Sn.old hpre.1).rw_ w nw) (lA (k:=?_)))
      refine lQ (cE 4 rfl (cE 6 rfl (cE 9 rfl (cE 11 rfl (cE 12 rfl (cE 15 rfl .nil)))))) (rS (rT (lMv (k:=lP pLt (k:=?_)))))
      refine lQ (cE 4 rfl (cE 6 rfl (cE 9 rfl (cE 11 rfl (cE 12 rfl (cE 15 rfl (cE 57 rfl .nil))))))) ?_
      refine R_condP rfl (fun hp => ?_) (fun hp => ?_)
      ·skip
       have hp := (place_neg _ _).1 hp
       refine rT (lA (k:=?_))
       refine lQ (cE 4 rfl (cE 6 rfl (cE 9 rfl (cE 11 rfl (cE 12 rfl (cE 15 rfl .nil)))))) (R_ret (Q_then_ret ?_))
       exact R_end (rs2 := [REG q sg rc]) rfl rfl (.tmp rfl .nil) (⟨by rw [show chkE rc ch (⟨l, r, bu, su⟩ : Led) p h x = 85 by unfold chkE; rw [if_neg ht, if_neg (by rw [he]; simp), if_neg hs, if_pos hp]]; rfl, rfl⟩) (Weak.keep (Weak.nil _))
      ·skip
       have hb : spotB l x.frm = true := by cases h9 : spotB l x.frm with | true => rfl | false => exact absurd ((place_neg _ _).2 h9) hp
       have hp2 : placeI l x.frm = (spotI l x.frm : Int) := by unfold placeI; rw [if_pos hb]
       have hlt : spotI l x.frm < l.length := by unfold spotB at hb; rw [Bool.and_eq_true, decide_eq_true_eq] at hb; exact hb.1
       have hA := accAt_get hlt
       obtain ⟨pb, pj, rfl, _⟩ := hpre.1.row.some_ (by rw [rc_length]; show 0 < _ * 5; omega)
       refine E_as (t := 15) (v' := .int .i64 ((spotI l x.frm : Nat) : Int)) rfl (by rw [hp2]) (R_skip (qT (rT (lP (pF ty_fl_30_0) (k:=lV (vB ty_sc_22 .h3) (k:=lMv (k:=?_)))))))
       refine lP (P_ixs (spotI l x.frm) rfl ty_sl_22 rfl rfl (by first | rfl | omega) (by omega)) (k:=?_)
       refine lV (V_loadAgg rfl rfl ty_ag_50 (rds_rc (Sn.rdsj (Sn.old hpre.1)) hA) (rfl)) (k:=?_)
       refine lO (W_alloc rfl rfl rfl ty_ze_50 fun b16 => ?_)
       refine lO (W_storeAll rfl rfl rfl rfl ty_ag_50 (rfl) (Rec.one (accAt l (spotI l x.frm))) .h0 (rfl) ?_)
       refine lQ (cE 4 rfl (cE 6 rfl (cE 9 rfl (cE 11 rfl (cE 12 rfl (cE 16 rfl .nil)))))) (rS (R_block (rT (lP (pF ty_fl_67_5) (k:=lV (vB ty_sc_23 .h2) (k:=lP (pF ty_fl_50_3) (k:=lV (vB ty_sc_23 .h0) (k:=lP pNe (k:=?_)))))))))
       refine E_bool (t := 68) rfl (fun h5 => ?_) (fun h5 => ?_)
       ·skip
        have h5 := of_decide_eq_true h5
        refine lMv (k:=lN (k:=lN (k:=lN (k:=lP pK (k:=lA (k:=?_))))))
        refine lQ (cE 4 rfl (cE 6 rfl (cE 9 rfl (cE 11 rfl (cE 12 rfl (cE 16 rfl (cE 63 rfl .nil))))))) (kT (k:=rT (lA (k:=?_))))
        refine lQ (cE 4 rfl (cE 6 rfl (cE 9 rfl (cE 11 rfl (cE 12 rfl (cE 16 rfl .nil)))))) (R_ret (Q_block_ret (Q_then_ret ?_)))
        exact R_end (rs2 := [REG q sg rc]) rfl rfl (.tmp rfl .nil) (⟨by rw [show chkE rc ch (⟨l, r, bu, su⟩ : Led) p h x = 80 by unfold chkE; rw [if_neg ht, if_neg (by rw [he]; simp), if_neg hs, if_neg (by show ¬ spotB l x.frm = false; rw [hb]; decide), if_pos (by show x.non ≠ (accAt l (spotI l x.frm)).non ∨ x.non = 18446744073709551615; omega)]]; rfl, rfl⟩) (Weak.drop (Weak.keep (Weak.nil _)))
       ·skip
        have h5 := of_decide_eq_false h5
        refine lMv (k:=lP (pF ty_fl_67_5) (k:=lV (vB ty_sc_23 .h2) (k:=lP pEq (k:=lP pK (k:=lA (k:=?_))))))
        refine lQ (cE 4 rfl (cE 6 rfl (cE 9 rfl (cE 11 rfl (cE 12 rfl (cE 16 rfl (cE 63 rfl .nil))))))) ?_
        refine R_condP rfl (fun h6 => ?_) (fun h6 => ?_)
        ·skip
         refine rT (lA (k:=?_))
         refine lQ (cE 4 rfl (cE 6 rfl (cE 9 rfl (cE 11 rfl (cE 12 rfl (cE 16 rfl .nil)))))) (R_ret (Q_block_ret (Q_then_ret ?_)))
         exact R_end (rs2 := [REG q sg rc]) rfl rfl (.tmp rfl .nil) (⟨by rw [show chkE rc ch (⟨l, r, bu, su⟩ : Led) p h x = 80 by unfold chkE; rw [if_neg ht, if_neg (by rw [he]; simp), if_neg hs, if_neg (by show ¬ spotB l x.frm = false; rw [hb]; decide), if_pos (by show x.non ≠ (accAt l (spotI l x.frm)).non ∨ x.non = 18446744073709551615; omega)]]; rfl, rfl⟩) (Weak.drop (Weak.keep (Weak.nil _)))
        ·skip
         refine rS ?_
         refine R_open [(0, 1), (2, 0), (3, 1), (1, 2), (4, 0), (5, 0)] mixed (by kernel_rfl) (QOk.then (QOk.block (QOk.then QOk.body))) ?_
         refine oV rfl (V_loadAgg rfl rfl ty_ag_67 (Rds.blk .h2) (hx.cellsLen)) (k:=oP rfl (pF ty_fl_50_1) (k:=oV rfl (vB ty_sc_23 .h0) (k:=?_)))
         refine O_keep rfl rfl (W_callV rfl rfl rfl rfl fn_ca_152 (spends_ok x hx hF.amt hF.fee) (fun _ _ => trivial) (K_keep (Weak.refl _) (oP rfl pGt (k:=oP rfl pA (k:=O_nil ?_)))))
         refine St.env (cE 4 rfl (cE 6 rfl (cE 9 rfl (cE 11 rfl (cE 12 rfl (cE 16 rfl (cE 74 rfl .nil))))))) (qT ?_)
         refine R_condP rfl (fun h7 => ?_) (fun h7 => ?_)
         ·skip
          refine rT (lA (k:=?_))
          refine lQ (cE 4 rfl (cE 6 rfl (cE 9 rfl (cE 11 rfl (cE 12 rfl (cE 16 rfl .nil)))))) (R_ret (Q_block_ret (Q_then_ret ?_)))
          exact R_end (rs2 := [REG q sg rc]) rfl rfl (.tmp rfl .nil) (⟨by rw [show chkE rc ch (⟨l, r, bu, su⟩ : Led) p h x = 81 by unfold chkE; rw [if_neg ht, if_neg (by rw [he]; simp), if_neg hs, if_neg (by show ¬ spotB l x.frm = false; rw [hb]; decide), if_neg (by show ¬ (x.non ≠ (accAt l (spotI l x.frm)).non ∨ x.non = 18446744073709551615); omega), if_pos (show (senderA (⟨l, r, bu, su⟩ : Led) x).bal < costI x from h7)]]; rfl, rfl⟩) (Weak.drop (Weak.keep (Weak.nil _)))
         ·skip
          refine R_skip (Q_block (qT (rT (lV (vG ty_ag_30 .h4) (k:=lV (vG ty_ag_25 .h3) (k:=lMv (k:=?_)))))))
          refine lV (V_loadAgg rfl rfl ty_ag_67 (Rds.blk .h2) (hx.cellsLen)) (k:=lV (vG ty_ag_50 .h0) (k:=?_))
          refine lO (W_callV rfl rfl rfl rfl fn_ca_160 (lkind_ok _ c l hc hm base' c' r hc' hm' bu su p h (by unfold timeB at ht; omega) (by unfold timeB at ht; have := hp3.1; omega) x hx (accAt l (spotI l x.frm))) (fun w nw => And.intro ((Sn.old hpre.1).rw_ w nw) ((Sn.old hpre.2).rw_ w nw)) (lA (k:=?_)))
          refine lQ (cE 12 rfl .nil) (R_ret ?_)
          exact R_end (rs2 := [REG q sg rc]) rfl rfl (.tmp rfl .nil) (⟨by rw [show chkE rc ch (⟨l, r, bu, su⟩ : Led) p h x = kindE (⟨l, r, bu, su⟩ : Led) p h x (accAt l (spotI l x.frm)) by unfold chkE; rw [if_neg ht, if_neg (by rw [he]; simp), if_neg hs, if_neg (by show ¬ spotB l x.frm = false; rw [hb]; decide), if_neg (by show ¬ (x.non ≠ (accAt l (spotI l x.frm)).non ∨ x.non = 18446744073709551615); omega), if_neg (show ¬ (senderA (⟨l, r, bu, su⟩ : Led) x).bal < costI x from h7)]; rfl]; rfl, rfl⟩) (Weak.drop (Weak.keep (Weak.nil _)))
end Go.Proofs.YtcngmkjdpoiiaaaGreatDoor

/- A pool: look. Printed by gen.py. -/
set_option maxRecDepth 100000
namespace Go.Proofs.YtcngmkjdpoiiaaaGreatDoor
open Go Go.RowKit Go.Proofs
/-- A state: what is read of it, and what is not (37 cells). -/
structure StR where
 ch : List Int
 p : Par
 h : Int
 mid : List Value
 bu : Int
 su : Int
 hmid : mid.length = 37
 ones : ∀ v ∈ mid, v.oneCell' = true
def StR.cells (s : StR) (u v : Value) : List Value := .string (strOfNums s.ch) :: (s.p.cells ++ (.int .u64 s.h :: (s.mid ++ ledV u v s.bu s.su)))
theorem StR.len (s : StR) (u v : Value) : (s.cells u v).length = 55 := by
 have h1 : s.p.cells.length = 12 := rfl
 have h2 : (ledV u v s.bu s.su).length = 4 := rfl
 unfold StR.cells
 rw [List.length_cons, List.length_append, List.length_cons, List.length_append, s.hmid, h1, h2]
theorem StR.one (s : StR) {u v : Value} (hu : u.oneCell' = true) (hv : v.oneCell' = true) : ∀ w ∈ s.cells u v, w.oneCell' = true := by
 intro w hw
 unfold StR.cells at hw
 rcases List.mem_cons.1 hw with rfl | hw
 ·rfl
 ·rcases List.mem_append.1 hw with hw | hw
  ·exact Par.one s.p w hw
  ·rcases List.mem_cons.1 hw with rfl | hw
   ·rfl
   ·rcases List.mem_append.1 hw with hw | hw
    ·exact s.ones w hw
    ·exact ledV_one u v s.bu s.su hu hv w hw
theorem st_par (s : StR) (u v : Value) : ∀ (i : Nat) (w : Value), s.p.cells[i]? = some w → (s.cells u v)[1 + i]? = some w := fun i w h => by
 unfold StR.cells
 rw [Nat.add_comm 1 i, List.getElem?_cons_succ, List.getElem?_append_left (List.getElem?_eq_some_iff.1 h).1]; exact h
theorem st_h (s : StR) (u v : Value) : (s.cells u v)[13]? = some (.int .u64 s.h) := by
 have h1 : s.p.cells.length = 12 := rfl
 unfold StR.cells
 rw [show 13 = 12 + 1 from rfl, List.getElem?_cons_succ, List.getElem?_append_right (by omega), h1]; rfl
theorem st_led (s : StR) (u v : Value) : ∀ (i : Nat) (w : Value), (ledV u v s.bu s.su)[i]? = some w → (s.cells u v)[51 + i]? = some w := fun i w h => by
 have h1 : s.p.cells.length = 12 := rfl
 unfold StR.cells
 rw [show 51 + i = (50 + i) + 1 by omega, List.getElem?_cons_succ, List.getElem?_append_right (by omega), h1, show 50 + i - 12 = (37 + i) + 1 by omega, List.getElem?_cons_succ, List.getElem?_append_right (by rw [s.hmid]; omega), s.hmid, show 37 + i - 37 = i by omega]; exact h
/-- What look answers. -/
def lookE (rc : List Rcd) (ch : List Int) (H : List TxR) (x : Tx) : Int :=
 if plainE x ≠ 0 then plainE x else if txbE ch x ≠ 0 then txbE ch x else if seald rc ch x = false then 84 else if hasId H (idH x) = true then 90 else 0
/-- Who is asked behind an account at a nonce. -/
def yAt (H : List TxR) (x : TxR) (n : Int) : Option TxR := if n = x.t.non then some x else heldAt H (x.t.frm, n)
theorem yAt_self {H : List TxR} {x : TxR} {n : Int} (h : n = x.t.non) : yAt H x n = some x := if_pos h
theorem yAt_other {H : List TxR} {x : TxR} {n : Int} (h : ¬ n = x.t.non) : yAt H x n = heldAt H (x.t.frm, n) := if_neg h
theorem yAt_plain {H : List TxR} (hP : PoolOk H) {x : TxR} (hx : plainE x.t = 0) {n : Int} {y : TxR} (h : yAt H x n = some y) : plainE y.t = 0 := by
 unfold yAt at h
 split at h
 ·cases h; exact hx
 ·exact hP.plain y (held_mem h).1
def minI (m n : Int) : Int := if n < m then n else m
def fitL (H : List TxR) (x : TxR) : Nat → Int → Int → Bool → Int
 | 0, _, _, poor => if poor = true then 93 else 0
 | k + 1, n, left, poor => match yAt H x n with
  | none => 92
  | some y => fitL H x k (n + 1) (left - minI (costI y.t) left) (poor || decide (left < costI y.t))
/-- What fits answers. -/
def fitE (H : List TxR) (l : List Acc) (x : TxR) : Int :=
 if findE l x.t.frm ≠ 0 then 85 else if x.t.non < (findX l x.t.frm).non then 91 else if 16 ≤ x.t.non - (findX l x.t.frm).non ∨ x.t.non = 18446744073709551615 then 92
 else fitL H x (x.t.non + 1 - (findX l x.t.frm).non).toNat (findX l x.t.frm).non (findX l x.t.frm).bal false
theorem fitL_next {H : List TxR} {x : TxR} {n left : Int} {poor : Bool} {y : TxR} (hn : n ≤ x.t.non) (hy : yAt H x n = some y) : fitL H x (x.t.non + 1 - n).toNat n left poor = fitL H x (x.t.non + 1 - (n + 1)).toNat (n + 1) (left - minI (costI y.t) left) (poor || decide (left < costI y.t)) := by
 rw [show (x.t.non + 1 - n).toNat = (x.t.non + 1 - (n + 1)).toNat + 1 by omega, fitL, hy]
theorem fitL_none {H : List TxR} {x : TxR} {n left : Int} {poor : Bool} (hn : n ≤ x.t.non) (hy : yAt H x n = none) : fitL H x (x.t.non + 1 - n).toNat n left poor = 92 := by
 rw [show (x.t.non + 1 - n).toNat = (x.t.non + 1 - (n + 1)).toNat + 1 by omega, fitL, hy]
theorem fitL_end {H : List TxR} {x : TxR} {n left : Int} {poor : Bool} (hn : ¬ n ≤ x.t.non) : fitL H x (x.t.non + 1 - n).toNat n left poor = if poor = true then 93 else 0 := by
 rw [show (x.t.non + 1 - n).toNat = 0 by omega, fitL]
theorem findX_ok {l : List Acc} (h : ∀ x ∈ l, x.ok) (a : Int) : (findX l a).ok := by
 unfold findX
 split
 ·exact acc0_ok
 ·rename_i hn
  have h1 : ¬ idxG (isAc a) l < 0 := fun h9 => hn (.inl h9)
  rcases idxG_cases (isAc a) l with h2 | ⟨i, hi, e⟩
  ·omega
  ·rw [e]; exact h _ (accAt_mem (by simpa using hi))
set_option maxHeartbeats 1000000 in
theorem plook_ok {gl : Nat → Obj} (hG : Globs gl) (p : Nat) (most : Int) (H : List TxR) (q : Nat) (sg : List (Int × Nat)) (rc : List Rcd) (s : StR) (hcb : IsB s.ch) (u v : Value) (x : TxR) : SpecR (cx gl) 111 [.pointer (some ⟨p, 0, none⟩), .agg (s.cells u v).toArray, .pointer (some ⟨q, 0, none⟩), .agg x.t.cells.toArray] (fun _ _ => True) [POOL p most (H), REG q sg rc] (.int .i64 (lookE rc s.ch H x.t)) [POOL p most (H), REG q sg rc] := by
 refine Spec.enter (C := cx gl) Tryz.func111 rfl 49 rfl rfl fun w0 h0 hsep hsub hpre => ?_
 show St (cx gl) _ [(0, .pointer (some ⟨p, 0, none⟩)), (1, .agg (s.cells u v).toArray), (2, .pointer (some ⟨q, 0, none⟩)), (3, .agg x.t.cells.toArray)] _ _
 refine rT ?_
 refine lO (W_box ((s.cells u v)) rfl rfl rfl rfl rfl fun b5 => ?_)
 refine lO (W_box (x.t.cells) rfl rfl rfl rfl rfl fun b7 => lA (k:=?_))
 refine lQ (cE 0 rfl (cE 2 rfl (cE 5 rfl (cE 7 rfl (cE 8 rfl .nil))))) (rS (rS ?_))
 refine St.res (rs' := [POOL p most (H), REG q sg rc, blk b7 x.t.cells 67, blk b5 (s.cells u v) 63]) (Weak.pick (p := [_, _]) (Weak.pick (p := [_, _]) (Weak.keep (Weak.keep (Weak.nil _))))) (rR ?_)
 refine lV (V_loadAgg rfl rfl ty_ag_67 (Rds.blk .h2) (x.ok.cellsLen)) (k:=?_)
 refine lO (W_callV rfl rfl rfl rfl fn_ca_189 (plain_ok x.t x.ok) (fun _ _ => trivial) (lA (k:=?_)))
 refine lQ (cE 0 rfl (cE 2 rfl (cE 5 rfl (cE 7 rfl (cE 8 rfl (cE 9 rfl .nil)))))) (rT (lMv (k:=lP pNe (k:=?_))))
 refine lQ (cE 0 rfl (cE 2 rfl (cE 5 rfl (cE 7 rfl (cE 8 rfl (cE 9 rfl (cE 16 rfl .nil))))))) ?_
 refine R_condP rfl (fun he => ?_) (fun he => ?_)
 ·skip
  refine rT (lMv (k:=lA (k:=?_)))
  refine lQ (cE 0 rfl (cE 2 rfl (cE 5 rfl (cE 7 rfl (cE 8 rfl .nil))))) (R_ret (Q_then_ret ?_))
  exact R_end (rs2 := _) rfl rfl (.tmp rfl .nil) (⟨by rw [show lookE rc s.ch H x.t = plainE x.t by unfold lookE; rw [if_pos he]]; rfl, rfl⟩) (Weak.keep (Weak.keep (Weak.nil _)))
 ·skip
  have he : plainE x.t = 0 := Classical.not_not.1 he
  refine R_skip (qT (rT (lP (pF ty_fl_63_0) (k:=lV (vB ty_sc_9 .h3) (k:=?_)))))
  refine lV (V_loadAgg rfl rfl ty_ag_67 (Rds.blk .h2) (x.ok.cellsLen)) (k:=?_)
  refine lO (W_call rfl rfl rfl rfl fn_ca_144 (txBytes_ok s.ch hcb x.t x.ok) (Split.nil _) (fun _ _ _ _ _ _ _ => trivial) fun v1 rs1 ⟨u1, e1, e2⟩ => ?_)
  subst e1; subst e2
  refine St.ownForm (p := []) fun ub uc huv huc => ?_
  subst huv
  refine lMv (k:=lP pX (k:=lP pX (k:=lA (k:=lA (k:=?_)))))
  refine lQ (cE 0 rfl (cE 2 rfl (cE 7 rfl (cE 8 rfl (cE 10 rfl (cE 11 rfl .nil)))))) (rS (rT (lMv (k:=lP pNe (k:=?_)))))
  refine lQ (cE 0 rfl (cE 2 rfl (cE 7 rfl (cE 8 rfl (cE 10 rfl (cE 11 rfl (cE 26 rfl .nil))))))) ?_
  refine R_condP rfl (fun he2 => ?_) (fun he2 => ?_)
  ·skip
   refine rT (lMv (k:=lA (k:=?_)))
   refine lQ (cE 0 rfl (cE 2 rfl (cE 7 rfl (cE 8 rfl (cE 10 rfl (cE 11 rfl .nil)))))) (R_ret (Q_then_ret ?_))
   exact R_end (rs2 := _) rfl rfl (.tmp rfl .nil) (⟨by rw [show lookE rc s.ch H x.t = txbE s.ch x.t by unfold lookE; rw [if_neg (by rw [he]; simp), if_pos he2]]; rfl, rfl⟩) (Weak.pick (p := [_]) (Weak.pick (p := [_]) (Weak.nil _)))
  ·skip
   have he2 : txbE s.ch x.t = 0 := Classical.not_not.1 he2
   have htl := txbB_len s.ch x.t
   refine R_skip (qT (rS (rT (lMv (k:=lP (pF ty_fl_67_1) (k:=lV (vB ty_sc_26 .h3) (k:=lMv (k:=lP (pF ty_fl_67_6) (k:=?_)))))))))
   refine lV (V_loadAgg rfl rfl ty_ag_65 (rds_seal (Rds.blk .h3)) (by rw [ints_length, x.ok.len])) (k:=?_)
   refine lO (W_callR rfl rfl rfl rfl fn_ca_159 (check_ok hG q sg rc x.t.frm ub uc (txbB s.ch x.t) x.t.sg16 (txbB_b hcb x.ok) (by omega) x.ok.len) (Weak.pick (p := [_, _]) (Weak.keep (Weak.keep (Weak.keep (Weak.keep (Weak.nil _)))))) (Sn.pre (Sn.own .h0 rfl)) ?_)
   refine St.res (rs' := [POOL p most (H), REG q sg rc, blk b7 x.t.cells 67, blk b5 (s.cells u v) 63]) (Weak.pick (p := [_, _]) (Weak.keep (Weak.pick (p := [_]) (Weak.pick (p := [_]) (Weak.nil _))))) ?_
   refine E_as (t := 34) (v' := .bool (seald rc s.ch x.t)) rfl (rfl) (lP pO (k:=?_))
   refine lQ (cE 0 rfl (cE 7 rfl (cE 8 rfl (cE 11 rfl (cE 35 rfl .nil))))) ?_
   refine R_cond rfl (fun hs => ?_) (fun hs => ?_)
   ·skip
    have hs : seald rc s.ch x.t = false := by simpa using hs
    refine rT (lA (k:=?_))
    refine lQ (cE 0 rfl (cE 7 rfl (cE 8 rfl (cE 11 rfl .nil)))) (R_ret (Q_then_ret ?_))
    exact R_end (rs2 := _) rfl rfl (.tmp rfl .nil) (⟨by rw [show lookE rc s.ch H x.t = 84 by unfold lookE; rw [if_neg (by rw [he]; simp), if_neg (by rw [he2]; simp), if_pos hs]]; rfl, rfl⟩) (Weak.keep (Weak.keep (Weak.nil _)))
   ·skip
    have hs : ¬ seald rc s.ch x.t = false := by simpa using hs
    refine R_skip (qT (rT ?_))
    refine lV (V_loadAgg rfl rfl ty_ag_67 (Rds.blk .h2) (x.ok.cellsLen)) (k:=?_)
    refine lO (W_callV rfl rfl rfl rfl fn_ca_147 (txId_ok hG x.t x.ok) (fun _ _ => trivial) (lMv (k:=lP pX (k:=lP pX (k:=?_)))))
    refine lO (W_alloc rfl rfl rfl ty_ze_40 fun b12 => ?_)
    refine lO (W_storeAll rfl rfl rfl rfl ty_ag_40 (by rw [ints_length, idH_len]) (ints_one) .h0 (by rw [ints_length, idH_len]; rfl) (lA (k:=?_)))
    refine lQ (cE 0 rfl (cE 8 rfl (cE 11 rfl (cE 12 rfl .nil)))) (rS (rT (lMv (k:=lP pEq (k:=?_)))))
    refine E_true (t := 42) rfl (decide_eq_true he) (lMv (k:=lMv (k:=?_)))
    refine lV (V_loadAgg rfl rfl ty_ag_40 (Rds.blk .h0) (by rw [ints_length, idH_len])) (k:=?_)
    refine lO (W_callR rfl rfl rfl rfl fn_ca_108 (phas_ok p most H (idN x.t)) (Split.one (p := [_])) (fun _ _ _ _ _ _ _ => trivial) (lP pK (k:=?_)))
    refine lQ (cE 8 rfl (cE 11 rfl (cE 47 rfl .nil))) ?_
    refine R_cond rfl (fun hh => ?_) (fun hh => ?_)
    ·skip
     have hh : hasId H (idH x.t) = true := hh
     refine rR (lA (k:=?_))
     refine lQ (cE 8 rfl (cE 11 rfl .nil)) (rT (lMv (k:=lA (k:=?_))))
     refine lQ (cE 8 rfl .nil) (R_ret ?_)
     exact R_end (rs2 := _) rfl rfl (.tmp rfl .nil) (⟨by unfold lookE; rw [if_neg (by rw [he]; simp), if_neg (by rw [he2]; simp), if_neg hs]; first | (rw [if_pos hh]; rfl) | (rw [if_neg hh, he]; rfl), rfl⟩) (Weak.keep (Weak.pick (p := [_]) (Weak.nil _)))
    ·skip
     have hh9 : hasId H (idH x.t) = false := hh
     have hh : ¬ hasId H (idH x.t) = true := by rw [hh9]; decide
     refine R_skip (qT (rT (lMv (k:=lA (k:=?_)))))
     refine lQ (cE 8 rfl .nil) (R_ret ?_)
     exact R_end (rs2 := _) rfl rfl (.tmp rfl .nil) (⟨by unfold lookE; rw [if_neg (by rw [he]; simp), if_neg (by rw [he2]; simp), if_neg hs]; first | (rw [if_pos hh]; rfl) | (rw [if_neg hh, he]; rfl), rfl⟩) (Weak.keep (Weak.pick (p := [_]) (Weak.nil _)))
end Go.Proofs.YtcngmkjdpoiiaaaGreatDoor

/- A pool: fits. Printed by gen.py. -/
set_option maxRecDepth 100000
namespace Go.Proofs.YtcngmkjdpoiiaaaGreatDoor
open Go Go.RowKit Go.Proofs
set_option maxHeartbeats 1000000 in
theorem pfits_ok {gl : Nat → Obj} (p : Nat) (most : Int) (H : List TxR) (hP : PoolOk H) (base : Option Addr) (c : Nat) (l : List Acc) (hc : l.length ≤ c) (hm : l.length ≤ 5000000000000)(hok : ∀ x ∈ l, x.ok) (v : Value) (hv : v.oneCell' = true) (s : StR) (x : TxR) (hx : plainE x.t = 0) : SpecR (cx gl) 112 [.pointer (some ⟨p, 0, none⟩), .agg (s.cells (.slice base l.length c) v).toArray, .agg x.t.cells.toArray] (fun w hp => Seen w hp base (rc l)) [POOL p most (H)] (.int .i64 (fitE H l x)) [POOL p most (H)] := by
 refine Spec.enter (C := cx gl) Tryz.func112 rfl 87 rfl rfl fun w0 h0 hsep hsub hpre => ?_
 show St (cx gl) _ [(0, .pointer (some ⟨p, 0, none⟩)), (1, .agg (s.cells (.slice base l.length c) v).toArray), (2, .agg x.t.cells.toArray)] _ _
 refine St.openP [] fun ⟨mh, mi⟩ _ => ?_
 refine St.unbundle [] ?_
 obtain ⟨_, ⟨hab0, hab1⟩, _, ⟨han0, han1⟩⟩ := findX_ok hok x.t.frm
 obtain ⟨hxn0, hxn1⟩ := x.ok.non
 refine rT ?_
 refine lO (W_box ((s.cells (.slice base l.length c) v)) rfl rfl rfl rfl rfl fun b4 => ?_)
 refine lO (W_box (x.t.cells) rfl rfl rfl rfl rfl fun b5 => lA (k:=?_))
 refine lQ (cE 0 rfl (cE 4 rfl (cE 5 rfl (cE 6 rfl .nil)))) (rS ?_)
 refine St.res (rs' := [blk p (poolC mh mi most) 78, mapK rec2K mh (hM (H)), mapK iK mi (iM (H)), blk b5 x.t.cells 67, blk b4 (s.cells (.slice base l.length c) v) 63]) (Weak.pick (p := [_, _]) (Weak.pick (p := [_, _]) (Weak.pick (p := [_, _]) (Weak.keep (Weak.keep (Weak.nil _)))))) (rR (lP (pF ty_fl_63_9) (k:=?_)))
 refine lV (V_loadAgg rfl rfl ty_ag_30 ((Rds.blk .h4).part 51 (st_led s _ _)) (rfl)) (k:=lP (pF ty_fl_67_1) (k:=lV (vB ty_sc_26 .h3) (k:=?_)))
 refine lO (W_callV rfl rfl rfl rfl fn_ca_75 (find_ok base c l hc (by omega) v hv s.bu s.su x.t.frm) (fun w nw => (Sn.old hpre).rw_ w nw) (lMv (k:=lP pX (k:=lP pX (k:=?_)))))
 refine lO (W_alloc rfl rfl rfl ty_ze_50 fun b7 => ?_)
 refine lO (W_storeAll rfl rfl rfl rfl ty_ag_50 (rfl) (Rec.one (findX l x.t.frm)) .h0 (rfl) (lA (k:=?_)))
 refine lQ (cE 0 rfl (cE 5 rfl (cE 6 rfl (cE 7 rfl (cE 8 rfl .nil))))) (rS (R_block (rS ?_)))
 refine St.res (rs' := [blk p (poolC mh mi most) 78, mapK rec2K mh (hM (H)), mapK iK mi (iM (H)), blk b5 x.t.cells 67, blk b4 (s.cells (.slice base l.length c) v) 63, blk b7 (findX l x.t.frm).cells 50]) (Weak.pick (p := [_]) (Weak.pick (p := [_]) (Weak.pick (p := [_]) (Weak.pick (p := [_]) (Weak.pick (p := [_]) (Weak.keep (Weak.nil _))))))) (rR (lMv (k:=lP pNe (k:=lA (k:=?_)))))
 refine lQ (cE 0 rfl (cE 5 rfl (cE 6 rfl (cE 7 rfl (cE 23 rfl .nil))))) ?_
 refine R_condP rfl (fun h1 => ?_) (fun h1 => ?_)
 ·skip
  refine rT (lA (k:=?_))
  refine lQ (cE 0 rfl (cE 5 rfl (cE 6 rfl (cE 7 rfl .nil)))) (R_ret (Q_block_ret (Q_then_ret ?_)))
  exact R_end (rs2 := _) rfl rfl (.tmp rfl .nil) (⟨by rw [show fitE H l x = 85 by unfold fitE; rw [if_pos h1]]; rfl, rfl⟩) (Weak.trans (Weak.keep (Weak.keep (Weak.keep (Weak.nil _)))) (pool_close (rs := [])))
 ·skip
  have h1 : findE l x.t.frm = 0 := Classical.not_not.1 h1
  refine rT (lP (pF ty_fl_67_5) (k:=lV (vB ty_sc_23 .h3) (k:=lP (pF ty_fl_50_3) (k:=lV (vB ty_sc_23 .h5) (k:=lP pLt (k:=lA (k:=?_)))))))
  refine lQ (cE 0 rfl (cE 5 rfl (cE 6 rfl (cE 7 rfl (cE 26 rfl .nil))))) ?_
  refine R_condP rfl (fun h2 => ?_) (fun h2 => ?_)
  ·skip
   refine rT (lA (k:=?_))
   refine lQ (cE 0 rfl (cE 5 rfl (cE 6 rfl (cE 7 rfl .nil)))) (R_ret (Q_block_ret (Q_then_ret ?_)))
   exact R_end (rs2 := _) rfl rfl (.tmp rfl .nil) (⟨by rw [show fitE H l x = 91 by unfold fitE; rw [if_neg (by rw [h1]; simp), if_pos h2]]; rfl, rfl⟩) (Weak.trans (Weak.keep (Weak.keep (Weak.keep (Weak.nil _)))) (pool_close (rs := [])))
  ·skip
   refine rT (lP (pF ty_fl_67_5) (k:=lV (vB ty_sc_23 .h3) (k:=lP (pF ty_fl_50_3) (k:=lV (vB ty_sc_23 .h5) (k:=?_)))))
   refine lP (P_subN rfl rfl rfl (by simp only [fits]; omega)) (k:=lP pGe (k:=?_))
   refine E_bool (t := 38) rfl (fun h3 => ?_) (fun h3 => ?_)
   ·skip
    have h3 := of_decide_eq_true h3
    refine lMv (k:=lN (k:=lN (k:=lN (k:=lP pK (k:=lA (k:=?_))))))
    refine lQ (cE 0 rfl (cE 5 rfl (cE 6 rfl (cE 7 rfl (cE 32 rfl .nil))))) (kT (k:=rT (lA (k:=?_))))
    refine lQ (cE 0 rfl (cE 5 rfl (cE 6 rfl (cE 7 rfl .nil)))) (R_ret (Q_block_ret (Q_then_ret ?_)))
    exact R_end (rs2 := _) rfl rfl (.tmp rfl .nil) (⟨by rw [show fitE H l x = 92 by unfold fitE; rw [if_neg (by rw [h1]; simp), if_neg h2, if_pos (by omega)]]; rfl, rfl⟩) (Weak.trans (Weak.keep (Weak.keep (Weak.keep (Weak.nil _)))) (pool_close (rs := [])))
   ·skip
    have h3 := of_decide_eq_false h3
    refine lMv (k:=lP (pF ty_fl_67_5) (k:=lV (vB ty_sc_23 .h3) (k:=lP pEq (k:=lP pK (k:=lA (k:=?_))))))
    refine lQ (cE 0 rfl (cE 5 rfl (cE 6 rfl (cE 7 rfl (cE 32 rfl .nil))))) ?_
    refine R_condP rfl (fun h4 => ?_) (fun h4 => ?_)
    ·skip
     refine rT (lA (k:=?_))
     refine lQ (cE 0 rfl (cE 5 rfl (cE 6 rfl (cE 7 rfl .nil)))) (R_ret (Q_block_ret (Q_then_ret ?_)))
     exact R_end (rs2 := _) rfl rfl (.tmp rfl .nil) (⟨by rw [show fitE H l x = 92 by unfold fitE; rw [if_neg (by rw [h1]; simp), if_neg h2, if_pos (by omega)]]; rfl, rfl⟩) (Weak.trans (Weak.keep (Weak.keep (Weak.keep (Weak.nil _)))) (pool_close (rs := [])))
    ·skip
     refine R_skip (Q_block (qT (rS ?_)))
     have h5 : ¬ (16 ≤ x.t.non - (findX l x.t.frm).non ∨ x.t.non = 18446744073709551615) := by omega
     refine rR (lA (k:=?_))
     refine lQ (cE 0 rfl (cE 5 rfl (cE 6 rfl (cE 7 rfl (cE 9 rfl .nil))))) (rT (lP (pF ty_fl_50_1) (k:=lV (vB ty_sc_23 .h5) (k:=lA (k:=?_)))))
     refine lQ (cE 0 rfl (cE 5 rfl (cE 6 rfl (cE 7 rfl (cE 9 rfl (cE 10 rfl .nil)))))) (rS (rT (lP (pF ty_fl_50_3) (k:=lV (vB ty_sc_23 .h5) (k:=lA (k:=?_))))))
     refine lQ (cE 0 rfl (cE 5 rfl (cE 6 rfl (cE 9 rfl (cE 10 rfl (cE 11 rfl .nil)))))) (R_block ?_)
     refine R_loopE (G := Int × Int × Bool) (cE 0 rfl (cE 5 rfl (cE 6 rfl .nil))) (fun g => [(9, .bool g.2.2), (10, .int .u64 (g.2.1)), (11, .int .u64 (g.1))]) (fun _ => _) (fun g => (findX l x.t.frm).non ≤ g.1 ∧ g.1 ≤ x.t.non + 1 ∧ fitE H l x = fitL H x (x.t.non + 1 - g.1).toNat g.1 g.2.1 g.2.2 ∧ 0 ≤ g.2.1 ∧ g.2.1 ≤ 18446744073709551615) (fun g => (x.t.non + 1 - g.1).toNat) ((findX l x.t.frm).non, (findX l x.t.frm).bal, false) (by show (findX l x.t.frm).non ≤ ((findX l x.t.frm).non) ∧ ((findX l x.t.frm).non) ≤ x.t.non + 1 ∧ fitE H l x = fitL H x (x.t.non + 1 - ((findX l x.t.frm).non)).toNat ((findX l x.t.frm).non) ((findX l x.t.frm).bal) (false) ∧ 0 ≤ ((findX l x.t.frm).bal) ∧ ((findX l x.t.frm).bal) ≤ 18446744073709551615; exact ⟨Int.le_refl _, by omega, by unfold fitE; rw [if_neg (by rw [h1]; simp), if_neg h2, if_neg h5], by omega, by omega⟩) (by repeat (first | exact .nil | refine .cons rfl ?_ | refine .consE rfl (by first | rfl | (congr 1; omega) | (congr 1; push_cast; omega)) ?_)) (Weak.refl _) ?_
     rintro ⟨n, left, poor⟩ hinv
     replace hinv : (findX l x.t.frm).non ≤ n ∧ n ≤ x.t.non + 1 ∧ fitE H l x = fitL H x (x.t.non + 1 - n).toNat n left poor ∧ 0 ≤ left ∧ left ≤ 18446744073709551615 := hinv
     show St (cx gl) _ ((9, .bool poor) :: (10, .int .u64 (left)) :: (11, .int .u64 (n)) :: _) _ _
     obtain ⟨hn0, hn1, hfl, hl0, hl1⟩ := hinv
     refine rS (rT (lMv (k:=lP (pF ty_fl_67_5) (k:=lV (vB ty_sc_23 .h3) (k:=lP pLe (k:=?_))))))
     refine L_nil (qT ?_)
     refine R_condP rfl (fun hle => ?_) (fun hle => ?_)
     ·skip
      refine R_skip (qT (rS (R_block (rS ?_))))
      refine R_open [(0, 0), (1, 0), (2, 0), (3, 1), (4, 0), (5, 1), (6, 0), (7, 0), (8, 1), (9, 0), (10, 0), (11, 0), (12, 2), (13, 3), (14, 0)] mixed (by kernel_rfl) (QOk.then (QOk.block (QOk.then (QOk.then (QOk.block (QOk.then QOk.body)))))) (oP rfl pM (k:=oP rfl pN (k:=oP rfl (pF ty_fl_78_1) (k:=oV rfl (vB ty_sc_75 .h0) (k:=oP rfl (pF ty_fl_67_1) (k:=oV rfl (vB ty_sc_26 .h3) (k:=oP rfl pM (k:=?_))))))))
      refine oP rfl (P_buildStruct rfl ty_pl_207 ty_ze_207 rfl rfl (rfl)) (k:=?_)
      refine E_as (t := 62) (v' := rec2K (x.t.frm, n)) rfl (rfl) ?_
      refine oV rfl (V_lookupK (k := (x.t.frm, n)) rfl ty_map_75 (keyRec2 rec2_key) rfl rfl (trivial) (fun _ _ => trivial) .h1 (run_zeroValue_of ty_zv_67)) (k:=oP rfl pM (k:=?_))
      refine E_as (t := 54) (v' := .tuple #[.agg ((heldAt H (x.t.frm, n)).getD txrz).t.cells.toArray, .bool (heldAt H (x.t.frm, n)).isSome]) rfl (by rw [look_held]) (oP rfl pX (k:=oP rfl pX (k:=?_)))
      refine O_keep rfl rfl (W_alloc rfl rfl rfl ty_ze_67 fun b12 => (K_keep (Weak.drop (Weak.refl _)) ?_))
      refine O_new rfl rfl (W_storeAll rfl rfl rfl rfl ty_ag_67 (((heldAt H (x.t.frm, n)).getD txrz).ok.cellsLen) (Tx.one _) .h0 (((heldAt H (x.t.frm, n)).getD txrz).ok.cellsLen) (K_new (oP rfl pA (k:=O_nil (qT ?_)))))
      refine R_joinE (G := Unit) (cE 0 rfl (cE 5 rfl (cE 6 rfl (cE 9 rfl (cE 10 rfl (cE 11 rfl (cE 12 rfl (cE 48 rfl (cE 49 rfl (cE 50 rfl (cE 51 rfl (cE 54 rfl (cE 55 rfl (cE 56 rfl (cE 57 rfl (cE 58 rfl (cE 59 rfl (cE 60 rfl (cE 61 rfl (cE 62 rfl (cE 63 rfl (cE 64 rfl (cE 65 rfl .nil))))))))))))))))))))))) (fun g => [(13, .bool (yAt H x n).isSome)]) (fun g => [blk b12 ((yAt H x n).getD txrz).t.cells 67, blk p (poolC mh mi most) 78, mapK rec2K mh (hM (H)), mapK iK mi (iM (H)), blk b5 x.t.cells 67, blk b4 (s.cells (.slice base l.length c) v) 63, blk b7 (findX l x.t.frm).cells 50]) (fun g => True) ?_ ?_
      ·skip
       refine rT (lMv (k:=lP (pF ty_fl_67_5) (k:=lV (vB ty_sc_23 .h4) (k:=lP pEq (k:=?_)))))
       refine L_nil (qT ?_)
       refine R_condP rfl (fun hnx => ?_) (fun hnx => ?_)
       ·skip
        refine rR ?_
        refine lV (V_loadAgg rfl rfl ty_ag_67 (Rds.blk .h4) (x.ok.cellsLen)) (k:=?_)
        refine lO (W_storeAll rfl rfl rfl rfl ty_ag_67 (x.ok.cellsLen) (Tx.one _) .h0 (x.ok.cellsLen.trans ((heldAt H (x.t.frm, n)).getD txrz).ok.cellsLen.symm) (lA (k:=?_)))
        refine L_nil ?_
        refine E_as (t := 13) (v' := .bool (yAt H x n).isSome) rfl (by rw [yAt_self hnx]; rfl) ?_
        exact Q_meet () (trivial) (by repeat (first | exact .nil | refine .cons rfl ?_ | refine .consE rfl (by first | rfl | (congr 1; omega) | (congr 1; push_cast; omega)) ?_)) (by rw [yAt_self hnx]; exact Weak.refl _)
       ·skip
        refine R_skip ?_
        refine E_as (t := 13) (v' := .bool (yAt H x n).isSome) rfl (by rw [yAt_other hnx]) ?_
        exact Q_meet () (trivial) (by repeat (first | exact .nil | refine .cons rfl ?_ | refine .consE rfl (by first | rfl | (congr 1; omega) | (congr 1; push_cast; omega)) ?_)) (by rw [yAt_other hnx]; exact Weak.refl _)
      ·rintro ⟨⟩ hinv
       replace hinv : True := hinv
       show St (cx gl) _ ((13, .bool (yAt H x n).isSome) :: _) [blk b12 ((yAt H x n).getD txrz).t.cells 67, blk p (poolC mh mi most) 78, mapK rec2K mh (hM (H)), mapK iK mi (iM (H)), blk b5 x.t.cells 67, blk b4 (s.cells (.slice base l.length c) v) 63, blk b7 (findX l x.t.frm).cells 50] _
       refine rS (rT (lMv (k:=lP pO (k:=?_))))
       refine L_nil (qT ?_)
       refine R_cond rfl (fun hs => ?_) (fun hs => ?_)
       ·skip
        have hy : (yAt H x n) = none := by cases h9 : (yAt H x n) with | none => rfl | some y => rw [h9] at hs; cases hs
        refine rT (lA (k:=?_))
        refine L_nil (qT (R_ret (Q_then_ret (Q_block_ret (Q_then_ret (Q_then_ret (Q_block_ret (Q_then_ret ?_))))))))
        exact R_end (rs2 := _) rfl rfl (.tmp rfl .nil) (⟨by rw [show fitE H l x = 92 by rw [hfl, fitL_none hle hy]]; rfl, rfl⟩) (Weak.trans (Weak.pick (p := [_]) (Weak.pick (p := [_]) (Weak.pick (p := [_]) (Weak.nil _)))) (pool_close (rs := [])))
       ·skip
        obtain ⟨y, hy⟩ : ∃ y, (yAt H x n) = some y := by cases h9 : (yAt H x n) with | none => rw [h9] at hs; cases hs | some y => exact ⟨y, rfl⟩
        have hF := txFine_of (yAt_plain hP hx hy)
        have hcn : 0 ≤ costI y.t ∧ costI y.t ≤ 2305843009213693950 := by unfold costI; have := y.ok.fee.1; have := y.ok.amt.1; have := hF.amt; have := hF.fee; have : MS = 1152921504606846975 := rfl; split <;> omega
        have hmn : 0 ≤ minI (costI y.t) left ∧ minI (costI y.t) left ≤ left := by unfold minI; split <;> omega
        refine R_skip (qT (rT ?_))
        refine lV (V_loadAgg rfl rfl ty_ag_67 (Rds.blk .h0) (((yAt H x n).getD txrz).ok.cellsLen)) (k:=?_)
        refine E_as (t := 73) (v' := .agg y.t.cells.toArray) rfl (by rw [hy]; rfl) ?_
        refine lO (W_callV rfl rfl rfl rfl fn_ca_190 (cost_ok y.t y.ok hF.amt hF.fee) (fun _ _ => trivial) (lA (k:=?_)))
        refine L_nil (qT (rT (lMv (k:=lMv (k:=?_)))))
        refine E_bool (t := 76) rfl (fun hpo => ?_) (fun hpo => ?_)
        ·skip
         refine lN (k:=lN (k:=lN (k:=lP pK (k:=lA (k:=?_)))))
         refine L_nil (qT (rR (lMv (k:=lMv (k:=lMv (k:=?_))))))
         refine lP (P_min2 rfl rfl rfl) (k:=?_)
         refine lP (P_subN rfl rfl rfl (by simp only [fits]; omega)) (k:=lA (k:=?_))
         refine L_nil (Q_block (qT (rR (lMv (k:=?_)))))
         refine lP (P_addN rfl rfl rfl (by simp only [fits]; omega)) (k:=lA (k:=?_))
         refine L_nil ?_
         exact Q_round (n + 1, left - minI (costI y.t) left, true) (by show (findX l x.t.frm).non ≤ (n + 1) ∧ (n + 1) ≤ x.t.non + 1 ∧ fitE H l x = fitL H x (x.t.non + 1 - (n + 1)).toNat (n + 1) (left - minI (costI y.t) left) (true) ∧ 0 ≤ (left - minI (costI y.t) left) ∧ (left - minI (costI y.t) left) ≤ 18446744073709551615; exact ⟨by omega, by omega, by rw [hfl, fitL_next hle hy]; rw [hpo, Bool.true_or], by omega, by omega⟩) (by show (x.t.non + 1 - (n + 1)).toNat < (x.t.non + 1 - n).toNat; omega) (by repeat (first | exact .nil | refine .cons rfl ?_ | refine .consE rfl (by first | rfl | (congr 1; omega) | (congr 1; push_cast; omega)) ?_)) (Weak.drop (Weak.refl _))
        ·skip
         refine lMv (k:=lMv (k:=lP pGt (k:=lP pK (k:=lA (k:=?_)))))
         refine L_nil (qT (rR (lMv (k:=lMv (k:=lMv (k:=?_))))))
         refine lP (P_min2 rfl rfl rfl) (k:=?_)
         refine lP (P_subN rfl rfl rfl (by simp only [fits]; omega)) (k:=lA (k:=?_))
         refine L_nil (Q_block (qT (rR (lMv (k:=?_)))))
         refine lP (P_addN rfl rfl rfl (by simp only [fits]; omega)) (k:=lA (k:=?_))
         refine L_nil ?_
         exact Q_round (n + 1, left - minI (costI y.t) left, decide (left < costI y.t)) (by show (findX l x.t.frm).non ≤ (n + 1) ∧ (n + 1) ≤ x.t.non + 1 ∧ fitE H l x = fitL H x (x.t.non + 1 - (n + 1)).toNat (n + 1) (left - minI (costI y.t) left) (decide (left < costI y.t)) ∧ 0 ≤ (left - minI (costI y.t) left) ∧ (left - minI (costI y.t) left) ≤ 18446744073709551615; exact ⟨by omega, by omega, by rw [hfl, fitL_next hle hy]; rw [hpo, Bool.false_or], by omega, by omega⟩) (by show (x.t.non + 1 - (n + 1)).toNat < (x.t.non + 1 - n).toNat; omega) (by repeat (first | exact .nil | refine .cons rfl ?_ | refine .consE rfl (by first | rfl | (congr 1; omega) | (congr 1; push_cast; omega)) ?_)) (Weak.drop (Weak.refl _))
     ·skip
      refine R_exit (Q_then_exit (Q_then_exit (Q_block_eq ?_)))
      refine St.env (cE 6 rfl (cE 9 rfl .nil)) (qT (rS (rT (lMv (k:=?_)))))
      refine lQ (cE 6 rfl (cE 86 rfl .nil)) ?_
      refine R_cond rfl (fun hpp => ?_) (fun hpp => ?_)
      ·skip
       refine rT (lA (k:=?_))
       refine lQ (cE 6 rfl .nil) (R_ret (Q_then_ret ?_))
       exact R_end (rs2 := _) rfl rfl (.tmp rfl .nil) (⟨by rw [show fitE H l x = 93 by rw [hfl, fitL_end hle, if_pos hpp]]; rfl, rfl⟩) (Weak.trans (Weak.keep (Weak.keep (Weak.keep (Weak.nil _)))) (pool_close (rs := [])))
      ·skip
       refine R_skip (qT (rT (lA (k:=?_))))
       refine lQ (cE 6 rfl .nil) (R_ret ?_)
       exact R_end (rs2 := _) rfl rfl (.tmp rfl .nil) (⟨by rw [show fitE H l x = 0 by rw [hfl, fitL_end hle, if_neg (by rw [hpp]; decide)]]; rfl, rfl⟩) (Weak.trans (Weak.keep (Weak.keep (Weak.keep (Weak.nil _)))) (pool_close (rs := [])))
end Go.Proofs.YtcngmkjdpoiiaaaGreatDoor

/- How states are read. Printed by gen.py. -/
set_option maxRecDepth 100000
namespace Go.Proofs.YtcngmkjdpoiiaaaGreatDoor
open Go Go.RowKit Go.ChangeShapes Go.WideShapes Go.Proofs
theorem Reads.rawSlice {P : Program} {t e sz by_ : Nat} (ht : slB P t e sz by_ = true) : Reads P t (fun s : Option Addr × Nat × Nat => [.slice s.1 s.2.1 s.2.2]) (fun _ _ => True) (fun _ => 1) (fun _ => True) := fun H enc W hd fuel cs x h => by
 rcases DataW.trod_slice (slB_spec ht).1 h with ⟨e1, e2⟩ | ⟨a, len, cap, elems, rest, n, _, e1, _⟩
 ·exact ⟨(none, 0, 0), e1, trivial, bulk_one _, fun _ => trivial⟩
 ·exact ⟨(some a, len, cap), e1, trivial, bulk_one _, fun _ => trivial⟩
/-- A state, as it is read. -/
structure StJ where
 ch : List Int
 p : Par
 h : Int
 tm : Int
 last : List Int
 c1 : Option Addr × Nat × Nat
 c2 : Option Addr × Nat × Nat
 pa : Option Addr × Nat × Nat
 pu : Option Addr × Nat × Nat
 l : LedI
def rawV (s : Option Addr × Nat × Nat) : Value := .slice s.1 s.2.1 s.2.2
def StJ.mid (x : StJ) : List Value := .int .u64 x.tm :: (ints .u8 x.last ++ [rawV x.c1, rawV x.c2, rawV x.pa, rawV x.pu])
def StJ.cells (x : StJ) : List Value := .string (strOfNums x.ch) :: (x.p.cells ++ (.int .u64 x.h :: (x.mid ++ x.l.cells)))
structure StJ.ok (W : World) (x : StJ) : Prop where
 ch : IsB x.ch
 p : x.p.ok
 h : u64 x.h
 last : x.last.length = 32
 l : x.l.ok W
theorem StJ.midLen {x : StJ} (h : x.last.length = 32) : x.mid.length = 37 := by
 unfold StJ.mid; rw [List.length_cons, List.length_append, ints_length, h]; rfl
theorem StJ.midOne (x : StJ) : ∀ v ∈ x.mid, v.oneCell' = true := by
 intro v hv
 unfold StJ.mid at hv
 rcases List.mem_cons.1 hv with rfl | hv
 ·rfl
 ·rcases List.mem_append.1 hv with hv | hv
  ·exact ints_one v hv
  ·simp only [List.mem_cons, List.not_mem_nil, or_false] at hv
   rcases hv with rfl | rfl | rfl | rfl <;> rfl
def StJ.r (x : StJ) (h : x.last.length = 32) : StR := ⟨x.ch, x.p, x.h, x.mid, x.l.bu, x.l.su, StJ.midLen h, x.midOne⟩
theorem StJ.rcells (x : StJ) (h : x.last.length = 32) : x.cells = (x.r h).cells x.l.s.val x.l.r.val := rfl
theorem cells_st : Tryz.prog.cellsOf 63 = 55 := by kernel_rfl
theorem cells_hs : Tryz.prog.cellsOf 40 = 32 := by kernel_rfl
theorem cells_co : Tryz.prog.cellsOf 59 = 1 := by kernel_rfl
theorem fs_co : fsB Tryz.prog 59 [(37, 0, 1)] = true := by kernel_rfl
theorem fs_st : fsB Tryz.prog 63 [(9, 0, 1), (25, 1, 12), (23, 13, 1), (23, 14, 1), (40, 15, 32), (59, 47, 1), (59, 48, 1), (60, 49, 1), (61, 50, 1), (30, 51, 4)] = true := by kernel_rfl
def rd_co := PLift.up (Reads.struct fs_co cells_co (ReadsF.cons (Reads.rawSlice ty_sl_37) ReadsF.nil))
def stOf (a : List Int × Par × Int × Int × List Int × ((Option Addr × Nat × Nat) × Unit) × ((Option Addr × Nat × Nat) × Unit) × (Option Addr × Nat × Nat) × (Option Addr × Nat × Nat) × LedI × Unit) : StJ := ⟨a.1, a.2.1, a.2.2.1, a.2.2.2.1, a.2.2.2.2.1, a.2.2.2.2.2.1.1, a.2.2.2.2.2.2.1.1, a.2.2.2.2.2.2.2.1, a.2.2.2.2.2.2.2.2.1, a.2.2.2.2.2.2.2.2.2.1⟩
def rd_st := PLift.up (Reads.as (cells' := StJ.cells) (Hd' := StJ.ok) (bulk' := fun _ => 1) (Small' := fun x => x.l.s.xs.length * 40 ≤ reachBytes ∧ x.l.r.xs.length * 32 ≤ reachBytes) stOf (Reads.struct fs_st cells_st (ReadsF.cons (Reads.string ty_str_9) (ReadsF.cons rd_par.down (ReadsF.cons (Reads.int ty_int_23) (ReadsF.cons (Reads.int ty_int_23) (ReadsF.cons (Reads.ints (k := .u8) ty_un_40 ty_int_5 cells_u8 cells_hs) (ReadsF.cons rd_co.down (ReadsF.cons rd_co.down (ReadsF.cons (Reads.rawSlice ty_sl_60) (ReadsF.cons (Reads.rawSlice ty_sl_61) (ReadsF.cons rd_led.down ReadsF.nil))))))))))) (fun a => by simp [StJ.cells, StJ.mid, stOf, rawV]) (fun W a h => by
 obtain ⟨⟨⟨⟨h0, _⟩, _⟩, ⟨h1, _⟩, ⟨h2, _⟩, _, ⟨⟨h4, _⟩, _⟩, _, _, _, _, ⟨h9, _⟩, _⟩, _⟩ := h
 exact ⟨h0, h1, fits64 h2, h4, h9⟩) (fun _ => by omega) (fun a h => h.2.2.2.2.2.2.2.2.2.1))
end Go.Proofs.YtcngmkjdpoiiaaaGreatDoor

/- A pool: compare. Printed by gen.py. -/
set_option maxRecDepth 100000
namespace Go.Proofs.YtcngmkjdpoiiaaaGreatDoor
open Go Go.RowKit Go.Proofs
/-- Which of two is the dearer: below 0 the first. -/
def cmpT (x y : Tx) : Int := orL [cmpI y.fee x.fee, cmpI x.frm y.frm, cmpI x.non y.non]
theorem cmpI3 (a b : Int) : (cmpI a b = 0 ↔ a = b) ∧ (cmpI a b < 0 ↔ a < b) := by
 unfold cmpI
 split
 ·constructor <;> constructor <;> intro h <;> omega
 ·split
  ·constructor <;> constructor <;> intro h <;> omega
  ·constructor <;> constructor <;> intro h <;> omega
theorem orL3 (a b c : Int) : orL [a, b, c] = if a ≠ 0 then a else if b ≠ 0 then b else if c ≠ 0 then c else 0 := rfl
theorem cmpT_neg (x y : Tx) : cmpT x y < 0 ↔ y.fee < x.fee ∨ (x.fee = y.fee ∧ (x.frm < y.frm ∨ (x.frm = y.frm ∧ x.non < y.non))) := by
 unfold cmpT; rw [orL3]
 obtain ⟨a1, a2⟩ := cmpI3 y.fee x.fee
 obtain ⟨b1, b2⟩ := cmpI3 x.frm y.frm
 obtain ⟨c1, c2⟩ := cmpI3 x.non y.non
 split
 ·omega
 ·split
  ·omega
  ·split <;> omega
theorem cmpT_zero (x y : Tx) : cmpT x y = 0 ↔ x.fee = y.fee ∧ x.frm = y.frm ∧ x.non = y.non := by
 unfold cmpT; rw [orL3]
 obtain ⟨a1, a2⟩ := cmpI3 y.fee x.fee
 obtain ⟨b1, b2⟩ := cmpI3 x.frm y.frm
 obtain ⟨c1, c2⟩ := cmpI3 x.non y.non
 split
 ·omega
 ·split
  ·omega
  ·split <;> omega
theorem compare_ok {gl : Nat → Obj} (x y : Tx) : SpecV (cx gl) 142 [.agg x.cells.toArray, .agg y.cells.toArray] noPre (.int .i64 (cmpT x y)) := by
 refine Spec.enter (C := cx gl) Tryz.func142 rfl 22 rfl rfl fun w0 h0 hsep hsub hpre => ?_
 obtain rfl : h0 = Heap.none := hsep
 show St (cx gl) _ [(0, .agg x.cells.toArray), (1, .agg y.cells.toArray)] _ _
 refine rT ?_
 refine lO (W_box (x.cells) rfl rfl rfl rfl rfl fun b2 => ?_)
 refine lO (W_box (y.cells) rfl rfl rfl rfl rfl fun b3 => lA (k:=?_))
 refine lQ (cE 2 rfl (cE 3 rfl (cE 4 rfl .nil))) (rS ?_)
 refine R_open [(0, 0), (1, 1), (2, 0), (3, 1), (5, 0), (6, 1), (7, 0), (8, 1), (10, 0), (11, 1), (12, 0), (13, 1), (4, 2), (9, 2), (14, 2), (15, 2), (16, 2), (17, 0)] mixed (by kernel_rfl) (QOk.then QOk.body) (oP rfl (pF ty_fl_67_4) (k:=oV rfl (vB ty_sc_23 .h0) (k:=oP rfl (pF ty_fl_67_4) (k:=oV rfl (vB ty_sc_23 .h1) (k:=oP rfl (pF ty_fl_67_1) (k:=oV rfl (vB ty_sc_26 .h1) (k:=oP rfl (pF ty_fl_67_1) (k:=oV rfl (vB ty_sc_26 .h0) (k:=oP rfl (pF ty_fl_67_5) (k:=oV rfl (vB ty_sc_23 .h1) (k:=oP rfl (pF ty_fl_67_5) (k:=oV rfl (vB ty_sc_23 .h0) (k:=?_)))))))))))))
 refine O_keep rfl rfl (W_callV rfl rfl rfl rfl fn_ca_94 (cmpu_ok _ _) (fun _ _ => trivial) (K_keep (Weak.refl _) ?_))
 refine O_keep rfl rfl (W_callV rfl rfl rfl rfl fn_ca_95 (cmpa_ok _ _) (fun _ _ => trivial) (K_keep (Weak.refl _) ?_))
 refine O_keep rfl rfl (W_callV rfl rfl rfl rfl fn_ca_94 (cmpu_ok _ _) (fun _ _ => trivial) (K_keep (Weak.refl _) ?_))
 refine O_keep rfl rfl (W_lit (z := .nilIface) (ints .i64 [cmpI y.fee x.fee, cmpI x.frm y.frm, cmpI x.non y.non]) rfl rfl rfl ty_sl_200 ty_lz_200 rfl rfl rfl (by decide) (by decide) (by simp [Value.cells]) (rfl) fun b20 => (K_keep (Weak.drop (Weak.refl _)) ?_))
 refine O_keep rfl rfl (W_callV rfl rfl rfl rfl fn_ca_93 (or_ok b20 3 [cmpI y.fee x.fee, cmpI x.frm y.frm, cmpI x.non y.non] (Nat.le_refl 3) (show 3 ≤ 1000 by decide)) (fun w nw => (Sn.ofBlk .h0).rowAt0 (fun _ _ h => h) w nw) (K_keep (Weak.refl _) (oP rfl pA (k:=O_nil ?_))))
 refine St.env (cE 4 rfl .nil) (qT (R_ret ?_))
 exact R_endV rfl rfl (.tmp rfl .nil) (rfl)
end Go.Proofs.YtcngmkjdpoiiaaaGreatDoor

/- A pool: what is the least dear. Printed by gen.py. -/
set_option maxRecDepth 100000
namespace Go.Proofs.YtcngmkjdpoiiaaaGreatDoor
open Go Go.RowKit Go.Proofs
/-! ### What is gone through -/
def vis (H : List TxR) (I : List Nat) : List TxR := I.map fun i => H.getD i txrz
theorem vis_snoc {H : List TxR} {I : List Nat} {i : Nat} {x : TxR} (h : H[i]? = some x) : vis H (I ++ [i]) = vis H I ++ [x] := by
 unfold vis; rw [List.map_append]
 simp [List.getD_eq_getElem?_getD, h]
theorem vis_all {H : List TxR} {I : List Nat} (h1 : ∀ i ∈ I, i < H.length) (h2 : ∀ i, i < H.length → i ∈ I) (x : TxR) : x ∈ vis H I ↔ x ∈ H := by
 unfold vis
 rw [List.mem_map]
 refine ⟨fun ⟨i, hi, e⟩ => ?_, fun hx => ?_⟩
 ·have h3 := h1 i hi
  rw [List.getD_eq_getElem?_getD, List.getElem?_eq_getElem h3] at e
  rw [← e]; exact List.getElem_mem h3
 ·obtain ⟨i, hi, e⟩ := List.mem_iff_getElem.1 hx
  exact ⟨i, h2 i hi, by rw [List.getD_eq_getElem?_getD, List.getElem?_eq_getElem hi, ← e]; rfl⟩
def leftN (n : Nat) (I : List Nat) : Nat := ((List.range n).filter fun i => !I.contains i).length
theorem leftN_lt {n : Nat} {I : List Nat} {i : Nat} (hi : i < n) (hn : i ∉ I) : leftN n (I ++ [i]) < leftN n I := by
 unfold leftN
 refine filter_lt (fun j => !I.contains j) (fun j => !(I ++ [i]).contains j) (fun j h => ?_) i (by simpa using hn) (by simp) _ (List.mem_range.2 hi)
 simp only [Bool.not_eq_true', List.contains_eq_mem, decide_eq_false_iff_not, List.mem_append] at h ⊢
 exact fun h9 => h (.inl h9)
theorem nodup_snoc {I : List Nat} {i : Nat} (h : I.Nodup) (hn : i ∉ I) : (I ++ [i]).Nodup := List.nodup_append.2 ⟨h, by simp, fun a ha b hb => by rw [List.mem_singleton] at hb; subst hb; exact fun e => hn (e ▸ ha)⟩
theorem bound_snoc {I : List Nat} {i n : Nat} (h : ∀ j ∈ I, j < n) (hi : i < n) : ∀ j ∈ I ++ [i], j < n := fun j hj => by
 rcases List.mem_append.1 hj with hj | hj
 ·exact h j hj
 ·rw [List.mem_singleton] at hj; subst hj; exact hi
/-! ### The last of each account -/
def lM (L : List TxR) : List (Int × Value) := L.map fun y => (y.t.frm, Value.agg y.t.cells.toArray)
def lastAt (L : List TxR) (a : Int) : Option TxR := L.find? fun y => decide (y.t.frm = a)
def setT (x : TxR) : List TxR → List TxR
 | [] => [x]
 | y :: L => if y.t.frm = x.t.frm then x :: L else y :: setT x L
theorem setK_lM (x : TxR) (L : List TxR) : setK x.t.frm (Value.agg x.t.cells.toArray) (lM L) = lM (setT x L) := by
 have key : ∀ (L : List TxR) (n : Nat), match findK x.t.frm (lM L) n with | some (i, _) => n ≤ i ∧ (lM L).set (i - n) (x.t.frm, Value.agg x.t.cells.toArray) = lM (setT x L) | none => lM L ++ [(x.t.frm, Value.agg x.t.cells.toArray)] = lM (setT x L) := by
  intro L
  induction L with
  | nil => intro n; rfl
  | cons y L ih =>
   intro n
   by_cases h : y.t.frm = x.t.frm
   ·simp [lM, findK, setT, h]
   ·have h2 : ¬ x.t.frm = y.t.frm := fun e => h e.symm
    have ih := ih (n + 1)
    have e : lM (y :: L) = (y.t.frm, Value.agg y.t.cells.toArray) :: lM L := rfl
    have e2 : lM (setT x (y :: L)) = (y.t.frm, Value.agg y.t.cells.toArray) :: lM (setT x L) := by rw [setT, if_neg h]; rfl
    rw [e, e2]
    simp only [findK, h2, if_false]
    cases hr : findK x.t.frm (lM L) (n + 1) with
    | none => rw [hr] at ih; simp only at ih ⊢; rw [List.cons_append, ih]
    | some p =>
     obtain ⟨i, v⟩ := p
     rw [hr] at ih
     obtain ⟨h3, h4⟩ := ih
     refine ⟨by omega, ?_⟩
     rw [show i - n = (i - (n + 1)) + 1 by omega, List.set_cons_succ, h4]
 have := key L 0
 unfold setK
 split
 ·rename_i i v hr; rw [hr] at this; exact this.2
 ·rename_i hr; rw [hr] at this; exact this
theorem look_last (L : List TxR) (a : Int) : lookV true (findK a (lM L) 0) (.agg #[.int .i64 0, .int .u64 0, .int .u64 0, .int .u64 0, .int .u64 0, .int .u64 0, .int .u8 0, .int .u8 0, .int .u8 0, .int .u8 0, .int .u8 0, .int .u8 0, .int .u8 0, .int .u8 0, .int .u8 0, .int .u8 0, .int .u8 0, .int .u8 0, .int .u8 0, .int .u8 0, .int .u8 0, .int .u8 0]) = .tuple #[.agg ((lastAt L a).getD txrz).t.cells.toArray, .bool (lastAt L a).isSome] := by
 unfold lM; rw [lookT_map (fun y : TxR => y.t.frm) (fun x => Value.agg x.t.cells.toArray) a L]
 unfold lastAt
 cases L.find? fun y => decide (y.t.frm = a) <;> rfl
def noOf (but : Int) (L : List TxR) : List TxR := L.eraseP fun y => decide (y.t.frm = but)
theorem del_lM (L : List TxR) (a : Int) : delK a (lM L) = lM (noOf a L) := del_map (fun y : TxR => y.t.frm) (fun x => Value.agg x.t.cells.toArray) a L
theorem mem_setT {x : TxR} : ∀ {L : List TxR}, (L.map fun y => y.t.frm).Nodup → ∀ {y : TxR}, y ∈ setT x L ↔ y = x ∨ (y ∈ L ∧ y.t.frm ≠ x.t.frm)
 | [], _, y => by simp [setT]
 | z :: L, h, y => by
  rw [List.map_cons, List.nodup_cons] at h
  rw [setT]
  split
  ·rename_i e
   rw [List.mem_cons, List.mem_cons]
   refine ⟨fun h1 => h1.elim .inl fun h2 => .inr ⟨.inr h2, fun e2 => h.1 (List.mem_map.2 ⟨y, h2, by rw [e2, e]⟩)⟩, fun h1 => h1.elim .inl fun ⟨h2, h3⟩ => ?_⟩
   rcases h2 with rfl | h2
   ·exact absurd e h3
   ·exact .inr h2
  ·rename_i e
   rw [List.mem_cons, List.mem_cons, mem_setT h.2]
   refine ⟨fun h1 => ?_, fun h1 => ?_⟩
   ·rcases h1 with rfl | rfl | ⟨h2, h3⟩
    ·exact .inr ⟨.inl rfl, e⟩
    ·exact .inl rfl
    ·exact .inr ⟨.inr h2, h3⟩
   ·rcases h1 with rfl | ⟨rfl | h2, h3⟩
    ·exact .inr (.inl rfl)
    ·exact .inl rfl
    ·exact .inr (.inr ⟨h2, h3⟩)
theorem setT_frm {x : TxR} : ∀ {L : List TxR}, (L.map fun y => y.t.frm).Nodup → ((setT x L).map fun y => y.t.frm).Nodup
 | [], _ => by simp [setT]
 | z :: L, h => by
  rw [List.map_cons, List.nodup_cons] at h
  rw [setT]
  split
  ·rename_i e
   rw [List.map_cons, List.nodup_cons]; exact ⟨by rw [← e]; exact h.1, h.2⟩
  ·rename_i e
   rw [List.map_cons, List.nodup_cons]
   refine ⟨fun h1 => ?_, setT_frm h.2⟩
   obtain ⟨y, hy, e2⟩ := List.mem_map.1 h1
   rcases (mem_setT h.2).1 hy with rfl | ⟨h3, _⟩
   ·exact e e2.symm
   ·exact h.1 (List.mem_map.2 ⟨y, h3, e2⟩)
structure Lasts (V L : List TxR) : Prop where
 one : (L.map fun y => y.t.frm).Nodup
 mem : ∀ y ∈ L, y ∈ V
 max : ∀ y ∈ L, ∀ z ∈ V, z.t.frm = y.t.frm → z.t.non ≤ y.t.non
 all : ∀ z ∈ V, ∃ y ∈ L, y.t.frm = z.t.frm
theorem Lasts.nil : Lasts [] [] := ⟨List.nodup_nil, fun _ h => h, fun _ h => (nomatch h), fun _ h => (nomatch h)⟩
theorem Lasts.put {V L : List TxR} (d : Lasts V L) {x : TxR} (h : ∀ y ∈ L, y.t.frm = x.t.frm → y.t.non < x.t.non) : Lasts (V ++ [x]) (setT x L) := by
 refine ⟨setT_frm d.one, fun y hy => ?_, fun y hy z hz e => ?_, fun z hz => ?_⟩
 ·rcases (mem_setT d.one).1 hy with rfl | ⟨h1, _⟩
  ·simp
  ·exact List.mem_append_left _ (d.mem y h1)
 ·rcases (mem_setT d.one).1 hy with rfl | ⟨h1, h2⟩
  ·rcases List.mem_append.1 hz with hz | hz
   ·obtain ⟨w, hw, e2⟩ := d.all z hz
    have h3 := d.max w hw z hz e2.symm
    have h4 := h w hw (by omega)
    omega
   ·rw [List.mem_singleton] at hz; rw [hz]; exact Int.le_refl _
  ·rcases List.mem_append.1 hz with hz | hz
   ·exact d.max y h1 z hz e
   ·rw [List.mem_singleton] at hz; subst hz; exact absurd e.symm h2
 ·rcases List.mem_append.1 hz with hz | hz
  ·obtain ⟨w, hw, e2⟩ := d.all z hz
   by_cases h1 : w.t.frm = x.t.frm
   ·exact ⟨x, (mem_setT d.one).2 (.inl rfl), by omega⟩
   ·exact ⟨w, (mem_setT d.one).2 (.inr ⟨hw, h1⟩), e2⟩
  ·rw [List.mem_singleton] at hz; subst hz; exact ⟨z, (mem_setT d.one).2 (.inl rfl), rfl⟩
theorem Lasts.keep {V L : List TxR} (d : Lasts V L) {x y : TxR} (hy : y ∈ L) (e : y.t.frm = x.t.frm) (h : ¬ y.t.non < x.t.non) : Lasts (V ++ [x]) L := by
 refine ⟨d.one, fun z hz => List.mem_append_left _ (d.mem z hz), fun w hw z hz e2 => ?_, fun z hz => ?_⟩
 ·rcases List.mem_append.1 hz with hz | hz
  ·exact d.max w hw z hz e2
  ·rw [List.mem_singleton] at hz; subst hz
   obtain rfl : w = y := nodup_inj d.one hw hy (by show w.t.frm = y.t.frm; omega)
   omega
 ·rcases List.mem_append.1 hz with hz | hz
  ·exact d.all z hz
  ·rw [List.mem_singleton] at hz; subst hz; exact ⟨y, hy, e⟩
theorem Lasts.same {V W L : List TxR} (h : ∀ x, x ∈ V ↔ x ∈ W) (d : Lasts V L) : Lasts W L := ⟨d.one, fun y hy => (h y).1 (d.mem y hy), fun y hy z hz => d.max y hy z ((h z).2 hz), fun z hz => d.all z ((h z).2 hz)⟩
theorem mem_noOf {L : List TxR} (h : (L.map fun y => y.t.frm).Nodup) (but : Int) (y : TxR) : y ∈ noOf but L ↔ y ∈ L ∧ y.t.frm ≠ but := by
 unfold noOf
 refine ⟨fun hy => ⟨List.mem_of_mem_eraseP hy, ?_⟩, fun ⟨h1, h2⟩ => (List.mem_eraseP_of_neg (by simp [h2])).2 h1⟩
 induction L with
 | nil => cases hy
 | cons a l ih =>
  intro e
  rw [List.map_cons, List.nodup_cons] at h
  rw [List.eraseP_cons] at hy
  by_cases ha : a.t.frm = but
  ·rw [decide_eq_true ha] at hy
   exact h.1 (List.mem_map.2 ⟨y, hy, by rw [e, ha]⟩)
  ·rw [decide_eq_false ha] at hy
   rcases List.mem_cons.1 hy with rfl | hy
   ·exact ha e
   ·exact ih h.2 hy e
/-- The least dear of those that are gone through. -/
def Least (V : List TxR) : Option TxR → Prop
 | none => V = []
 | some c => c ∈ V ∧ ∀ z ∈ V, cmpT z.t c.t ≤ 0
theorem cmpT_le (x y : Tx) : cmpT x y ≤ 0 ↔ ¬ (x.fee < y.fee ∨ (x.fee = y.fee ∧ (y.frm < x.frm ∨ (x.frm = y.frm ∧ y.non < x.non)))) := by
 have h1 := cmpT_neg x y
 have h2 := cmpT_zero x y
 omega
theorem Least.first (x : TxR) : Least [x] (some x) := ⟨by simp, fun z hz => by rw [List.mem_singleton] at hz; subst hz; rw [cmpT_le]; omega⟩
theorem Least.take {V : List TxR} {c x : TxR} (h : Least V (some c)) (hc : 0 < cmpT x.t c.t) : Least (V ++ [x]) (some x) := by
 have h1 := cmpT_le x.t c.t
 refine ⟨by simp, fun z hz => ?_⟩
 rcases List.mem_append.1 hz with hz | hz
 ·have h2 := (cmpT_le z.t c.t).1 (h.2 z hz)
  rw [cmpT_le]; omega
 ·rw [List.mem_singleton] at hz; subst hz; rw [cmpT_le]; omega
theorem Least.keep {V : List TxR} {c x : TxR} (h : Least V (some c)) (hc : ¬ 0 < cmpT x.t c.t) : Least (V ++ [x]) (some c) := by
 refine ⟨List.mem_append_left _ h.1, fun z hz => ?_⟩
 rcases List.mem_append.1 hz with hz | hz
 ·exact h.2 z hz
 ·rw [List.mem_singleton] at hz; subst hz; omega
/-- The least dear of all that are the last of their account, but for one account's. -/
def CheapOf (H : List TxR) (but : Int) : Option TxR → Prop
 | none => ∀ x ∈ H, x.t.frm = but
 | some c => c ∈ H ∧ c.t.frm ≠ but ∧ (∀ z ∈ H, z.t.frm = c.t.frm → z.t.non ≤ c.t.non) ∧ ∀ z ∈ H, z.t.frm ≠ but → (∀ w ∈ H, w.t.frm = z.t.frm → w.t.non ≤ z.t.non) → cmpT z.t c.t ≤ 0
theorem cheap_best {H L L2 : List TxR} {but : Int} (hP : PoolOk H) (d : Lasts H L) (h2 : ∀ y, y ∈ L2 ↔ y ∈ L ∧ y.t.frm ≠ but) {V : List TxR} (hV : ∀ y, y ∈ V ↔ y ∈ L2) : ∀ {c : Option TxR}, Least V c → CheapOf H but c
 | none, h => fun x hx => by
  obtain ⟨y, hy, e⟩ := d.all x hx
  cases Classical.em (x.t.frm = but) with
  | inl h9 => exact h9
  | inr h9 =>
   have : y ∈ V := (hV y).2 ((h2 y).2 ⟨hy, by omega⟩)
   have h : V = [] := h
   rw [h] at this; cases this
 | some c, h => by
  obtain ⟨h3, h4⟩ := (h2 c).1 ((hV c).1 h.1)
  refine ⟨d.mem c h3, h4, d.max c h3, fun z hz hn hl => ?_⟩
  obtain ⟨y, hy, e⟩ := d.all z hz
  have h5 := h.2 y ((hV y).2 ((h2 y).2 ⟨hy, by omega⟩))
  have h6 := hl y (d.mem y hy) e
  have h7 := d.max y hy z hz e.symm
  obtain rfl : y = z := nodup_inj hP.keys (d.mem y hy) hz (Prod.ext e (Int.le_antisymm h6 h7))
  exact h5
end Go.Proofs.YtcngmkjdpoiiaaaGreatDoor

/- Go's sort of transactions. Printed by gen.py. -/
set_option maxRecDepth 100000
namespace Go.Proofs.YtcngmkjdpoiiaaaGreatDoor
open Go Go.RowKit Go.Proofs Go.Sort Go.Shelf
def sortT_ren : Go.Shelf.Ren := ⟨fun | 6 => 141 | 15 => 171 | 14 => 206 | 28 => 230 | 29 => 231 | 20 => 258 | 21 => 259 | 22 => 260 | 23 => 261 | 24 => 262 | 25 => 263 | 26 => 264 | 27 => 265 | 46 => 295 | 47 => 276 | 48 => 277 | 49 => 296 | 50 => 297 | 57 => 316 | n => n, fun | 22 => 92 | 24 => 67 | 25 => 239 | 3 => 3 | 39 => 271 | 0 => 0 | 53 => 82 | 55 => 23 | 4 => 4 | 46 => 336 | 45 => 335 | 50 => 191 | 5 => 5 | 9 => 9 | 66 => 376 | 70 => 380 | 76 => 400 | 77 => 401 | n => n, fun | n => n⟩
theorem sortT : Go.Proofs.SlLaysF0.n6 Tryz.prog sortT_ren := {
 mixed := by kernel_rfl
 f6 := ⟨Tryz.f141.name, by decide, Tryz.func141.trans (congrArg some (by kernel_rfl))⟩
 f14 := ⟨Tryz.f206.name, by decide, Tryz.func206.trans (congrArg some (by kernel_rfl))⟩
 f15 := Tryz.func171.trans (congrArg some (by kernel_rfl))
 f20 := ⟨Tryz.f258.name, by decide, Tryz.func258.trans (congrArg some (by kernel_rfl))⟩
 f21 := ⟨Tryz.f259.name, by decide, Tryz.func259.trans (congrArg some (by kernel_rfl))⟩
 f22 := ⟨Tryz.f260.name, by decide, Tryz.func260.trans (congrArg some (by kernel_rfl))⟩
 f23 := ⟨Tryz.f261.name, by decide, Tryz.func261.trans (congrArg some (by kernel_rfl))⟩
 f24 := ⟨Tryz.f262.name, by decide, Tryz.func262.trans (congrArg some (by kernel_rfl))⟩
 f25 := ⟨Tryz.f263.name, by decide, Tryz.func263.trans (congrArg some (by kernel_rfl))⟩
 f26 := ⟨Tryz.f264.name, by decide, Tryz.func264.trans (congrArg some (by kernel_rfl))⟩
 f27 := ⟨Tryz.f265.name, by decide, Tryz.func265.trans (congrArg some (by kernel_rfl))⟩
 f28 := Tryz.func230.trans (congrArg some (by kernel_rfl))
 f29 := Tryz.func231.trans (congrArg some (by kernel_rfl))
 f46 := ⟨Tryz.f295.name, by decide, Tryz.func295.trans (congrArg some (by kernel_rfl))⟩
 f47 := Tryz.func276.trans (congrArg some (by kernel_rfl))
 f48 := Tryz.func277.trans (congrArg some (by kernel_rfl))
 f49 := ⟨Tryz.f296.name, by decide, Tryz.func296.trans (congrArg some (by kernel_rfl))⟩
 f50 := ⟨Tryz.f297.name, by decide, Tryz.func297.trans (congrArg some (by kernel_rfl))⟩
 f57 := ⟨Tryz.f316.name, by decide, Tryz.func316.trans (congrArg some (by kernel_rfl))⟩
 t0 := Tryz.underlying0
 a0 := Tryz.isAgg0
 z0 := Tryz.sizeOf0
 v0 := Tryz.zeroValue0
 t3 := Tryz.underlying3
 a3 := Tryz.isAgg3
 z3 := Tryz.sizeOf3
 v3 := Tryz.zeroValue3
 t4 := Tryz.underlying4
 a4 := Tryz.isAgg4
 z4 := Tryz.sizeOf4
 v4 := Tryz.zeroValue4
 t5 := Tryz.underlying5
 a5 := Tryz.isAgg5
 z5 := Tryz.sizeOf5
 v5 := Tryz.zeroValue5
 t9 := Tryz.underlying9
 a9 := Tryz.isAgg9
 z9 := Tryz.sizeOf9
 v9 := Tryz.zeroValue9
 t22 := Tryz.underlying92
 a22 := Tryz.isAgg92
 z22 := Tryz.sizeOf92
 v22 := Tryz.zeroValue92
 t25 := Tryz.underlying239
 a25 := Tryz.isAgg239
 z25 := Tryz.sizeOf239
 v25 := Tryz.zeroValue239
 t39 := Tryz.underlying271
 a39 := Tryz.isAgg271
 z39 := Tryz.sizeOf271
 v39 := Tryz.zeroValue271
 t45 := Tryz.underlying335
 a45 := Tryz.isAgg335
 z45 := Tryz.sizeOf335
 v45 := Tryz.zeroValue335
 t46 := Tryz.underlying336
 a46 := Tryz.isAgg336
 z46 := Tryz.sizeOf336
 v46 := Tryz.zeroValue336
 t50 := Tryz.underlying191
 a50 := Tryz.isAgg191
 z50 := Tryz.sizeOf191
 v50 := Tryz.zeroValue191
 t53 := Tryz.underlying82
 a53 := Tryz.isAgg82
 z53 := Tryz.sizeOf82
 v53 := Tryz.zeroValue82
 t55 := Tryz.underlying23
 a55 := Tryz.isAgg23
 z55 := Tryz.sizeOf23
 v55 := Tryz.zeroValue23
 t66 := Tryz.underlying376
 a66 := Tryz.isAgg376
 z66 := Tryz.sizeOf376
 v66 := Tryz.zeroValue376
 t70 := Tryz.underlying380
 a70 := Tryz.isAgg380
 z70 := Tryz.sizeOf380
 v70 := Tryz.zeroValue380
 t76 := Tryz.underlying400
 a76 := Tryz.isAgg400
 z76 := Tryz.sizeOf400
 v76 := Tryz.zeroValue400
 t77 := Tryz.underlying401
 a77 := Tryz.isAgg401
 z77 := Tryz.sizeOf401
 v77 := Tryz.zeroValue401 }
theorem swo_tx : SWO (ltOf fun x y : TxR => cmpT x.t y.t) where
 irrefl x := by
  show decide (cmpT x.t x.t < 0) = false
  rw [decide_eq_false_iff_not, cmpT_neg]; omega
 trans x y z h1 h2 := by
  replace h1 : decide (cmpT x.t y.t < 0) = true := h1
  replace h2 : decide (cmpT y.t z.t < 0) = true := h2
  show decide (cmpT x.t z.t < 0) = true
  rw [decide_eq_true_eq, cmpT_neg] at *; omega
 ntrans x y z h1 h2 := by
  replace h1 : decide (cmpT x.t y.t < 0) = false := h1
  replace h2 : decide (cmpT y.t z.t < 0) = false := h2
  show decide (cmpT x.t z.t < 0) = false
  rw [decide_eq_false_iff_not, cmpT_neg] at *; omega
theorem sortT_ok {gl : Nat → Obj} (base : Option Addr) (cap : Nat) (d : Array TxR) (hsz : d.size < 4611686018427387904) : Spec (cx gl) 141 [.slice base d.size cap, .func (.func 142) #[] #[]] (fun _ _ => True) [ownS 67 22 (.slice base d.size cap) (d.size) (rc d.toList)] (fun u rs => u = .tuple #[] ∧ ∃ d' : Array TxR, PermIn 0 d.size d d' ∧ SortedIn (ltOf fun x y : TxR => cmpT x.t y.t) 0 d.size d' ∧ rs = [ownS 67 22 (.slice base d.size cap) (d.size) (rc d'.toList)]) :=
 sortFunc_of (C := cx gl) (α := TxR) (cf := fun x y => cmpT x.t y.t) sortT Tryz.isAgg67 Tryz.sizeOf67 fn_ca_142 swo_tx (fun x y => compare_ok (gl := gl) x.t y.t) 67 base cap d hsz
end Go.Proofs.YtcngmkjdpoiiaaaGreatDoor

/- A heap: the plain law. Printed by gen.py. -/
set_option maxRecDepth 100000
namespace Go.Proofs.YtcngmkjdpoiiaaaGreatDoor
open Go Go.RowKit Go.Proofs Go.Sort
section
variable {α : Type} [Inhabited α] {lt : α → α → Bool}
def par (i : Nat) : Nat := (i - 1) / 2
theorem par_lt {i : Nat} (h : 0 < i) : par i < i := by unfold par; omega
theorem par_child {i k : Nat} (h : 0 < k) : par k = i ↔ k = 2 * i + 1 ∨ k = 2 * i + 2 := by unfold par; omega
/-- None of the first n is before the one above it. -/
def HeapIn (lt : α → α → Bool) (n : Nat) (d : Array α) : Prop := ∀ k, 0 < k → k < n → lt d[k]! d[par k]! = false
/-- So it is but for place i, which may be before the one above it. -/
structure HeapUp (lt : α → α → Bool) (n : Nat) (d : Array α) (i : Nat) : Prop where
 all : ∀ k, 0 < k → k < n → k ≠ i → lt d[k]! d[par k]! = false
 over : 0 < i → ∀ k, 0 < k → k < n → par k = i → lt d[k]! d[par i]! = false
/-- So it is but for place i, which one below it may be before. -/
structure HeapDn (lt : α → α → Bool) (n : Nat) (d : Array α) (i : Nat) : Prop where
 all : ∀ k, 0 < k → k < n → par k ≠ i → lt d[k]! d[par k]! = false
 over : 0 < i → ∀ k, 0 < k → k < n → par k = i → lt d[k]! d[par i]! = false
theorem lt_asymm (O : SWO lt) {x y : α} (h : lt x y = true) : lt y x = false := by
 cases h2 : lt y x with
 | false => rfl
 | true => have := O.trans x y x h h2; rw [O.irrefl] at this; cases this
theorem HeapUp.new {n : Nat} {d : Array α} (h : HeapIn lt n d) : HeapUp lt (n + 1) d n :=
 ⟨fun k h0 h1 h2 => h k h0 (by omega), fun h0 k h1 h2 h3 => by have := par_lt h1; omega⟩
theorem HeapUp.done {n i : Nat} {d : Array α} (h : HeapUp lt n d i) (hi : i = 0 ∨ lt d[i]! d[par i]! = false) : HeapIn lt n d := fun k h0 h1 => by
 by_cases e : k = i
 ·subst e; rcases hi with hi | hi
  ·omega
  ·exact hi
 ·exact h.all k h0 h1 e
theorem HeapUp.step (O : SWO lt) {n i : Nat} {d : Array α} (hn : n ≤ d.size) (hi0 : 0 < i) (hi : i < n) (h : HeapUp lt n d i) (hl : lt d[i]! d[par i]! = true) : HeapUp lt n (swp d i (par i)) (par i) := by
 have hp := par_lt hi0
 have ei : (swp d i (par i))[i]! = d[par i]! := swp_left d i (par i) (by omega) (by omega)
 have ep : (swp d i (par i))[par i]! = d[i]! := swp_right d i (par i) (by omega)
 have eo : ∀ k, k ≠ i → k ≠ par i → (swp d i (par i))[k]! = d[k]! := fun k => swp_other d i (par i) k
 refine ⟨fun k h0 h1 h2 => ?_, fun h0 k h1 h2 h3 => ?_⟩
 ·by_cases e : k = i
  ·subst e; rw [ei, ep]; exact lt_asymm O hl
  ·rw [eo k e h2]
   by_cases e2 : par k = i
   ·rw [e2, ei]; exact h.over hi0 k h0 h1 e2
   ·by_cases e3 : par k = par i
    ·rw [e3, ep]
     have h4 := h.all k h0 h1 e
     rw [e3] at h4
     exact O.ntrans _ _ _ h4 (lt_asymm O hl)
    ·rw [eo (par k) e2 e3]; exact h.all k h0 h1 e
 ·have hpp := par_lt h0
  rw [eo (par (par i)) (by omega) (by omega)]
  have h4 := h.all (par i) h0 (by omega) (by omega)
  by_cases e : k = i
  ·subst e; rw [ei]; exact h4
  ·rw [eo k e (by have := par_lt h1; omega)]
   have h5 := h.all k h1 h2 e
   rw [h3] at h5
   exact O.ntrans _ _ _ h5 h4
theorem HeapIn.cut {n m : Nat} {d : Array α} (h : HeapIn lt n d) (hm : m ≤ n) : HeapIn lt m d := fun k h0 h1 => h k h0 (by omega)
/-- The first is one of the least. -/
theorem HeapIn.root (O : SWO lt) {n : Nat} {d : Array α} (h : HeapIn lt n d) : ∀ k, k < n → lt d[k]! d[0]! = false := by
 intro k
 induction k using Nat.strongRecOn with
 | ind k ih =>
  intro hk
  by_cases h0 : k = 0
  ·subst h0; exact O.irrefl _
  ·have hp := par_lt (i := k) (by omega)
   exact O.ntrans _ _ _ (h k (by omega) hk) (ih _ hp (by omega))
theorem HeapDn.new {n : Nat} {d d' : Array α} (h : HeapIn lt n d) (hd : ∀ k, 0 < k → k < n → d'[k]! = d[k]!) : HeapDn lt n d' 0 :=
 ⟨fun k h0 h1 h2 => by rw [hd k h0 h1, hd (par k) (by omega) (by have := par_lt h0; omega)]; exact h k h0 h1, fun h0 => by omega⟩
theorem HeapDn.done {n i : Nat} {d : Array α} (h : HeapDn lt n d i) (hi : ∀ k, 0 < k → k < n → par k = i → lt d[k]! d[i]! = false) : HeapIn lt n d := fun k h0 h1 => by
 by_cases e : par k = i
 ·rw [e]; exact hi k h0 h1 e
 ·exact h.all k h0 h1 e
theorem HeapDn.step (O : SWO lt) {n i c : Nat} {d : Array α} (hn : n ≤ d.size) (hc0 : 0 < c) (hc : c < n) (hp : par c = i) (h : HeapDn lt n d i) (hl : lt d[c]! d[i]! = true) (hm : ∀ k, 0 < k → k < n → par k = i → lt d[k]! d[c]! = false) : HeapDn lt n (swp d i c) c := by
 have hic : i < c := by rw [← hp]; exact par_lt hc0
 have ei : (swp d i c)[i]! = d[c]! := swp_left d i c (by omega) (by omega)
 have ec : (swp d i c)[c]! = d[i]! := swp_right d i c (by omega)
 have eo : ∀ k, k ≠ i → k ≠ c → (swp d i c)[k]! = d[k]! := fun k => swp_other d i c k
 refine ⟨fun k h0 h1 h2 => ?_, fun _ k h1 h2 h3 => ?_⟩
 ·by_cases e : k = i
  ·subst e
   have hpk := par_lt h0
   rw [ei, eo (par k) (by omega) (by omega)]
   exact h.over h0 c hc0 hc hp
  ·by_cases e2 : k = c
   ·subst e2; rw [ec, hp, ei]; exact lt_asymm O hl
   ·rw [eo k e e2]
    by_cases e3 : par k = i
    ·rw [e3, ei]; exact hm k h0 h1 e3
    ·rw [eo (par k) e3 h2]; exact h.all k h0 h1 e3
 ·have hck : c < k := by rw [← h3]; exact par_lt h1
  rw [hp, ei, eo k (by omega) (by omega)]
  have h4 := h.all k h1 h2 (by omega)
  rw [h3] at h4; exact h4
/-- What pop's inner round finds. -/
def least1 (lt : α → α → Bool) (n : Nat) (d : Array α) (m k : Nat) : Nat := if k < n ∧ lt d[k]! d[m]! = true then k else m
def leastOf (lt : α → α → Bool) (n : Nat) (d : Array α) (i : Nat) : Nat := least1 lt n d (least1 lt n d i (2 * i + 1)) (2 * i + 2)
theorem leastOf_cases (O : SWO lt) (n : Nat) (d : Array α) (i : Nat) : (leastOf lt n d i = i ∧ ∀ k, 0 < k → k < n → par k = i → lt d[k]! d[i]! = false) ∨
  (0 < leastOf lt n d i ∧ leastOf lt n d i < n ∧ par (leastOf lt n d i) = i ∧ lt d[leastOf lt n d i]! d[i]! = true ∧ ∀ k, 0 < k → k < n → par k = i → lt d[k]! d[leastOf lt n d i]! = false) := by
 unfold leastOf
 have no : ∀ {k m : Nat}, ¬ (k < n ∧ lt d[k]! d[m]! = true) → k < n → lt d[k]! d[m]! = false := fun {k m} h hk => by
  cases h9 : lt d[k]! d[m]! with
  | false => rfl
  | true => exact absurd ⟨hk, h9⟩ h
 by_cases h1 : 2 * i + 1 < n ∧ lt d[2 * i + 1]! d[i]! = true
 ·have e1 : least1 lt n d i (2 * i + 1) = 2 * i + 1 := if_pos h1
  rw [e1]
  by_cases h2 : 2 * i + 2 < n ∧ lt d[2 * i + 2]! d[2 * i + 1]! = true
  ·have e2 : least1 lt n d (2 * i + 1) (2 * i + 2) = 2 * i + 2 := if_pos h2
   rw [e2]
   refine .inr ⟨by omega, h2.1, by unfold par; omega, O.trans _ _ _ h2.2 h1.2, fun k h0 hk hp => ?_⟩
   rcases (par_child h0).1 hp with rfl | rfl
   ·exact lt_asymm O h2.2
   ·exact O.irrefl _
  ·have e2 : least1 lt n d (2 * i + 1) (2 * i + 2) = 2 * i + 1 := if_neg h2
   rw [e2]
   refine .inr ⟨by omega, h1.1, by unfold par; omega, h1.2, fun k h0 hk hp => ?_⟩
   rcases (par_child h0).1 hp with rfl | rfl
   ·exact O.irrefl _
   ·exact no h2 hk
 ·have e1 : least1 lt n d i (2 * i + 1) = i := if_neg h1
  rw [e1]
  by_cases h2 : 2 * i + 2 < n ∧ lt d[2 * i + 2]! d[i]! = true
  ·have e2 : least1 lt n d i (2 * i + 2) = 2 * i + 2 := if_pos h2
   rw [e2]
   refine .inr ⟨by omega, h2.1, by unfold par; omega, h2.2, fun k h0 hk hp => ?_⟩
   rcases (par_child h0).1 hp with rfl | rfl
   ·exact O.ntrans _ _ _ (no h1 hk) (lt_asymm O h2.2)
   ·exact O.irrefl _
  ·have e2 : least1 lt n d i (2 * i + 2) = i := if_neg h2
   rw [e2]
   refine .inl ⟨rfl, fun k h0 hk hp => ?_⟩
   rcases (par_child h0).1 hp with rfl | rfl
   ·exact no h1 hk
   ·exact no h2 hk
end
end Go.Proofs.YtcngmkjdpoiiaaaGreatDoor

/- A pool: cheapest. Printed by gen.py. -/
set_option maxRecDepth 100000
namespace Go.Proofs.YtcngmkjdpoiiaaaGreatDoor
open Go Go.RowKit Go.Proofs
theorem hM_len (H : List TxR) : (hM H).length = H.length := List.length_map ..
theorem lM_len (L : List TxR) : (lM L).length = L.length := List.length_map ..
theorem hM_at {H : List TxR} {i : Nat} {y : TxR} (h : H[i]? = some y) : (hM H)[i]? = some (keyT y, Value.agg y.t.cells.toArray) := by unfold hM; rw [List.getElem?_map, h]; rfl
theorem lM_at {L : List TxR} {i : Nat} {y : TxR} (h : L[i]? = some y) : (lM L)[i]? = some (y.t.frm, Value.agg y.t.cells.toArray) := by unfold lM; rw [List.getElem?_map, h]; rfl
theorem last_none {L : List TxR} {a : Int} (h : (!(lastAt L a).isSome) = true) : ∀ z ∈ L, z.t.frm ≠ a := fun z hz e => by
 unfold lastAt at h
 have h1 : (L.find? fun y => decide (y.t.frm = a)) = none := by cases h9 : L.find? fun y => decide (y.t.frm = a) with | none => rfl | some y => rw [h9] at h; cases h
 have := List.find?_eq_none.1 h1 z hz
 simp [e] at this
theorem last_some {L : List TxR} {a : Int} (h : (!(lastAt L a).isSome) = false) : ((lastAt L a).getD txrz) ∈ L ∧ ((lastAt L a).getD txrz).t.frm = a := by
 unfold lastAt at h ⊢
 cases h9 : L.find? fun y => decide (y.t.frm = a) with
 | none => rw [h9] at h; cases h
 | some y => exact ⟨List.mem_of_find?_eq_some h9, by simpa using List.find?_some h9⟩
set_option maxHeartbeats 1000000 in
theorem cheap_ok {gl : Nat → Obj} (p : Nat) (most : Int) (H : List TxR) (hP : PoolOk H) (but : Int) : Spec (cx gl) 113 [.pointer (some ⟨p, 0, none⟩), .int .u64 but] (fun _ _ => True) [POOL p most (H)] (fun v rs => ∃ c, CheapOf H but c ∧ v = .tuple #[.agg (c.getD txrz).t.cells.toArray, .bool c.isSome] ∧ rs = [POOL p most (H)]) := by
 refine Spec.enter (C := cx gl) Tryz.func113 rfl 63 rfl rfl fun w0 h0 hsep hsub hpre => ?_
 show St (cx gl) _ [(0, .pointer (some ⟨p, 0, none⟩)), (1, .int .u64 (but))] _ _
 refine rT ?_
 refine lO (W_alloc rfl rfl rfl ty_ze_67 fun b4 => lA (k:=?_))
 refine L_nil (qT (rT ?_))
 refine lO (W_makeMapK (kU64) rfl rfl rfl fun m13 => lA (k:=?_))
 refine lQ (cE 0 rfl (cE 1 rfl (cE 4 rfl (cE 5 rfl (cE 6 rfl .nil))))) (rS (rS ?_))
 refine St.openP [_, _] fun ⟨mh, mi⟩ _ => ?_
 refine St.res (Weak.mid (p := [_, _]) Weak.unbundle) ?_
 refine St.openMap [_, _, _] fun es ck he hbo => ?_
 refine St.res (rs' := [mapK kU64 m13 (lM ([])), blk b4 txz.cells 67, blk p (poolC mh mi most) 78, mapH mh es ck, mapK iK mi (iM (H))]) (Weak.refl _) (rR (lMv (k:=lP pN (k:=lP (pF ty_fl_78_1) (k:=lV (vB ty_sc_75 .h2) (k:=?_))))))
 refine lO (W_range rfl rfl rfl ty_map_75 rfl .h3 fun it => ?_)
 refine lQ (cE 1 rfl (cE 4 rfl (cE 5 rfl (cE 6 rfl (cE 18 rfl .nil))))) (R_block ?_)
 refine R_loopE (G := List Nat × List TxR) (cE 1 rfl (cE 4 rfl (cE 5 rfl (cE 6 rfl (cE 18 rfl .nil))))) (fun g => []) (fun g => [iterH it mh ck es (g.1), mapK kU64 m13 (lM (g.2)), blk b4 txz.cells 67, blk p (poolC mh mi most) 78, mapH mh es ck, mapK iK mi (iM (H))]) (fun g => g.1.Nodup ∧ (∀ q9 ∈ g.1, q9 < H.length) ∧ Lasts (vis H g.1) g.2) (fun g => leftN H.length g.1) ([], []) (by show ([]).Nodup ∧ (∀ q9 ∈ ([]), q9 < H.length) ∧ Lasts (vis H ([])) ([]); exact ⟨List.nodup_nil, fun _ h => (nomatch h), Lasts.nil⟩) (by repeat (first | exact .nil | refine .cons rfl ?_ | refine .consE rfl (by first | rfl | (congr 1; omega) | (congr 1; push_cast; omega)) ?_)) (Weak.refl _) ?_
 rintro ⟨I, LM⟩ hinv
 replace hinv : I.Nodup ∧ (∀ q9 ∈ I, q9 < H.length) ∧ Lasts (vis H I) LM := hinv
 show St (cx gl) _ _ [iterH it mh ck es (I), mapK kU64 m13 (lM (LM)), blk b4 txz.cells 67, blk p (poolC mh mi most) 78, mapH mh es ck, mapK iK mi (iM (H))] _
 obtain ⟨hI1, hI2, hLa⟩ := hinv
 refine rT ?_
 refine lO (W_next (key := rec2K) (L := hM H) he hbo (fun i hi => by rw [hM_len]; exact hI2 i hi) rfl rfl rfl rfl .h4 .h0 (fun I' => .h0) fun r hst => ?_)
 refine lP (P_more rfl rfl (fun i h => (hst.new i h).1)) (k:=?_)
 refine L_nil (qT (rS ?_))
 refine R_cond rfl (fun hr => ?_) (fun hr => ?_)
 ·skip
  obtain ⟨i, hr9⟩ := Option.isSome_iff_exists.1 hr
  subst hr9
  obtain ⟨hil, hin⟩ := hst.new i rfl
  rw [hM_len] at hil
  obtain ⟨y, hy⟩ : ∃ y, H[i]? = some y := ⟨_, List.getElem?_eq_getElem hil⟩
  refine R_skip (qT (R_block (rT ?_)))
  refine lV (V_entry (key := rec2K) (L := hM H) he hbo (hM_at hy) rfl rfl .h4 .h0) (k:=lP pX (k:=lP pX (k:=?_)))
  refine lO (W_alloc rfl rfl rfl ty_ze_207 fun b7 => ?_)
  refine lO (W_alloc rfl rfl rfl ty_ze_67 fun b8 => ?_)
  refine lO (W_storeAll rfl rfl rfl rfl ty_ag_207 (rfl) (by intro v hv; simp only [List.mem_cons, List.not_mem_nil, or_false] at hv; rcases hv with rfl | rfl <;> rfl) .h1 (rfl) ?_)
  refine lO (W_storeAll rfl rfl rfl rfl ty_ag_67 (y.ok.cellsLen) (Tx.one _) .h0 (y.ok.cellsLen) ?_)
  refine L_nil (qT (rT (lMv (k:=lP (pF ty_fl_207_0) (k:=lV (vB ty_sc_26 .h1) (k:=?_))))))
  refine lV (V_lookupK (k := y.t.frm) rfl ty_map_292 (keyU64 ty_int_26) rfl rfl (trivial) (fun _ _ => trivial) .h3 (run_zeroValue_of ty_zv_67)) (k:=lMv (k:=?_))
  refine E_as (t := 24) (v' := .tuple #[.agg ((lastAt LM y.t.frm).getD txrz).t.cells.toArray, .bool (lastAt LM y.t.frm).isSome]) rfl (by rw [look_last]) (lP pX (k:=lP pX (k:=?_)))
  refine lO (W_alloc rfl rfl rfl ty_ze_67 fun b9 => ?_)
  refine lO (W_storeAll rfl rfl rfl rfl ty_ag_67 (((lastAt LM y.t.frm).getD txrz).ok.cellsLen) (Tx.one _) .h0 (((lastAt LM y.t.frm).getD txrz).ok.cellsLen) (lA (k:=?_)))
  refine L_nil (qT (rT (lMv (k:=lP pO (k:=lMv (k:=?_))))))
  refine E_bool (t := 33) rfl (fun hn => ?_) (fun hn => ?_)
  ·skip
   refine lN (k:=lN (k:=lN (k:=lN (k:=lN (k:=lP pK (k:=?_))))))
   refine L_nil (qT (kT (k:=rR (lMv (k:=lP (pF ty_fl_207_0) (k:=lV (vB ty_sc_26 .h2) (k:=?_)))))))
   refine lV (V_loadAgg rfl rfl ty_ag_67 (Rds.blk .h1) (y.ok.cellsLen)) (k:=?_)
   refine lO (W_mapSet (k := y.t.frm) rfl rfl ty_map_292 (keyU64 ty_int_26) rfl rfl rfl (trivial) (fun _ _ => trivial) .h4 .h4 ?_)
   refine L_nil (Q_block ?_)
   exact Q_round (I ++ [i], setT y LM) (by show (I ++ [i]).Nodup ∧ (∀ q9 ∈ (I ++ [i]), q9 < H.length) ∧ Lasts (vis H (I ++ [i])) (setT y LM); exact ⟨nodup_snoc hI1 hin, bound_snoc hI2 hil, by rw [vis_snoc hy]; exact hLa.put (fun z hz9 e => absurd e (last_none hn z hz9))⟩) (leftN_lt hil hin) (by repeat (first | exact .nil | refine .cons rfl ?_ | refine .consE rfl (by first | rfl | (congr 1; omega) | (congr 1; push_cast; omega)) ?_)) (by rw [setK_lM]; exact Weak.drop (Weak.drop (Weak.drop (Weak.refl _))))
  ·skip
   have hm9 := last_some hn
   refine lP (pF ty_fl_67_5) (k:=lV (vB ty_sc_23 .h0) (k:=lP (pF ty_fl_67_5) (k:=lV (vB ty_sc_23 .h1) (k:=lP pLt (k:=lP pK (k:=?_))))))
   refine L_nil (qT ?_)
   refine R_condP rfl (fun hlt => ?_) (fun hlt => ?_)
   ·skip
    refine rR (lMv (k:=lP (pF ty_fl_207_0) (k:=lV (vB ty_sc_26 .h2) (k:=?_))))
    refine lV (V_loadAgg rfl rfl ty_ag_67 (Rds.blk .h1) (y.ok.cellsLen)) (k:=?_)
    refine lO (W_mapSet (k := y.t.frm) rfl rfl ty_map_292 (keyU64 ty_int_26) rfl rfl rfl (trivial) (fun _ _ => trivial) .h4 .h4 ?_)
    refine L_nil (Q_block ?_)
    exact Q_round (I ++ [i], setT y LM) (by show (I ++ [i]).Nodup ∧ (∀ q9 ∈ (I ++ [i]), q9 < H.length) ∧ Lasts (vis H (I ++ [i])) (setT y LM); exact ⟨nodup_snoc hI1 hin, bound_snoc hI2 hil, by rw [vis_snoc hy]; exact hLa.put (fun z hz9 e => by obtain rfl := nodup_inj hLa.one hz9 hm9.1 (e.trans hm9.2.symm); exact hlt)⟩) (leftN_lt hil hin) (by repeat (first | exact .nil | refine .cons rfl ?_ | refine .consE rfl (by first | rfl | (congr 1; omega) | (congr 1; push_cast; omega)) ?_)) (by rw [setK_lM]; exact Weak.drop (Weak.drop (Weak.drop (Weak.refl _))))
   ·skip
    refine R_skip (Q_block ?_)
    exact Q_round (I ++ [i], LM) (by show (I ++ [i]).Nodup ∧ (∀ q9 ∈ (I ++ [i]), q9 < H.length) ∧ Lasts (vis H (I ++ [i])) (LM); exact ⟨nodup_snoc hI1 hin, bound_snoc hI2 hil, by rw [vis_snoc hy]; exact hLa.keep hm9.1 hm9.2 hlt⟩) (leftN_lt hil hin) (by repeat (first | exact .nil | refine .cons rfl ?_ | refine .consE rfl (by first | rfl | (congr 1; omega) | (congr 1; push_cast; omega)) ?_)) (Weak.drop (Weak.drop (Weak.drop (Weak.refl _))))
 ·skip
  have hr9 : r = none := by cases r with | none => rfl | some i => cases hr
  subst hr9
  have hLH : Lasts H LM := hLa.same fun x => vis_all hI2 (fun i hi => hst.over rfl i (by rw [hM_len]; exact hi)) x
  refine R_exit (Q_then_exit (Q_then_exit (Q_block_eq ?_)))
  refine St.env (cE 1 rfl (cE 4 rfl (cE 5 rfl (cE 6 rfl .nil)))) (qT (rT (lMv (k:=lMv (k:=?_)))))
  refine lO (W_delete (k := but) rfl rfl ty_map_292 (keyU64 ty_int_26) rfl rfl trivial (fun _ _ => trivial) .h1 .h1 ?_)
  refine lQ (cE 4 rfl (cE 5 rfl (cE 6 rfl .nil))) (rS (rS ?_))
  refine St.res (rs' := [mapK kU64 m13 (lM ((noOf but LM))), blk b4 txz.cells 67, POOL p most (H)]) (by rw [← del_lM]; exact Weak.trans (Weak.pick (p := [_, _, _, _]) (Weak.pick (p := [_, _, _]) (Weak.pick (p := [_, _, _]) (Weak.pick (p := [_]) (Weak.pick (p := [_]) (Weak.nil _)))))) (Weak.trans (Weak.closeMap he hbo) (Weak.trans (Weak.pick (p := [_]) (Weak.keep (Weak.keep (Weak.keep (Weak.keep (Weak.nil _)))))) (Weak.trans (pool_close (rs := [_, _])) (Weak.pick (p := [_]) (Weak.pick (p := [_]) (Weak.keep (Weak.nil _)))))))) ?_
  refine St.openMap [] fun es2 ck2 he2 hbo2 => ?_
  refine St.res (rs' := [mapH m13 es2 ck2, blk b4 txz.cells 67, POOL p most (H)]) (Weak.refl _) (rR (lMv (k:=?_)))
  refine lO (W_range rfl rfl rfl ty_map_292 rfl .h0 fun it2 => ?_)
  refine lQ (cE 4 rfl (cE 5 rfl (cE 47 rfl .nil))) (R_block ?_)
  refine R_loopE (G := List Nat × Option TxR) (cE 4 rfl (cE 47 rfl .nil)) (fun g => [(5, .bool g.2.isSome)]) (fun g => [iterH it2 m13 ck2 es2 (g.1), mapH m13 es2 ck2, blk b4 (g.2.getD txrz).t.cells 67, POOL p most (H)]) (fun g => g.1.Nodup ∧ (∀ q9 ∈ g.1, q9 < (noOf but LM).length) ∧ Least (vis (noOf but LM) g.1) g.2) (fun g => leftN (noOf but LM).length g.1) ([], none) (by show ([]).Nodup ∧ (∀ q9 ∈ ([]), q9 < (noOf but LM).length) ∧ Least (vis (noOf but LM) ([])) (none); exact ⟨List.nodup_nil, fun _ h => (nomatch h), rfl⟩) (by repeat (first | exact .nil | refine .cons rfl ?_ | refine .consE rfl (by first | rfl | (congr 1; omega) | (congr 1; push_cast; omega)) ?_)) (Weak.refl _) ?_
  rintro ⟨J, c⟩ hinv
  replace hinv : J.Nodup ∧ (∀ q9 ∈ J, q9 < (noOf but LM).length) ∧ Least (vis (noOf but LM) J) c := hinv
  show St (cx gl) _ ((5, .bool c.isSome) :: _) [iterH it2 m13 ck2 es2 (J), mapH m13 es2 ck2, blk b4 (c.getD txrz).t.cells 67, POOL p most (H)] _
  obtain ⟨hJ1, hJ2, hBe⟩ := hinv
  refine rT ?_
  refine lO (W_next (key := kU64) (L := lM (noOf but LM)) he2 hbo2 (fun i hi => by rw [lM_len]; exact hJ2 i hi) rfl rfl rfl rfl .h1 .h0 (fun J' => .h0) fun r2 hst2 => ?_)
  refine lP (P_more rfl rfl (fun i h => (hst2.new i h).1)) (k:=?_)
  refine L_nil (qT (rS ?_))
  refine R_cond rfl (fun hr2 => ?_) (fun hr2 => ?_)
  ·skip
   obtain ⟨j, hr9⟩ := Option.isSome_iff_exists.1 hr2
   subst hr9
   obtain ⟨hjl, hjn⟩ := hst2.new j rfl
   rw [lM_len] at hjl
   obtain ⟨z, hz⟩ : ∃ z, (noOf but LM)[j]? = some z := ⟨_, List.getElem?_eq_getElem hjl⟩
   refine R_skip (qT (R_block (rT ?_)))
   refine lV (V_entry (key := kU64) (L := lM (noOf but LM)) he2 hbo2 (lM_at hz) rfl rfl .h1 .h0) (k:=lP pX (k:=?_))
   refine lO (W_alloc rfl rfl rfl ty_ze_67 fun b12 => ?_)
   refine lO (W_storeAll rfl rfl rfl rfl ty_ag_67 (z.ok.cellsLen) (Tx.one _) .h0 (z.ok.cellsLen) ?_)
   refine L_nil (qT (rT (lMv (k:=lP pO (k:=lMv (k:=?_))))))
   refine E_bool (t := 54) rfl (fun hn2 => ?_) (fun hn2 => ?_)
   ·skip
    have hc9 : c = none := by cases c with | none => rfl | some x => cases hn2
    refine lN (k:=lN (k:=lN (k:=lN (k:=lP pK (k:=?_)))))
    refine L_nil (qT (kT (k:=rR ?_)))
    refine lV (V_loadAgg rfl rfl ty_ag_67 (Rds.blk .h0) (z.ok.cellsLen)) (k:=?_)
    refine lO (W_storeAll rfl rfl rfl rfl ty_ag_67 (z.ok.cellsLen) (Tx.one _) .h3 (z.ok.cellsLen.trans (c.getD txrz).ok.cellsLen.symm) (lA (k:=?_)))
    refine L_nil (Q_block ?_)
    exact Q_round (J ++ [j], some z) (by show (J ++ [j]).Nodup ∧ (∀ q9 ∈ (J ++ [j]), q9 < (noOf but LM).length) ∧ Least (vis (noOf but LM) (J ++ [j])) (some z); exact ⟨nodup_snoc hJ1 hjn, bound_snoc hJ2 hjl, by rw [vis_snoc hz]; exact by rw [show vis (noOf but LM) J = [] by rw [hc9] at hBe; exact hBe]; exact Least.first z⟩) (leftN_lt hjl hjn) (by repeat (first | exact .nil | refine .cons rfl ?_ | refine .consE rfl (by first | rfl | (congr 1; omega) | (congr 1; push_cast; omega)) ?_)) (Weak.drop (Weak.refl _))
   ·skip
    obtain ⟨c0, hc9⟩ : ∃ c0, c = some c0 := by cases c with | none => cases hn2 | some x => exact ⟨x, rfl⟩
    refine lV (V_loadAgg rfl rfl ty_ag_67 (Rds.blk .h0) (z.ok.cellsLen)) (k:=?_)
    refine lV (V_loadAgg rfl rfl ty_ag_67 (Rds.blk .h3) ((c.getD txrz).ok.cellsLen)) (k:=?_)
    refine lO (W_callV rfl rfl rfl rfl fn_ca_142 (compare_ok z.t (c.getD txrz).t) (fun _ _ => trivial) (lP pGt (k:=lP pK (k:=?_))))
    refine L_nil (qT ?_)
    refine R_condP rfl (fun hgt => ?_) (fun hgt => ?_)
    ·skip
     refine rR ?_
     refine lV (V_loadAgg rfl rfl ty_ag_67 (Rds.blk .h0) (z.ok.cellsLen)) (k:=?_)
     refine lO (W_storeAll rfl rfl rfl rfl ty_ag_67 (z.ok.cellsLen) (Tx.one _) .h3 (z.ok.cellsLen.trans (c.getD txrz).ok.cellsLen.symm) (lA (k:=?_)))
     refine L_nil (Q_block ?_)
     exact Q_round (J ++ [j], some z) (by show (J ++ [j]).Nodup ∧ (∀ q9 ∈ (J ++ [j]), q9 < (noOf but LM).length) ∧ Least (vis (noOf but LM) (J ++ [j])) (some z); exact ⟨nodup_snoc hJ1 hjn, bound_snoc hJ2 hjl, by rw [vis_snoc hz]; exact by rw [hc9] at hBe hgt; exact hBe.take hgt⟩) (leftN_lt hjl hjn) (by repeat (first | exact .nil | refine .cons rfl ?_ | refine .consE rfl (by first | rfl | (congr 1; omega) | (congr 1; push_cast; omega)) ?_)) (Weak.drop (Weak.refl _))
    ·skip
     refine R_skip (Q_block ?_)
     exact Q_round (J ++ [j], c) (by show (J ++ [j]).Nodup ∧ (∀ q9 ∈ (J ++ [j]), q9 < (noOf but LM).length) ∧ Least (vis (noOf but LM) (J ++ [j])) (c); exact ⟨nodup_snoc hJ1 hjn, bound_snoc hJ2 hjl, by rw [vis_snoc hz]; exact by rw [hc9] at hBe hgt ⊢; exact hBe.keep hgt⟩) (leftN_lt hjl hjn) (by repeat (first | exact .nil | refine .cons rfl ?_ | refine .consE rfl (by first | rfl | (congr 1; omega) | (congr 1; push_cast; omega)) ?_)) (Weak.drop (Weak.refl _))
  ·skip
   have hr9 : r2 = none := by cases r2 with | none => rfl | some i => cases hr2
   subst hr9
   have hC : CheapOf H but c := cheap_best hP hLH (mem_noOf hLH.one but) (fun x => vis_all hJ2 (fun i hi => hst2.over rfl i (by rw [lM_len]; exact hi)) x) hBe
   refine R_exit (Q_then_exit (Q_then_exit (Q_block_eq ?_)))
   refine St.env (cE 4 rfl (cE 5 rfl .nil)) (qT (rT ?_))
   refine lV (V_loadAgg rfl rfl ty_ag_67 (Rds.blk .h2) ((c.getD txrz).ok.cellsLen)) (k:=lMv (k:=?_))
   refine lO (W_storeAll rfl rfl rfl rfl ty_ag_67 ((c.getD txrz).ok.cellsLen) (Tx.one _) .h2 (rfl) (lA (k:=?_)))
   refine lQ (cE 4 rfl (cE 5 rfl .nil)) (R_ret ?_)
   exact R_end (rs2 := _) rfl rfl (.cell rfl (Rds.loadVar ty_ag_67 (Rds.blk .h2) (c.getD txrz).ok.cellsLen) (.tmp rfl .nil)) (⟨c, hC, rfl, rfl⟩) (Weak.pick (p := [_, _, _]) (Weak.nil _))
end Go.Proofs.YtcngmkjdpoiiaaaGreatDoor

/- A heap: its order. Printed by gen.py. -/
set_option maxRecDepth 100000
namespace Go.Proofs.YtcngmkjdpoiiaaaGreatDoor
open Go Go.RowKit Go.Proofs
theorem rows1_ok {gl : Nat → Obj} (base1 base2 : Option Addr) (c1 c2 : Nat) (l1 l2 : List TxR) (h1 : l1.length ≤ c1) (h2 : l2.length ≤ c2) (x y : TxR) (hx1 : l1[0]? = some x) (hx2 : l2[0]? = some y) : SpecV (cx gl) 191 [.slice base1 l1.length c1, .slice base2 l2.length c2] (fun w => Row w base1 (rc l1) ∧ Row w base2 (rc l2)) (.bool (decide (cmpT x.t y.t < 0))) := by
 refine Spec.enter (C := cx gl) Tryz.func191 rfl 13 rfl rfl fun w0 h0 hsep hsub hpre => ?_
 obtain rfl : h0 = Heap.none := hsep
 show St (cx gl) _ [(0, .slice base1 l1.length c1), (1, .slice base2 l2.length c2)] _ _
 have hl1 := (List.getElem?_eq_some_iff.1 hx1).1
 have hl2 := (List.getElem?_eq_some_iff.1 hx2).1
 obtain ⟨pb1, pj1, rfl, hrow1⟩ := hpre.1.some_ (by rw [rc_length]; show 0 < _ * 22; have := (List.getElem?_eq_some_iff.1 hx1).1; omega)
 obtain ⟨pb2, pj2, rfl, hrow2⟩ := hpre.2.some_ (by rw [rc_length]; show 0 < _ * 22; have := (List.getElem?_eq_some_iff.1 hx2).1; omega)
 refine rT (lA (k:=?_))
 refine L_nil (qT (rS ?_))
 refine R_open [(0, 0), (1, 0), (2, 1), (3, 0), (4, 0), (5, 1), (6, 2), (7, 0), (8, 0)] mixed (by kernel_rfl) (QOk.then QOk.body) (oP rfl pM (k:=?_))
 refine oP rfl (P_ixs (0) rfl ty_sl_92 rfl rfl (by first | rfl | omega) (by omega)) (k:=?_)
 refine oV rfl (V_loadAgg rfl rfl ty_ag_67 (rds_rc (Rds.row hrow1 rfl) hx1) (x.ok.cellsLen)) (k:=oP rfl pM (k:=?_))
 refine oP rfl (P_ixs (0) rfl ty_sl_92 rfl rfl (by first | rfl | omega) (by omega)) (k:=?_)
 refine oV rfl (V_loadAgg rfl rfl ty_ag_67 (rds_rc (Rds.row hrow2 rfl) hx2) (y.ok.cellsLen)) (k:=?_)
 refine O_keep rfl rfl (W_callV rfl rfl rfl rfl fn_ca_142 (compare_ok x.t y.t) (fun _ _ => trivial) (K_keep (Weak.refl _) (oP rfl pLt (k:=oP rfl pA (k:=O_nil ?_)))))
 refine St.env (cE 4 rfl .nil) (qT (R_ret ?_))
 exact R_endV rfl rfl (.tmp rfl .nil) (rfl)
end Go.Proofs.YtcngmkjdpoiiaaaGreatDoor

/- A pool: List. Printed by gen.py. -/
set_option maxRecDepth 100000
namespace Go.Proofs.YtcngmkjdpoiiaaaGreatDoor
open Go Go.RowKit Go.Proofs Go.Sort
def nearer (x y : TxR) : Prop := ¬ cmpT y.t x.t < 0
/-- L is H, the dearest first. -/
structure Dear (H L : List TxR) : Prop where
 perm : L.Perm H
 sorted : L.Pairwise nearer
theorem dear_of {H : List TxR} {d d' : Array TxR} (h0 : d.toList.Perm H) (hp : PermIn 0 d.size d d') (hs : SortedIn (ltOf fun x y : TxR => cmpT x.t y.t) 0 d.size d') : Dear H d'.toList := by
 refine ⟨?_, List.pairwise_iff_getElem.2 fun i j hi hj hij => ?_⟩
 ·have h2 := hp.2.2
  rw [Array.extract_size, ← hp.1, Array.extract_size] at h2
  exact h2.trans h0
 ·have hj' : j < d'.size := hj
  have h2 := hs i j (Nat.zero_le _) hij (by rw [← hp.1]; exact hj')
  rw [getElem!_pos d' j hj', getElem!_pos d' i (by omega)] at h2
  exact of_decide_eq_false h2
theorem Dear.one {H L L' : List TxR} (hP : (H.map keyT).Nodup) (h : Dear H L) (h' : Dear H L') : L = L' := by
 refine List.Perm.eq_of_pairwise (le := nearer) ?_ h.sorted h'.sorted (h.perm.trans h'.perm.symm)
 intro x y hx hy h1 h2
 unfold nearer at h1 h2
 rw [cmpT_neg] at h1 h2
 have e1 : x.t.frm = y.t.frm := by omega
 have e2 : x.t.non = y.t.non := by omega
 have e : keyT x = keyT y := by unfold keyT; rw [e1, e2]
 exact nodup_inj hP (h.perm.mem_iff.1 hx) (h'.perm.mem_iff.1 hy) e
theorem rc_tx (y : TxR) : rc [y] = y.t.cells := by unfold rc; exact List.append_nil _
theorem vis_perm {H : List TxR} {I : List Nat} (h0 : I.Nodup) (h1 : ∀ i ∈ I, i < H.length) (h2 : ∀ i, i < H.length → i ∈ I) : (vis H I).Perm H := by
 have h3 := (places_perm h0 h1 h2).map fun i => H.getD i txrz
 have h4 : (List.range H.length).map (fun i => H.getD i txrz) = H := by
  apply List.ext_getElem
  ·simp
  ·intro i a b; simp [List.getD_eq_getElem?_getD, b]
 rw [h4] at h3; exact h3
theorem vis_len (H : List TxR) (I : List Nat) : (vis H I).length = I.length := List.length_map ..
theorem left_nil (n : Nat) : leftN n [] ≤ n := by unfold leftN; exact Nat.le_trans (List.length_filter_le _ _) (by simp)
set_option maxHeartbeats 1000000 in
theorem plist_ok {gl : Nat → Obj} (p : Nat) (most : Int) (H : List TxR) (hl : H.length ≤ 65536) : Spec (cx gl) 47 [.pointer (some ⟨p, 0, none⟩)] (fun _ _ => True) [POOL p most (H)] (fun v rs => ∃ (L : List TxR) (b : Option Addr) (c : Nat), v = .slice b L.length c ∧ Dear H L ∧ rs = [POOL p most (H), ownS 67 22 (.slice b L.length c) (L.length) (rc L)]) := by
 refine Spec.enter (C := cx gl) Tryz.func47 rfl 24 rfl rfl fun w0 h0 hsep hsub hpre => ?_
 show St (cx gl) _ [(0, .pointer (some ⟨p, 0, none⟩))] _ _
 refine St.openP [] fun ⟨mh, mi⟩ _ => ?_
 refine St.unbundle [] (rT (lA (k:=?_)))
 refine L_nil (qT (rS (rT (lMv (k:=?_)))))
 refine lO (W_callR rfl rfl rfl rfl fn_ca_109 (pmissing_ok p mh mi most) (Split.one (p := [])) (fun _ _ _ _ _ _ _ => trivial) ?_)
 refine E_false (t := 7) rfl (rfl) ?_
 refine lQ (cE 0 rfl (cE 2 rfl (cE 7 rfl .nil))) (kF (k:=R_skip (qT (rT (lA (k:=?_))))))
 refine lQ (cE 0 rfl (cE 2 rfl (cE 3 rfl .nil))) (rS (rS ?_))
 refine St.res (rs' := [blk p (poolC mh mi most) 78, mapK rec2K mh (hM (H)), mapK iK mi (iM (H))]) (Weak.keep (Weak.keep (Weak.keep (Weak.nil _)))) ?_
 refine St.openMap [_] fun es ck he hbo => ?_
 refine St.res (rs' := [blk p (poolC mh mi most) 78, mapH mh es ck, mapK iK mi (iM (H))]) (Weak.refl _) (rR (lMv (k:=lP pN (k:=lP (pF ty_fl_78_1) (k:=lV (vB ty_sc_75 .h0) (k:=?_))))))
 refine lO (W_range rfl rfl rfl ty_map_75 rfl .h1 fun it => ?_)
 refine lQ (cE 2 rfl (cE 3 rfl (cE 12 rfl .nil))) (R_block ?_)
 refine R_loopE (G := List Nat × Value) (cE 2 rfl (cE 12 rfl .nil)) (fun g => [(3, g.2)]) (fun g => [ownS 67 22 (g.2) ((vis H g.1).length) (rc (vis H g.1)), iterH it mh ck es (g.1), blk p (poolC mh mi most) 78, mapH mh es ck, mapK iK mi (iM (H))]) (fun g => g.1.Nodup ∧ (∀ q9 ∈ g.1, q9 < H.length) ∧ g.1.length + leftN H.length g.1 ≤ H.length) (fun g => leftN H.length g.1) ([], .slice none 0 0) (by show ([]).Nodup ∧ (∀ q9 ∈ ([]), q9 < H.length) ∧ ([]).length + leftN H.length ([]) ≤ H.length; exact ⟨List.nodup_nil, fun _ h => (nomatch h), by have := left_nil H.length; simpa using this⟩) (by repeat (first | exact .nil | refine .cons rfl ?_ | refine .consE rfl (by first | rfl | (congr 1; omega) | (congr 1; push_cast; omega)) ?_)) (Weak.newNil) ?_
 rintro ⟨I, v⟩ hinv
 replace hinv : I.Nodup ∧ (∀ q9 ∈ I, q9 < H.length) ∧ I.length + leftN H.length I ≤ H.length := hinv
 show St (cx gl) _ ((3, v) :: _) [ownS 67 22 (v) ((vis H I).length) (rc (vis H I)), iterH it mh ck es (I), blk p (poolC mh mi most) 78, mapH mh es ck, mapK iK mi (iM (H))] _
 obtain ⟨hI1, hI2, hI3⟩ := hinv
 refine rT ?_
 refine lO (W_next (key := rec2K) (L := hM H) he hbo (fun i hi => by rw [hM_len]; exact hI2 i hi) rfl rfl rfl rfl .h3 .h1 (fun I' => .h1) fun r hst => ?_)
 refine lP (P_more rfl rfl (fun i h => (hst.new i h).1)) (k:=?_)
 refine L_nil (qT (rS ?_))
 refine R_cond rfl (fun hr => ?_) (fun hr => ?_)
 ·skip
  obtain ⟨i, hr9⟩ := Option.isSome_iff_exists.1 hr
  subst hr9
  obtain ⟨hil, hin⟩ := hst.new i rfl
  rw [hM_len] at hil
  obtain ⟨y, hy⟩ : ∃ y, H[i]? = some y := ⟨_, List.getElem?_eq_getElem hil⟩
  have hvl := vis_len H I
  refine R_skip (qT (R_block (rT ?_)))
  refine lV (V_entry (key := rec2K) (L := hM H) he hbo (hM_at hy) rfl rfl .h3 .h1) (k:=lP pX (k:=?_))
  refine lO (W_alloc rfl rfl rfl ty_ze_67 fun b5 => ?_)
  refine lO (W_storeAll rfl rfl rfl rfl ty_ag_67 (y.ok.cellsLen) (Tx.one _) .h0 (y.ok.cellsLen) ?_)
  refine L_nil (qT (rR (lMv (k:=?_))))
  refine lV (V_loadAgg rfl rfl ty_ag_67 (Rds.blk .h0) (y.ok.cellsLen)) (k:=?_)
  refine lO (W_lit (z := .nilIface) (y.t.cells) rfl rfl rfl ty_sl_92 ty_lz_92 rfl rfl rfl (by decide) (by decide) (by intro v hv; simp only [List.mem_singleton] at hv; subst hv; exact y.ok.cellsLen) (by simp [Value.cells]) fun b19 => ?_)
  refine lO (W_append (p := [_, _]) rfl rfl rfl ty_sl_92 ty_ap_92 ty_src_92 rfl rfl rfl (Src.slice (sz := 22) (m := 1) (news := y.t.cells) (Rds.blk .h0) y.ok.cellsLen (Tx.one _)) (by omega) (by simp only [maxLen]; omega) fun v20 => lA (k:=?_))
  refine L_nil (Q_block ?_)
  exact Q_round (I ++ [i], v20) (by show (I ++ [i]).Nodup ∧ (∀ q9 ∈ (I ++ [i]), q9 < H.length) ∧ (I ++ [i]).length + leftN H.length (I ++ [i]) ≤ H.length; exact ⟨nodup_snoc hI1 hin, bound_snoc hI2 hil, by have := leftN_lt hil hin; rw [List.length_append]; show I.length + 1 + _ ≤ _; omega⟩) (leftN_lt hil hin) (by repeat (first | exact .nil | refine .cons rfl ?_ | refine .consE rfl (by first | rfl | (congr 1; omega) | (congr 1; push_cast; omega)) ?_)) (Weak.drop (Weak.drop (by rw [vis_snoc hy, List.length_append, rc_append, rc_tx]; exact Weak.refl _)))
 ·skip
  have hr9 : r = none := by cases r with | none => rfl | some i => cases hr
  subst hr9
  have hvp := vis_perm hI1 hI2 (fun i hi => hst.over rfl i (by rw [hM_len]; exact hi))
  have hvl := vis_len H I
  refine St.ownForm (p := []) fun ub uc huv huc => ?_
  subst huv
  refine St.res (rs' := [ownS 67 22 (.slice ub (vis H I).toArray.size uc) ((vis H I).toArray.size) (rc (vis H I).toArray.toList), POOL p most (H)]) (Weak.keep (Weak.trans (Weak.pick (p := [_, _]) (Weak.pick (p := [_]) (Weak.pick (p := [_]) (Weak.nil _)))) (Weak.trans (Weak.closeMap he hbo) (Weak.trans (Weak.pick (p := [_]) (Weak.keep (Weak.keep (Weak.nil _)))) (pool_close (rs := [])))))) (R_exit (Q_then_exit (Q_then_exit (Q_block_eq ?_))))
  refine St.env (cE 2 rfl (cE 3 rfl .nil)) (qT (rT (lMv (k:=?_))))
  refine lO (W_call rfl rfl rfl rfl fn_ca_141 (sortT_ok ub uc (vis H I).toArray (by show (vis H I).length < _; omega)) (Split.one (p := [])) (fun _ _ _ _ _ _ _ => trivial) fun vv rs1 ⟨z1, d2, hp2, hs2, z2⟩ => ?_)
  subst z1; subst z2
  have hde := dear_of (d := (vis H I).toArray) hvp hp2 hs2
  refine lQ (cE 2 rfl (cE 3 rfl .nil)) (rT (lMv (k:=lA (k:=?_))))
  refine lQ (cE 2 rfl .nil) (R_ret ?_)
  exact R_end (rs2 := [POOL p most (H), ownS 67 22 (.slice ub d2.toList.length uc) (d2.toList.length) (rc d2.toList)]) rfl rfl (.tmp rfl .nil) (⟨d2.toList, ub, uc, by rw [show d2.toList.length = (vis H I).toArray.size from hp2.1]; rfl, hde, rfl⟩) (by rw [show d2.toList.length = (vis H I).toArray.size from hp2.1]; exact Weak.pick (p := [_]) (Weak.keep (Weak.nil _)))
end Go.Proofs.YtcngmkjdpoiiaaaGreatDoor

/- A heap's memory. Printed by gen.py. -/
set_option maxRecDepth 100000
namespace Go.Proofs.YtcngmkjdpoiiaaaGreatDoor
open Go Go.RowKit Go.Proofs Go.Sort
/-- A row that waits: its block, how many are cut off, and all of it. -/
structure RwR where
 b : Nat
 cap : Nat
 k : Nat
 all : List TxR
 hk : k < all.length
 hc : all.length ≤ cap
def RwR.l (r : RwR) : List TxR := r.all.drop r.k
def RwR.hd (r : RwR) : TxR := r.all[r.k]'r.hk
def RwR.base (r : RwR) : Option Addr := some ⟨r.b, r.k * 22, none⟩
def RwR.val (r : RwR) : Value := .slice r.base r.l.length (r.cap - r.k)
theorem RwR.hd_at (r : RwR) : r.l[0]? = some r.hd := by
 unfold RwR.l RwR.hd
 rw [List.getElem?_drop, Nat.add_zero, List.getElem?_eq_getElem r.hk]
theorem RwR.len_cap (r : RwR) : r.l.length ≤ r.cap - r.k := by unfold RwR.l; rw [List.length_drop]; have := r.hc; omega
theorem RwR.one (r : RwR) : r.val.oneCell' = true := rfl
instance : Inhabited RwR := ⟨⟨0, 1, 0, [txrz], by decide, by decide⟩⟩
def rowH (r : RwR) : HP := ownS 67 22 (.slice (some ⟨r.b, 0, none⟩) r.all.length r.cap) r.all.length (rc r.all)
def ltR (x y : RwR) : Bool := decide (cmpT x.hd.t y.hd.t < 0)
theorem swo_ltR : SWO ltR := ⟨fun x => swo_tx.irrefl x.hd, fun x y z => swo_tx.trans x.hd y.hd z.hd, fun x y z => swo_tx.ntrans x.hd y.hd z.hd⟩
section
variable {C : Cx} {F : Fx} {rs : List HP}
theorem Sn.rowR {r : RwR} (m : Has rs (rowH r) (rowH r) rs) : Sn C F rs r.base (rc r.l) := (Sn.own m rfl).part fun j v hv => by
 refine ⟨⟨r.b, 0, none⟩, ⟨r.b, r.k * 22, none⟩, rfl, rfl, rfl, r.k * 22 + j, ?_, ?_⟩
 ·simp only [Addr.add]
  by_cases h1 : j = 0 <;> by_cases h2 : r.k * 22 = 0 <;> simp [h1, h2] <;> omega
 ·unfold RwR.l at hv
  rw [← rc_drop, List.getElem?_drop] at hv
  exact hv
theorem snFamR {d : List RwR} {i : Nat} {r : RwR} (m : Has rs (fam rowH d) (fam rowH d) rs) (h : d[i]? = some r) : Sn C F rs r.base (rc r.l) := Sn.fam m h fun _ m => Sn.rowR m
end
def heapC (lb : Option Addr) (cap n : Nat) : List Value := [.slice lb n cap, .func (.func 191) #[] #[]]
def heapL (h : Nat) (lb : Option Addr) (cap : Nat) (d : Array RwR) : List HP := [blk h (heapC lb cap d.size) 294, ownS 92 1 (.slice lb d.size cap) d.size (d.toList.map RwR.val), fam rowH d.toList]
def HEAP (h : Nat) (d : Array RwR) : HP := ExP (fun _ : Option Addr × Nat => True) fun x => bundle (heapL h x.1 x.2 d)
theorem heap_close {h : Nat} {lb : Option Addr} {cap : Nat} {d : Array RwR} {rs : List HP} : Weak (heapL h lb cap d ++ rs) (HEAP h d :: rs) :=
 Weak.bundle.trans (Weak.toEx (p := fun _ : Option Addr × Nat => True) (s := fun x => bundle (heapL h x.1 x.2 d)) (lb, cap) trivial)
theorem hlen_ok {gl : Nat → Obj} (h : Nat) (d : Array RwR) : SpecR (cx gl) 117 [.pointer (some ⟨h, 0, none⟩)] (fun _ _ => True) [HEAP h d] (.int .i64 (d.size : Int)) [HEAP h d] := by
 refine Spec.enter (C := cx gl) Tryz.func117 rfl 8 rfl rfl fun w0 h0 hsep hsub hpre => ?_
 show St (cx gl) _ [(0, .pointer (some ⟨h, 0, none⟩))] _ _
 refine St.openP [] fun ⟨lb, cap⟩ _ => ?_
 refine St.unbundle [] (rT (lA (k:=?_)))
 refine L_nil (qT (rT (lMv (k:=lP pN (k:=lP (pF ty_fl_294_0) (k:=lV (vB ty_sc_126 .h0) (k:=lP (pL ty_sl_126) (k:=lA (k:=?_)))))))))
 refine lQ (cE 2 rfl .nil) (R_ret ?_)
 exact R_end (rs2 := _) rfl rfl (.tmp rfl .nil) (⟨rfl, rfl⟩) (heap_close (rs := []))
end Go.Proofs.YtcngmkjdpoiiaaaGreatDoor

/- A heap: rows in another order. Printed by gen.py. -/
set_option maxRecDepth 100000
namespace Go.Proofs.YtcngmkjdpoiiaaaGreatDoor
open Go Go.RowKit Go.Proofs Go.Sort
theorem sep_perm {l l' : List HP} (p : l.Perm l') : ∀ h, Sep l h → Sep l' h := by
 induction p with
 | nil => exact fun _ h => h
 | cons x p ih => exact fun h ⟨a, b, ha, hb, d, e⟩ => ⟨a, b, ha, ih b hb, d, e⟩
 | swap x y l =>
  intro h ⟨a, _, ha, ⟨b, c, hb, hc, d2, rfl⟩, d1, e⟩
  obtain ⟨d3, d4⟩ := Heap.disj_join.1 d1
  refine ⟨b, a.join c, hb, ⟨a, c, ha, hc, d4, rfl⟩, Heap.disj_join.2 ⟨d3.symm, d2⟩, ?_⟩
  rw [e, ← Heap.join_assoc, ← Heap.join_assoc, Heap.join_comm d3]
 | trans _ _ h1 h2 => exact fun h s => h2 h (h1 h s)
theorem Weak.famPerm {α : Type} {f : α → HP} {xs ys : List α} {rs : List HP} (p : xs.Perm ys) : Weak (fam f xs :: rs) (fam f ys :: rs) := Weak.turn .h0 fun a h => sep_perm (p.map f) a h
theorem swp_toPerm {α : Type} [Inhabited α] (d : Array α) {i j : Nat} (hi : i < d.size) (hj : j < d.size) : d.toList.Perm (swp d i j).toList := by
 have h := swp_permIn d 0 d.size i j (Nat.zero_le _) hi (Nat.zero_le _) hj (Nat.le_refl _)
 have h2 := h.2.2
 rw [Array.extract_size, ← h.1, Array.extract_size] at h2
 exact h2.symm
theorem swp_vals (d : Array RwR) (i j : Nat) : ((d.toList.map RwR.val).set (0 + i * 1) (d[j]!).val).set (0 + j * 1) (d[i]!).val = (swp d i j).toList.map RwR.val := by
 rw [swp_toList, List.map_set, List.map_set, Nat.zero_add, Nat.zero_add, Nat.mul_one, Nat.mul_one]
theorem val_at {d : Array RwR} {i : Nat} (h : i < d.size) : (d.toList.map RwR.val)[i]? = some (d[i]!).val := by
 rw [List.getElem?_map, Array.getElem?_toList, Array.getElem?_eq_getElem h, getElem!_pos d i h]; rfl
theorem row_at {d : Array RwR} {i : Nat} (h : i < d.size) : d.toList[i]? = some d[i]! := by
 rw [Array.getElem?_toList, Array.getElem?_eq_getElem h, getElem!_pos d i h]
theorem heapUp_push {d : Array RwR} {r : RwR} (h : HeapIn ltR d.size d) : HeapUp ltR (d.push r).size (d.push r) d.size := by
 have e : ∀ k, k < d.size → (d.push r)[k]! = d[k]! := fun k hk => by
  rw [getElem!_pos (d.push r) k (by rw [Array.size_push]; omega), getElem!_pos d k hk, Array.getElem_push_lt hk]
 rw [Array.size_push]
 refine ⟨fun k h0 h1 h2 => ?_, fun h0 k h1 h2 h3 => by have := par_lt h1; omega⟩
 rw [e k (by omega), e (par k) (by have := par_lt h0; omega)]
 exact h k h0 (by omega)
theorem par_quo {i : Nat} (h : 0 < i) (hl : i ≤ 70000) : IntKind.i64.wrap (((i : Int) - 1).tdiv 2) = (par i : Int) := by
 rw [Int.tdiv_eq_ediv_of_nonneg (by omega), show ((i : Int) - 1) / 2 = (par i : Int) by unfold par; omega]
 have : par i < i := par_lt h
 exact wrap_fits (by simp only [fits]; omega)
end Go.Proofs.YtcngmkjdpoiiaaaGreatDoor

/- A heap: push. Printed by gen.py. -/
set_option maxRecDepth 100000
namespace Go.Proofs.YtcngmkjdpoiiaaaGreatDoor
open Go Go.RowKit Go.Proofs Go.Sort
theorem swp_size {α : Type} [Inhabited α] (d : Array α) (i j : Nat) : (swp d i j).size = d.size := by simp [swp]
set_option maxHeartbeats 1000000 in
theorem hpush_ok {gl : Nat → Obj} (h : Nat) (d : Array RwR) (r : RwR) (hl : d.size ≤ 65536) (hh : HeapIn ltR d.size d) : Spec (cx gl) 119 [.pointer (some ⟨h, 0, none⟩), r.val] (fun _ _ => True) [HEAP h d, rowH r] (fun v rs => v = .tuple #[] ∧ ∃ e : Array RwR, e.toList.Perm (d.push r).toList ∧ HeapIn ltR e.size e ∧ rs = [HEAP h e]) := by
 refine Spec.enter (C := cx gl) Tryz.func119 rfl 74 rfl rfl fun w0 h0 hsep hsub hpre => ?_
 show St (cx gl) _ [(0, .pointer (some ⟨h, 0, none⟩)), (1, r.val)] _ _
 refine St.openP [] fun ⟨lb, cap⟩ _ => ?_
 refine St.unbundle [] (rT (lMv (k:=lMv (k:=lP pN (k:=lP (pF ty_fl_294_0) (k:=lV (vB ty_sc_126 .h0) (k:=lMv (k:=?_))))))))
 refine lO (W_lit (z := .nilIface) ([r.val]) rfl rfl rfl ty_sl_126 ty_lz_126 rfl rfl rfl (by decide) (by decide) (by intro v hv; simp only [List.mem_singleton] at hv; subst hv; rfl) (rfl) fun b12 => ?_)
 refine lO (W_append (p := [_, _]) rfl rfl rfl ty_sl_126 ty_ap_126 ty_src_126 rfl rfl rfl (Src.slice (sz := 1) (m := 1) (news := [r.val]) (Rds.blk .h0) rfl (by intro v hv; simp only [List.mem_singleton] at hv; subst hv; rfl)) (by omega) (by simp only [maxLen]; omega) fun v13 => ?_)
 refine St.ownSome (p := [_, _]) (by omega) fun ub uc huv huc => ?_
 subst huv
 refine lP pN (k:=lP (pF ty_fl_294_0) (k:=?_))
 refine lO (W_store rfl rfl rfl rfl ty_sc_126 rfl .h1 (by show (0 : Nat) < 2; decide) ?_)
 refine lQ (cE 0 rfl .nil) (rS ?_)
 refine St.res (rs' := [blk h (heapC (some ⟨ub, 0, none⟩) uc ((d.push r)).size) 294, ownS 92 1 (.slice (some ⟨ub, 0, none⟩) ((d.push r)).size uc) ((d.push r)).size (((d.push r)).toList.map RwR.val), fam rowH ((d.push r)).toList]) (Weak.drop (by rw [Array.size_push, Array.toList_push, List.map_append]; exact Weak.keep (Weak.keep (Weak.trans Weak.swap Weak.famAdd)))) (rR (lMv (k:=lP pN (k:=lP (pF ty_fl_294_0) (k:=lV (vB ty_sc_126 .h0) (k:=lP (pL ty_sl_126) (k:=?_)))))))
 refine lP (P_subN rfl rfl rfl (by simp only [fits, Array.size_push]; omega)) (k:=?_)
 refine E_as (t := 21) (v' := .int .i64 ((d.size : Int))) rfl (congrArg (Value.int .i64) (by rw [Array.size_push]; omega)) (lA (k:=?_))
 refine lQ (cE 0 rfl (cE 4 rfl .nil)) (R_block ?_)
 refine R_loopE (G := Nat × Array RwR) (cE 0 rfl .nil) (fun g => [(4, .int .i64 ((g.1 : Int)))]) (fun g => [blk h (heapC (some ⟨ub, 0, none⟩) uc (g.2).size) 294, ownS 92 1 (.slice (some ⟨ub, 0, none⟩) (g.2).size uc) (g.2).size ((g.2).toList.map RwR.val), fam rowH (g.2).toList]) (fun g => g.2.size = d.size + 1 ∧ g.1 < g.2.size ∧ HeapUp ltR g.2.size g.2 g.1 ∧ g.2.toList.Perm (d.push r).toList) (fun g => g.1) (d.size, d.push r) (by show (d.push r).size = d.size + 1 ∧ (d.size) < (d.push r).size ∧ HeapUp ltR (d.push r).size (d.push r) (d.size) ∧ (d.push r).toList.Perm (d.push r).toList; exact ⟨Array.size_push .., by rw [Array.size_push]; omega, heapUp_push hh, List.Perm.refl _⟩) (by repeat (first | exact .nil | refine .cons rfl ?_ | refine .consE rfl (by first | rfl | (congr 1; omega) | (congr 1; push_cast; omega)) ?_)) (Weak.refl _) ?_
 rintro ⟨i, e⟩ hinv
 replace hinv : e.size = d.size + 1 ∧ i < e.size ∧ HeapUp ltR e.size e i ∧ e.toList.Perm (d.push r).toList := hinv
 show St (cx gl) _ ((4, .int .i64 ((i : Int))) :: _) [blk h (heapC (some ⟨ub, 0, none⟩) uc (e).size) 294, ownS 92 1 (.slice (some ⟨ub, 0, none⟩) (e).size uc) (e).size ((e).toList.map RwR.val), fam rowH (e).toList] _
 obtain ⟨hsz, hie, hup, hpm⟩ := hinv
 refine rS (rT (lMv (k:=lP pGt (k:=?_))))
 refine L_nil (qT ?_)
 refine R_condP rfl (fun hi => ?_) (fun hi => ?_)
 ·skip
  have hi0 : 0 < i := by omega
  have hpl := par_lt hi0
  have hpe : par i < e.size := by omega
  refine R_skip (qT (R_block (rT (lMv (k:=?_)))))
  first | (refine L_val rfl rfl rfl (OpP.v (P_subN rfl rfl rfl (by simp only [fits]; omega))) ?_) | (refine L_val rfl rfl rfl (OpP.v (P_sub rfl rfl rfl)) ?_)
  refine lP (P_quo rfl rfl rfl (by decide)) (k:=?_)
  refine E_as (t := 26) (v' := .int .i64 ((par i : Int))) rfl (congrArg (Value.int .i64) (par_quo hi0 (by omega))) (lA (k:=?_))
  refine L_nil (qT (rS (rS ?_)))
  refine R_open [(0, 0), (1, 0), (2, 0), (3, 1), (4, 0), (5, 0), (6, 0), (7, 1), (8, 0), (9, 0), (10, 1), (11, 0), (12, 0), (13, 0), (14, 1), (15, 0), (16, 0), (17, 1), (18, 2), (19, 0)] mixed (by kernel_rfl) (QOk.then (QOk.then (QOk.block (QOk.then (QOk.block QOk.body))))) (oP rfl pM (k:=oP rfl pN (k:=oP rfl (pF ty_fl_294_1) (k:=oV rfl (vB ty_sc_116 .h0) (k:=oP rfl pM (k:=oP rfl pN (k:=oP rfl (pF ty_fl_294_0) (k:=oV rfl (vB ty_sc_126 .h0) (k:=oP rfl pM (k:=?_))))))))))
  refine oP rfl (P_ixs (i) rfl ty_sl_126 rfl rfl (by first | rfl | omega) (by omega)) (k:=?_)
  refine oV rfl (V_load rfl rfl ty_sc_92 (rd_own1 .h1 (val_at hie))) (k:=oP rfl pM (k:=oP rfl pN (k:=oP rfl (pF ty_fl_294_0) (k:=oV rfl (vB ty_sc_126 .h0) (k:=oP rfl pM (k:=?_))))))
  refine oP rfl (P_ixs (par i) rfl ty_sl_126 rfl rfl (by first | rfl | omega) (by omega)) (k:=?_)
  refine oV rfl (V_load rfl rfl ty_sc_92 (rd_own1 .h1 (val_at hpe))) (k:=?_)
  refine O_keep rfl rfl (W_callFV (fi := []) (ca := []) rfl rfl rfl rfl rfl rfl fn_ca_191 (rows1_ok (e[i]!).base (e[par i]!).base _ _ (e[i]!).l (e[par i]!).l (e[i]!).len_cap (e[par i]!).len_cap (e[i]!).hd (e[par i]!).hd (e[i]!).hd_at (e[par i]!).hd_at) (fun w nw => ⟨(snFamR .h2 (row_at hie)).rw_ w nw, (snFamR .h2 (row_at hpe)).rw_ w nw⟩) (K_keep (Weak.refl _) (oP rfl pO (k:=O_nil (qT ?_)))))
  refine R_cond rfl (fun hb => ?_) (fun hb => ?_)
  ·skip
   have hb9 : (!ltR e[i]! e[par i]!) = true := hb
   rw [Bool.not_eq_true'] at hb9
   have hdn := hup.done (.inr hb9)
   refine R_ret (Q_then_ret (Q_block_ret (Q_then_ret (Q_block_ret ?_))))
   exact R_end (rs2 := _) rfl rfl (.nil) (⟨rfl, e, hpm, hdn, rfl⟩) (heap_close (rs := []))
  ·skip
   have hb9 : (!ltR e[i]! e[par i]!) = false := hb
   rw [Bool.not_eq_false'] at hb9
   have hb : ltR e[i]! e[par i]! = true := hb9
   refine R_skip (qT (rS ?_))
   refine R_open [(0, 0), (1, 0), (2, 0), (3, 1), (4, 0), (5, 0), (6, 0), (7, 0), (8, 1), (9, 0), (10, 0), (11, 0), (12, 0), (13, 1), (14, 0), (15, 0), (16, 1), (17, 0), (18, 0), (19, 0), (20, 1), (21, 0), (22, 0), (23, 1), (24, 0), (25, 3), (26, 0), (27, 3)] mixed (by kernel_rfl) (QOk.then (QOk.block (QOk.then (QOk.block QOk.body)))) (oP rfl pM (k:=oP rfl pN (k:=oP rfl (pF ty_fl_294_0) (k:=oV rfl (vB ty_sc_126 .h0) (k:=oP rfl pM (k:=oP rfl pM (k:=oP rfl pN (k:=oP rfl (pF ty_fl_294_0) (k:=oV rfl (vB ty_sc_126 .h0) (k:=oP rfl pM (k:=oP rfl pM (k:=oP rfl pN (k:=oP rfl (pF ty_fl_294_0) (k:=oV rfl (vB ty_sc_126 .h0) (k:=oP rfl pM (k:=?_))))))))))))))))
   refine oP rfl (P_ixs (par i) rfl ty_sl_126 rfl rfl (by first | rfl | omega) (by omega)) (k:=?_)
   refine oV rfl (V_load rfl rfl ty_sc_92 (rd_own1 .h1 (val_at hpe))) (k:=oP rfl pM (k:=oP rfl pN (k:=oP rfl (pF ty_fl_294_0) (k:=oV rfl (vB ty_sc_126 .h0) (k:=oP rfl pM (k:=?_))))))
   refine oP rfl (P_ixs (i) rfl ty_sl_126 rfl rfl (by first | rfl | omega) (by omega)) (k:=?_)
   refine oV rfl (V_load rfl rfl ty_sc_92 (rd_own1 .h1 (val_at hie))) (k:=?_)
   refine oP rfl (P_ixs (i) rfl ty_sl_126 rfl rfl (by first | rfl | omega) (by omega)) (k:=?_)
   refine O_new rfl rfl (W_storeOwn1 (T := 92) (sz := 1) (n := e.size) (c := uc) rfl rfl rfl rfl ty_sc_92 rfl .h1 (by rw [List.length_map, Array.length_toList]; omega) (K_new ?_))
   refine oP rfl (P_ixs (par i) rfl ty_sl_126 rfl rfl (by first | rfl | omega) (by omega)) (k:=?_)
   refine O_new rfl rfl (W_storeOwn1 (T := 92) (sz := 1) (n := e.size) (c := uc) rfl rfl rfl rfl ty_sc_92 rfl .h1 (by rw [List.length_set, List.length_map, Array.length_toList]; omega) (K_new (O_nil (qT (rR (lMv (k:=lA (k:=?_))))))))
   refine L_nil (Q_block ?_)
   exact Q_round (par i, swp e i (par i)) (by show (swp e i (par i)).size = d.size + 1 ∧ (par i) < (swp e i (par i)).size ∧ HeapUp ltR (swp e i (par i)).size (swp e i (par i)) (par i) ∧ (swp e i (par i)).toList.Perm (d.push r).toList; exact ⟨by rw [swp_size]; exact hsz, by rw [swp_size]; exact hpe, by rw [swp_size]; exact hup.step swo_ltR (Nat.le_refl _) hi0 hie hb, (swp_toPerm e hie hpe).symm.trans hpm⟩) (par_lt hi0) (by repeat (first | exact .nil | refine .cons rfl ?_ | refine .consE rfl (by first | rfl | (congr 1; omega) | (congr 1; push_cast; omega)) ?_)) (by rw [swp_size, ← swp_vals]; exact Weak.keep (Weak.keep (Weak.famPerm (swp_toPerm e hie hpe))))
 ·skip
  refine R_exit (Q_then_exit (Q_then_exit (Q_block_eq ?_)))
  refine St.env (.nil) ?_
  exact R_end0 (rs2 := _) rfl rfl (.nil) (⟨rfl, e, hpm, hup.done (.inl (by omega)), rfl⟩) (heap_close (rs := []))
end Go.Proofs.YtcngmkjdpoiiaaaGreatDoor

/- A heap: what pop leaves. Printed by gen.py. -/
set_option maxRecDepth 100000
namespace Go.Proofs.YtcngmkjdpoiiaaaGreatDoor
open Go Go.RowKit Go.Proofs Go.Sort
/-- The last ones of a slice are given up; its room stays. -/
theorem ownS_less {T sz n cap n' : Nat} {b : Nat} {cs : List Value} {rs : List HP} (h : n' ≤ n) (h0 : 0 < n) : Weak (ownS T sz (.slice (some ⟨b, 0, none⟩) n cap) n cs :: rs) (ownS T sz (.slice (some ⟨b, 0, none⟩) n' cap) n' (cs.take (n' * sz)) :: rs) := Weak.turn .h0 fun a ⟨hl, hx⟩ => by
 have hm : n' * sz ≤ n * sz := Nat.mul_le_mul_right _ h
 refine ⟨by rw [List.length_take, hl]; omega, ?_⟩
 rcases hx with ⟨_, h1, _⟩ | ⟨b', cap', junk, e, h1, h2, h3, h4⟩
 ·omega
 ·simp only [Value.slice.injEq, true_and, Option.some.injEq, Addr.mk.injEq, and_true] at e
  obtain ⟨rfl, rfl⟩ := e
  refine .inr ⟨b, cap, cs.drop (n' * sz) ++ junk, rfl, by omega, h2, ?_, ?_⟩
  ·rw [← List.append_assoc, List.take_append_drop]; exact h3
  ·rw [← List.append_assoc, List.take_append_drop]; exact h4
/-- What remains when the first is taken out and the last stands in its place. -/
def tailD (d : Array RwR) : Array RwR := (d.setIfInBounds 0 d[d.size - 1]!).pop
theorem tailD_size (d : Array RwR) : (tailD d).size = d.size - 1 := by simp [tailD]
theorem tailD_at {d : Array RwR} {k : Nat} (h0 : 0 < k) (hk : k < d.size - 1) : (tailD d)[k]! = d[k]! := by
 unfold tailD
 rw [getElem!_pos (Array.pop _) k (by rw [Array.size_pop, Array.size_setIfInBounds]; exact hk), getElem!_pos d k (by omega)]
 rw [Array.getElem_pop]
 exact Array.getElem_setIfInBounds_ne (by omega) (by omega)
theorem heapDn_pop {d : Array RwR} (h : HeapIn ltR d.size d) : HeapDn ltR (tailD d).size (tailD d) 0 :=
 HeapDn.new (n := (tailD d).size) (d := d) (h.cut (by rw [tailD_size]; omega)) fun k h0 h1 => tailD_at h0 (by rw [tailD_size] at h1; exact h1)
theorem tailD_perm {d : Array RwR} (h : 0 < d.size) : d.toList.Perm (d[0]! :: (tailD d).toList) := by
 obtain ⟨l⟩ := d
 cases l with
 | nil => simp at h
 | cons a l =>
  rcases List.eq_nil_or_concat l with rfl | ⟨m, z, rfl⟩
  ·simp [tailD]
  ·have e : (tailD ⟨a :: (m ++ [z])⟩).toList = z :: m := by
    simp [tailD]
    rw [← List.cons_append, List.dropLast_concat]
   rw [List.concat_eq_append, e]
   show (a :: (m ++ [z])).Perm (a :: z :: m)
   exact (List.perm_append_comm (l₁ := m) (l₂ := [z])).cons a
end Go.Proofs.YtcngmkjdpoiiaaaGreatDoor

/- A heap: pop's inner round. Printed by gen.py. -/
set_option maxRecDepth 100000
namespace Go.Proofs.YtcngmkjdpoiiaaaGreatDoor
open Go Go.RowKit Go.Proofs Go.Sort
/-- Where pop's inner round stands. -/
def AtL (n : Nat) (e : Array RwR) (i k m : Nat) : Prop := (k = 2 * i + 1 ∧ m = i) ∨ (k = 2 * i + 2 ∧ m = least1 ltR n e i (2 * i + 1)) ∨ (k = 2 * i + 3 ∧ m = leastOf ltR n e i)
theorem least1_yes {n : Nat} {e : Array RwR} {m k : Nat} (h : k < n) (hl : ltR e[k]! e[m]! = true) : least1 ltR n e m k = k := if_pos ⟨h, hl⟩
theorem least1_no {n : Nat} {e : Array RwR} {m k : Nat} (hl : ltR e[k]! e[m]! = false) : least1 ltR n e m k = m := if_neg fun h => by rw [hl] at h; cases h.2
theorem least1_over {n : Nat} {e : Array RwR} {m k : Nat} (h : n ≤ k) : least1 ltR n e m k = m := if_neg fun h9 => by omega
theorem AtL.next {n : Nat} {e : Array RwR} {i k m : Nat} (h : AtL n e i k m) (hk : k ≤ 2 * i + 2) : AtL n e i (k + 1) (least1 ltR n e m k) := by
 rcases h with ⟨rfl, rfl⟩ | ⟨rfl, rfl⟩ | ⟨rfl, _⟩
 ·exact .inr (.inl ⟨rfl, rfl⟩)
 ·exact .inr (.inr ⟨rfl, rfl⟩)
 ·omega
theorem AtL.done {n : Nat} {e : Array RwR} {i k m : Nat} (h : AtL n e i k m) (hk : ¬ (k ≤ 2 * i + 2 ∧ k < n)) : m = leastOf ltR n e i := by
 rcases h with ⟨rfl, rfl⟩ | ⟨rfl, rfl⟩ | ⟨_, rfl⟩
 ·unfold leastOf; rw [least1_over (k := 2 * m + 1) (by omega), least1_over (by omega)]
 ·unfold leastOf; rw [least1_over (k := 2 * i + 2) (by omega)]
 ·rfl
theorem AtL.lt {n : Nat} {e : Array RwR} {i k m : Nat} (h : AtL n e i k m) (hk : k < n) (hk2 : k ≤ 2 * i + 2) : m < k := by
 rcases h with ⟨rfl, rfl⟩ | ⟨rfl, rfl⟩ | ⟨rfl, _⟩
 ·omega
 ·unfold least1; split <;> omega
 ·omega
end Go.Proofs.YtcngmkjdpoiiaaaGreatDoor

/- A heap: pop. Printed by gen.py. -/
set_option maxRecDepth 100000
namespace Go.Proofs.YtcngmkjdpoiiaaaGreatDoor
open Go Go.RowKit Go.Proofs Go.Sort
theorem sliced_keep (b : Nat) (q c : Nat) (h : 0 < c) : sliced (some ⟨b, 0, none⟩) 0 q c 1 = .slice (some ⟨b, 0, none⟩) q c := by
 unfold sliced
 simp [Addr.add]
theorem tailD_vals {d : Array RwR} (h : 0 < d.size) : (tailD d).toList.map RwR.val = (((d.toList.map RwR.val).set (0 + 0 * 1) (d[d.size - 1]!).val).take ((d.size - 1) * 1)) := by
 unfold tailD
 rw [Array.toList_pop, Array.toList_setIfInBounds, List.dropLast_eq_take, List.map_take, List.map_set, List.length_set, Array.length_toList, Nat.mul_one]
set_option maxHeartbeats 1000000 in
theorem hpop_ok {gl : Nat → Obj} (h : Nat) (d : Array RwR) (hpos : 0 < d.size) (hl : d.size ≤ 65536) (hh : HeapIn ltR d.size d) : Spec (cx gl) 118 [.pointer (some ⟨h, 0, none⟩)] (fun _ _ => True) [HEAP h d] (fun v rs => ∃ e : Array RwR, v = (d[0]!).val ∧ HeapIn ltR e.size e ∧ (d[0]! :: e.toList).Perm d.toList ∧ rs = [HEAP h e, rowH d[0]!]) := by
 refine Spec.enter (C := cx gl) Tryz.func118 rfl 108 rfl rfl fun w0 h0 hsep hsub hpre => ?_
 show St (cx gl) _ [(0, .pointer (some ⟨h, 0, none⟩))] _ _
 refine St.openP [] fun ⟨lb, cap⟩ _ => ?_
 refine St.unbundle [] ?_
 refine St.ownSome (p := [_]) hpos fun ub uc huv huc => ?_
 obtain ⟨rfl, rfl⟩ : lb = some ⟨ub, 0, none⟩ ∧ cap = uc := by injection huv with h1 h2 h3; exact ⟨h1, h3⟩
 refine rT (lA (k:=?_))
 refine L_nil (qT (rT (lMv (k:=lP pN (k:=lP (pF ty_fl_294_0) (k:=lV (vB ty_sc_126 .h0) (k:=?_)))))))
 refine lP (P_ixs (0) rfl ty_sl_126 rfl rfl (by first | rfl | omega) (by omega)) (k:=?_)
 refine lV (V_load rfl rfl ty_sc_92 (rd_own1 .h1 (val_at (i := 0) hpos))) (k:=lA (k:=?_))
 refine lQ (cE 0 rfl (cE 2 rfl (cE 3 rfl .nil))) (rT (lMv (k:=lP pN (k:=lP (pF ty_fl_294_0) (k:=lV (vB ty_sc_126 .h0) (k:=lP (pL ty_sl_126) (k:=?_)))))))
 refine lP (P_subN rfl rfl rfl (by simp only [fits]; omega)) (k:=?_)
 refine E_as (t := 19) (v' := .int .i64 ((((d.size - 1) : Nat) : Int))) rfl (congrArg (Value.int .i64) (by omega)) (lA (k:=?_))
 refine lQ (cE 0 rfl (cE 2 rfl (cE 3 rfl (cE 4 rfl .nil)))) (rS ?_)
 refine R_open [(0, 0), (1, 0), (2, 0), (3, 1), (4, 0), (5, 0), (6, 0), (7, 1), (8, 0), (9, 0), (10, 1), (11, 0), (12, 3)] mixed (by kernel_rfl) (QOk.then QOk.body) (oP rfl pM (k:=oP rfl pN (k:=oP rfl (pF ty_fl_294_0) (k:=oV rfl (vB ty_sc_126 .h0) (k:=oP rfl pM (k:=oP rfl pN (k:=oP rfl (pF ty_fl_294_0) (k:=oV rfl (vB ty_sc_126 .h0) (k:=oP rfl pM (k:=?_))))))))))
 refine oP rfl (P_ixs ((d.size - 1)) rfl ty_sl_126 rfl rfl (by first | rfl | omega) (by omega)) (k:=?_)
 refine oV rfl (V_load rfl rfl ty_sc_92 (rd_own1 .h1 (val_at (i := (d.size - 1)) (by omega)))) (k:=?_)
 refine oP rfl (P_ixs (0) rfl ty_sl_126 rfl rfl (by first | rfl | omega) (by omega)) (k:=?_)
 refine O_new rfl rfl (W_storeOwn1 (T := 92) (sz := 1) (n := d.size) (c := cap) rfl rfl rfl rfl ty_sc_92 rfl .h1 (by rw [List.length_map, Array.length_toList]; omega) (K_new (O_nil ?_)))
 refine St.env (cE 0 rfl (cE 2 rfl (cE 3 rfl (cE 4 rfl .nil)))) (qT (rT (lMv (k:=lMv (k:=lP pN (k:=lP (pF ty_fl_294_0) (k:=lV (vB ty_sc_126 .h0) (k:=lMv (k:=?_)))))))))
 refine lP (P_slice 0 (d.size - 1) rfl ty_sl_126 rfl rfl ⟨_, rfl⟩ (Nat.zero_le _) (by omega)) (k:=?_)
 refine E_as (t := 38) (v' := .slice (some ⟨ub, 0, none⟩) (d.size - 1) cap) rfl (sliced_keep _ _ _ (by omega)) (lP pN (k:=lP (pF ty_fl_294_0) (k:=?_)))
 refine lO (W_store rfl rfl rfl rfl ty_sc_126 rfl .h0 (by show (0 : Nat) < 2; decide) ?_)
 refine lQ (cE 0 rfl (cE 2 rfl (cE 3 rfl (cE 4 rfl .nil)))) (rS ?_)
 refine St.res (rs' := [blk h (heapC (some ⟨ub, 0, none⟩) cap ((tailD d)).size) 294, ownS 92 1 (.slice (some ⟨ub, 0, none⟩) ((tailD d)).size cap) ((tailD d)).size (((tailD d)).toList.map RwR.val), fam rowH ((tailD d)).toList, rowH d[0]!]) (by rw [tailD_size, tailD_vals hpos]; exact Weak.keep (Weak.trans (ownS_less (n' := (d.size - 1)) (by omega) hpos) (Weak.keep (Weak.trans (Weak.famPerm (tailD_perm hpos)) (Weak.trans (Weak.famPart (xs := [d[0]!])) (Weak.trans Weak.famThe Weak.swap)))))) (rR (lA (k:=?_)))
 refine L_nil (qT (R_block ?_))
 refine R_loopE (G := Nat × Array RwR) (cE 0 rfl (cE 2 rfl (cE 3 rfl (cE 4 rfl .nil)))) (fun g => [(5, .int .i64 ((g.1 : Int)))]) (fun g => [blk h (heapC (some ⟨ub, 0, none⟩) cap (g.2).size) 294, ownS 92 1 (.slice (some ⟨ub, 0, none⟩) (g.2).size cap) (g.2).size ((g.2).toList.map RwR.val), fam rowH (g.2).toList, rowH d[0]!]) (fun g => g.2.size = d.size - 1 ∧ (g.1 = 0 ∨ g.1 < g.2.size) ∧ HeapDn ltR g.2.size g.2 g.1 ∧ g.2.toList.Perm (tailD d).toList) (fun g => d.size - g.1) (0, (tailD d)) (by show ((tailD d)).size = d.size - 1 ∧ ((0) = 0 ∨ (0) < ((tailD d)).size) ∧ HeapDn ltR ((tailD d)).size ((tailD d)) (0) ∧ ((tailD d)).toList.Perm (tailD d).toList; exact ⟨tailD_size d, .inl rfl, heapDn_pop hh, List.Perm.refl _⟩) (by repeat (first | exact .nil | refine .cons rfl ?_ | refine .consE rfl (by first | rfl | (congr 1; omega) | (congr 1; push_cast; omega)) ?_)) (Weak.refl _) ?_
 rintro ⟨i, e⟩ hinv
 replace hinv : e.size = d.size - 1 ∧ (i = 0 ∨ i < e.size) ∧ HeapDn ltR e.size e i ∧ e.toList.Perm (tailD d).toList := hinv
 show St (cx gl) _ ((5, .int .i64 ((i : Int))) :: _) [blk h (heapC (some ⟨ub, 0, none⟩) cap (e).size) 294, ownS 92 1 (.slice (some ⟨ub, 0, none⟩) (e).size cap) (e).size ((e).toList.map RwR.val), fam rowH (e).toList, rowH d[0]!] _
 obtain ⟨hsz, hie, hdn, hpm⟩ := hinv
 refine R_block (rT (lMv (k:=lA (k:=?_))))
 refine L_nil (qT ?_)
 refine R_joinE (G := Unit) (cE 0 rfl (cE 2 rfl (cE 3 rfl (cE 4 rfl (cE 5 rfl (cE 41 rfl .nil)))))) (fun g => [(6, .int .i64 (((leastOf ltR e.size e i) : Int)))]) (fun g => [blk h (heapC (some ⟨ub, 0, none⟩) cap (e).size) 294, ownS 92 1 (.slice (some ⟨ub, 0, none⟩) (e).size cap) (e).size ((e).toList.map RwR.val), fam rowH (e).toList, rowH d[0]!]) (fun g => True) ?_ ?_
 ·skip
  refine rT (lMv (k:=?_))
  refine lP (P_mulN rfl rfl rfl (by simp only [fits]; omega)) (k:=?_)
  refine lP (P_addN rfl rfl rfl (by simp only [fits]; omega)) (k:=?_)
  refine E_as (t := 44) (v' := .int .i64 (((2 * i + 1 : Nat) : Int))) rfl (congrArg (Value.int .i64) (by omega)) (lA (k:=?_))
  refine L_nil (qT (R_block ?_))
  refine R_loopE (G := Nat × Nat) (cE 0 rfl (cE 2 rfl (cE 3 rfl (cE 4 rfl (cE 5 rfl (cE 41 rfl (cE 42 rfl (cE 43 rfl (cE 44 rfl .nil))))))))) (fun g => [(6, .int .i64 ((g.2 : Int))), (7, .int .i64 ((g.1 : Int)))]) (fun g => [blk h (heapC (some ⟨ub, 0, none⟩) cap (e).size) 294, ownS 92 1 (.slice (some ⟨ub, 0, none⟩) (e).size cap) (e).size ((e).toList.map RwR.val), fam rowH (e).toList, rowH d[0]!]) (fun g => AtL e.size e i g.1 g.2 ∧ g.1 ≤ 2 * i + 3) (fun g => 2 * i + 3 - g.1) (2 * i + 1, i) (by show AtL e.size e i (2 * i + 1) (i) ∧ (2 * i + 1) ≤ 2 * i + 3; exact ⟨.inl ⟨rfl, rfl⟩, by omega⟩) (by repeat (first | exact .nil | refine .cons rfl ?_ | refine .consE rfl (by first | rfl | (congr 1; omega) | (congr 1; push_cast; omega)) ?_)) (Weak.refl _) ?_
  rintro ⟨k, m⟩ hinv
  replace hinv : AtL e.size e i k m ∧ k ≤ 2 * i + 3 := hinv
  show St (cx gl) _ ((6, .int .i64 ((m : Int))) :: (7, .int .i64 ((k : Int))) :: _) [blk h (heapC (some ⟨ub, 0, none⟩) cap (e).size) 294, ownS 92 1 (.slice (some ⟨ub, 0, none⟩) (e).size cap) (e).size ((e).toList.map RwR.val), fam rowH (e).toList, rowH d[0]!] _
  obtain ⟨hat, hk3⟩ := hinv
  refine rS (rT (lMv (k:=lMv (k:=?_))))
  refine lP (P_mulN rfl rfl rfl (by simp only [fits]; omega)) (k:=?_)
  refine lP (P_addN rfl rfl rfl (by simp only [fits]; omega)) (k:=lP pLe (k:=lMv (k:=?_)))
  refine E_bool (t := 50) rfl (fun hk2 => ?_) (fun hk2 => ?_)
  ·skip
   have hk2 : k ≤ 2 * i + 2 := by have := of_decide_eq_true hk2; omega
   refine lMv (k:=lMv (k:=lP pLt (k:=lP pK (k:=?_))))
   refine L_nil (qT ?_)
   refine R_condP rfl (fun hkn => ?_) (fun hkn => ?_)
   ·skip
    have hkn : k < e.size := by omega
    have hmk := hat.lt hkn hk2
    refine R_skip (qT (rS (R_block (rS ?_))))
    refine R_open [(0, 0), (1, 0), (2, 0), (3, 1), (4, 0), (5, 0), (6, 0), (7, 1), (8, 0), (9, 0), (10, 1), (11, 0), (12, 0), (13, 0), (14, 1), (15, 0), (16, 0), (17, 1), (18, 2)] mixed (by kernel_rfl) (QOk.then (QOk.block (QOk.then (QOk.then (QOk.block (QOk.then (QOk.block (QOk.then (QOk.block QOk.body))))))))) (oP rfl pM (k:=oP rfl pN (k:=oP rfl (pF ty_fl_294_1) (k:=oV rfl (vB ty_sc_116 .h0) (k:=oP rfl pM (k:=oP rfl pN (k:=oP rfl (pF ty_fl_294_0) (k:=oV rfl (vB ty_sc_126 .h0) (k:=oP rfl pM (k:=?_))))))))))
    refine oP rfl (P_ixs (k) rfl ty_sl_126 rfl rfl (by first | rfl | omega) (by omega)) (k:=?_)
    refine oV rfl (V_load rfl rfl ty_sc_92 (rd_own1 .h1 (val_at (i := k) hkn))) (k:=oP rfl pM (k:=oP rfl pN (k:=oP rfl (pF ty_fl_294_0) (k:=oV rfl (vB ty_sc_126 .h0) (k:=oP rfl pM (k:=?_))))))
    refine oP rfl (P_ixs (m) rfl ty_sl_126 rfl rfl (by first | rfl | omega) (by omega)) (k:=?_)
    refine oV rfl (V_load rfl rfl ty_sc_92 (rd_own1 .h1 (val_at (i := m) (by omega)))) (k:=?_)
    refine O_keep rfl rfl (W_callFV (fi := []) (ca := []) rfl rfl rfl rfl rfl rfl fn_ca_191 (rows1_ok (e[k]!).base (e[m]!).base _ _ (e[k]!).l (e[m]!).l (e[k]!).len_cap (e[m]!).len_cap (e[k]!).hd (e[m]!).hd (e[k]!).hd_at (e[m]!).hd_at) (fun w nw => ⟨(snFamR .h2 (row_at hkn)).rw_ w nw, (snFamR .h2 (row_at (show m < e.size by omega))).rw_ w nw⟩) (K_keep (Weak.refl _) (O_nil (qT ?_))))
    refine R_cond rfl (fun hb => ?_) (fun hb => ?_)
    ·skip
     have hb : ltR e[k]! e[m]! = true := hb
     refine rR (lMv (k:=lA (k:=?_)))
     refine L_nil (Q_block (qT (rR (lMv (k:=?_)))))
     first | (refine L_val rfl rfl rfl (OpP.v (P_addN rfl rfl rfl (by simp only [fits]; omega))) ?_) | (refine L_val rfl rfl rfl (OpP.v (P_add rfl rfl rfl)) ?_)
     refine lA (k:=?_)
     refine L_nil ?_
     exact Q_round (k + 1, k) (by show AtL e.size e i (k + 1) (k) ∧ (k + 1) ≤ 2 * i + 3; exact ⟨by have h9 := hat.next hk2; rw [least1_yes hkn hb] at h9; exact h9, by omega⟩) (by show 2 * i + 3 - (k + 1) < 2 * i + 3 - k; omega) (by repeat (first | exact .nil | refine .cons rfl ?_ | refine .consE rfl (by first | rfl | (congr 1; omega) | (congr 1; push_cast; omega)) ?_)) (Weak.refl _)
    ·skip
     have hb : ltR e[k]! e[m]! = false := hb
     refine R_skip (Q_block (qT (rR (lMv (k:=?_)))))
     first | (refine L_val rfl rfl rfl (OpP.v (P_addN rfl rfl rfl (by simp only [fits]; omega))) ?_) | (refine L_val rfl rfl rfl (OpP.v (P_add rfl rfl rfl)) ?_)
     refine lA (k:=?_)
     refine L_nil ?_
     exact Q_round (k + 1, m) (by show AtL e.size e i (k + 1) (m) ∧ (k + 1) ≤ 2 * i + 3; exact ⟨by have h9 := hat.next hk2; rw [least1_no hb] at h9; exact h9, by omega⟩) (by show 2 * i + 3 - (k + 1) < 2 * i + 3 - k; omega) (by repeat (first | exact .nil | refine .cons rfl ?_ | refine .consE rfl (by first | rfl | (congr 1; omega) | (congr 1; push_cast; omega)) ?_)) (Weak.refl _)
   ·skip
    obtain rfl := hat.done (fun h => hkn (by omega))
    refine R_exit (Q_then_exit (Q_then_exit (Q_block_eq ?_)))
    exact Q_meet () (trivial) (by repeat (first | exact .nil | refine .cons rfl ?_ | refine .consE rfl (by first | rfl | (congr 1; omega) | (congr 1; push_cast; omega)) ?_)) (Weak.refl _)
  ·skip
   have hk2 : ¬ k ≤ 2 * i + 2 := by have := of_decide_eq_false hk2; omega
   obtain rfl := hat.done (fun h => hk2 h.1)
   refine lN (k:=lN (k:=lN (k:=lP pK (k:=?_))))
   refine L_nil (qT (kF (k:=R_exit (Q_then_exit (Q_then_exit (Q_block_eq ?_))))))
   exact Q_meet () (trivial) (by repeat (first | exact .nil | refine .cons rfl ?_ | refine .consE rfl (by first | rfl | (congr 1; omega) | (congr 1; push_cast; omega)) ?_)) (Weak.refl _)
 ·rintro ⟨⟩ hinv
  replace hinv : True := hinv
  show St (cx gl) _ ((6, .int .i64 (((leastOf ltR e.size e i) : Int))) :: _) [blk h (heapC (some ⟨ub, 0, none⟩) cap (e).size) 294, ownS 92 1 (.slice (some ⟨ub, 0, none⟩) (e).size cap) (e).size ((e).toList.map RwR.val), fam rowH (e).toList, rowH d[0]!] _
  refine rS (rT (lMv (k:=lMv (k:=lP pEq (k:=?_)))))
  refine L_nil (qT ?_)
  refine R_condP rfl (fun hlq => ?_) (fun hlq => ?_)
  ·skip
   have hdone : HeapIn ltR e.size e := by rcases leastOf_cases swo_ltR e.size e i with h9 | h9; exact hdn.done h9.2; have := par_lt h9.1; omega
   refine rT (lMv (k:=lA (k:=?_)))
   refine L_nil (qT (R_ret (Q_then_ret (Q_block_ret (Q_then_ret (Q_block_ret ?_))))))
   exact R_end (rs2 := _) rfl rfl (.tmp rfl .nil) (⟨e, rfl, hdone, (List.Perm.cons _ hpm).trans (tailD_perm hpos).symm, rfl⟩) (heap_close (rs := [_]))
  ·skip
   have hc := (leastOf_cases swo_ltR e.size e i).resolve_left (fun h9 => hlq (by rw [h9.1]))
   have hpl := par_lt hc.1
   rw [hc.2.2.1] at hpl
   have hi9 : i < e.size := by omega
   refine R_skip (qT (rS ?_))
   refine R_open [(0, 0), (1, 0), (2, 0), (3, 1), (4, 0), (5, 0), (6, 0), (7, 0), (8, 1), (9, 0), (10, 0), (11, 0), (12, 0), (13, 1), (14, 0), (15, 0), (16, 1), (17, 0), (18, 0), (19, 0), (20, 1), (21, 0), (22, 0), (23, 1), (24, 0), (25, 3), (26, 0), (27, 3)] mixed (by kernel_rfl) (QOk.then (QOk.block (QOk.then (QOk.block QOk.body)))) (oP rfl pM (k:=oP rfl pN (k:=oP rfl (pF ty_fl_294_0) (k:=oV rfl (vB ty_sc_126 .h0) (k:=oP rfl pM (k:=oP rfl pM (k:=oP rfl pN (k:=oP rfl (pF ty_fl_294_0) (k:=oV rfl (vB ty_sc_126 .h0) (k:=oP rfl pM (k:=oP rfl pM (k:=oP rfl pN (k:=oP rfl (pF ty_fl_294_0) (k:=oV rfl (vB ty_sc_126 .h0) (k:=oP rfl pM (k:=?_))))))))))))))))
   refine oP rfl (P_ixs ((leastOf ltR e.size e i)) rfl ty_sl_126 rfl rfl (by first | rfl | omega) (by omega)) (k:=?_)
   refine oV rfl (V_load rfl rfl ty_sc_92 (rd_own1 .h1 (val_at (i := (leastOf ltR e.size e i)) hc.2.1))) (k:=oP rfl pM (k:=oP rfl pN (k:=oP rfl (pF ty_fl_294_0) (k:=oV rfl (vB ty_sc_126 .h0) (k:=oP rfl pM (k:=?_))))))
   refine oP rfl (P_ixs (i) rfl ty_sl_126 rfl rfl (by first | rfl | omega) (by omega)) (k:=?_)
   refine oV rfl (V_load rfl rfl ty_sc_92 (rd_own1 .h1 (val_at (i := i) hi9))) (k:=?_)
   refine oP rfl (P_ixs (i) rfl ty_sl_126 rfl rfl (by first | rfl | omega) (by omega)) (k:=?_)
   refine O_new rfl rfl (W_storeOwn1 (T := 92) (sz := 1) (n := e.size) (c := cap) rfl rfl rfl rfl ty_sc_92 rfl .h1 (by rw [List.length_map, Array.length_toList]; omega) (K_new ?_))
   refine oP rfl (P_ixs ((leastOf ltR e.size e i)) rfl ty_sl_126 rfl rfl (by first | rfl | omega) (by omega)) (k:=?_)
   refine O_new rfl rfl (W_storeOwn1 (T := 92) (sz := 1) (n := e.size) (c := cap) rfl rfl rfl rfl ty_sc_92 rfl .h1 (by rw [List.length_set, List.length_map, Array.length_toList]; omega) (K_new (O_nil (qT (rR (lMv (k:=lA (k:=?_))))))))
   refine L_nil (Q_block ?_)
   exact Q_round ((leastOf ltR e.size e i), swp e i (leastOf ltR e.size e i)) (by show (swp e i (leastOf ltR e.size e i)).size = d.size - 1 ∧ (((leastOf ltR e.size e i)) = 0 ∨ ((leastOf ltR e.size e i)) < (swp e i (leastOf ltR e.size e i)).size) ∧ HeapDn ltR (swp e i (leastOf ltR e.size e i)).size (swp e i (leastOf ltR e.size e i)) ((leastOf ltR e.size e i)) ∧ (swp e i (leastOf ltR e.size e i)).toList.Perm (tailD d).toList; exact ⟨by rw [swp_size]; exact hsz, .inr (by rw [swp_size]; exact hc.2.1), by rw [swp_size]; exact hdn.step swo_ltR (Nat.le_refl _) hc.1 hc.2.1 hc.2.2.1 hc.2.2.2.1 hc.2.2.2.2, (swp_toPerm e hi9 hc.2.1).symm.trans hpm⟩) (by show d.size - (leastOf ltR e.size e i) < d.size - i; omega) (by repeat (first | exact .nil | refine .cons rfl ?_ | refine .consE rfl (by first | rfl | (congr 1; omega) | (congr 1; push_cast; omega)) ?_)) (by rw [swp_size, ← swp_vals]; exact Weak.keep (Weak.keep (Weak.famPerm (swp_toPerm e hi9 hc.2.1))))
end Go.Proofs.YtcngmkjdpoiiaaaGreatDoor

/- What is picked. Printed by gen.py. -/
set_option maxRecDepth 100000
namespace Go.Proofs.YtcngmkjdpoiiaaaGreatDoor
open Go Go.RowKit Go.Proofs Go.Sort
/-! ### What comes next of each account -/
abbrev Nx := Int → Option Int
def setN (ρ : Nx) (a : Int) (v : Option Int) : Nx := fun b => if b = a then v else ρ b
theorem setN_same (ρ : Nx) (a : Int) (v : Option Int) : setN ρ a v a = v := if_pos rfl
theorem setN_other {ρ : Nx} {a b : Int} {v : Option Int} (h : b ≠ a) : setN ρ a v b = ρ b := if_neg h
/-- The dearest of those that come next. -/
structure Dearest (H : List TxR) (ρ : Nx) (x : TxR) : Prop where
 mem : x ∈ H
 next : ρ x.t.frm = some x.t.non
 first : ∀ y ∈ H, ρ y.t.frm = some y.t.non → ¬ cmpT y.t x.t < 0
def NoneNext (H : List TxR) (ρ : Nx) : Prop := ∀ y ∈ H, ρ y.t.frm ≠ some y.t.non
theorem Dearest.one {H : List TxR} (hk : (H.map keyT).Nodup) {ρ : Nx} {x y : TxR} (a : Dearest H ρ x) (b : Dearest H ρ y) : x = y := by
 have h1 := a.first y b.mem b.next
 have h2 := b.first x a.mem a.next
 rw [cmpT_neg] at h1 h2
 exact nodup_inj hk a.mem b.mem (Prod.ext (show x.t.frm = y.t.frm by omega) (show x.t.non = y.t.non by omega))
theorem Dearest.some {H : List TxR} {ρ : Nx} {x : TxR} (a : Dearest H ρ x) : ¬ NoneNext H ρ := fun h => h x a.mem a.next
/-- What is picked: of the dearest that come next those that are taken, one behind the other. -/
inductive PickR (H : List TxR) {σ : Type} (app : σ → TxR → Option σ) : Nx → σ → Nat → List TxR → Prop
 | full {ρ : Nx} {s : σ} : PickR H app ρ s 0 []
 | over {ρ : Nx} {s : σ} {n : Nat} (h : NoneNext H ρ) : PickR H app ρ s n []
 | take {ρ : Nx} {s s' : σ} {n : Nat} {x : TxR} {out : List TxR} (hb : Dearest H ρ x) (ha : app s x = some s') (k : PickR H app (setN ρ x.t.frm (some (x.t.non + 1))) s' n out) : PickR H app ρ s (n + 1) (x :: out)
 | skip {ρ : Nx} {s : σ} {n : Nat} {x : TxR} {out : List TxR} (hb : Dearest H ρ x) (ha : app s x = none) (k : PickR H app (setN ρ x.t.frm none) s (n + 1) out) : PickR H app ρ s (n + 1) out
theorem PickR.one {H : List TxR} (hk : (H.map keyT).Nodup) {σ : Type} {app : σ → TxR → Option σ} {ρ : Nx} {s : σ} {n : Nat} {o : List TxR} (h : PickR H app ρ s n o) : ∀ {o' : List TxR}, PickR H app ρ s n o' → o = o' := by
 induction h with
 | full => intro o' h'; cases h' <;> rfl
 | over h => intro o' h'; cases h' with
  | full => rfl
  | over => rfl
  | take hb => exact absurd h hb.some
  | skip hb => exact absurd h hb.some
 | take hb ha k ih => intro o' h'; cases h' with
  | over h => exact absurd h hb.some
  | take hb' ha' k' =>
   cases hb.one hk hb'
   rw [ha] at ha'; cases ha'
   rw [ih k']
  | skip hb' ha' =>
   cases hb.one hk hb'
   rw [ha] at ha'; cases ha'
 | skip hb ha k ih => intro o' h'; cases h' with
  | over h => exact absurd h hb.some
  | take hb' ha' =>
   cases hb.one hk hb'
   rw [ha] at ha'; cases ha'
  | skip hb' ha' k' =>
   cases hb.one hk hb'
   exact ih k'
theorem PickR.same {H H' : List TxR} (hm : ∀ x, x ∈ H ↔ x ∈ H') {σ : Type} {app : σ → TxR → Option σ} {ρ : Nx} {s : σ} {n : Nat} {o : List TxR} (h : PickR H app ρ s n o) : PickR H' app ρ s n o := by
 have hb : ∀ {ρ : Nx} {x : TxR}, Dearest H ρ x → Dearest H' ρ x := fun a => ⟨(hm _).1 a.mem, a.next, fun y hy => a.first y ((hm y).2 hy)⟩
 induction h with
 | full => exact .full
 | over h => exact .over fun y hy => h y ((hm y).2 hy)
 | take b ha _ ih => exact .take (hb b) ha ih
 | skip b ha _ ih => exact .skip (hb b) ha ih
theorem PickR.mem {H : List TxR} {σ : Type} {app : σ → TxR → Option σ} {ρ : Nx} {s : σ} {n : Nat} {o : List TxR} (h : PickR H app ρ s n o) : ∀ x ∈ o, x ∈ H := by
 induction h with
 | full => exact fun _ h => (nomatch h)
 | over _ => exact fun _ h => (nomatch h)
 | take b _ _ ih => exact fun y hy => (List.mem_cons.1 hy).elim (fun e => e ▸ b.mem) (ih y)
 | skip _ _ _ ih => exact ih
theorem PickR.len {H : List TxR} {σ : Type} {app : σ → TxR → Option σ} {ρ : Nx} {s : σ} {n : Nat} {o : List TxR} (h : PickR H app ρ s n o) : o.length ≤ n := by
 induction h with
 | full => exact Nat.le_refl _
 | over _ => exact Nat.zero_le _
 | take _ _ _ ih => exact Nat.succ_le_succ ih
 | skip _ _ _ ih => exact ih
/-! ### Rows -/
/-- What is held of an account from a nonce on, as far as it goes without a gap. -/
structure RunOf (H : List TxR) (r : List TxR) (a n : Int) : Prop where
 at_ : ∀ (i : Nat) (x : TxR), r[i]? = some x → heldAt H (a, n + i) = some x
 over : heldAt H (a, n + r.length) = none
/-- The rows of a heap stand for what comes next. -/
structure HeapRel (H : List TxR) (ρ : Nx) (d : List RwR) : Prop where
 next : ∀ r ∈ d, ρ r.hd.t.frm = some r.hd.t.non
 run : ∀ r ∈ d, RunOf H r.l r.hd.t.frm r.hd.t.non
 all : ∀ y ∈ H, ρ y.t.frm = some y.t.non → ∃ r ∈ d, r.hd = y
 one : (d.map fun r => r.hd.t.frm).Nodup
theorem HeapRel.perm {H : List TxR} {ρ : Nx} {d e : List RwR} (h : HeapRel H ρ d) (p : d.Perm e) : HeapRel H ρ e :=
 ⟨fun r hr => h.next r (p.mem_iff.2 hr), fun r hr => h.run r (p.mem_iff.2 hr), fun y hy hn => (h.all y hy hn).imp fun r x => ⟨p.mem_iff.1 x.1, x.2⟩, (p.map _).nodup_iff.1 h.one⟩
theorem RwR.l_pos (r : RwR) : 0 < r.l.length := by unfold RwR.l; rw [List.length_drop]; have := r.hk; omega
theorem RwR.hd_mem {H : List TxR} {r : RwR} (h : RunOf H r.l r.hd.t.frm r.hd.t.non) : r.hd ∈ H := (held_mem (h.at_ 0 r.hd r.hd_at)).1
theorem HeapRel.best {H : List TxR} {ρ : Nx} {d : Array RwR} (h : HeapRel H ρ d.toList) (hh : HeapIn ltR d.size d) (h0 : 0 < d.size) : Dearest H ρ d[0]!.hd := by
 have hm : d[0]! ∈ d.toList := List.mem_of_getElem? (row_at h0)
 refine ⟨RwR.hd_mem (h.run _ hm), h.next _ hm, fun y hy hn => ?_⟩
 obtain ⟨r, hr, e⟩ := h.all y hy hn
 obtain ⟨k, hk, e2⟩ := List.mem_iff_getElem.1 hr
 have hk' : k < d.size := by simpa using hk
 have h1 := hh.root swo_ltR k hk'
 rw [getElem!_pos d k hk', show d[k] = r by rw [← e2]; simp] at h1
 unfold ltR at h1
 rw [e] at h1
 exact of_decide_eq_false h1
theorem HeapRel.noNext {H : List TxR} {ρ : Nx} (h : HeapRel H ρ []) : NoneNext H ρ := fun y hy hn => by
 obtain ⟨r, hr, _⟩ := h.all y hy hn
 cases hr
/-- A row's first is cut off. -/
def RwR.next (r : RwR) (h : r.k + 1 < r.all.length) : RwR := ⟨r.b, r.cap, r.k + 1, r.all, h, r.hc⟩
theorem RwR.next_l (r : RwR) (h : r.k + 1 < r.all.length) : (r.next h).l = r.l.drop 1 := by unfold RwR.l RwR.next; rw [List.drop_drop]
theorem RwR.next_hd {H : List TxR} {r : RwR} (hr : RunOf H r.l r.hd.t.frm r.hd.t.non) (h : r.k + 1 < r.all.length) : heldAt H (r.hd.t.frm, r.hd.t.non + 1) = some (r.next h).hd := by
 have h1 := hr.at_ 1 (r.next h).hd (by
  unfold RwR.l
  rw [List.getElem?_drop, List.getElem?_eq_getElem h]; rfl)
 exact h1
theorem RunOf.next {H : List TxR} {r : List TxR} {a n : Int} (h : RunOf H r a n) (h0 : 0 < r.length) : RunOf H (r.drop 1) a (n + 1) := by
 refine ⟨fun i x hx => ?_, ?_⟩
 ·rw [List.getElem?_drop] at hx
  have := h.at_ (1 + i) x hx
  rw [show n + 1 + (i : Int) = n + ((1 + i : Nat) : Int) by push_cast; omega]; exact this
 ·have := h.over
  rw [List.length_drop, show n + 1 + ((r.length - 1 : Nat) : Int) = n + (r.length : Int) by omega]; exact this
theorem key_of_held {H : List TxR} {a n : Int} {x : TxR} (h : heldAt H (a, n) = some x) : x.t.frm = a ∧ x.t.non = n := by
 have h1 := (held_mem h).2
 unfold keyT at h1
 exact ⟨congrArg Prod.fst h1, congrArg Prod.snd h1⟩
/-- The first row is taken out and not put back: its account is over. -/
theorem HeapRel.drop {H : List TxR} (hk : (H.map keyT).Nodup) {ρ : Nx} {r : RwR} {d : List RwR} (h : HeapRel H ρ (r :: d)) {v : Option Int} (hv : ∀ y ∈ H, y.t.frm = r.hd.t.frm → v ≠ some y.t.non) : HeapRel H (setN ρ r.hd.t.frm v) d := by
 have ho := h.one
 rw [List.map_cons, List.nodup_cons] at ho
 have hne : ∀ q ∈ d, q.hd.t.frm ≠ r.hd.t.frm := fun q hq e => ho.1 (List.mem_map.2 ⟨q, hq, e⟩)
 refine ⟨fun q hq => ?_, fun q hq => h.run q (List.mem_cons_of_mem _ hq), fun y hy hn => ?_, ho.2⟩
 ·rw [setN_other (hne q hq)]; exact h.next q (List.mem_cons_of_mem _ hq)
 ·by_cases e : y.t.frm = r.hd.t.frm
  ·rw [e, setN_same] at hn
   exact absurd hn (hv y hy e)
  ·rw [setN_other e] at hn
   obtain ⟨q, hq, e2⟩ := h.all y hy hn
   rcases List.mem_cons.1 hq with rfl | hq
   ·rw [e2] at e; exact absurd rfl e
   ·exact ⟨q, hq, e2⟩
theorem HeapRel.push {H : List TxR} (hk : (H.map keyT).Nodup) {ρ : Nx} {r : RwR} {d : List RwR} (h : HeapRel H ρ d) (hf : ∀ q ∈ d, q.hd.t.frm ≠ r.hd.t.frm) (hr : RunOf H r.l r.hd.t.frm r.hd.t.non) : HeapRel H (setN ρ r.hd.t.frm (some r.hd.t.non)) (r :: d) := by
 refine ⟨fun q hq => ?_, fun q hq => ?_, fun y hy hn => ?_, ?_⟩
 ·rcases List.mem_cons.1 hq with rfl | hq
  ·rw [setN_same]
  ·rw [setN_other (hf q hq)]; exact h.next q hq
 ·rcases List.mem_cons.1 hq with rfl | hq
  ·exact hr
  ·exact h.run q hq
 ·by_cases e : y.t.frm = r.hd.t.frm
  ·rw [e, setN_same] at hn
   refine ⟨r, List.mem_cons_self .., nodup_inj hk (RwR.hd_mem hr) hy ?_⟩
   exact Prod.ext e.symm (Option.some.inj hn)
  ·rw [setN_other e] at hn
   obtain ⟨q, hq, e2⟩ := h.all y hy hn
   exact ⟨q, List.mem_cons_of_mem _ hq, e2⟩
 ·rw [List.map_cons, List.nodup_cons]
  refine ⟨fun hm => ?_, h.one⟩
  obtain ⟨q, hq, e⟩ := List.mem_map.1 hm
  exact hf q hq e
theorem setN_setN (ρ : Nx) (a : Int) (u v : Option Int) : setN (setN ρ a u) a v = setN ρ a v := by
 funext b; unfold setN; split <;> rfl
/-- The first is taken: what is behind it comes next. -/
theorem HeapRel.step {H : List TxR} (hk : (H.map keyT).Nodup) {ρ : Nx} {r : RwR} {d : List RwR} (h : HeapRel H ρ (r :: d)) (hl : r.k + 1 < r.all.length) : HeapRel H (setN ρ r.hd.t.frm (some (r.hd.t.non + 1))) (r.next hl :: d) := by
 have hr := h.run r (List.mem_cons_self ..)
 have hh := RwR.next_hd hr hl
 obtain ⟨e1, e2⟩ := key_of_held hh
 have ho := h.one
 rw [List.map_cons, List.nodup_cons] at ho
 have h1 := h.drop hk (v := none) (fun _ _ _ => by simp)
 have h2 := h1.push hk (r := r.next hl) (fun q hq e => ho.1 (List.mem_map.2 ⟨q, hq, e.trans e1⟩)) (by rw [RwR.next_l, e1, e2]; exact hr.next r.l_pos)
 rw [e1, e2, setN_setN] at h2
 exact h2
theorem HeapRel.last {H : List TxR} (hk : (H.map keyT).Nodup) {ρ : Nx} {r : RwR} {d : List RwR} (h : HeapRel H ρ (r :: d)) (hl : ¬ r.k + 1 < r.all.length) : HeapRel H (setN ρ r.hd.t.frm (some (r.hd.t.non + 1))) d := by
 have hr := h.run r (List.mem_cons_self ..)
 refine h.drop hk fun y hy e hn => ?_
 have h1 := hr.over
 have hl1 : r.l.length = 1 := by have := r.l_pos; unfold RwR.l at this ⊢; rw [List.length_drop] at this ⊢; omega
 rw [hl1] at h1
 refine held_none h1 y hy ?_
 unfold keyT
 exact Prod.ext e (Option.some.inj hn).symm
/-- How much may still be picked. -/
def runsL : List RwR → Nat
 | [] => 0
 | r :: d => r.l.length + runsL d
theorem runsL_perm {d e : List RwR} (p : d.Perm e) : runsL d = runsL e := by
 induction p with
 | nil => rfl
 | cons x _ ih => simp only [runsL]; omega
 | swap x y l => simp only [runsL]; omega
 | trans _ _ h1 h2 => exact h1.trans h2
end Go.Proofs.YtcngmkjdpoiiaaaGreatDoor

/- Rows: where they start. Printed by gen.py. -/
set_option maxRecDepth 100000
namespace Go.Proofs.YtcngmkjdpoiiaaaGreatDoor
open Go Go.RowKit Go.Proofs Go.Sort
/-! ### Where rows start -/
def sM (L : List (Int × Int)) : List (Int × Value) := L.map fun y => (y.1, Value.int .u64 y.2)
def startAt (L : List (Int × Int)) (a : Int) : Option (Int × Int) := L.find? fun y => decide (y.1 = a)
theorem sM_len (L : List (Int × Int)) : (sM L).length = L.length := List.length_map ..
theorem sM_at {L : List (Int × Int)} {i : Nat} {y : Int × Int} (h : L[i]? = some y) : (sM L)[i]? = some (y.1, Value.int .u64 y.2) := by unfold sM; rw [List.getElem?_map, h]; rfl
theorem look_start (L : List (Int × Int)) (a : Int) : lookV true (findK a (sM L) 0) (.int .u64 0) = .tuple #[((startAt L a).map fun y => Value.int .u64 y.2).getD (.int .u64 0), .bool (startAt L a).isSome] := by
 unfold sM; rw [lookT_map (fun y : Int × Int => y.1) (fun y => Value.int .u64 y.2) a L]
 rfl
theorem start_none {L : List (Int × Int)} {a : Int} (h : (startAt L a).isSome = false) : ∀ y ∈ L, y.1 ≠ a := fun y hy e => by
 unfold startAt at h
 have h1 : (L.find? fun y => decide (y.1 = a)) = none := by cases h9 : L.find? fun y => decide (y.1 = a) with | none => rfl | some z => rw [h9] at h; cases h
 have := List.find?_eq_none.1 h1 y hy
 simp [e] at this
theorem start_some {L : List (Int × Int)} {a : Int} (h : (startAt L a).isSome = true) : ∃ y ∈ L, y.1 = a := by
 unfold startAt at h
 obtain ⟨y, hy⟩ := Option.isSome_iff_exists.1 h
 exact ⟨y, List.mem_of_find?_eq_some hy, by simpa using List.find?_some hy⟩
theorem setK_sM {L : List (Int × Int)} {a : Int} (n : Int) (h : ∀ y ∈ L, y.1 ≠ a) : setK a (Value.int .u64 n) (sM L) = sM (L ++ [(a, n)]) := by
 have h1 : findK a (sM L) 0 = none := findK_none.2 fun y hy => by
  obtain ⟨x, hx, rfl⟩ := List.mem_map.1 hy
  exact h x hx
 unfold setK
 rw [h1]
 show _ = (L ++ [(a, n)]).map _
 rw [List.map_append]; rfl
/-- Of all that are gone through: the accounts that are there, each once, with its nonce. -/
structure Starts (l : List Acc) (V : List TxR) (L : List (Int × Int)) : Prop where
 one : (L.map fun y => y.1).Nodup
 acc : ∀ y ∈ L, findE l y.1 = 0 ∧ (findX l y.1).non = y.2
 all : ∀ x ∈ V, findE l x.t.frm = 0 → ∃ y ∈ L, y.1 = x.t.frm
 len : L.length ≤ V.length
theorem Starts.nil {l : List Acc} : Starts l [] [] := ⟨List.nodup_nil, fun _ h => (nomatch h), fun _ h => (nomatch h), Nat.le_refl _⟩
theorem Starts.old {l : List Acc} {V : List TxR} {L : List (Int × Int)} (s : Starts l V L) {x : TxR} (h : (∃ y ∈ L, y.1 = x.t.frm) ∨ ¬ findE l x.t.frm = 0) : Starts l (V ++ [x]) L := by
 refine ⟨s.one, s.acc, fun z hz he => ?_, by rw [List.length_append]; have := s.len; omega⟩
 rcases List.mem_append.1 hz with hz | hz
 ·exact s.all z hz he
 ·rw [List.mem_singleton] at hz; subst hz
  rcases h with h | h
  ·exact h
  ·exact absurd he h
theorem Starts.new {l : List Acc} {V : List TxR} {L : List (Int × Int)} (s : Starts l V L) {x : TxR} (hn : ∀ y ∈ L, y.1 ≠ x.t.frm) (he : findE l x.t.frm = 0) : Starts l (V ++ [x]) (L ++ [(x.t.frm, (findX l x.t.frm).non)]) := by
 refine ⟨?_, fun y hy => ?_, fun z hz hez => ?_, by rw [List.length_append, List.length_append]; have := s.len; simp; omega⟩
 ·rw [List.map_append]
  refine List.nodup_append.2 ⟨s.one, by simp, fun a ha b hb => ?_⟩
  simp only [List.map_cons, List.map_nil, List.mem_singleton] at hb
  obtain ⟨y, hy, rfl⟩ := List.mem_map.1 ha
  rw [hb]; exact hn y hy
 ·rcases List.mem_append.1 hy with hy | hy
  ·exact s.acc y hy
  ·rw [List.mem_singleton] at hy; subst hy; exact ⟨he, rfl⟩
 ·rcases List.mem_append.1 hz with hz | hz
  ·obtain ⟨y, hy, e⟩ := s.all z hz hez
   exact ⟨y, List.mem_append_left _ hy, e⟩
  ·rw [List.mem_singleton] at hz; subst hz
   exact ⟨_, List.mem_append_right _ (List.mem_singleton.2 rfl), rfl⟩
theorem Starts.same {l : List Acc} {V W : List TxR} {L : List (Int × Int)} (h : V.Perm W) (s : Starts l V L) : Starts l W L := ⟨s.one, s.acc, fun x hx => s.all x (h.mem_iff.2 hx), by rw [← h.length_eq]; exact s.len⟩
/-- What comes next of an account behind a ledger. -/
def nx0 (l : List Acc) : Nx := fun a => if findE l a = 0 then some (findX l a).non else none
/-! ### A row in the making -/
structure RunP (H : List TxR) (r : List TxR) (a n : Int) : Prop where
 at_ : ∀ (i : Nat) (x : TxR), r[i]? = some x → heldAt H (a, n + i) = some x
theorem RunP.nil {H : List TxR} {a n : Int} : RunP H [] a n := ⟨fun i x h => by simp at h⟩
theorem RunP.snoc {H : List TxR} {r : List TxR} {a n : Int} (h : RunP H r a n) {x : TxR} (hx : heldAt H (a, n + r.length) = some x) : RunP H (r ++ [x]) a n := ⟨fun i y hy => by
 rcases Nat.lt_trichotomy i r.length with h1 | h1 | h1
 ·rw [List.getElem?_append_left h1] at hy; exact h.at_ i y hy
 ·subst h1; rw [List.getElem?_append_right (Nat.le_refl _), Nat.sub_self] at hy
  simp only [List.getElem?_cons_zero, Option.some.injEq] at hy
  subst hy; exact hx
 ·rw [List.getElem?_append_right (by omega), List.getElem?_eq_none (by simp; omega)] at hy; cases hy⟩
theorem nodup_len {α β : Type} (f : α → β) : ∀ {r H : List α}, (r.map f).Nodup → (∀ x ∈ r, x ∈ H) → r.length ≤ H.length
 | [], _, _, _ => Nat.zero_le _
 | x :: r, H, hn, hm => by
  rw [List.map_cons, List.nodup_cons] at hn
  obtain ⟨p, q, rfl⟩ := List.append_of_mem (hm x (List.mem_cons_self ..))
  have h1 : ∀ y ∈ r, y ∈ p ++ q := fun y hy => by
   have h2 := hm y (List.mem_cons_of_mem _ hy)
   rcases List.mem_append.1 h2 with h2 | h2
   ·exact List.mem_append_left _ h2
   ·rcases List.mem_cons.1 h2 with rfl | h2
    ·exact absurd (List.mem_map_of_mem hy) hn.1
    ·exact List.mem_append_right _ h2
  have h3 := nodup_len f hn.2 h1
  rw [List.length_append] at h3
  rw [List.length_cons, List.length_append, List.length_cons]; omega
theorem RunP.len {H : List TxR} {r : List TxR} {a n : Int} (h : RunP H r a n) : r.length ≤ H.length := by
 refine nodup_len keyT ?_ fun x hx => ?_
 ·refine List.pairwise_iff_getElem.2 fun i j hi hj hij e => ?_
  rw [List.length_map] at hi hj
  rw [List.getElem_map, List.getElem_map] at e
  have h1 := key_of_held (h.at_ i _ (List.getElem?_eq_getElem hi))
  have h2 := key_of_held (h.at_ j _ (List.getElem?_eq_getElem hj))
  have e2 := congrArg Prod.snd e
  unfold keyT at e2
  simp only at e2
  rw [h1.2, h2.2] at e2
  omega
 ·obtain ⟨i, hi, e⟩ := List.mem_iff_getElem.1 hx
  exact (held_mem (h.at_ i x (by rw [List.getElem?_eq_getElem hi, e]))).1
theorem HeapRel.nil {H : List TxR} : HeapRel H (fun _ => none) [] := ⟨fun _ h => (nomatch h), fun _ h => (nomatch h), fun _ _ h => (nomatch h), List.nodup_nil⟩
/-- An account of which nothing comes next. -/
theorem HeapRel.skip {H : List TxR} {ρ : Nx} {d : List RwR} {a n : Int} (h : HeapRel H ρ d) (ha : ρ a = none) (hn : heldAt H (a, n) = none) : HeapRel H (setN ρ a (some n)) d := by
 have hne : ∀ q ∈ d, q.hd.t.frm ≠ a := fun q hq e => by have := h.next q hq; rw [e, ha] at this; cases this
 refine ⟨fun q hq => by rw [setN_other (hne q hq)]; exact h.next q hq, h.run, fun y hy hy2 => ?_, h.one⟩
 by_cases e : y.t.frm = a
 ·rw [e, setN_same] at hy2
  exact absurd (show keyT y = (a, n) from Prod.ext e (Option.some.inj hy2).symm) (held_none hn y hy)
 ·rw [setN_other e] at hy2; exact h.all y hy hy2
theorem HeapRel.add {H : List TxR} (hk : (H.map keyT).Nodup) {ρ : Nx} {d : List RwR} {r : RwR} {a n : Int} (h : HeapRel H ρ d) (ha : ρ a = none) (hr : RunOf H r.l a n) : HeapRel H (setN ρ a (some n)) (r :: d) := by
 have h0 := hr.at_ 0 r.hd r.hd_at
 obtain ⟨e1, e2⟩ := key_of_held h0
 have e2 : r.hd.t.non = n := by rw [e2]; simp
 have := h.push hk (r := r) (fun q hq e => by have := h.next q hq; rw [e, e1, ha] at this; cases this) (by rw [e1, e2]; exact hr)
 rwa [e1, e2] at this
theorem HeapRel.congr {H : List TxR} {ρ ρ' : Nx} {d : List RwR} (h : HeapRel H ρ d) (he : ∀ y ∈ H, ρ y.t.frm = ρ' y.t.frm) : HeapRel H ρ' d :=
 ⟨fun r hr => by rw [← he _ (RwR.hd_mem (h.run r hr))]; exact h.next r hr, h.run, fun y hy hn => h.all y hy (by rw [he y hy]; exact hn), h.one⟩
/-- The rows of those that are gone through. -/
structure NxOf (L : List (Int × Int)) (J : List Nat) (ρ : Nx) : Prop where
 yes : ∀ j ∈ J, ∀ y, L[j]? = some y → ρ y.1 = some y.2
 no : ∀ a, (∀ j ∈ J, ∀ y, L[j]? = some y → y.1 ≠ a) → ρ a = none
theorem NxOf.nil {L : List (Int × Int)} : NxOf L [] fun _ => none := ⟨fun _ h => (nomatch h), fun _ _ => rfl⟩
theorem NxOf.fresh {L : List (Int × Int)} (hL : (L.map fun y => y.1).Nodup) {J : List Nat} {ρ : Nx} (h : NxOf L J ρ) {j : Nat} {y : Int × Int} (hj : L[j]? = some y) (hn : j ∉ J) : ρ y.1 = none := h.no _ fun i hi z hz e => by
 have hne : i ≠ j := fun e2 => hn (e2 ▸ hi)
 obtain ⟨q1, q2⟩ := List.getElem?_eq_some_iff.1 hj
 obtain ⟨q3, q4⟩ := List.getElem?_eq_some_iff.1 hz
 rcases Nat.lt_or_gt_of_ne hne with h1 | h1
 ·have := List.pairwise_iff_getElem.1 hL i j (by rw [List.length_map]; exact q3) (by rw [List.length_map]; exact q1) h1
  rw [List.getElem_map, List.getElem_map, q2, q4] at this
  exact this e
 ·have := List.pairwise_iff_getElem.1 hL j i (by rw [List.length_map]; exact q1) (by rw [List.length_map]; exact q3) h1
  rw [List.getElem_map, List.getElem_map, q2, q4] at this
  exact this e.symm
theorem NxOf.snoc {L : List (Int × Int)} (hL : (L.map fun y => y.1).Nodup) {J : List Nat} {ρ : Nx} (h : NxOf L J ρ) {j : Nat} {y : Int × Int} (hj : L[j]? = some y) (hn : j ∉ J) : NxOf L (J ++ [j]) (setN ρ y.1 (some y.2)) := by
 have hf := h.fresh hL hj hn
 refine ⟨fun i hi z hz => ?_, fun a ha => ?_⟩
 ·rcases List.mem_append.1 hi with hi | hi
  ·have h1 := h.yes i hi z hz
   rw [setN_other (fun e => by rw [e, hf] at h1; cases h1)]; exact h1
  ·rw [List.mem_singleton] at hi; subst hi
   rw [hj] at hz; cases hz
   exact setN_same _ _ _
 ·rw [setN_other (fun e => ha j (by simp) y hj e.symm)]
  exact h.no a fun i hi z hz => ha i (List.mem_append_left _ hi) z hz
theorem NxOf.all {l : List Acc} {H : List TxR} {L : List (Int × Int)} (s : Starts l H L) {J : List Nat} {ρ : Nx} (h : NxOf L J ρ) (ha : ∀ i, i < L.length → i ∈ J) : ∀ y ∈ H, ρ y.t.frm = nx0 l y.t.frm := fun y hy => by
 unfold nx0
 by_cases he : findE l y.t.frm = 0
 ·obtain ⟨z, hz, e⟩ := s.all y hy he
  obtain ⟨j, hj, e2⟩ := List.mem_iff_getElem.1 hz
  have h1 := h.yes j (ha j hj) z (by rw [List.getElem?_eq_getElem hj, e2])
  have h2 := (s.acc z hz).2
  rw [if_pos he, ← e, h1, h2]
 ·rw [if_neg he]
  refine h.no _ fun j _ z hz e => he ?_
  rw [← e]; exact (s.acc z (List.mem_of_getElem? hz)).1
/-- None has the last nonce that there is. -/
def TopOk (H : List TxR) : Prop := ∀ y ∈ H, y.t.non < 18446744073709551615
theorem TopOk.nil : TopOk [] := fun _ h => (nomatch h)
theorem TopOk.sub {H H' : List TxR} (h : TopOk H) (s : H'.Sublist H) : TopOk H' := fun y hy => h y (s.subset hy)
theorem fitE_top {H : List TxR} {l : List Acc} {x : TxR} (h : fitE H l x = 0) : x.t.non < 18446744073709551615 := by
 unfold fitE at h
 have := x.ok.non.2
 split at h
 ·omega
 ·split at h
  ·omega
  ·split at h
   ·omega
   ·omega
theorem row_len_sum {H : List TxR} {d : List RwR} (h : ∀ r ∈ d, r.l.length ≤ H.length) : runsL d ≤ d.length * H.length := by
 induction d with
 | nil => exact Nat.zero_le _
 | cons r d ih =>
  have h1 := h r (List.mem_cons_self ..)
  have h2 := ih fun q hq => h q (List.mem_cons_of_mem _ hq)
  rw [List.length_cons, Nat.add_mul, Nat.one_mul, runsL]; omega
theorem HeapRel.sum {H : List TxR} {ρ : Nx} {d : List RwR} (h : HeapRel H ρ d) : runsL d ≤ d.length * H.length := row_len_sum fun r hr => RunP.len ⟨(h.run r hr).at_⟩
end Go.Proofs.YtcngmkjdpoiiaaaGreatDoor

/- A pool: rows. Printed by gen.py. -/
set_option maxRecDepth 100000
namespace Go.Proofs.YtcngmkjdpoiiaaaGreatDoor
open Go Go.RowKit Go.Proofs Go.Sort
theorem HeapRel.size {H : List TxR} {ρ : Nx} {d : List RwR} (h : HeapRel H ρ d) : d.length ≤ H.length := by
 have h1 := nodup_len (fun x : TxR => x.t.frm) (r := d.map fun r => r.hd) (H := H) (by rw [List.map_map]; exact h.one) fun x hx => by
  obtain ⟨r, hr, rfl⟩ := List.mem_map.1 hx
  exact RwR.hd_mem (h.run r hr)
 rwa [List.length_map] at h1
theorem heap_push_perm {d e : Array RwR} {r : RwR} (h : e.toList.Perm (d.push r).toList) : (r :: d.toList).Perm e.toList := by
 rw [Array.toList_push] at h
 exact (List.perm_append_comm (l₁ := [r]) (l₂ := d.toList)).trans h.symm
theorem RunP.over {H : List TxR} {r : List TxR} {a n : Int} (h : RunP H r a n) (ho : heldAt H (a, n + (r.length : Int)) = none) : RunOf H r a n := ⟨h.at_, ho⟩
set_option maxHeartbeats 1000000 in
theorem prows_ok {gl : Nat → Obj} (p : Nat) (most : Int) (H : List TxR) (hP : PoolOk H) (hT : TopOk H) (hl : H.length ≤ 65536) (base : Option Addr) (c : Nat) (l : List Acc) (hc : l.length ≤ c) (hm : l.length ≤ 5000000000000) (v : Value) (hv : v.oneCell' = true) (bu su : Int) : Spec (cx gl) 116 [.pointer (some ⟨p, 0, none⟩), .agg (ledV (.slice base l.length c) v bu su).toArray] (fun w hp => Seen w hp base (Go.Proofs.YtcngmkjdpoiiaaaGreatDoor.rc l)) [POOL p most (H)] (fun v rs => ∃ (h : Nat) (d : Array RwR), v = .pointer (some ⟨h, 0, none⟩) ∧ HeapIn ltR d.size d ∧ HeapRel H (nx0 l) d.toList ∧ rs = [POOL p most (H), HEAP h d]) := by
 refine Spec.enter (C := cx gl) Tryz.func116 rfl 95 rfl rfl fun w0 h0 hsep hsub hpre => ?_
 show St (cx gl) _ [(0, .pointer (some ⟨p, 0, none⟩)), (1, .agg (ledV (.slice base l.length c) v bu su).toArray)] _ _
 refine rT ?_
 refine lO (W_box (ledV (.slice base l.length c) v bu su) rfl rfl rfl rfl rfl fun b3 => lA (k:=?_))
 refine lQ (cE 0 rfl (cE 3 rfl (cE 4 rfl .nil))) (rT ?_)
 refine lP (P_buildStruct rfl ty_pl_294 ty_ze_294 rfl rfl (rfl)) (k:=?_)
 refine E_as (t := 17) (v' := .agg (heapC none 0 0).toArray) rfl (rfl) ?_
 refine lO (W_box (heapC none 0 0) rfl rfl rfl rfl rfl fun b18 => lA (k:=?_))
 refine lQ (cE 0 rfl (cE 3 rfl (cE 4 rfl (cE 5 rfl .nil)))) (rT ?_)
 refine lO (W_makeMapK (kU64) rfl rfl rfl fun m19 => lA (k:=?_))
 refine lQ (cE 0 rfl (cE 3 rfl (cE 4 rfl (cE 5 rfl (cE 6 rfl .nil))))) (rS (rS ?_))
 refine St.res (rs' := [mapK kU64 m19 (sM ([])), HEAP b18 #[], POOL p most (H), blk b3 (ledV (.slice base l.length c) v bu su) 30]) (Weak.trans (Weak.famNil (f := rowH)) (Weak.trans (Weak.newNil (T := 92) (sz := 1)) (Weak.trans (Weak.pick (p := [_, _, _]) (Weak.keep (Weak.keep (Weak.keep (Weak.pick (p := [_]) (Weak.keep (Weak.nil _))))))) (Weak.trans (heap_close (h := b18) (lb := none) (cap := 0) (d := #[]) (rs := [_, _, _])) (Weak.pick (p := [_]) (Weak.keep (Weak.keep (Weak.keep (Weak.nil _))))))))) ?_
 refine St.openP [_, _] fun ⟨mh, mi⟩ _ => ?_
 refine St.res (Weak.mid (p := [_, _]) Weak.unbundle) ?_
 refine St.openMap [_, _, _] fun es ck he hbo => ?_
 refine St.res (rs' := [mapK kU64 m19 (sM ([])), HEAP b18 #[], blk p (poolC mh mi most) 78, mapH mh es ck, mapK iK mi (iM (H)), blk b3 (ledV (.slice base l.length c) v bu su) 30]) (Weak.refl _) (rR (lMv (k:=lP pN (k:=lP (pF ty_fl_78_1) (k:=lV (vB ty_sc_75 .h2) (k:=?_))))))
 refine lO (W_range rfl rfl rfl ty_map_75 rfl .h3 fun it => ?_)
 refine lQ (cE 0 rfl (cE 3 rfl (cE 4 rfl (cE 5 rfl (cE 6 rfl (cE 24 rfl .nil)))))) (R_block ?_)
 refine R_loopE (G := List Nat × List (Int × Int)) (cE 0 rfl (cE 3 rfl (cE 4 rfl (cE 5 rfl (cE 6 rfl (cE 24 rfl .nil)))))) (fun g => []) (fun g => [iterH it mh ck es (g.1), mapK kU64 m19 (sM (g.2)), HEAP b18 #[], blk p (poolC mh mi most) 78, mapH mh es ck, mapK iK mi (iM (H)), blk b3 (ledV (.slice base l.length c) v bu su) 30]) (fun g => g.1.Nodup ∧ (∀ q9 ∈ g.1, q9 < H.length) ∧ Starts l (vis H g.1) g.2) (fun g => leftN H.length g.1) ([], []) (by show ([]).Nodup ∧ (∀ q9 ∈ ([]), q9 < H.length) ∧ Starts l (vis H ([])) ([]); exact ⟨List.nodup_nil, fun _ h => (nomatch h), Starts.nil⟩) (by repeat (first | exact .nil | refine .cons rfl ?_ | refine .consE rfl (by first | rfl | (congr 1; omega) | (congr 1; push_cast; omega)) ?_)) (Weak.refl _) ?_
 rintro ⟨I, L⟩ hinv
 replace hinv : I.Nodup ∧ (∀ q9 ∈ I, q9 < H.length) ∧ Starts l (vis H I) L := hinv
 show St (cx gl) _ _ [iterH it mh ck es (I), mapK kU64 m19 (sM (L)), HEAP b18 #[], blk p (poolC mh mi most) 78, mapH mh es ck, mapK iK mi (iM (H)), blk b3 (ledV (.slice base l.length c) v bu su) 30] _
 obtain ⟨hI1, hI2, hSt⟩ := hinv
 refine rT ?_
 refine lO (W_next (key := rec2K) (L := hM H) he hbo (fun i hi => by rw [hM_len]; exact hI2 i hi) rfl rfl rfl rfl .h4 .h0 (fun I' => .h0) fun r hst => ?_)
 refine lP (P_more rfl rfl (fun i h => (hst.new i h).1)) (k:=?_)
 refine L_nil (qT (rS ?_))
 refine R_cond rfl (fun hr => ?_) (fun hr => ?_)
 ·skip
  obtain ⟨i, hr9⟩ := Option.isSome_iff_exists.1 hr
  subst hr9
  obtain ⟨hil, hin⟩ := hst.new i rfl
  rw [hM_len] at hil
  obtain ⟨y, hy⟩ : ∃ y, H[i]? = some y := ⟨_, List.getElem?_eq_getElem hil⟩
  refine R_skip (qT (R_block (rT ?_)))
  refine lV (V_entry (key := rec2K) (L := hM H) he hbo (hM_at hy) rfl rfl .h4 .h0) (k:=lP pX (k:=?_))
  refine lO (W_alloc rfl rfl rfl ty_ze_207 fun b7 => ?_)
  refine lO (W_storeAll rfl rfl rfl rfl ty_ag_207 (rfl) (by intro v hv; simp only [List.mem_cons, List.not_mem_nil, or_false] at hv; rcases hv with rfl | rfl <;> rfl) .h0 (rfl) ?_)
  refine L_nil (qT (rS (rT (lMv (k:=lP (pF ty_fl_207_0) (k:=lV (vB ty_sc_26 .h0) (k:=?_)))))))
  refine lV (V_lookupK (k := y.t.frm) rfl ty_map_295 (keyU64 ty_int_26) rfl rfl (trivial) (fun _ _ => trivial) .h2 (run_zeroValue_of ty_zv_23)) (k:=lMv (k:=?_))
  refine E_as (t := 29) (v' := .tuple #[((startAt L y.t.frm).map fun z => Value.int .u64 z.2).getD (.int .u64 0), .bool (startAt L y.t.frm).isSome]) rfl (by rw [look_start]) (lP pX (k:=lP pX (k:=lA (k:=lA (k:=?_)))))
  refine lQ (cE 0 rfl (cE 3 rfl (cE 4 rfl (cE 5 rfl (cE 6 rfl (cE 7 rfl (cE 9 rfl (cE 24 rfl (cE 25 rfl (cE 26 rfl (cE 27 rfl (cE 28 rfl (cE 29 rfl (cE 30 rfl (cE 31 rfl (cE 32 rfl (cE 33 rfl (cE 34 rfl (cE 35 rfl .nil))))))))))))))))))) (rT (lMv (k:=?_)))
  refine L_nil (qT ?_)
  refine R_cond rfl (fun hn => ?_) (fun hn => ?_)
  ·skip
   have hn : (startAt L y.t.frm).isSome = true := hn
   refine R_exit (Q_then_exit (Q_block_eq ?_))
   exact Q_round (I ++ [i], L) (by show (I ++ [i]).Nodup ∧ (∀ q9 ∈ (I ++ [i]), q9 < H.length) ∧ Starts l (vis H (I ++ [i])) (L); exact ⟨nodup_snoc hI1 hin, bound_snoc hI2 hil, by rw [vis_snoc hy]; exact hSt.old (.inl (start_some hn))⟩) (leftN_lt hil hin) (by repeat (first | exact .nil | refine .cons rfl ?_ | refine .consE rfl (by first | rfl | (congr 1; omega) | (congr 1; push_cast; omega)) ?_)) (Weak.drop (Weak.refl _))
  ·skip
   have hn : (startAt L y.t.frm).isSome = false := hn
   refine R_skip (qT (rT (lV (vG ty_ag_30 .h7) (k:=lP (pF ty_fl_207_0) (k:=lV (vB ty_sc_26 .h0) (k:=?_))))))
   refine lO (W_callV rfl rfl rfl rfl fn_ca_75 (find_ok base c l hc hm v hv bu su y.t.frm) (fun w nw => (Sn.old hpre).rw_ w nw) (lMv (k:=lP pX (k:=lP pX (k:=?_)))))
   refine lO (W_alloc rfl rfl rfl ty_ze_50 fun b10 => ?_)
   refine lO (W_storeAll rfl rfl rfl rfl ty_ag_50 (rfl) (Rec.one (findX l y.t.frm)) .h0 (rfl) (lA (k:=?_)))
   refine L_nil (qT (rT (lMv (k:=lP pEq (k:=?_)))))
   refine L_nil (qT ?_)
   refine R_condP rfl (fun he9 => ?_) (fun he9 => ?_)
   ·skip
    refine rR (lMv (k:=lP (pF ty_fl_207_0) (k:=lV (vB ty_sc_26 .h1) (k:=lP (pF ty_fl_50_3) (k:=lV (vB ty_sc_23 .h0) (k:=?_))))))
    refine lO (W_mapSet (k := y.t.frm) rfl rfl ty_map_295 (keyU64 ty_int_26) rfl rfl rfl (trivial) (fun _ _ => trivial) .h3 .h3 ?_)
    rw [setK_sM _ (start_none hn)]
    refine L_nil (Q_block ?_)
    exact Q_round (I ++ [i], L ++ [(y.t.frm, (findX l y.t.frm).non)]) (by show (I ++ [i]).Nodup ∧ (∀ q9 ∈ (I ++ [i]), q9 < H.length) ∧ Starts l (vis H (I ++ [i])) (L ++ [(y.t.frm, (findX l y.t.frm).non)]); exact ⟨nodup_snoc hI1 hin, bound_snoc hI2 hil, by rw [vis_snoc hy]; exact hSt.new (start_none hn) he9⟩) (leftN_lt hil hin) (by repeat (first | exact .nil | refine .cons rfl ?_ | refine .consE rfl (by first | rfl | (congr 1; omega) | (congr 1; push_cast; omega)) ?_)) (Weak.drop (Weak.drop (Weak.refl _)))
   ·skip
    refine R_skip (Q_block ?_)
    exact Q_round (I ++ [i], L) (by show (I ++ [i]).Nodup ∧ (∀ q9 ∈ (I ++ [i]), q9 < H.length) ∧ Starts l (vis H (I ++ [i])) (L); exact ⟨nodup_snoc hI1 hin, bound_snoc hI2 hil, by rw [vis_snoc hy]; exact hSt.old (.inr he9)⟩) (leftN_lt hil hin) (by repeat (first | exact .nil | refine .cons rfl ?_ | refine .consE rfl (by first | rfl | (congr 1; omega) | (congr 1; push_cast; omega)) ?_)) (Weak.drop (Weak.drop (Weak.refl _)))
 ·skip
  have hr9 : r = none := by cases r with | none => rfl | some i => cases hr
  subst hr9
  have hSH : Starts l H L := hSt.same (vis_perm hI1 hI2 (fun i hi => hst.over rfl i (by rw [hM_len]; exact hi)))
  rw [Option.toList_none, List.append_nil]
  refine R_exit (Q_then_exit (Q_then_exit (Q_block_eq ?_)))
  refine St.env (cE 0 rfl (cE 4 rfl (cE 5 rfl (cE 6 rfl .nil)))) (qT (rS (rS ?_)))
  refine St.res (rs' := [mapK kU64 m19 (sM (L)), HEAP b18 #[], blk p (poolC mh mi most) 78, mapK rec2K mh (hM (H)), mapK iK mi (iM (H)), blk b3 (ledV (.slice base l.length c) v bu su) 30]) (Weak.trans (Weak.pick (p := [_, _, _, _]) (Weak.pick (p := [_]) (Weak.pick (p := [_]) (Weak.pick (p := [_]) (Weak.pick (p := [_]) (Weak.pick (p := [_]) (Weak.nil _))))))) (Weak.trans (Weak.closeMap he hbo) (Weak.pick (p := [_]) (Weak.pick (p := [_]) (Weak.pick (p := [_]) (Weak.keep (Weak.keep (Weak.keep (Weak.nil _))))))))) ?_
  refine St.openMap [] fun es2 ck2 he2 hbo2 => ?_
  refine St.res (rs' := [mapH m19 es2 ck2, HEAP b18 #[], blk p (poolC mh mi most) 78, mapK rec2K mh (hM (H)), mapK iK mi (iM (H)), blk b3 (ledV (.slice base l.length c) v bu su) 30]) (Weak.refl _) (rR (lMv (k:=?_)))
  refine lO (W_range rfl rfl rfl ty_map_295 rfl .h0 fun it2 => ?_)
  refine lQ (cE 0 rfl (cE 4 rfl (cE 5 rfl (cE 52 rfl .nil)))) (R_block ?_)
  refine R_loopE (G := List Nat × Nx × Array RwR) (cE 0 rfl (cE 4 rfl (cE 5 rfl (cE 52 rfl .nil)))) (fun g => []) (fun g => [iterH it2 m19 ck2 es2 (g.1), mapH m19 es2 ck2, HEAP b18 g.2.2, blk p (poolC mh mi most) 78, mapK rec2K mh (hM (H)), mapK iK mi (iM (H)), blk b3 (ledV (.slice base l.length c) v bu su) 30]) (fun g => g.1.Nodup ∧ (∀ q9 ∈ g.1, q9 < L.length) ∧ NxOf L g.1 g.2.1 ∧ HeapIn ltR g.2.2.size g.2.2 ∧ HeapRel H g.2.1 g.2.2.toList) (fun g => leftN L.length g.1) ([], (fun _ => none), #[]) (by show ([]).Nodup ∧ (∀ q9 ∈ ([]), q9 < L.length) ∧ NxOf L ([]) ((fun _ => none)) ∧ HeapIn ltR (#[]).size (#[]) ∧ HeapRel H ((fun _ => none)) (#[]).toList; exact ⟨List.nodup_nil, fun _ h => (nomatch h), NxOf.nil, fun _ _ h9 => absurd h9 (Nat.not_lt_zero _), HeapRel.nil⟩) (by repeat (first | exact .nil | refine .cons rfl ?_ | refine .consE rfl (by first | rfl | (congr 1; omega) | (congr 1; push_cast; omega)) ?_)) (Weak.refl _) ?_
  rintro ⟨J, ρ, d⟩ hinv
  replace hinv : J.Nodup ∧ (∀ q9 ∈ J, q9 < L.length) ∧ NxOf L J ρ ∧ HeapIn ltR d.size d ∧ HeapRel H ρ d.toList := hinv
  show St (cx gl) _ _ [iterH it2 m19 ck2 es2 (J), mapH m19 es2 ck2, HEAP b18 d, blk p (poolC mh mi most) 78, mapK rec2K mh (hM (H)), mapK iK mi (iM (H)), blk b3 (ledV (.slice base l.length c) v bu su) 30] _
  obtain ⟨hJ1, hJ2, hNx, hHI, hHR⟩ := hinv
  refine rT ?_
  refine lO (W_next (key := kU64) (L := sM L) he2 hbo2 (fun i hi => by rw [sM_len]; exact hJ2 i hi) rfl rfl rfl rfl .h1 .h0 (fun J' => .h0) fun r2 hst2 => ?_)
  refine lP (P_more rfl rfl (fun i h => (hst2.new i h).1)) (k:=?_)
  refine L_nil (qT (rS ?_))
  refine R_cond rfl (fun hr2 => ?_) (fun hr2 => ?_)
  ·skip
   obtain ⟨j, hr9⟩ := Option.isSome_iff_exists.1 hr2
   subst hr9
   obtain ⟨hjl, hjn⟩ := hst2.new j rfl
   rw [sM_len] at hjl
   obtain ⟨y, hz⟩ : ∃ y, L[j]? = some y := ⟨_, List.getElem?_eq_getElem hjl⟩
   have hfr := hNx.fresh hSH.one hz hjn
   refine R_skip (qT (R_block (rT ?_)))
   refine lV (V_entry (key := kU64) (L := sM L) he2 hbo2 (sM_at hz) rfl rfl .h1 .h0) (k:=lP pX (k:=?_))
   refine E_as (t := 56) (v' := .int .u64 (y.1)) rfl (rfl) (lP pX (k:=lA (k:=lA (k:=?_))))
   refine L_nil (qT (rS ?_))
   refine E_as (t := 13) (v' := .int .u64 (y.2 + ((0 : Nat) : Int))) rfl (by simp) (rR (lA (k:=?_)))
   refine L_nil (qT (rS (rT (lMv (k:=lP pN (k:=lP (pF ty_fl_78_1) (k:=lV (vB ty_sc_75 .h3) (k:=lMv (k:=lMv (k:=?_))))))))))
   refine lP (P_buildStruct rfl ty_pl_207 ty_ze_207 rfl rfl (rfl)) (k:=?_)
   refine E_as (t := 65) (v' := rec2K (y.1, y.2 + ((0 : Nat) : Int))) rfl (rfl) ?_
   refine lV (V_lookupK (k := (y.1, y.2 + ((0 : Nat) : Int))) rfl ty_map_75 (keyRec2 rec2_key) rfl rfl (trivial) (fun _ _ => trivial) .h4 (run_zeroValue_of ty_zv_67)) (k:=lMv (k:=?_))
   refine E_as (t := 58) (v' := .tuple #[.agg ((heldAt H (y.1, y.2 + ((0 : Nat) : Int))).getD txrz).t.cells.toArray, .bool (heldAt H (y.1, y.2 + ((0 : Nat) : Int))).isSome]) rfl (by rw [look_held]) (lP pX (k:=lP pX (k:=?_)))
   refine lO (W_alloc rfl rfl rfl ty_ze_67 fun b15 => ?_)
   refine lO (W_storeAll rfl rfl rfl rfl ty_ag_67 (((heldAt H (y.1, y.2 + ((0 : Nat) : Int))).getD txrz).ok.cellsLen) (Tx.one _) .h0 (((heldAt H (y.1, y.2 + ((0 : Nat) : Int))).getD txrz).ok.cellsLen) (lA (k:=?_)))
   refine L_nil (qT (R_block ?_))
   refine R_loopE (G := Nat × List TxR × Value × Nat) (cE 0 rfl (cE 4 rfl (cE 5 rfl (cE 12 rfl (cE 52 rfl (cE 53 rfl (cE 54 rfl (cE 55 rfl (cE 56 rfl (cE 57 rfl (cE 58 rfl (cE 59 rfl (cE 60 rfl (cE 61 rfl (cE 62 rfl (cE 63 rfl (cE 64 rfl (cE 65 rfl (cE 66 rfl (cE 67 rfl (cE 68 rfl .nil))))))))))))))))))))) (fun g => [(13, .int .u64 (y.2 + (g.1 : Int))), (14, g.2.2.1), (15, .pointer (some ⟨g.2.2.2, 0, none⟩)), (16, .bool (heldAt H (y.1, y.2 + ((g.1 : Nat) : Int))).isSome)]) (fun g => [ownS 67 22 (g.2.2.1) (g.2.1.length) (rc g.2.1), blk g.2.2.2 ((heldAt H (y.1, y.2 + ((g.1 : Nat) : Int))).getD txrz).t.cells 67, iterH it2 m19 ck2 es2 (J ++ [j]), mapH m19 es2 ck2, HEAP b18 d, blk p (poolC mh mi most) 78, mapK rec2K mh (hM (H)), mapK iK mi (iM (H)), blk b3 (ledV (.slice base l.length c) v bu su) 30]) (fun g => g.1 = g.2.1.length ∧ RunP H g.2.1 y.1 y.2) (fun g => H.length - g.1) (0, [], .slice none 0 0, b15) (by show (0) = ([]).length ∧ RunP H ([]) y.1 y.2; exact ⟨rfl, RunP.nil⟩) (by repeat (first | exact .nil | refine .cons rfl ?_ | refine .consE rfl (by first | rfl | (congr 1; omega) | (congr 1; push_cast; omega)) ?_)) (Weak.newNil) ?_
   rintro ⟨m, R, rv, xb⟩ hinv
   replace hinv : m = R.length ∧ RunP H R y.1 y.2 := hinv
   show St (cx gl) _ ((13, .int .u64 (y.2 + (m : Int))) :: (14, rv) :: (15, .pointer (some ⟨xb, 0, none⟩)) :: (16, .bool (heldAt H (y.1, y.2 + ((m : Nat) : Int))).isSome) :: _) [ownS 67 22 (rv) (R.length) (rc R), blk xb ((heldAt H (y.1, y.2 + ((m : Nat) : Int))).getD txrz).t.cells 67, iterH it2 m19 ck2 es2 (J ++ [j]), mapH m19 es2 ck2, HEAP b18 d, blk p (poolC mh mi most) 78, mapK rec2K mh (hM (H)), mapK iK mi (iM (H)), blk b3 (ledV (.slice base l.length c) v bu su) 30] _
   obtain ⟨hmR, hrun⟩ := hinv
   refine rS (rT (lMv (k:=?_)))
   refine L_nil (qT ?_)
   refine R_cond rfl (fun hs => ?_) (fun hs => ?_)
   ·skip
    obtain ⟨x, hx⟩ := Option.isSome_iff_exists.1 hs
    obtain ⟨hxm, hxk⟩ := held_mem hx
    have hx2 : heldAt H (y.1, y.2 + (R.length : Int)) = some x := by rw [← hmR]; exact hx
    have hrun2 := hrun.snoc hx2
    have hrl := hrun2.len
    rw [List.length_append] at hrl
    have hrl : R.length + 1 ≤ H.length := hrl
    have hxn := hT x hxm
    have hxn2 := (key_of_held hx).2
    have hxn3 := x.ok.non.1
    refine R_skip (qT (rS (R_block (rT (lMv (k:=?_))))))
    refine lV (V_loadAgg rfl rfl ty_ag_67 (Rds.blk .h1) (((heldAt H (y.1, y.2 + ((m : Nat) : Int))).getD txrz).ok.cellsLen)) (k:=?_)
    refine E_as (t := 82) (v' := .agg x.t.cells.toArray) rfl (by rw [hx]; rfl) ?_
    refine lO (W_lit (z := .nilIface) (x.t.cells) rfl rfl rfl ty_sl_92 ty_lz_92 rfl rfl rfl (by decide) (by decide) (by intro v hv; simp only [List.mem_singleton] at hv; subst hv; exact x.ok.cellsLen) (by simp [Value.cells]) fun b83 => ?_)
    refine lO (W_append (p := [_]) rfl rfl rfl ty_sl_92 ty_ap_92 ty_src_92 rfl rfl rfl (Src.slice (sz := 22) (m := 1) (news := x.t.cells) (Rds.blk .h0) x.ok.cellsLen (Tx.one _)) (by omega) (by simp only [maxLen]; omega) fun v84 => lA (k:=?_))
    refine L_nil (qT (rR (lMv (k:=?_))))
    refine lP (P_addN rfl rfl rfl (by simp only [fits]; omega)) (k:=?_)
    refine E_as (t := 86) (v' := .int .u64 (y.2 + ((m + 1 : Nat) : Int))) rfl (by congr 1; push_cast; omega) (lA (k:=?_))
    refine L_nil (Q_block (qT (rS (rT ?_))))
    refine lV (V_loadAgg rfl rfl ty_ag_67 (Rds.blk .h2) (((heldAt H (y.1, y.2 + ((m : Nat) : Int))).getD txrz).ok.cellsLen)) (k:=?_)
    refine L_nil (qT (rR ?_))
    refine lO (W_alloc rfl rfl rfl ty_ze_67 fun b15 => ?_)
    refine lO (W_storeAll rfl rfl rfl rfl ty_ag_67 (((heldAt H (y.1, y.2 + ((m : Nat) : Int))).getD txrz).ok.cellsLen) (Tx.one _) .h0 (((heldAt H (y.1, y.2 + ((m : Nat) : Int))).getD txrz).ok.cellsLen) ?_)
    refine L_nil (qT (rR (lMv (k:=lP pN (k:=lP (pF ty_fl_78_1) (k:=lV (vB ty_sc_75 .h7) (k:=lMv (k:=lMv (k:=?_)))))))))
    refine lP (P_buildStruct rfl ty_pl_207 ty_ze_207 rfl rfl (rfl)) (k:=?_)
    refine E_as (t := 77) (v' := rec2K (y.1, y.2 + ((m + 1 : Nat) : Int))) rfl (rfl) ?_
    refine lV (V_lookupK (k := (y.1, y.2 + ((m + 1 : Nat) : Int))) rfl ty_map_75 (keyRec2 rec2_key) rfl rfl (trivial) (fun _ _ => trivial) .h8 (run_zeroValue_of ty_zv_67)) (k:=lMv (k:=?_))
    refine E_as (t := 70) (v' := .tuple #[.agg ((heldAt H (y.1, y.2 + ((m + 1 : Nat) : Int))).getD txrz).t.cells.toArray, .bool (heldAt H (y.1, y.2 + ((m + 1 : Nat) : Int))).isSome]) rfl (by rw [look_held]) (lP pX (k:=lP pX (k:=?_)))
    refine lO (W_storeAll rfl rfl rfl rfl ty_ag_67 (((heldAt H (y.1, y.2 + ((m + 1 : Nat) : Int))).getD txrz).ok.cellsLen) (Tx.one _) .h0 (((heldAt H (y.1, y.2 + ((m + 1 : Nat) : Int))).getD txrz).ok.cellsLen.trans ((heldAt H (y.1, y.2 + ((m : Nat) : Int))).getD txrz).ok.cellsLen.symm) (lA (k:=?_)))
    refine L_nil ?_
    exact Q_round (m + 1, R ++ [x], v84, b15) (by show (m + 1) = (R ++ [x]).length ∧ RunP H (R ++ [x]) y.1 y.2; exact ⟨by rw [List.length_append]; show m + 1 = R.length + 1; omega, hrun2⟩) (by show H.length - (m + 1) < H.length - m; omega) (by repeat (first | exact .nil | refine .cons rfl ?_ | refine .consE rfl (by first | rfl | (congr 1; omega) | (congr 1; push_cast; omega)) ?_)) (by rw [List.length_append, rc_append, rc_tx]; exact Weak.pick (p := [_, _]) (Weak.keep (Weak.pick (p := [_, _]) (Weak.pick (p := [_, _]) (Weak.pick (p := [_, _]) (Weak.pick (p := [_, _]) (Weak.pick (p := [_, _]) (Weak.pick (p := [_, _]) (Weak.pick (p := [_, _]) (Weak.nil _))))))))))
   ·skip
    have hov : heldAt H (y.1, y.2 + (R.length : Int)) = none := by rw [← hmR]; cases h9 : (heldAt H (y.1, y.2 + ((m : Nat) : Int))) with | none => rfl | some x => have hs9 := hs; rw [h9] at hs9; cases hs9
    have hrl := hrun.len
    refine R_exit (Q_then_exit (Q_then_exit (Q_block_eq (qT (rT (lMv (k:=?_)))))))
    refine lV (V_lenOwn .h0 rfl ty_sl_92 rfl) (k:=lP pGt (k:=?_))
    refine L_nil (qT ?_)
    refine R_condP rfl (fun hpos => ?_) (fun hpos => ?_)
    ·skip
     have hpos : 0 < R.length := by omega
     refine St.ownSome (p := []) hpos fun ub uc huv huc => ?_
     subst huv
     have hds := hHR.size
     rw [Array.length_toList] at hds
     refine rR (lMv (k:=lMv (k:=?_)))
     refine lO (W_call rfl rfl rfl rfl fn_ca_119 (hpush_ok b18 d ⟨ub, uc, 0, R, hpos, huc⟩ (by omega) hHI) (Weak.pick (p := [_, _, _, _]) (Weak.keep (Weak.keep (Weak.keep (Weak.keep (Weak.keep (Weak.keep (Weak.keep (Weak.keep (Weak.nil _)))))))))) (fun _ _ _ _ _ _ _ => trivial) fun v1 rs1 ⟨e1, e, hep, hei, e2⟩ => ?_)
     subst e1; subst e2
     refine lE (cE 0 rfl (cE 4 rfl (cE 5 rfl (cE 12 rfl (cE 13 rfl (cE 14 rfl (cE 15 rfl (cE 16 rfl (cE 52 rfl (cE 53 rfl (cE 54 rfl (cE 55 rfl (cE 56 rfl (cE 57 rfl (cE 58 rfl (cE 59 rfl (cE 60 rfl (cE 61 rfl (cE 62 rfl (cE 63 rfl (cE 64 rfl (cE 65 rfl (cE 66 rfl (cE 67 rfl (cE 68 rfl (cE 69 rfl (cE 88 rfl (cE 89 rfl (cE 90 rfl (cE 91 rfl (cE 92 rfl .nil))))))))))))))))))))))))))))))) (Q_block ?_)
     exact Q_round (J ++ [j], setN ρ y.1 (some y.2), e) (by show (J ++ [j]).Nodup ∧ (∀ q9 ∈ (J ++ [j]), q9 < L.length) ∧ NxOf L (J ++ [j]) (setN ρ y.1 (some y.2)) ∧ HeapIn ltR (e).size (e) ∧ HeapRel H (setN ρ y.1 (some y.2)) (e).toList; exact ⟨nodup_snoc hJ1 hjn, bound_snoc hJ2 hjl, hNx.snoc hSH.one hz hjn, hei, (hHR.add hP.keys (r := ⟨ub, uc, 0, R, hpos, huc⟩) hfr (hrun.over hov)).perm (heap_push_perm hep)⟩) (leftN_lt hjl hjn) (by repeat (first | exact .nil | refine .cons rfl ?_ | refine .consE rfl (by first | rfl | (congr 1; omega) | (congr 1; push_cast; omega)) ?_)) (Weak.pick (p := [_, _]) (Weak.pick (p := [_, _]) (Weak.keep (Weak.pick (p := [_]) (Weak.pick (p := [_]) (Weak.pick (p := [_]) (Weak.pick (p := [_]) (Weak.nil _))))))))
    ·skip
     have hm0 : R.length = 0 := by omega
     refine R_skip (Q_block ?_)
     exact Q_round (J ++ [j], setN ρ y.1 (some y.2), d) (by show (J ++ [j]).Nodup ∧ (∀ q9 ∈ (J ++ [j]), q9 < L.length) ∧ NxOf L (J ++ [j]) (setN ρ y.1 (some y.2)) ∧ HeapIn ltR (d).size (d) ∧ HeapRel H (setN ρ y.1 (some y.2)) (d).toList; exact ⟨nodup_snoc hJ1 hjn, bound_snoc hJ2 hjl, hNx.snoc hSH.one hz hjn, hHI, hHR.skip hfr (by rw [hm0] at hov; rw [show y.2 = y.2 + ((0 : Nat) : Int) by simp]; exact hov)⟩) (leftN_lt hjl hjn) (by repeat (first | exact .nil | refine .cons rfl ?_ | refine .consE rfl (by first | rfl | (congr 1; omega) | (congr 1; push_cast; omega)) ?_)) (Weak.pick (p := [_, _]) (Weak.pick (p := [_, _]) (Weak.pick (p := [_, _]) (Weak.pick (p := [_, _]) (Weak.pick (p := [_, _]) (Weak.pick (p := [_, _]) (Weak.pick (p := [_, _]) (Weak.nil _))))))))
  ·skip
   have hr9 : r2 = none := by cases r2 with | none => rfl | some i => cases hr2
   subst hr9
   have hRR : HeapRel H (nx0 l) d.toList := hHR.congr (hNx.all hSH (fun i hi => hst2.over rfl i (by rw [sM_len]; exact hi)))
   have hsz9 := hRR.size
   rw [Option.toList_none, List.append_nil]
   refine R_exit (Q_then_exit (Q_then_exit (Q_block_eq ?_)))
   refine St.env (cE 4 rfl (cE 5 rfl .nil)) (qT (rT (lMv (k:=lA (k:=?_)))))
   refine lQ (cE 4 rfl .nil) (R_ret ?_)
   exact R_end (rs2 := _) rfl rfl (.tmp rfl .nil) (⟨b18, d, rfl, hHI, hRR, rfl⟩) (Weak.trans (Weak.pick (p := [_, _, _]) (Weak.pick (p := [_, _, _]) (Weak.pick (p := [_, _, _]) (Weak.pick (p := [_, _]) (Weak.nil _))))) (pool_close (rs := [_])))
end Go.Proofs.YtcngmkjdpoiiaaaGreatDoor

/- Walks: Apply. Printed by gen.py. -/
set_option maxRecDepth 100000
namespace Go.Proofs.YtcngmkjdpoiiaaaGreatDoor
open Go Go.RowKit Go.Proofs
def w64 (x : Int) : Int := IntKind.u64.wrap x
def payer (x : Tx) (A : Acc) : Acc := ⟨A.a, A.bal - costI x, A.bond, A.non + 1, A.jail⟩
def addBal (n : Int) (A : Acc) : Acc := ⟨A.a, w64 (A.bal + n), A.bond, A.non, A.jail⟩
def addBond (n : Int) (A : Acc) : Acc := ⟨A.a, A.bal, w64 (A.bond + n), A.non, A.jail⟩
def subBond (n : Int) (A : Acc) : Acc := ⟨A.a, A.bal, A.bond - n, A.non, A.jail⟩
def unjail (A : Acc) : Acc := ⟨A.a, A.bal, A.bond, A.non, false⟩
def addAmt (n : Int) (y : Rel) : Rel := ⟨y.h, y.a, y.born, w64 (y.amt + n)⟩
/-- There is such an account from now on. -/
def midA (l : List Acc) (a : Int) : List Acc := if spotB l a = true then l else insL l (spotI l a) ⟨a, 0, 0, 0, false⟩
def payP (l : List Acc) (a n : Int) : List Acc := (midA l a).set (spotI l a) (addBal n (accAt (midA l a) (spotI l a)))
def midR (r : List Rel) (h a b : Int) : List Rel := if rowB r h a = true then r else insL r (rowI r h a) ⟨h, a, b, 0⟩
def relP (r : List Rel) (h a b n : Int) : List Rel := (midR r h a b).set (rowI r h a) (addAmt n (relAt (midR r h a b) (rowI r h a)))
/-- The accounts when the sender has paid. -/
def paidL (L : Led) (x : Tx) : List Acc := L.acc.set (spotI L.acc x.frm) (payer x (senderA L x))
def accK (L : Led) (x : Tx) : List Acc :=
 if x.kind = 1 then payP (paidL L x) x.to x.amt else if x.kind = 2 then L.acc.set (spotI L.acc x.frm) (addBond x.amt (payer x (senderA L x)))
 else if x.kind = 3 then L.acc.set (spotI L.acc x.frm) (subBond x.amt (payer x (senderA L x))) else if x.kind = 4 then L.acc.set (spotI L.acc x.frm) (unjail (payer x (senderA L x))) else paidL L x
def relK (L : Led) (p : Par) (h : Int) (x : Tx) : List Rel := if x.kind = 3 then relP L.rel (h + p.p3) x.frm h x.amt else L.rel
/-- The ledger behind a transaction that is taken. -/
def appP (L : Led) (p : Par) (h b : Int) (x : Tx) : Led :=
 if spotB (accK L x) b = true then ⟨(accK L x).set (spotI (accK L x) b) (addBal x.fee (accAt (accK L x) (spotI (accK L x) b))), relK L p h x, L.burnt, L.sup⟩ else ⟨accK L x, relK L p h x, w64 (L.burnt + x.fee), L.sup⟩
/-- What Apply answers. -/
def appL (rc : List Rcd) (ch : List Int) (L : Led) (p : Par) (h b : Int) (x : Tx) : Led := if chkE rc ch L p h x = 0 then appP L p h b x else led0
theorem paidL_length (L : Led) (x : Tx) : (paidL L x).length = L.acc.length := by unfold paidL; rw [List.length_set]
theorem midA_yes {l : List Acc} {a : Int} (h : spotB l a = true) : midA l a = l := if_pos h
theorem midA_no {l : List Acc} {a : Int} (h : spotB l a = false) : midA l a = insL l (spotI l a) ⟨a, 0, 0, 0, false⟩ := if_neg (by rw [h]; decide)
theorem midR_yes {r : List Rel} {h a b : Int} (e : rowB r h a = true) : midR r h a b = r := if_pos e
theorem midR_no {r : List Rel} {h a b : Int} (e : rowB r h a = false) : midR r h a b = insL r (rowI r h a) ⟨h, a, b, 0⟩ := if_neg (by rw [e]; decide)
theorem spotB_lt {l : List Acc} {a : Int} (h : spotB l a = true) : spotI l a < l.length := by unfold spotB at h; rw [Bool.and_eq_true, decide_eq_true_eq] at h; exact h.1
theorem rowB_lt {r : List Rel} {h a : Int} (e : rowB r h a = true) : rowI r h a < r.length := by unfold rowB at e; rw [Bool.and_eq_true, decide_eq_true_eq] at e; exact e.1
theorem midA_lt (l : List Acc) (a : Int) : spotI l a < (midA l a).length := by
 cases h : spotB l a with
 | true => rw [midA_yes h]; exact spotB_lt h
 | false => rw [midA_no h, insL_length (spotI_le l a)]; have := spotI_le l a; omega
theorem midR_lt (r : List Rel) (h a b : Int) : rowI r h a < (midR r h a b).length := by
 cases e : rowB r h a with
 | true => rw [midR_yes e]; exact rowB_lt e
 | false => rw [midR_no e, insL_length (rowI_le r h a)]; have := rowI_le r h a; omega
theorem midA_le (l : List Acc) (a : Int) : (midA l a).length ≤ l.length + 1 := by
 unfold midA; split
 ·omega
 ·rw [insL_length (spotI_le l a)]; exact Nat.le_refl _
theorem midR_le (r : List Rel) (h a b : Int) : (midR r h a b).length ≤ r.length + 1 := by
 unfold midR; split
 ·omega
 ·rw [insL_length (rowI_le r h a)]; exact Nat.le_refl _
theorem accK_le (L : Led) (x : Tx) : (accK L x).length ≤ L.acc.length + 1 := by
 unfold accK
 split
 ·unfold payP; rw [List.length_set]; have := midA_le (paidL L x) x.to; rwa [paidL_length] at this
 ·split
  ·rw [List.length_set]; omega
  ·split
   ·rw [List.length_set]; omega
   ·split
    ·rw [List.length_set]; omega
    ·rw [paidL_length]; omega
theorem relK_le (L : Led) (p : Par) (h : Int) (x : Tx) : (relK L p h x).length ≤ L.rel.length + 1 := by
 unfold relK
 split
 ·unfold relP; rw [List.length_set]; exact midR_le _ _ _ _
 ·omega
theorem accAt_set {l : List Acc} {i : Nat} (h : i < l.length) (y : Acc) : (l.set i y)[i]? = some y := List.getElem?_set_self h
set_option maxHeartbeats 4000000 in
theorem apply_ok {gl : Nat → Obj} (hG : Globs gl) (q : Nat) (sg : List (Int × Nat)) (rc : List Rcd) (base : Option Addr) (c : Nat) (l : List Acc) (hc : l.length ≤ c) (hm : l.length ≤ 4900000000000)(hok : ∀ x ∈ l, x.ok) (base' : Option Addr) (c' : Nat) (r : List Rel) (hc' : r.length ≤ c') (hm' : r.length ≤ 5900000000000) (hok' : ∀ y ∈ r, y.ok) (bu su : Int) (hbu : u64 bu) (ch : List Int) (hcb : IsB ch) (p : Par) (hp3 : u64 p.p3) (h by_ : Int) (hh : u64 h) (x : Tx) (hx : x.ok) : Spec (cx gl) 67 [.agg (ledV (.slice base l.length c) (.slice base' r.length c') bu su).toArray, .pointer (some ⟨q, 0, none⟩), .string (strOfNums ch), .agg p.cells.toArray, .int .u64 h, .int .u64 by_, .agg x.cells.toArray] (fun w hp => Seen w hp base (Go.Proofs.YtcngmkjdpoiiaaaGreatDoor.rc l) ∧ Seen w hp base' (Go.Proofs.YtcngmkjdpoiiaaaGreatDoor.rc r)) [REG q sg rc] (fun v rs => ∃ u u', v = .tuple #[.agg (ledV u u' (appL rc ch (⟨l, r, bu, su⟩ : Led) p h by_ x).burnt (appL rc ch (⟨l, r, bu, su⟩ : Led) p h by_ x).sup).toArray, .int .i64 (chkE rc ch (⟨l, r, bu, su⟩ : Led) p h x)] ∧ rs = [ownS 50 5 (u) ((appL rc ch (⟨l, r, bu, su⟩ : Led) p h by_ x).acc.length) (Go.Proofs.YtcngmkjdpoiiaaaGreatDoor.rc ((appL rc ch (⟨l, r, bu, su⟩ : Led) p h by_ x).acc)), ownS 175 4 (u') ((appL rc ch (⟨l, r, bu, su⟩ : Led) p h by_ x).rel.length) (Go.Proofs.YtcngmkjdpoiiaaaGreatDoor.rc ((appL rc ch (⟨l, r, bu, su⟩ : Led) p h by_ x).rel)), REG q sg rc]) := by
 refine Spec.enter (C := cx gl) Tryz.func67 rfl 186 rfl rfl fun w0 h0 hsep hsub hpre => ?_
 show St (cx gl) _ [(0, .agg (ledV (.slice base l.length c) (.slice base' r.length c') bu su).toArray), (1, .pointer (some ⟨q, 0, none⟩)), (2, .string (strOfNums ch)), (3, .agg p.cells.toArray), (4, .int .u64 h), (5, .int .u64 by_), (6, .agg x.cells.toArray)] _ _
 have hhc := hh
 obtain ⟨hh0, hh1⟩ := hhc
 refine rT ?_
 refine lO (W_box (ledV (.slice base l.length c) (.slice base' r.length c') bu su) rfl rfl rfl rfl rfl fun b7 => ?_)
 refine lO (W_box (p.cells) rfl rfl rfl rfl rfl fun b10 => ?_)
 refine lO (W_box (x.cells) rfl rfl rfl rfl rfl fun b13 => ?_)
 refine lO (W_alloc rfl rfl rfl ty_ze_30 fun b14 => lA (k:=?_))
 refine lQ (cE 1 rfl (cE 2 rfl (cE 4 rfl (cE 5 rfl (cE 7 rfl (cE 10 rfl (cE 13 rfl (cE 14 rfl (cE 15 rfl .nil))))))))) (rS (rS ?_))
 refine St.res (rs' := [REG q sg rc, blk b14 (ledV (.slice none 0 0) (.slice none 0 0) 0 0) 30, blk b13 x.cells 67, blk b10 p.cells 25, blk b7 (ledV (.slice base l.length c) (.slice base' r.length c') bu su) 30]) (Weak.pick (p := [_, _, _, _]) (Weak.keep (Weak.keep (Weak.keep (Weak.keep (Weak.nil _)))))) (rR (lV (vG ty_ag_30 .h4) (k:=lMv (k:=lMv (k:=lV (vG ty_ag_25 .h3) (k:=lMv (k:=?_)))))))
 refine lV (V_loadAgg rfl rfl ty_ag_67 (Rds.blk .h2) (hx.cellsLen)) (k:=?_)
 refine lO (W_callR rfl rfl rfl rfl fn_ca_70 (lcheck_ok hG q sg rc base c l hc (by omega) base' c' r hc' (by omega) bu su ch hcb p hp3 h hh x hx) (Split.one (p := [])) (fun w a b ha hb dj m => ⟨Sn.pre (Sn.old hpre.1) w a b ha hb dj m, Sn.pre (Sn.old hpre.2) w a b ha hb dj m⟩) (lA (k:=?_)))
 refine lQ (cE 4 rfl (cE 5 rfl (cE 7 rfl (cE 10 rfl (cE 13 rfl (cE 14 rfl (cE 15 rfl (cE 16 rfl .nil)))))))) (rT (lMv (k:=lP pNe (k:=?_))))
 refine lQ (cE 4 rfl (cE 5 rfl (cE 7 rfl (cE 10 rfl (cE 13 rfl (cE 14 rfl (cE 15 rfl (cE 16 rfl (cE 31 rfl .nil))))))))) ?_
 refine R_condP rfl (fun he => ?_) (fun he => ?_)
 ·skip
  refine rT ?_
  refine lP (P_buildStruct rfl ty_pl_30 ty_ze_30 rfl rfl (rfl)) (k:=lMv (k:=?_))
  refine lO (W_storeAll rfl rfl rfl rfl ty_ag_30 (rfl) (ledV_one _ _ _ _ rfl rfl) .h1 (rfl) (lA (k:=?_)))
  refine lQ (cE 4 rfl (cE 5 rfl (cE 7 rfl (cE 10 rfl (cE 13 rfl (cE 14 rfl (cE 15 rfl .nil))))))) (R_ret (Q_then_ret ?_))
  exact R_end (rs2 := _) rfl rfl (.cell rfl (Rds.loadVar ty_ag_30 (Rds.blk .h1) rfl) (.tmp rfl .nil)) (⟨.slice none 0 0, .slice none 0 0, by rw [show (appL rc ch (⟨l, r, bu, su⟩ : Led) p h by_ x) = led0 from if_neg he]; rfl, rfl⟩) (by rw [show (appL rc ch (⟨l, r, bu, su⟩ : Led) p h by_ x) = led0 from if_neg he]; exact Weak.trans (Weak.newNil (T := 175) (sz := 4)) (Weak.trans (Weak.newNil (T := 50) (sz := 5)) (Weak.keep (Weak.keep (Weak.keep (Weak.nil _))))))
 ·skip
  have he : chkE rc ch (⟨l, r, bu, su⟩ : Led) p h x = 0 := Classical.not_not.1 he
  have hC := chkFine_of he
  have hF := txFine_of (txbE_fine hC.tx).2
  have hlt : spotI l x.frm < l.length := spotB_lt hC.frm
  have hA : l[spotI l x.frm]? = some (senderA (⟨l, r, bu, su⟩ : Led) x) := accAt_get hlt
  obtain ⟨⟨hA0, hA1⟩, ⟨hb0, hb1⟩, ⟨hd0, hd1⟩, ⟨hn0, hn1⟩⟩ := hok _ (List.mem_of_getElem? hA)
  have hkd := hC.kind
  have hn := hC.non
  have hn2 := hC.top
  have hbal := hC.bal
  have htime := hC.time
  unfold timeB at htime
  have hcost : 0 ≤ costI x := by unfold costI; have := hx.fee.1; have := hx.amt.1; split <;> omega
  refine R_skip (qT (rS ?_))
  refine R_open [(0, 0), (1, 1), (3, 0), (4, 1), (2, 2), (6, 0), (5, 2), (7, 3), (8, 0), (9, 3)] mixed (by kernel_rfl) (QOk.then QOk.body) (oP rfl (pF ty_fl_30_0) (k:=oV rfl (vB ty_sc_22 .h4) (k:=oP rfl (pF ty_fl_30_1) (k:=oV rfl (vB ty_sc_28 .h4) (k:=?_)))))
  refine O_keep rfl rfl (W_call rfl rfl rfl rfl fn_ca_79 (freshA_ok base c l hc (by omega)) (Split.nil _) (Sn.pre (Sn.old hpre.1)) fun v1 rs1 (e1 : rs1 = _) => ?_)
  subst e1
  refine St.ownSome (p := []) (by omega) fun fb fc huv hfc => ?_
  subst huv
  refine K_keep (Weak.drop (Weak.refl _)) (oP rfl (pF ty_fl_30_0) (k:=?_))
  refine O_keep rfl rfl (W_call rfl rfl rfl rfl fn_ca_80 (freshR_ok base' c' r hc' (by omega)) (Split.nil _) (Sn.pre (Sn.old hpre.2)) fun v2 rs2 (e2 : rs2 = _) => ?_)
  subst e2
  refine St.ownForm (p := []) fun vb vc hvv hvc => ?_
  subst hvv
  refine K_keep (Weak.drop (Weak.refl _)) ?_
  refine O_new rfl rfl (W_store rfl rfl rfl rfl ty_sc_22 rfl .h6 (by simp [ledV]) (K_new (oP rfl (pF ty_fl_30_1) (k:=?_))))
  refine O_new rfl rfl (W_store rfl rfl rfl rfl ty_sc_28 rfl .h6 (by simp [ledV]) (K_new (O_nil ?_)))
  refine St.env (cE 4 rfl (cE 5 rfl (cE 7 rfl (cE 10 rfl (cE 13 rfl (cE 14 rfl (cE 15 rfl .nil))))))) (qT (rS ?_))
  refine St.res (rs' := [REG q sg rc, ownS 50 5 (.slice (some ⟨fb, 0, none⟩) l.length fc) (l.length) (Go.Proofs.YtcngmkjdpoiiaaaGreatDoor.rc (l)), ownS 175 4 (.slice vb r.length vc) (r.length) (Go.Proofs.YtcngmkjdpoiiaaaGreatDoor.rc (r)), blk b14 (ledV (.slice none 0 0) (.slice none 0 0) 0 0) 30, blk b13 x.cells 67, blk b10 p.cells 25, blk b7 (ledV (.slice (some ⟨fb, 0, none⟩) l.length fc) (.slice vb r.length vc) (bu) su) 30]) (Weak.pick (p := [_, _]) (Weak.pick (p := [_]) (Weak.keep (Weak.keep (Weak.keep (Weak.keep (Weak.keep (Weak.nil _)))))))) ?_
  refine R_open [(0, 0), (1, 1), (2, 1), (3, 0), (4, 1), (5, 2), (6, 0), (7, 0)] mixed (by kernel_rfl) (QOk.then QOk.body) (oP rfl (pF ty_fl_30_0) (k:=oV rfl (vB ty_sc_22 .h6) (k:=oV rfl (vG ty_ag_30 .h6) (k:=oP rfl (pF ty_fl_67_1) (k:=oV rfl (vB ty_sc_26 .h4) (k:=?_))))))
  refine O_keep rfl rfl (W_callV rfl rfl rfl rfl fn_ca_83 (place_ok (some ⟨fb, 0, none⟩) fc l hfc (by omega) (.slice vb r.length vc) rfl bu su x.frm) ((Sn.own .h1 rfl).rw_) (K_keep (Weak.refl _) ?_))
  refine E_as (t := 47) (v' := .int .i64 ((spotI l x.frm : Nat) : Int)) rfl (by unfold placeI; rw [if_pos (show spotB l x.frm = true from hC.frm)]) ?_
  refine oP rfl (P_ixs (spotI l x.frm) rfl ty_sl_22 rfl rfl (by first | rfl | omega) (by omega)) (k:=oP rfl pA (k:=O_nil ?_))
  refine St.env (cE 4 rfl (cE 5 rfl (cE 7 rfl (cE 10 rfl (cE 13 rfl (cE 14 rfl (cE 15 rfl (cE 17 rfl .nil)))))))) (qT (rT (lMv (k:=lP pN (k:=lP (pG ty_fl_50_3) (k:=?_))))))
  refine lV (V_load rfl rfl ty_sc_23 (rd_rc (rds_own .h1) hA rfl)) (k:=?_)
  refine lP (P_addN rfl rfl rfl (by simp only [fits]; omega)) (k:=lP pN (k:=lP (pG ty_fl_50_3) (k:=?_)))
  refine lO (W_setRec (sz := 5) (j := 3) (z := ⟨(senderA (⟨l, r, bu, su⟩ : Led) x).a, (senderA (⟨l, r, bu, su⟩ : Led) x).bal, (senderA (⟨l, r, bu, su⟩ : Led) x).bond, (senderA (⟨l, r, bu, su⟩ : Led) x).non + 1, (senderA (⟨l, r, bu, su⟩ : Led) x).jail⟩) rfl rfl rfl rfl ty_sc_23 rfl (hA) rfl (by decide) rfl .h1 ?_)
  refine lQ (cE 4 rfl (cE 5 rfl (cE 7 rfl (cE 10 rfl (cE 13 rfl (cE 14 rfl (cE 15 rfl (cE 17 rfl .nil)))))))) (rS ?_)
  have hA1 := accAt_set hlt (⟨(senderA (⟨l, r, bu, su⟩ : Led) x).a, (senderA (⟨l, r, bu, su⟩ : Led) x).bal, (senderA (⟨l, r, bu, su⟩ : Led) x).bond, (senderA (⟨l, r, bu, su⟩ : Led) x).non + 1, (senderA (⟨l, r, bu, su⟩ : Led) x).jail⟩ : Acc)
  refine R_open [(0, 0), (1, 0), (2, 0), (3, 1), (4, 1), (5, 2), (6, 0), (7, 0), (8, 0), (9, 3)] mixed (by kernel_rfl) (QOk.then QOk.body) (oP rfl pM (k:=oP rfl pN (k:=oP rfl (pG ty_fl_50_1) (k:=?_))))
  refine oV rfl (V_load rfl rfl ty_sc_23 (rd_rc (rds_own .h1) hA1 rfl)) (k:=?_)
  refine oV rfl (V_loadAgg rfl rfl ty_ag_67 (Rds.blk .h4) (hx.cellsLen)) (k:=?_)
  refine O_keep rfl rfl (W_callV rfl rfl rfl rfl fn_ca_152 (spends_ok x hx hF.amt hF.fee) (fun _ _ => trivial) (K_keep (Weak.refl _) ?_))
  refine oP rfl (P_subN rfl rfl rfl (by simp only [fits]; omega)) (k:=oP rfl pN (k:=oP rfl (pG ty_fl_50_1) (k:=?_)))
  refine O_new rfl rfl (W_setRec (sz := 5) (j := 1) (z := (payer x (senderA (⟨l, r, bu, su⟩ : Led) x))) rfl rfl rfl rfl ty_sc_23 rfl (hA1) rfl (by decide) rfl .h1 (K_new (O_nil ?_)))
  refine St.env (cE 4 rfl (cE 5 rfl (cE 7 rfl (cE 10 rfl (cE 13 rfl (cE 14 rfl (cE 15 rfl (cE 17 rfl .nil)))))))) (qT ?_)
  refine R_joinE (G := Nat × Nat × Nat × Option Addr × Nat × Nat) (cE 5 rfl (cE 7 rfl (cE 13 rfl (cE 14 rfl (cE 15 rfl .nil))))) (fun g => []) (fun g => [REG q sg rc, ownS 50 5 (.slice (some ⟨g.1, 0, none⟩) g.2.1 g.2.2.1) (g.2.1) (Go.Proofs.YtcngmkjdpoiiaaaGreatDoor.rc ((accK (⟨l, r, bu, su⟩ : Led) x))), ownS 175 4 (.slice g.2.2.2.1 g.2.2.2.2.1 g.2.2.2.2.2) (g.2.2.2.2.1) (Go.Proofs.YtcngmkjdpoiiaaaGreatDoor.rc ((relK (⟨l, r, bu, su⟩ : Led) p h x))), blk b14 (ledV (.slice none 0 0) (.slice none 0 0) 0 0) 30, blk b13 x.cells 67, blk b10 p.cells 25, blk b7 (ledV (.slice (some ⟨g.1, 0, none⟩) g.2.1 g.2.2.1) (.slice g.2.2.2.1 g.2.2.2.2.1 g.2.2.2.2.2) (bu) su) 30]) (fun g => g.2.1 = (accK (⟨l, r, bu, su⟩ : Led) x).length ∧ g.2.1 ≤ g.2.2.1 ∧ g.2.2.2.2.1 = (relK (⟨l, r, bu, su⟩ : Led) p h x).length ∧ g.2.2.2.2.1 ≤ g.2.2.2.2.2) ?_ ?_
  ·skip
   refine rS ?_
   refine St.res (rs' := [REG q sg rc, ownS 50 5 (.slice (some ⟨fb, 0, none⟩) l.length fc) (l.length) (Go.Proofs.YtcngmkjdpoiiaaaGreatDoor.rc ((paidL (⟨l, r, bu, su⟩ : Led) x))), ownS 175 4 (.slice vb r.length vc) (r.length) (Go.Proofs.YtcngmkjdpoiiaaaGreatDoor.rc (r)), blk b14 (ledV (.slice none 0 0) (.slice none 0 0) 0 0) 30, blk b13 x.cells 67, blk b10 p.cells 25, blk b7 (ledV (.slice (some ⟨fb, 0, none⟩) l.length fc) (.slice vb r.length vc) (bu) su) 30]) (Weak.keep (Weak.trans (ownS.to1 rfl (by rw [List.set_set]; rfl)) (Weak.refl _))) ?_
   have hP : (paidL (⟨l, r, bu, su⟩ : Led) x)[spotI l x.frm]? = some (payer x (senderA (⟨l, r, bu, su⟩ : Led) x)) := accAt_set hlt _
   have hL1 := paidL_length (⟨l, r, bu, su⟩ : Led) x
   have hL1' : (paidL (⟨l, r, bu, su⟩ : Led) x).length = l.length := hL1
   refine rR (lP (pF ty_fl_67_0) (k:=lV (vB ty_sc_3 .h4) (k:=?_)))
   refine lQ (cE 4 rfl (cE 5 rfl (cE 7 rfl (cE 10 rfl (cE 13 rfl (cE 14 rfl (cE 15 rfl (cE 17 rfl (cE 66 rfl .nil))))))))) (R_block (rT (lP pEq (k:=?_))))
   refine E_bool (t := 68) rfl (fun k1 => ?_) (fun k1 => ?_)
   ·skip
    have k1 := of_decide_eq_true k1
    have haK : accK (⟨l, r, bu, su⟩ : Led) x = payP (paidL (⟨l, r, bu, su⟩ : Led) x) x.to x.amt := by unfold accK; rw [if_pos k1]
    have hrK : relK (⟨l, r, bu, su⟩ : Led) p h x = r := by unfold relK; rw [if_neg (by omega)]
    refine lA (k:=?_)
    refine lQ (cE 4 rfl (cE 5 rfl (cE 7 rfl (cE 10 rfl (cE 13 rfl (cE 14 rfl (cE 15 rfl (cE 17 rfl (cE 66 rfl (cE 67 rfl .nil)))))))))) (kT (k:=rT (lV (vG ty_ag_30 .h6) (k:=lP (pF ty_fl_67_2) (k:=lV (vB ty_sc_26 .h4) (k:=?_))))))
    refine lO (W_callV rfl rfl rfl rfl fn_ca_99 ((by have h9 := spot_ok (gl := gl) (some ⟨fb, 0, none⟩) fc (paidL (⟨l, r, bu, su⟩ : Led) x) (by rw [hL1']; exact hfc) (by rw [hL1']; omega) (.slice vb r.length vc) rfl bu su x.to; rw [hL1'] at h9; exact h9)) ((Sn.own .h1 rfl).rw_) (lMv (k:=lP pX (k:=lP pX (k:=lA (k:=lA (k:=?_)))))))
    refine lQ (cE 5 rfl (cE 7 rfl (cE 13 rfl (cE 14 rfl (cE 15 rfl (cE 18 rfl (cE 19 rfl .nil))))))) ?_
    refine R_joinE (G := Nat × Nat × Nat) (cE 5 rfl (cE 7 rfl (cE 13 rfl (cE 14 rfl (cE 15 rfl (cE 18 rfl .nil)))))) (fun g => []) (fun g => [REG q sg rc, ownS 50 5 (.slice (some ⟨g.1, 0, none⟩) g.2.1 g.2.2) (g.2.1) (Go.Proofs.YtcngmkjdpoiiaaaGreatDoor.rc ((midA (paidL (⟨l, r, bu, su⟩ : Led) x) x.to))), ownS 175 4 (.slice vb r.length vc) (r.length) (Go.Proofs.YtcngmkjdpoiiaaaGreatDoor.rc (r)), blk b14 (ledV (.slice none 0 0) (.slice none 0 0) 0 0) 30, blk b13 x.cells 67, blk b10 p.cells 25, blk b7 (ledV (.slice (some ⟨g.1, 0, none⟩) g.2.1 g.2.2) (.slice vb r.length vc) (bu) su) 30]) (fun g => g.2.1 = (midA (paidL (⟨l, r, bu, su⟩ : Led) x) x.to).length ∧ g.2.1 ≤ g.2.2) ?_ ?_
    ·skip
     refine rT (lMv (k:=lP pO (k:=?_)))
     refine lQ (cE 5 rfl (cE 7 rfl (cE 13 rfl (cE 14 rfl (cE 15 rfl (cE 18 rfl (cE 77 rfl .nil))))))) ?_
     refine R_cond rfl (fun hto => ?_) (fun hto => ?_)
     ·skip
      have hto : spotB (paidL (⟨l, r, bu, su⟩ : Led) x) x.to = false := by simpa using hto
      have hmid := midA_no hto
      have hil := insL_length (spotI_le (paidL (⟨l, r, bu, su⟩ : Led) x) x.to) (⟨x.to, 0, 0, 0, false⟩ : Acc)
      refine rR (lP (pF ty_fl_30_0) (k:=lV (vB ty_sc_22 .h6) (k:=lMv (k:=lP (pF ty_fl_67_2) (k:=lV (vB ty_sc_26 .h4) (k:=?_))))))
      refine lP (P_buildStruct rfl ty_pl_50 ty_ze_50 rfl rfl (rfl)) (k:=?_)
      refine E_as (t := 83) (v' := .agg (⟨x.to, 0, 0, 0, false⟩ : Acc).cells.toArray) rfl (rfl) ?_
      refine lO (W_litZ (z := .nilIface) (Rec.cells (⟨x.to, 0, 0, 0, false⟩ : Acc)) rfl rfl rfl ty_sl_22 ty_lz_22 rfl rfl rfl (by decide) (by decide) (by intro v hv; simp only [List.mem_cons, List.not_mem_nil, or_false] at hv; subst hv; rfl) (by rfl) fun b84 => ?_)
      have h9a := insA_ok (gl := gl) (some ⟨fb, 0, none⟩) fc (paidL (⟨l, r, bu, su⟩ : Led) x) (spotI (paidL (⟨l, r, bu, su⟩ : Led) x) x.to) (⟨x.to, 0, 0, 0, false⟩ : Acc) b84 (spotI_le _ _) (by rw [hL1']; exact hfc) (by rw [hL1']; omega)
      rw [hL1'] at h9a
      refine lO (W_call rfl rfl rfl rfl fn_ca_153 (h9a) (Weak.pick (p := [_, _]) (Weak.keep (Weak.keep (Weak.keep (Weak.keep (Weak.keep (Weak.keep (Weak.keep (Weak.nil _))))))))) (fun _ _ _ _ _ _ _ => trivial) fun v1 rs1 (e1 : rs1 = _) => ?_)
      subst e1
      refine St.ownSome (p := []) (by omega) fun gb gc huv hgc => ?_
      subst huv
      refine lP (pF ty_fl_30_0) (k:=?_)
      refine lO (W_store rfl rfl rfl rfl ty_sc_22 rfl .h6 (by simp [ledV]) ?_)
      refine lE (cE 5 rfl (cE 7 rfl (cE 13 rfl (cE 14 rfl (cE 15 rfl (cE 18 rfl .nil)))))) ?_
      exact Q_meet (gb, l.length + 1, gc) (by show (l.length + 1) = (midA (paidL (⟨l, r, bu, su⟩ : Led) x) x.to).length ∧ (l.length + 1) ≤ (gc); exact ⟨by rw [hmid, hil, hL1'], hgc⟩) (by repeat (first | exact .nil | refine .cons rfl ?_ | refine .consE rfl (by first | rfl | (congr 1; omega) | (congr 1; push_cast; omega)) ?_)) (Weak.trans (Weak.pick (p := [_]) (Weak.keep (Weak.keep (Weak.keep (Weak.keep (Weak.keep (Weak.keep (Weak.nil _)))))))) (Weak.keep (ownS.to1 rfl (by rw [hmid]))))
     ·skip
      have hto : spotB (paidL (⟨l, r, bu, su⟩ : Led) x) x.to = true := by simpa using hto
      have hmid := midA_yes hto
      refine R_skip ?_
      exact Q_meet (fb, l.length, fc) (by show (l.length) = (midA (paidL (⟨l, r, bu, su⟩ : Led) x) x.to).length ∧ (l.length) ≤ (fc); exact ⟨by rw [hmid, hL1'], hfc⟩) (by repeat (first | exact .nil | refine .cons rfl ?_ | refine .consE rfl (by first | rfl | (congr 1; omega) | (congr 1; push_cast; omega)) ?_)) (Weak.keep (ownS.to1 rfl (by rw [hmid])))
    ·rintro ⟨gb, gn, gc⟩ hinv
     replace hinv : gn = (midA (paidL (⟨l, r, bu, su⟩ : Led) x) x.to).length ∧ gn ≤ gc := hinv
     show St (cx gl) _ _ [REG q sg rc, ownS 50 5 (.slice (some ⟨gb, 0, none⟩) gn gc) (gn) (Go.Proofs.YtcngmkjdpoiiaaaGreatDoor.rc ((midA (paidL (⟨l, r, bu, su⟩ : Led) x) x.to))), ownS 175 4 (.slice vb r.length vc) (r.length) (Go.Proofs.YtcngmkjdpoiiaaaGreatDoor.rc (r)), blk b14 (ledV (.slice none 0 0) (.slice none 0 0) 0 0) 30, blk b13 x.cells 67, blk b10 p.cells 25, blk b7 (ledV (.slice (some ⟨gb, 0, none⟩) gn gc) (.slice vb r.length vc) (bu) su) 30] _
     obtain ⟨hgn, hgc⟩ := hinv
     have hMl : (spotI (paidL (⟨l, r, bu, su⟩ : Led) x) x.to) < gn := by rw [hgn]; exact midA_lt _ _
     have hM : (midA (paidL (⟨l, r, bu, su⟩ : Led) x) x.to)[(spotI (paidL (⟨l, r, bu, su⟩ : Led) x) x.to)]? = some (accAt (midA (paidL (⟨l, r, bu, su⟩ : Led) x) x.to) (spotI (paidL (⟨l, r, bu, su⟩ : Led) x) x.to)) := accAt_get (midA_lt _ _)
     refine R_open [(0, 0), (1, 1), (2, 0), (3, 0), (4, 0), (5, 1), (6, 0), (7, 1), (8, 0), (9, 0), (10, 0), (11, 3)] mixed (by kernel_rfl) (QOk.block (QOk.then QOk.body)) (oP rfl (pF ty_fl_30_0) (k:=oV rfl (vB ty_sc_22 .h6) (k:=oP rfl pM (k:=?_))))
     refine oP rfl (P_ixs ((spotI (paidL (⟨l, r, bu, su⟩ : Led) x) x.to)) rfl ty_sl_22 rfl rfl (by first | rfl | omega) (by omega)) (k:=oP rfl (pG ty_fl_50_1) (k:=?_))
     refine oV rfl (V_load rfl rfl ty_sc_23 (rd_rc (rds_own .h1) hM rfl)) (k:=oP rfl (pF ty_fl_67_3) (k:=oV rfl (vB ty_sc_23 .h4) (k:=?_)))
     refine oP rfl (P_add rfl rfl rfl) (k:=?_)
     refine oP rfl (P_ixs ((spotI (paidL (⟨l, r, bu, su⟩ : Led) x) x.to)) rfl ty_sl_22 rfl rfl (by first | rfl | omega) (by omega)) (k:=oP rfl (pG ty_fl_50_1) (k:=?_))
     refine O_new rfl rfl (W_setRec (sz := 5) (j := 1) (z := addBal x.amt (accAt (midA (paidL (⟨l, r, bu, su⟩ : Led) x) x.to) (spotI (paidL (⟨l, r, bu, su⟩ : Led) x) x.to))) rfl rfl rfl rfl ty_sc_23 rfl (hM) rfl (by decide) rfl .h1 (K_new (O_nil ?_)))
     refine St.env (cE 5 rfl (cE 7 rfl (cE 13 rfl (cE 14 rfl (cE 15 rfl .nil))))) (Q_block ?_)
     exact Q_meet (gb, gn, gc, vb, r.length, vc) (by show (gn) = (accK (⟨l, r, bu, su⟩ : Led) x).length ∧ (gn) ≤ (gc) ∧ (r.length) = (relK (⟨l, r, bu, su⟩ : Led) p h x).length ∧ (r.length) ≤ (vc); exact ⟨by rw [haK]; unfold payP; rw [List.length_set]; exact hgn, hgc, by rw [hrK], hvc⟩) (by repeat (first | exact .nil | refine .cons rfl ?_ | refine .consE rfl (by first | rfl | (congr 1; omega) | (congr 1; push_cast; omega)) ?_)) (Weak.keep (Weak.trans (ownS.to1 rfl (by rw [haK]; rfl)) (Weak.keep (ownS.to1 rfl (by rw [hrK])))))
   ·skip
    have k1 := of_decide_eq_false k1
    refine lA (k:=?_)
    refine lQ (cE 4 rfl (cE 5 rfl (cE 7 rfl (cE 10 rfl (cE 13 rfl (cE 14 rfl (cE 15 rfl (cE 17 rfl (cE 66 rfl (cE 67 rfl .nil)))))))))) (kF (k:=rT (lP pEq (k:=?_))))
    refine E_bool (t := 99) rfl (fun k2 => ?_) (fun k2 => ?_)
    ·skip
     have k2 := of_decide_eq_true k2
     have haK : accK (⟨l, r, bu, su⟩ : Led) x = l.set (spotI l x.frm) (addBond x.amt (payer x (senderA (⟨l, r, bu, su⟩ : Led) x))) := by unfold accK; rw [if_neg k1, if_pos k2]
     have hrK : relK (⟨l, r, bu, su⟩ : Led) p h x = r := by unfold relK; rw [if_neg (by omega)]
     refine lA (k:=?_)
     refine lQ (cE 4 rfl (cE 5 rfl (cE 7 rfl (cE 10 rfl (cE 13 rfl (cE 14 rfl (cE 15 rfl (cE 17 rfl (cE 66 rfl (cE 98 rfl .nil)))))))))) (kT (k:=?_))
     refine R_open [(0, 0), (1, 0), (2, 0), (3, 1), (4, 0), (5, 1), (6, 0), (7, 0), (8, 0), (9, 3)] mixed (by kernel_rfl) (QOk.block (QOk.then QOk.body)) (oP rfl pM (k:=oP rfl pN (k:=oP rfl (pG ty_fl_50_2) (k:=?_))))
     refine oV rfl (V_load rfl rfl ty_sc_23 (rd_rc (rds_own .h1) hP rfl)) (k:=oP rfl (pF ty_fl_67_3) (k:=oV rfl (vB ty_sc_23 .h4) (k:=?_)))
     refine oP rfl (P_add rfl rfl rfl) (k:=oP rfl pN (k:=oP rfl (pG ty_fl_50_2) (k:=?_)))
     refine O_new rfl rfl (W_setRec (sz := 5) (j := 2) (z := addBond x.amt (payer x (senderA (⟨l, r, bu, su⟩ : Led) x))) rfl rfl rfl rfl ty_sc_23 rfl (hP) rfl (by decide) rfl .h1 (K_new (O_nil ?_)))
     refine St.env (cE 5 rfl (cE 7 rfl (cE 13 rfl (cE 14 rfl (cE 15 rfl .nil))))) (Q_block ?_)
     exact Q_meet (fb, l.length, fc, vb, r.length, vc) (by show (l.length) = (accK (⟨l, r, bu, su⟩ : Led) x).length ∧ (l.length) ≤ (fc) ∧ (r.length) = (relK (⟨l, r, bu, su⟩ : Led) p h x).length ∧ (r.length) ≤ (vc); exact ⟨by rw [haK, List.length_set], hfc, by rw [hrK], hvc⟩) (by repeat (first | exact .nil | refine .cons rfl ?_ | refine .consE rfl (by first | rfl | (congr 1; omega) | (congr 1; push_cast; omega)) ?_)) (Weak.keep (Weak.trans (ownS.to1 rfl (by rw [haK]; exact congrArg _ (List.set_set ..))) (Weak.keep (ownS.to1 rfl (by rw [hrK])))))
    ·skip
     have k2 := of_decide_eq_false k2
     refine lA (k:=?_)
     refine lQ (cE 4 rfl (cE 5 rfl (cE 7 rfl (cE 10 rfl (cE 13 rfl (cE 14 rfl (cE 15 rfl (cE 17 rfl (cE 66 rfl (cE 98 rfl .nil)))))))))) (kF (k:=rT (lP pEq (k:=?_))))
     refine E_bool (t := 110) rfl (fun k3 => ?_) (fun k3 => ?_)
     ·skip
      have k3 := of_decide_eq_true k3
      have haK : accK (⟨l, r, bu, su⟩ : Led) x = l.set (spotI l x.frm) (subBond x.amt (payer x (senderA (⟨l, r, bu, su⟩ : Led) x))) := by unfold accK; rw [if_neg k1, if_neg k2, if_pos k3]
      have hrK : relK (⟨l, r, bu, su⟩ : Led) p h x = relP r (h + p.p3) x.frm h x.amt := by unfold relK; rw [if_pos k3]
      have hsub : x.amt ≤ (senderA (⟨l, r, bu, su⟩ : Led) x).bond := by unfold kindE at hkd; rw [if_neg k1, if_pos k3] at hkd; split at hkd <;> omega
      refine lA (k:=?_)
      refine lQ (cE 4 rfl (cE 5 rfl (cE 7 rfl (cE 10 rfl (cE 13 rfl (cE 14 rfl (cE 15 rfl (cE 17 rfl (cE 66 rfl (cE 109 rfl .nil)))))))))) (kT (k:=rS ?_))
      refine R_open [(0, 0), (1, 0), (2, 0), (3, 1), (4, 0), (5, 1), (6, 0), (7, 0), (8, 0), (9, 3)] mixed (by kernel_rfl) (QOk.then (QOk.block (QOk.then QOk.body))) (oP rfl pM (k:=oP rfl pN (k:=oP rfl (pG ty_fl_50_2) (k:=?_))))
      refine oV rfl (V_load rfl rfl ty_sc_23 (rd_rc (rds_own .h1) hP rfl)) (k:=oP rfl (pF ty_fl_67_3) (k:=oV rfl (vB ty_sc_23 .h4) (k:=?_)))
      refine oP rfl (P_subN rfl rfl rfl (by have := hx.amt.1; show fits .u64 ((senderA (⟨l, r, bu, su⟩ : Led) x).bond - x.amt); simp only [fits]; omega)) (k:=oP rfl pN (k:=oP rfl (pG ty_fl_50_2) (k:=?_)))
      refine O_new rfl rfl (W_setRec (sz := 5) (j := 2) (z := subBond x.amt (payer x (senderA (⟨l, r, bu, su⟩ : Led) x))) rfl rfl rfl rfl ty_sc_23 rfl (hP) rfl (by decide) rfl .h1 (K_new (O_nil ?_)))
      refine St.env (cE 4 rfl (cE 5 rfl (cE 7 rfl (cE 10 rfl (cE 13 rfl (cE 14 rfl (cE 15 rfl .nil))))))) (qT (rS ?_))
      refine St.res (rs' := [REG q sg rc, ownS 50 5 (.slice (some ⟨fb, 0, none⟩) l.length fc) (l.length) (Go.Proofs.YtcngmkjdpoiiaaaGreatDoor.rc (l.set (spotI l x.frm) (subBond x.amt (payer x (senderA (⟨l, r, bu, su⟩ : Led) x))))), ownS 175 4 (.slice vb r.length vc) (r.length) (Go.Proofs.YtcngmkjdpoiiaaaGreatDoor.rc (r)), blk b14 (ledV (.slice none 0 0) (.slice none 0 0) 0 0) 30, blk b13 x.cells 67, blk b10 p.cells 25, blk b7 (ledV (.slice (some ⟨fb, 0, none⟩) l.length fc) (.slice vb r.length vc) (bu) su) 30]) (Weak.keep (ownS.to1 rfl (congrArg _ (List.set_set ..)))) (rR (lV (vG ty_ag_30 .h6) (k:=lMv (k:=lP (pF ty_fl_25_3) (k:=lV (vB ty_sc_23 .h5) (k:=?_))))))
      refine lP (P_addN rfl rfl rfl (by have := hp3.1; simp only [fits]; omega)) (k:=lP (pF ty_fl_67_1) (k:=lV (vB ty_sc_26 .h4) (k:=?_)))
      refine lO (W_callV rfl rfl rfl rfl fn_ca_154 (row_ok (.slice (some ⟨fb, 0, none⟩) l.length fc) rfl vb vc r hvc (by omega) bu su (h + p.p3) x.frm) ((Sn.own .h2 rfl).rw_) (lMv (k:=lP pX (k:=lP pX (k:=lA (k:=lA (k:=?_)))))))
      refine lQ (cE 4 rfl (cE 5 rfl (cE 7 rfl (cE 10 rfl (cE 13 rfl (cE 14 rfl (cE 15 rfl (cE 20 rfl (cE 21 rfl .nil))))))))) ?_
      refine R_joinE (G := Option Addr × Nat × Nat) (cE 5 rfl (cE 7 rfl (cE 13 rfl (cE 14 rfl (cE 15 rfl (cE 20 rfl .nil)))))) (fun g => []) (fun g => [REG q sg rc, ownS 50 5 (.slice (some ⟨fb, 0, none⟩) l.length fc) (l.length) (Go.Proofs.YtcngmkjdpoiiaaaGreatDoor.rc (l.set (spotI l x.frm) (subBond x.amt (payer x (senderA (⟨l, r, bu, su⟩ : Led) x))))), ownS 175 4 (.slice g.1 g.2.1 g.2.2) (g.2.1) (Go.Proofs.YtcngmkjdpoiiaaaGreatDoor.rc ((midR r (h + p.p3) x.frm h))), blk b14 (ledV (.slice none 0 0) (.slice none 0 0) 0 0) 30, blk b13 x.cells 67, blk b10 p.cells 25, blk b7 (ledV (.slice (some ⟨fb, 0, none⟩) l.length fc) (.slice g.1 g.2.1 g.2.2) (bu) su) 30]) (fun g => g.2.1 = (midR r (h + p.p3) x.frm h).length ∧ g.2.1 ≤ g.2.2) ?_ ?_
      ·skip
       refine rT (lMv (k:=lP pO (k:=?_)))
       refine lQ (cE 4 rfl (cE 5 rfl (cE 7 rfl (cE 10 rfl (cE 13 rfl (cE 14 rfl (cE 15 rfl (cE 20 rfl (cE 132 rfl .nil))))))))) ?_
       refine R_cond rfl (fun hro => ?_) (fun hro => ?_)
       ·skip
        have hro : rowB r (h + p.p3) x.frm = false := by simpa using hro
        have hmid := midR_no (b := h) hro
        have hil := insL_length (rowI_le r (h + p.p3) x.frm) (⟨h + p.p3, x.frm, h, 0⟩ : Rel)
        refine rR (lP (pF ty_fl_30_1) (k:=lV (vB ty_sc_28 .h6) (k:=lMv (k:=lMv (k:=lP (pF ty_fl_25_3) (k:=lV (vB ty_sc_23 .h5) (k:=?_)))))))
        refine lP (P_addN rfl rfl rfl (by have := hp3.1; simp only [fits]; omega)) (k:=lP (pF ty_fl_67_1) (k:=lV (vB ty_sc_26 .h4) (k:=lMv (k:=?_))))
        refine lP (P_buildStruct rfl ty_pl_175 ty_ze_175 rfl rfl (rfl)) (k:=?_)
        refine E_as (t := 143) (v' := .agg (⟨h + p.p3, x.frm, h, 0⟩ : Rel).cells.toArray) rfl (rfl) ?_
        refine lO (W_litZ (z := .nilIface) (Rec.cells (⟨h + p.p3, x.frm, h, 0⟩ : Rel)) rfl rfl rfl ty_sl_28 ty_lz_28 rfl rfl rfl (by decide) (by decide) (by intro v hv; simp only [List.mem_cons, List.not_mem_nil, or_false] at hv; subst hv; rfl) (by rfl) fun b144 => ?_)
        refine lO (W_call rfl rfl rfl rfl fn_ca_155 (insR_ok vb vc r (rowI r (h + p.p3) x.frm) (⟨h + p.p3, x.frm, h, 0⟩ : Rel) b144 (rowI_le _ _ _) hvc (by omega)) (Weak.pick (p := [_, _, _]) (Weak.keep (Weak.keep (Weak.keep (Weak.keep (Weak.keep (Weak.keep (Weak.keep (Weak.nil _))))))))) (fun _ _ _ _ _ _ _ => trivial) fun v1 rs1 (e1 : rs1 = _) => ?_)
        subst e1
        refine St.ownForm (p := []) fun ub uc huv huc => ?_
        subst huv
        refine lP (pF ty_fl_30_1) (k:=?_)
        refine lO (W_store rfl rfl rfl rfl ty_sc_28 rfl .h6 (by simp [ledV]) ?_)
        refine lE (cE 5 rfl (cE 7 rfl (cE 13 rfl (cE 14 rfl (cE 15 rfl (cE 20 rfl .nil)))))) ?_
        exact Q_meet (ub, r.length + 1, uc) (by show (r.length + 1) = (midR r (h + p.p3) x.frm h).length ∧ (r.length + 1) ≤ (uc); exact ⟨by rw [hmid, hil], huc⟩) (by repeat (first | exact .nil | refine .cons rfl ?_ | refine .consE rfl (by first | rfl | (congr 1; omega) | (congr 1; push_cast; omega)) ?_)) (Weak.trans (Weak.pick (p := [_]) (Weak.pick (p := [_]) (Weak.keep (Weak.keep (Weak.keep (Weak.keep (Weak.keep (Weak.nil _)))))))) (Weak.keep (Weak.keep (ownS.to1 rfl (by rw [hmid])))))
       ·skip
        have hro : rowB r (h + p.p3) x.frm = true := by simpa using hro
        have hmid := midR_yes (b := h) hro
        refine R_skip ?_
        exact Q_meet (vb, r.length, vc) (by show (r.length) = (midR r (h + p.p3) x.frm h).length ∧ (r.length) ≤ (vc); exact ⟨by rw [hmid], hvc⟩) (by repeat (first | exact .nil | refine .cons rfl ?_ | refine .consE rfl (by first | rfl | (congr 1; omega) | (congr 1; push_cast; omega)) ?_)) (Weak.keep (Weak.keep (ownS.to1 rfl (by rw [hmid]))))
      ·rintro ⟨hb, hn_, hc_⟩ hinv
       replace hinv : hn_ = (midR r (h + p.p3) x.frm h).length ∧ hn_ ≤ hc_ := hinv
       show St (cx gl) _ _ [REG q sg rc, ownS 50 5 (.slice (some ⟨fb, 0, none⟩) l.length fc) (l.length) (Go.Proofs.YtcngmkjdpoiiaaaGreatDoor.rc (l.set (spotI l x.frm) (subBond x.amt (payer x (senderA (⟨l, r, bu, su⟩ : Led) x))))), ownS 175 4 (.slice hb hn_ hc_) (hn_) (Go.Proofs.YtcngmkjdpoiiaaaGreatDoor.rc ((midR r (h + p.p3) x.frm h))), blk b14 (ledV (.slice none 0 0) (.slice none 0 0) 0 0) 30, blk b13 x.cells 67, blk b10 p.cells 25, blk b7 (ledV (.slice (some ⟨fb, 0, none⟩) l.length fc) (.slice hb hn_ hc_) (bu) su) 30] _
       obtain ⟨hhn, hhc⟩ := hinv
       have hMl := midR_lt r (h + p.p3) x.frm h
       have hM : (midR r (h + p.p3) x.frm h)[(rowI r (h + p.p3) x.frm)]? = some (relAt (midR r (h + p.p3) x.frm h) (rowI r (h + p.p3) x.frm)) := relAt_get hMl
       refine St.ownSome (p := [_, _]) (by omega) fun rbb rcc hrv hrc => ?_
       simp only [Value.slice.injEq, true_and] at hrv
       obtain ⟨rfl, rfl⟩ := hrv
       refine R_open [(0, 0), (1, 1), (2, 0), (3, 0), (4, 0), (5, 1), (6, 0), (7, 1), (8, 0), (9, 0), (10, 0), (11, 3)] mixed (by kernel_rfl) (QOk.block (QOk.then QOk.body)) (oP rfl (pF ty_fl_30_1) (k:=oV rfl (vB ty_sc_28 .h6) (k:=oP rfl pM (k:=?_))))
       refine oP rfl (P_ixs ((rowI r (h + p.p3) x.frm)) rfl ty_sl_28 rfl rfl (by first | rfl | omega) (by omega)) (k:=oP rfl (pG ty_fl_175_3) (k:=?_))
       refine oV rfl (V_load rfl rfl ty_sc_23 (rd_rc (rds_own .h2) hM rfl)) (k:=oP rfl (pF ty_fl_67_3) (k:=oV rfl (vB ty_sc_23 .h4) (k:=?_)))
       refine oP rfl (P_add rfl rfl rfl) (k:=?_)
       refine oP rfl (P_ixs ((rowI r (h + p.p3) x.frm)) rfl ty_sl_28 rfl rfl (by first | rfl | omega) (by omega)) (k:=oP rfl (pG ty_fl_175_3) (k:=?_))
       refine O_new rfl rfl (W_setRec (sz := 4) (j := 3) (z := addAmt x.amt (relAt (midR r (h + p.p3) x.frm h) (rowI r (h + p.p3) x.frm))) rfl rfl rfl rfl ty_sc_23 rfl (hM) rfl (by decide) rfl .h2 (K_new (O_nil ?_)))
       refine St.env (cE 5 rfl (cE 7 rfl (cE 13 rfl (cE 14 rfl (cE 15 rfl .nil))))) (Q_block ?_)
       exact Q_meet (fb, l.length, fc, some ⟨rbb, 0, none⟩, hn_, hc_) (by show (l.length) = (accK (⟨l, r, bu, su⟩ : Led) x).length ∧ (l.length) ≤ (fc) ∧ (hn_) = (relK (⟨l, r, bu, su⟩ : Led) p h x).length ∧ (hn_) ≤ (hc_); exact ⟨by rw [haK, List.length_set], hfc, by rw [hrK]; unfold relP; rw [List.length_set]; exact hhn, hhc⟩) (by repeat (first | exact .nil | refine .cons rfl ?_ | refine .consE rfl (by first | rfl | (congr 1; omega) | (congr 1; push_cast; omega)) ?_)) (Weak.keep (Weak.trans (ownS.to1 rfl (by rw [haK])) (Weak.keep (ownS.to1 rfl (by rw [hrK]; rfl)))))
     ·skip
      have k3 := of_decide_eq_false k3
      refine lA (k:=?_)
      refine lQ (cE 4 rfl (cE 5 rfl (cE 7 rfl (cE 10 rfl (cE 13 rfl (cE 14 rfl (cE 15 rfl (cE 17 rfl (cE 66 rfl (cE 109 rfl .nil)))))))))) (kF (k:=rT (lP pEq (k:=?_))))
      refine E_true (t := 159) rfl (decide_eq_true (by have := hF.k1; have := hF.k2; omega)) (lA (k:=?_))
      refine lQ (cE 5 rfl (cE 7 rfl (cE 13 rfl (cE 14 rfl (cE 15 rfl (cE 17 rfl (cE 158 rfl .nil))))))) (kT (k:=?_))
      have k4 : x.kind = 4 := by have := hF.k1; have := hF.k2; omega
      have haK : accK (⟨l, r, bu, su⟩ : Led) x = l.set (spotI l x.frm) (unjail (payer x (senderA (⟨l, r, bu, su⟩ : Led) x))) := by unfold accK; rw [if_neg k1, if_neg k2, if_neg k3, if_pos k4]
      have hrK : relK (⟨l, r, bu, su⟩ : Led) p h x = r := by unfold relK; rw [if_neg (by omega)]
      refine rR (lMv (k:=lP pN (k:=lP (pG ty_fl_50_4) (k:=?_))))
      refine lO (W_setRec (sz := 5) (j := 4) (z := unjail (payer x (senderA (⟨l, r, bu, su⟩ : Led) x))) rfl rfl rfl rfl ty_sc_4 rfl (hP) rfl (by decide) rfl .h1 ?_)
      refine lE (cE 5 rfl (cE 7 rfl (cE 13 rfl (cE 14 rfl (cE 15 rfl .nil))))) (Q_block ?_)
      exact Q_meet (fb, l.length, fc, vb, r.length, vc) (by show (l.length) = (accK (⟨l, r, bu, su⟩ : Led) x).length ∧ (l.length) ≤ (fc) ∧ (r.length) = (relK (⟨l, r, bu, su⟩ : Led) p h x).length ∧ (r.length) ≤ (vc); exact ⟨by rw [haK, List.length_set], hfc, by rw [hrK], hvc⟩) (by repeat (first | exact .nil | refine .cons rfl ?_ | refine .consE rfl (by first | rfl | (congr 1; omega) | (congr 1; push_cast; omega)) ?_)) (Weak.keep (Weak.trans (ownS.to1 rfl (by rw [haK]; exact congrArg _ (List.set_set ..))) (Weak.keep (ownS.to1 rfl (by rw [hrK])))))
  ·rintro ⟨ab, an, ac, rb, rn, rcap⟩ hinv
   replace hinv : an = (accK (⟨l, r, bu, su⟩ : Led) x).length ∧ an ≤ ac ∧ rn = (relK (⟨l, r, bu, su⟩ : Led) p h x).length ∧ rn ≤ rcap := hinv
   show St (cx gl) _ _ [REG q sg rc, ownS 50 5 (.slice (some ⟨ab, 0, none⟩) an ac) (an) (Go.Proofs.YtcngmkjdpoiiaaaGreatDoor.rc ((accK (⟨l, r, bu, su⟩ : Led) x))), ownS 175 4 (.slice rb rn rcap) (rn) (Go.Proofs.YtcngmkjdpoiiaaaGreatDoor.rc ((relK (⟨l, r, bu, su⟩ : Led) p h x))), blk b14 (ledV (.slice none 0 0) (.slice none 0 0) 0 0) 30, blk b13 x.cells 67, blk b10 p.cells 25, blk b7 (ledV (.slice (some ⟨ab, 0, none⟩) an ac) (.slice rb rn rcap) (bu) su) 30] _
   obtain ⟨han, hac, hrn, hrc⟩ := hinv
   have hAle := accK_le (⟨l, r, bu, su⟩ : Led) x
   have hAle' : (accK (⟨l, r, bu, su⟩ : Led) x).length ≤ l.length + 1 := hAle
   refine rS (rT (lV (vG ty_ag_30 .h6) (k:=lMv (k:=?_))))
   refine lO (W_callV rfl rfl rfl rfl fn_ca_83 ((by have h9 := place_ok (gl := gl) (some ⟨ab, 0, none⟩) ac (accK (⟨l, r, bu, su⟩ : Led) x) (by rw [← han]; exact hac) (by omega) (.slice rb rn rcap) rfl bu su by_; rw [← han] at h9; exact h9)) ((Sn.own .h1 rfl).rw_) (lA (k:=?_)))
   refine lQ (cE 7 rfl (cE 13 rfl (cE 14 rfl (cE 15 rfl (cE 22 rfl .nil))))) (rT (lMv (k:=lP pGe (k:=?_))))
   refine lQ (cE 7 rfl (cE 13 rfl (cE 14 rfl (cE 15 rfl (cE 22 rfl (cE 167 rfl .nil)))))) ?_
   refine R_condP rfl (fun hq => ?_) (fun hq => ?_)
   ·skip
    have hB : spotB (accK (⟨l, r, bu, su⟩ : Led) x) by_ = true := by cases h9 : spotB (accK (⟨l, r, bu, su⟩ : Led) x) by_ with | true => rfl | false => exfalso; rw [show placeI (accK (⟨l, r, bu, su⟩ : Led) x) by_ = -1 by unfold placeI; rw [if_neg (by rw [h9]; decide)]] at hq; omega
    have hS := accAt_get (spotB_lt hB)
    have hBl : spotI (accK (⟨l, r, bu, su⟩ : Led) x) by_ < an := by rw [han]; exact spotB_lt hB
    have hAp : (appL rc ch (⟨l, r, bu, su⟩ : Led) p h by_ x) = ⟨(accK (⟨l, r, bu, su⟩ : Led) x).set (spotI (accK (⟨l, r, bu, su⟩ : Led) x) by_) (addBal x.fee (accAt (accK (⟨l, r, bu, su⟩ : Led) x) (spotI (accK (⟨l, r, bu, su⟩ : Led) x) by_))), (relK (⟨l, r, bu, su⟩ : Led) p h x), bu, su⟩ := by unfold appL; rw [if_pos he]; unfold appP; rw [if_pos hB]
    have hlen : an = (appL rc ch (⟨l, r, bu, su⟩ : Led) p h by_ x).acc.length := by rw [hAp]; show an = (List.set _ _ _).length; rw [List.length_set]; exact han
    have hlen2 : rn = (appL rc ch (⟨l, r, bu, su⟩ : Led) p h by_ x).rel.length := by rw [hAp]; exact hrn
    refine E_as (t := 22) (v' := .int .i64 ((spotI (accK (⟨l, r, bu, su⟩ : Led) x) by_ : Nat) : Int)) rfl (by unfold placeI; rw [if_pos hB]) ?_
    refine R_open [(0, 0), (1, 1), (2, 0), (3, 0), (4, 0), (5, 1), (6, 0), (7, 1), (8, 0), (9, 0), (10, 0), (11, 3)] mixed (by kernel_rfl) (QOk.then QOk.body) (oP rfl (pF ty_fl_30_0) (k:=oV rfl (vB ty_sc_22 .h6) (k:=oP rfl pM (k:=?_))))
    refine oP rfl (P_ixs (spotI (accK (⟨l, r, bu, su⟩ : Led) x) by_) rfl ty_sl_22 rfl rfl (by first | rfl | omega) (by omega)) (k:=oP rfl (pG ty_fl_50_1) (k:=?_))
    refine oV rfl (V_load rfl rfl ty_sc_23 (rd_rc (rds_own .h1) hS rfl)) (k:=oP rfl (pF ty_fl_67_4) (k:=oV rfl (vB ty_sc_23 .h4) (k:=?_)))
    refine oP rfl (P_add rfl rfl rfl) (k:=?_)
    refine oP rfl (P_ixs (spotI (accK (⟨l, r, bu, su⟩ : Led) x) by_) rfl ty_sl_22 rfl rfl (by first | rfl | omega) (by omega)) (k:=oP rfl (pG ty_fl_50_1) (k:=?_))
    refine O_new rfl rfl (W_setRec (sz := 5) (j := 1) (z := addBal x.fee (accAt (accK (⟨l, r, bu, su⟩ : Led) x) (spotI (accK (⟨l, r, bu, su⟩ : Led) x) by_))) rfl rfl rfl rfl ty_sc_23 rfl (hS) rfl (by decide) rfl .h1 (K_new (O_nil ?_)))
    refine St.env (cE 7 rfl (cE 14 rfl (cE 15 rfl .nil))) (qT (rT (lV (vG ty_ag_30 .h6) (k:=?_))))
    refine lO (W_storeAll rfl rfl rfl rfl ty_ag_30 (rfl) (ledV_one _ _ _ _ rfl rfl) .h3 (rfl) (lA (k:=?_)))
    refine lQ (cE 14 rfl (cE 15 rfl .nil)) (R_ret ?_)
    exact R_end (rs2 := _) rfl rfl (.cell rfl (Rds.loadVar ty_ag_30 (Rds.blk .h3) rfl) (.tmp rfl .nil)) (⟨.slice (some ⟨ab, 0, none⟩) an ac, .slice rb rn rcap, by rw [hAp, he]; rfl, rfl⟩) (Weak.trans (Weak.pick (p := [_]) (Weak.pick (p := [_]) (Weak.keep (Weak.nil _)))) (Weak.trans (ownS.to1 hlen (by rw [hAp])) (Weak.keep (ownS.to1 hlen2 (by rw [hAp])))))
   ·skip
    have hB : spotB (accK (⟨l, r, bu, su⟩ : Led) x) by_ = false := by cases h9 : spotB (accK (⟨l, r, bu, su⟩ : Led) x) by_ with | false => rfl | true => exfalso; rw [show placeI (accK (⟨l, r, bu, su⟩ : Led) x) by_ = (spotI (accK (⟨l, r, bu, su⟩ : Led) x) by_ : Int) by unfold placeI; rw [if_pos h9]] at hq; omega
    have hAp : (appL rc ch (⟨l, r, bu, su⟩ : Led) p h by_ x) = ⟨(accK (⟨l, r, bu, su⟩ : Led) x), (relK (⟨l, r, bu, su⟩ : Led) p h x), w64 (bu + x.fee), su⟩ := by unfold appL; rw [if_pos he]; unfold appP; rw [if_neg (by rw [hB]; decide)]
    have hlen : an = (appL rc ch (⟨l, r, bu, su⟩ : Led) p h by_ x).acc.length := by rw [hAp]; exact han
    have hlen2 : rn = (appL rc ch (⟨l, r, bu, su⟩ : Led) p h by_ x).rel.length := by rw [hAp]; exact hrn
    refine rR (lP (pF ty_fl_30_2) (k:=lV (vB ty_sc_23 .h6) (k:=lP (pF ty_fl_67_4) (k:=lV (vB ty_sc_23 .h4) (k:=?_)))))
    refine lP (P_add rfl rfl rfl) (k:=lP (pF ty_fl_30_2) (k:=?_))
    refine lO (W_store rfl rfl rfl rfl ty_sc_23 rfl .h6 (by simp [ledV]) ?_)
    refine lQ (cE 7 rfl (cE 14 rfl (cE 15 rfl .nil))) (rT (lV (vG ty_ag_30 .h6) (k:=?_)))
    refine lO (W_storeAll rfl rfl rfl rfl ty_ag_30 (rfl) (ledV_one _ _ _ _ rfl rfl) .h3 (rfl) (lA (k:=?_)))
    refine lQ (cE 14 rfl (cE 15 rfl .nil)) (R_ret ?_)
    exact R_end (rs2 := _) rfl rfl (.cell rfl (Rds.loadVar ty_ag_30 (Rds.blk .h3) rfl) (.tmp rfl .nil)) (⟨.slice (some ⟨ab, 0, none⟩) an ac, .slice rb rn rcap, by rw [hAp, he]; rfl, rfl⟩) (Weak.trans (Weak.pick (p := [_]) (Weak.pick (p := [_]) (Weak.keep (Weak.nil _)))) (Weak.trans (ownS.to1 hlen (by rw [hAp])) (Weak.keep (ownS.to1 hlen2 (by rw [hAp])))))
end Go.Proofs.YtcngmkjdpoiiaaaGreatDoor

/- The document's registry. Printed by gen.py. -/
set_option maxRecDepth 100000
namespace Go.Proofs.YtcngmkjdpoiiaaaGreatDoor
open Go Go.RowKit Go.Proofs
def RecOK (rc : List Rcd) : Prop := ∀ x ∈ rc, IsB x.2 ∧ x.2.length ≤ 1048576
theorem RecOK.snoc {rc : List Rcd} {x : Rcd} (h : RecOK rc) (h1 : IsB x.2) (h2 : x.2.length ≤ 1048576) : RecOK (rc ++ [x]) := fun y hy => by
 rcases List.mem_append.1 hy with hy | hy
 ·exact h y hy
 ·simp only [List.mem_singleton] at hy; subst hy; exact ⟨h1, h2⟩
section
variable {C : Cx} {F : Fx} {rs : List HP}
end
end Go.Proofs.YtcngmkjdpoiiaaaGreatDoor

/- The world of the statements: enters, signed. Printed by gen.py. -/
set_option maxRecDepth 100000
namespace Go.Proofs.YtcngmkjdpoiiaaaGreatDoor
open Go Go.RowKit Go.Proofs
/-- A step of a script. -/
structure Stp where
 kind : Int
 tx : Tx
 wrong : Bool
 h : Int
 b : Int
 a : Int
 n : Int
def Stp.cells (x : Stp) : List Value := [.int .i64 x.kind] ++ x.tx.cells ++ [.bool x.wrong, .int .u64 x.h, .int .u64 x.b, .int .u64 x.a, .int .u64 x.n]
structure Stp.ok (x : Stp) : Prop where
 tx : x.tx.ok
 h : u64 x.h
 b : u64 x.b
 a : u64 x.a
 n : u64 x.n
/-- A step whose transaction's cells are as many as they are. -/
structure StpR where
 s : Stp
 ok : s.ok
theorem Stp.len {x : Stp} (h : x.ok) : x.cells.length = 28 := by unfold Stp.cells; rw [List.length_append, List.length_append, h.tx.cellsLen]; rfl
theorem Stp.one (x : Stp) : ∀ v ∈ x.cells, v.oneCell' = true := by
 intro v hv; unfold Stp.cells at hv
 rcases List.mem_append.1 hv with hv | hv
 ·rcases List.mem_append.1 hv with hv | hv
  ·simp only [List.mem_cons, List.not_mem_nil, or_false] at hv; subst hv; rfl
  ·exact x.tx.one v hv
 ·simp only [List.mem_cons, List.not_mem_nil, or_false] at hv; rcases hv with rfl | rfl | rfl | rfl | rfl <;> rfl
instance : Rec StpR := ⟨fun x => x.s.cells, 28, fun x => Stp.len x.ok, fun x => x.s.one⟩
def ptrs (l : List (Int × Nat)) : List Value := l.map fun x => .pointer (some ⟨x.2, 0, none⟩)
theorem ptrs_at {l : List (Int × Nat)} {i : Nat} {x : Int × Nat} (h : l[i]? = some x) : (ptrs l)[i]? = some (.pointer (some ⟨x.2, 0, none⟩)) := by unfold ptrs; rw [List.getElem?_map, h]; rfl
/-- The two registries know the same. -/
structure WOk (es : List Int) (sg tg : List (Int × Nat)) : Prop where
 sg : sg.map (·.1) = es
 tg : tg.map (·.1) = es
 nd : es.Nodup
theorem WOk.nil : WOk [] [] [] := ⟨rfl, rfl, List.nodup_nil⟩
theorem WOk.snoc {es : List Int} {sg tg : List (Int × Nat)} (h : WOk es sg tg) {a : Int} (ha : a ∉ es) (s t : Nat) : WOk (es ++ [a]) (sg ++ [(a, s)]) (tg ++ [(a, t)]) :=
 ⟨by rw [List.map_append, h.sg]; rfl, by rw [List.map_append, h.tg]; rfl, List.nodup_append.2 ⟨h.nd, List.nodup_cons.2 ⟨List.not_mem_nil, List.nodup_nil⟩, fun x hx y hy e => by rw [List.mem_singleton.1 hy] at e; exact ha (e ▸ hx)⟩⟩
end Go.Proofs.YtcngmkjdpoiiaaaGreatDoor

/- The world of the statements: signed. Printed by gen.py. -/
set_option maxRecDepth 100000
namespace Go.Proofs.YtcngmkjdpoiiaaaGreatDoor
open Go Go.RowKit Go.Proofs
/-- A transaction with another seal. -/
def withSeal (x : Tx) (s : List Int) : Tx := ⟨x.kind, x.frm, x.to, x.amt, x.fee, x.non, s⟩
theorem withSeal_cells (x : Tx) (s : List Int) (h1 : x.sg16.length = 16) (h2 : s.length = 16) : splice x.cells 6 (ints .u8 s) = (withSeal x s).cells := by
 have e := splice_at (A := [Value.int .i64 x.kind, .int .u64 x.frm, .int .u64 x.to, .int .u64 x.amt, .int .u64 x.fee, .int .u64 x.non]) (B := ints .u8 x.sg16) (D := []) (news := ints .u8 s) (by rw [ints_length, ints_length, h1, h2])
 rw [List.append_nil, List.append_nil] at e
 exact e
theorem sealH_b (a : Int) (xs : List Int) : IsB (sealH a xs) := fun y hy => isB_sha _ y (List.mem_of_mem_take hy)
end Go.Proofs.YtcngmkjdpoiiaaaGreatDoor

/- Plain: two transactions of unlike senders, their accounts. Printed by gen.py. -/
set_option maxRecDepth 100000
namespace Go.Proofs.YtcngmkjdpoiiaaaGreatDoor
open Go Go.RowKit Go.Proofs
/-- The account of an address is changed; where there is none, one of nothing is. -/
def updR : List Acc → Int → (Acc → Acc) → List Acc
 | [], a, f => [f ⟨a, 0, 0, 0, false⟩]
 | x :: l, a, f => if x.a = a then f x :: l else if a < x.a then f ⟨a, 0, 0, 0, false⟩ :: x :: l else x :: updR l a f
/-- A change keeps addresses. -/
def Keeps (f : Acc → Acc) : Prop := ∀ x, (f x).a = x.a
/-- Addresses rise. -/
def Up (l : List Acc) : Prop := l.Pairwise fun x y => x.a < y.a
theorem updR_mem {f : Acc → Acc} {a : Int} : ∀ {l : List Acc} {y : Acc}, y ∈ updR l a f → y ∈ l ∨ ∃ x, (x ∈ l ∨ x = ⟨a, 0, 0, 0, false⟩) ∧ x.a = a ∧ y = f x
 | [], y, h => .inr ⟨_, .inr rfl, rfl, by simpa [updR] using h⟩
 | x :: l, y, h => by
  rw [updR] at h
  split at h
  ·rcases List.mem_cons.1 h with rfl | h
   ·exact .inr ⟨x, .inl (List.mem_cons_self ..), by assumption, rfl⟩
   ·exact .inl (List.mem_cons_of_mem _ h)
  ·split at h
   ·rcases List.mem_cons.1 h with rfl | h
    ·exact .inr ⟨_, .inr rfl, rfl, rfl⟩
    ·exact .inl h
   ·rcases List.mem_cons.1 h with rfl | h
    ·exact .inl (List.mem_cons_self ..)
    ·rcases updR_mem h with h | ⟨z, h1, h2, h3⟩
     ·exact .inl (List.mem_cons_of_mem _ h)
     ·exact .inr ⟨z, h1.imp (List.mem_cons_of_mem _) id, h2, h3⟩
theorem updR_up {f : Acc → Acc} (hf : Keeps f) {a : Int} : ∀ {l : List Acc}, Up l → Up (updR l a f)
 | [], _ => List.pairwise_singleton ..
 | x :: l, h => by
  obtain ⟨h1, h2⟩ := List.pairwise_cons.1 h
  rw [updR]
  split
  ·exact List.pairwise_cons.2 ⟨fun y hy => by rw [hf]; exact h1 y hy, h2⟩
  ·split
   ·refine List.pairwise_cons.2 ⟨fun y hy => ?_, h⟩
    rw [hf]
    rcases List.mem_cons.1 hy with rfl | hy
    ·assumption
    ·have := h1 y hy; show a < y.a; omega
   ·refine List.pairwise_cons.2 ⟨fun y hy => ?_, updR_up hf h2⟩
    rcases updR_mem hy with hy | ⟨z, _, e1, rfl⟩
    ·exact h1 y hy
    ·rw [hf, e1]; omega
theorem updR_ok {f : Acc → Acc} (hf : ∀ x, x.ok → (f x).ok) {a : Int} (ha : u64 a) {l : List Acc} (h : ∀ x ∈ l, x.ok) : ∀ x ∈ updR l a f, x.ok := fun y hy => by
 rcases updR_mem hy with hy | ⟨z, hz, _, rfl⟩
 ·exact h y hy
 ·refine hf z (hz.elim (h z) fun e => ?_)
  subst e; exact ⟨ha, ⟨Int.le_refl 0, show (0 : Int) ≤ 18446744073709551615 by decide⟩, ⟨Int.le_refl 0, show (0 : Int) ≤ 18446744073709551615 by decide⟩, ⟨Int.le_refl 0, show (0 : Int) ≤ 18446744073709551615 by decide⟩⟩
theorem updR_has {f : Acc → Acc} (hf : Keeps f) {a b : Int} : ∀ {l : List Acc}, (∃ x ∈ l, x.a = b) → ∃ x ∈ updR l a f, x.a = b
 | x :: l, ⟨y, hy, e⟩ => by
  rw [updR]
  split
  ·rcases List.mem_cons.1 hy with rfl | hy
   ·exact ⟨_, List.mem_cons_self .., by rw [hf, e]⟩
   ·exact ⟨y, List.mem_cons_of_mem _ hy, e⟩
  ·split
   ·exact ⟨y, List.mem_cons_of_mem _ hy, e⟩
   ·rcases List.mem_cons.1 hy with rfl | hy
    ·exact ⟨y, List.mem_cons_self .., e⟩
    ·obtain ⟨z, hz, e2⟩ := updR_has hf (l := l) ⟨y, hy, e⟩
     exact ⟨z, List.mem_cons_of_mem _ hz, e2⟩
 | [], ⟨_, hy, _⟩ => by cases hy
theorem spot_up {l : List Acc} (h : Up l) (a : Int) : (∀ i, i < spotI l a → (accAt l i).a < a) ∧ (∀ i, spotI l a ≤ i → i < l.length → a ≤ (accAt l i).a) := by
 obtain ⟨h1, h2⟩ := bsN_spec (p := fun i => decide ((accAt l i).a < a)) l.length 0 l.length (Nat.le_refl _) (Nat.zero_le _) fun i j _ hij hj hp => by
  have h3 := List.pairwise_iff_getElem.1 h i j (by omega) hj hij
  rw [accAt_of (List.getElem?_eq_getElem (show i < l.length by omega))]
  rw [accAt_of (List.getElem?_eq_getElem hj)] at hp
  exact decide_eq_true (Int.lt_trans h3 (of_decide_eq_true hp))
 exact ⟨fun i hi => of_decide_eq_true (h1 i (Nat.zero_le _) hi), fun i hi hn => Int.not_lt.1 (of_decide_eq_false (h2 i hi hn))⟩
theorem upd_set {f : Acc → Acc} {a : Int} : ∀ {l : List Acc} {i : Nat}, (∀ j, j < i → (accAt l j).a < a) → i < l.length → (accAt l i).a = a → l.set i (f (accAt l i)) = updR l a f
 | [], i, _, h, _ => by simp at h
 | x :: l, 0, _, _, e => by rw [updR, if_pos (show x.a = a from e)]; rfl
 | x :: l, i + 1, h, hi, e => by
  have h0 : x.a < a := h 0 (Nat.succ_pos _)
  rw [updR, if_neg (by omega), if_neg (by omega)]
  exact congrArg (x :: ·) (upd_set (l := l) (i := i) (fun j hj => h (j + 1) (by omega)) (by simpa using hi) e)
theorem upd_ins {f : Acc → Acc} {a : Int} : ∀ {l : List Acc} {i : Nat}, (∀ j, j < i → (accAt l j).a < a) → (∀ j, i ≤ j → j < l.length → a < (accAt l j).a) → i ≤ l.length → insL l i (f ⟨a, 0, 0, 0, false⟩) = updR l a f
  | [], i, _, _, h => by obtain rfl : i = 0 := by simpa using h
                         rfl
  | x :: l, 0, _, h, _ => by
    have h0 : a < x.a := h 0 (Nat.le_refl _) (Nat.succ_pos _)
    rw [updR, if_neg (by omega), if_pos h0]; rfl
  | x :: l, i + 1, h, h2, hi => by
    have h0 : x.a < a := h 0 (Nat.succ_pos _)
    rw [updR, if_neg (by omega), if_neg (by omega)]
    exact congrArg (x :: ·) (upd_ins (l := l) (i := i) (fun j hj => h (j + 1) (by omega)) (fun j h3 h4 => h2 (j + 1) (by omega) (by simpa using h4)) (by simpa using hi))
theorem spotB_at {l : List Acc} {a : Int} (h : spotB l a = true) : spotI l a < l.length ∧ (accAt l (spotI l a)).a = a := by unfold spotB at h; rwa [Bool.and_eq_true, decide_eq_true_eq, decide_eq_true_eq] at h
theorem upd_yes {l : List Acc} (h : Up l) {a : Int} (hb : spotB l a = true) (f : Acc → Acc) : l.set (spotI l a) (f (accAt l (spotI l a))) = updR l a f :=
 upd_set (spot_up h a).1 (spotB_at hb).1 (spotB_at hb).2
theorem spotB_has {l : List Acc} (h : Up l) {a : Int} : spotB l a = true ↔ ∃ x ∈ l, x.a = a := by
 refine ⟨fun hb => ⟨_, accAt_mem (spotB_at hb).1, (spotB_at hb).2⟩, fun ⟨x, hx, e⟩ => ?_⟩
 obtain ⟨i, hi, e2⟩ := List.mem_iff_getElem.1 hx
 have e3 : (accAt l i).a = a := by rw [accAt_of (List.getElem?_eq_getElem hi), e2]; exact e
 obtain ⟨h1, h2⟩ := spot_up h a
 have h4 : spotI l a ≤ i := Nat.not_lt.1 fun h5 => by have := h1 i h5; omega
 have h5 := h2 _ (Nat.le_refl _) (show spotI l a < l.length by omega)
 unfold spotB
 rw [Bool.and_eq_true, decide_eq_true_eq, decide_eq_true_eq]
 refine ⟨by omega, ?_⟩
 rcases Nat.lt_or_ge (spotI l a) i with h6 | h6
 ·have h7 := List.pairwise_iff_getElem.1 h _ i (by omega) hi h6
  rw [← accAt_of (List.getElem?_eq_getElem (show spotI l a < l.length by omega)), ← accAt_of (List.getElem?_eq_getElem hi)] at h7
  omega
 ·rw [show spotI l a = i by omega]; exact e3
theorem upd_no {l : List Acc} (h : Up l) {a : Int} (hb : spotB l a = false) (f : Acc → Acc) : insL l (spotI l a) (f ⟨a, 0, 0, 0, false⟩) = updR l a f := by
 refine upd_ins (spot_up h a).1 (fun j h1 h2 => ?_) (spotI_le l a)
 have h3 := (spot_up h a).2 j h1 h2
 rcases Int.lt_or_eq_of_le h3 with h4 | h4
 ·exact h4
 ·have := (spotB_has h).2 ⟨_, accAt_mem h2, h4.symm⟩
  rw [hb] at this; cases this
theorem accFine_up {l : List Acc} (h : AccFine l) : Up l := List.pairwise_iff_getElem.2 fun i j hi hj hij => by
 have := h.mono i j hij hj
 rwa [accAt_of (List.getElem?_eq_getElem hi), accAt_of (List.getElem?_eq_getElem hj)] at this
/-! ### What a transaction does -/
theorem w64_eq (x : Int) : w64 x = x % 18446744073709551616 := by unfold w64; simp only [IntKind.wrap, IntKind.signed, IntKind.bits, Bool.false_and, Bool.false_eq_true, if_false]; rfl
theorem w64_id {x : Int} (h : u64 x) : w64 x = x := by obtain ⟨h1, h2⟩ := h; rw [w64_eq]; omega
theorem w64_ok (x : Int) : u64 (w64 x) := by rw [w64_eq]; exact ⟨by omega, by omega⟩
/-- What the sender's account becomes. -/
def payK (x : Tx) (A : Acc) : Acc := ⟨A.a, w64 (A.bal + -costI x), if x.kind = 2 then w64 (A.bond + x.amt) else if x.kind = 3 then w64 (A.bond - x.amt) else A.bond, w64 (A.non + 1), if x.kind = 4 then false else A.jail⟩
def toK (x : Tx) (l : List Acc) : List Acc := if x.kind = 1 then updR l x.to (addBal x.amt) else l
theorem keeps_pay (x : Tx) : Keeps (payK x) := fun _ => rfl
theorem keeps_add (n : Int) : Keeps (addBal n) := fun _ => rfl
theorem ok_add (n : Int) (x : Acc) (h : x.ok) : (addBal n x).ok := ⟨h.1, w64_ok _, h.2.2.1, h.2.2.2⟩
theorem ok_pay (x : Tx) (A : Acc) (h : A.ok) : (payK x A).ok := ⟨h.1, w64_ok _, by show u64 (if _ then _ else _); split; exact w64_ok _; split; exact w64_ok _; exact h.2.2.1, w64_ok _⟩
theorem pay_mid {l : List Acc} (h : Up l) (a n : Int) : payP l a n = updR l a (addBal n) := by
 unfold payP midA
 cases hb : spotB l a with
 | true => rw [if_pos rfl]; exact upd_yes h hb _
 | false =>
  rw [if_neg (by decide), ← upd_no h hb]
  have hi := spotI_le l a
  have e : (insL l (spotI l a) ⟨a, 0, 0, 0, false⟩)[spotI l a]? = some ⟨a, 0, 0, 0, false⟩ := by
   unfold insL; rw [List.getElem?_append_right (by rw [List.length_take]; omega), List.length_take, Nat.min_eq_left hi, Nat.sub_self]; rfl
  rw [accAt_of e]
  unfold insL
  rw [List.set_append_right _ _ (by rw [List.length_take]; omega), List.length_take, Nat.min_eq_left hi, Nat.sub_self]; rfl
/-- Behind a transaction that Check lets, the accounts are these. -/
theorem accK_eq {rc : List Rcd} {ch : List Int} {L : Led} {p : Par} {h : Int} {x : Tx} (hu : Up L.acc) (hok : ∀ y ∈ L.acc, y.ok) (hx : x.ok) (hc : ChkFine rc ch L p h x) : accK L x = toK x (updR L.acc x.frm (payK x)) := by
 have hF := txFine_of (txbE_fine hc.tx).2
 have hlt := (spotB_at hc.frm).1
 have hA : (senderA L x).ok := hok _ (accAt_mem hlt)
 obtain ⟨⟨ha0, ha1⟩, ⟨hb0, hb1⟩, ⟨hd0, hd1⟩, ⟨hn0, hn1⟩⟩ := hA
 have hcost : 0 ≤ costI x := by unfold costI; have := hx.fee.1; have := hx.amt.1; split <;> omega
 have hbal := hc.bal
 have hn := hc.non
 have hn2 := hc.top
 have e1 : w64 ((senderA L x).bal + -costI x) = (senderA L x).bal - costI x := w64_id ⟨by omega, by omega⟩
 have e2 : w64 ((senderA L x).non + 1) = (senderA L x).non + 1 := w64_id ⟨by omega, by omega⟩
 have key : ∀ (f : Acc → Acc), f (senderA L x) = payK x (senderA L x) → L.acc.set (spotI L.acc x.frm) (f (senderA L x)) = updR L.acc x.frm (payK x) := fun f hf => by rw [hf]; exact upd_yes hu hc.frm _
 unfold accK toK
 by_cases k1 : x.kind = 1
 ·rw [if_pos k1, if_pos k1]
  have := key (payer x) (by unfold payer payK; rw [e1, e2, if_neg (by omega), if_neg (by omega), if_neg (by omega)])
  unfold paidL
  rw [this]
  exact pay_mid (updR_up (keeps_pay _) hu) _ _
 ·rw [if_neg k1, if_neg k1]
  by_cases k2 : x.kind = 2
  ·rw [if_pos k2]; exact key (fun A => addBond x.amt (payer x A)) (by unfold addBond payer payK; simp only; rw [e1, e2, if_pos k2, if_neg (by omega)])
  ·rw [if_neg k2]
   by_cases k3 : x.kind = 3
   ·rw [if_pos k3]
    have hkd := hc.kind
    have hsub : x.amt ≤ (senderA L x).bond := by unfold kindE at hkd; rw [if_neg k1, if_pos k3] at hkd; split at hkd <;> omega
    exact key (fun A => subBond x.amt (payer x A)) (by unfold subBond payer payK; simp only; rw [e1, e2, if_neg k2, if_pos k3, if_neg (by omega), w64_id ⟨by omega, by have := hx.amt.1; omega⟩])
   ·have k4 : x.kind = 4 := by have := hF.k1; have := hF.k2; omega
    rw [if_neg k3, if_pos k4]
    exact key (fun A => unjail (payer x A)) (by unfold unjail payer payK; simp only; rw [e1, e2, if_neg k2, if_neg k3, if_pos k4])
end Go.Proofs.YtcngmkjdpoiiaaaGreatDoor

/- The reference: accounts, sums, rows, places. Printed by gen.py. -/
set_option maxRecDepth 100000
namespace Go.Proofs.YtcngmkjdpoiiaaaGreatDoor
open Go Go.RowKit Go.Proofs
def findA (l : List Acc) (a : Int) : Acc := if idxG (isAc a) l < 0 then acc0 else accAt l (idxG (isAc a) l).toNat
theorem findA_at {l : List Acc} {a : Int} {i : Nat} (h : idxG (isAc a) l = (i : Int)) : findA l a = accAt l i := by
 unfold findA; rw [if_neg (by omega), h]; rfl
end Go.Proofs.YtcngmkjdpoiiaaaGreatDoor

/- Plain: turning, with the rows. Printed by gen.py. -/
set_option maxRecDepth 100000
namespace Go.Proofs.YtcngmkjdpoiiaaaGreatDoor
open Go Go.RowKit Go.Proofs
theorem app_len (L : Led) (p : Par) (h b : Int) (x : Tx) : (appP L p h b x).acc.length ≤ L.acc.length + 1 ∧ (appP L p h b x).rel.length ≤ L.rel.length + 1 := by
 have h1 := accK_le L x
 have h2 := relK_le L p h x
 unfold appP
 split
 ·exact ⟨by show (List.set _ _ _).length ≤ _; rw [List.length_set]; exact h1, h2⟩
 ·exact ⟨h1, h2⟩
theorem appL_zero {rc : List Rcd} {ch : List Int} {L : Led} {p : Par} {h b : Int} {x : Tx} (c : chkE rc ch L p h x = 0) : appL rc ch L p h b x = appP L p h b x := if_pos c
end Go.Proofs.YtcngmkjdpoiiaaaGreatDoor

/- The twenty-third part of the program logic: what is cleared behind an owned slice is no more its own. -/
namespace Go.Proofs.YtcngmkjdpoiiaaaGreatDoor
open Go Go.RowKit
/-- The cells of a type's zero are single. -/
def zoneB (P : Program) (e : Nat) : Bool := match (P.info? e).bind (·.zero) with
 | some z => z.cells.all (·.oneCell')
 | none => false
theorem mem_zeroCells {z : Array Value} {n : Nat} {v : Value} (h : v ∈ (Builtin.zeroCells z n).toList) : v ∈ z := by
 unfold Builtin.zeroCells at h
 rw [Array.toList_map, List.mem_map] at h
 obtain ⟨i, hi, rfl⟩ := h
 have hlt : i < n * z.size := by simpa using hi
 have hz : 0 < z.size := by
  rcases Nat.eq_zero_or_pos z.size with h0 | h0
  ·rw [h0, Nat.mul_zero] at hlt; omega
  ·exact h0
 have hm : i % z.size < z.size := Nat.mod_lt _ hz
 rw [getElem!_pos z (i % z.size) hm]
 exact Array.getElem_mem hm
section
variable {C : Cx} {F : Fx} {l : Env} {rs rs' : List HP} {K : Act → World → Prop} {o : Oper} {Q : Exit → Act → World → Prop}
theorem splice_tail {cs junk zs : List Value} {i : Nat} (h : i + zs.length = cs.length) : splice (cs ++ junk) i zs = cs.take i ++ (zs ++ junk) := by
 unfold splice
 rw [List.take_append_of_le_length (by omega), List.drop_append, List.drop_of_length_le (by omega), List.nil_append, show i + zs.length - cs.length = 0 by omega, List.drop_zero, List.append_assoc]
theorem W_clearCut {t e sz bytes b i n c c2 T : Nat} {x : Operand} {cs : List Value} (ho : o.op = .call { callee := .builtin .clear, args := #[x], argTypes := #[t] }) (hd : o.dst = none) (ht : slB C.P t e sz bytes = true) (hap : apB C.P e sz = true) (hzo : zoneB C.P e = true)
  (hx : ev l x = some (.slice (some ⟨b, i * sz, none⟩) (n - i) c2)) (hin : i ≤ n) (m : Has rs (ownS T sz (.slice (some ⟨b, 0, none⟩) n c) n cs) (ownS T sz (.slice (some ⟨b, 0, none⟩) i c) i (cs.take (i * sz))) rs') (k : St C F l rs' K) : OpW C F l rs o K Q := fun a w r nw => by
 obtain ⟨h, s, mv⟩ := nw
 obtain ⟨xx, c', own, dj, rfl, back⟩ := Sep.take m s
 have hl := own.1
 rcases own.2 with ⟨⟨b0, e0⟩, hn0, rfl⟩ | ⟨b', cap, junk, e0, hc, hm, hl2, fr, hf, rfl⟩
 ·subst hn0
  obtain rfl : i = 0 := by omega
  obtain ⟨h1, ti, h2, h3, h3b⟩ := slB_spec ht
  unfold Oper.wp
  have : (execOp a.eval o).run C.P w = .ok (.value (.tuple #[])) w := by
   simp [execOp, ho, resolve, invoke, builtin, r.ev hx, Builtin.clear_, run_underlying h1]
  rw [this]
  show K (a.put o.dst _) w
  rw [hd]
  exact k a w r ⟨_, back _ ⟨by simp, .inl ⟨⟨b0, e0⟩, rfl, rfl⟩⟩ dj, mv⟩
 ·simp only [Value.slice.injEq, Option.some.injEq, Addr.mk.injEq] at e0
  obtain ⟨⟨rfl, _⟩, _, rfl⟩ := e0
  obtain ⟨h1, ti, h2, h3, h3b⟩ := slB_spec ht
  unfold apB at hap
  obtain ⟨z, hz0, hzs⟩ : ∃ z, ((C.P.info? e).bind (·.zero)) = some z ∧ z.cells.size = sz := by
   cases hh : (C.P.info? e).bind (·.zero) with
   | none => rw [hh] at hap; cases hap
   | some z => rw [hh] at hap; exact ⟨z, rfl, by simpa using hap⟩
  have hone : ∀ v ∈ z.cells, v.oneCell' = true := fun v hv => by
   unfold zoneB at hzo; rw [hz0] at hzo
   obtain ⟨j, hj, rfl⟩ := Array.mem_iff_getElem.1 hv
   exact Array.all_eq_true.1 hzo j hj
  have hits : i * sz ≤ cs.length := by rw [hl]; exact Nat.mul_le_mul_right sz hin
  have htl : (cs.take (i * sz)).length = i * sz := by rw [List.length_take]; omega
  rcases Nat.eq_zero_or_pos (n - i) with h0 | h0
  ·have hni : i = n := by omega
   subst hni
   have hcs : cs.take (i * sz) = cs := List.take_of_length_le (by omega)
   unfold Oper.wp
   have : (execOp a.eval o).run C.P w = .ok (.value (.tuple #[])) w := by
    simp [execOp, ho, resolve, invoke, builtin, r.ev hx, Builtin.clear_, run_underlying h1, h0]
   rw [this]
   show K (a.put o.dst _) w
   rw [hd]
   exact k a w r ⟨_, back _ ⟨by rw [hcs]; exact hl, .inr ⟨b, c, junk, rfl, hc, hm, by rw [hcs]; exact hl2, ⟨fr, by rw [hcs]; exact hf, by rw [hcs]⟩⟩⟩ dj, mv⟩
  ·have hzl : (Builtin.zeroCells z.cells (n - i)).toList.length = (n - i) * sz := by rw [length_zeroCells, hzs]
   have hmul : i * sz + (n - i) * sz = n * sz := by rw [← Nat.add_mul]; congr 1; omega
   have hblk := mv.sub b _ (Heap.le_join_left _ _ b _ (Heap.one_same _ _))
   obtain ⟨w', hr, p⟩ := run_storeCells_blk (P := C.P) (o := i * sz) (Builtin.zeroCells z.cells (n - i)).toList 0 (cs ++ junk) w hblk hf (by rw [List.length_append, hzl]; omega) (fun v hv => hone v (mem_zeroCells hv))
   unfold Oper.wp
   have : (execOp a.eval o).run C.P w = .ok (.value (.tuple #[])) w' := by
    obtain ⟨q, hq⟩ : ∃ q, n - i = q + 1 := ⟨n - i - 1, by omega⟩
    rw [hq] at hr hx
    simp [execOp, ho, resolve, invoke, builtin, r.ev hx, Builtin.clear_, run_underlying h1, run_zeroValue_of hz0, hr]
   rw [this]
   show K (a.put o.dst _) w'
   rw [hd]
   obtain ⟨djn, m3⟩ := mv.put dj p.os p.tape p.output p.drawn p.size p.at_ p.other
   have hsp : splice (cs ++ junk) (i * sz + 0) (Builtin.zeroCells z.cells (n - i)).toList = cs.take (i * sz) ++ ((Builtin.zeroCells z.cells (n - i)).toList ++ junk) := splice_tail (by rw [hzl]; omega)
   rw [hsp] at m3 djn
   have hlen : (cs.take (i * sz) ++ ((Builtin.zeroCells z.cells (n - i)).toList ++ junk)).length = (cs ++ junk).length := by
    rw [List.length_append, List.length_append, List.length_append, htl, hzl]; omega
   exact k a w' r ⟨_, back _ ⟨htl, .inr ⟨b, c, _, rfl, by omega, hm, by rw [hlen]; exact hl2, ⟨fr, by rw [hlen]; exact hf, rfl⟩⟩⟩ djn, m3⟩
/-- A whole record of a row of the call's own is written. -/
theorem W_setWhole {α : Type} [Rec α] {t b c i T sz n : Nat} {u y : Operand} {xs : List α} (ho : o.op = .store t u y) (hd : o.dst = none) (hu : ev l u = some (.pointer (some ⟨b, 0 + i * sz, none⟩))) (x : α) (hy : ev l y = some (.agg (Rec.cells x).toArray)) (ht : agB C.P t sz = true)
  (hi : i < xs.length) (hs : Rec.n α = sz) (m : Has rs (ownS T sz (.slice (some ⟨b, 0, none⟩) n c) n (rc xs)) (ownS T sz (.slice (some ⟨b, 0, none⟩) n c) n (rc (xs.set i x))) rs') (k : St C F l rs' K) : OpW C F l rs o K Q := by
 subst hs
 rw [Nat.zero_add] at hu
 rw [← rc_splice x hi] at m
 exact W_storeOwn ho hd hu hy ht (Rec.len x) (Rec.one x) m (by rw [rc_length, Rec.len]; have := Nat.mul_le_mul_right (Rec.n α) (Nat.succ_le_of_lt hi); rw [Nat.succ_mul] at this; exact this) k
end
end Go.Proofs.YtcngmkjdpoiiaaaGreatDoor

/- Walks: slices.IndexFunc, slices.DeleteFunc (releases). Printed by gen.py. -/
set_option maxRecDepth 100000
namespace Go.Proofs.YtcngmkjdpoiiaaaGreatDoor
open Go Go.RowKit Go.Proofs
/-- What stays where some are struck by a function with a state of its own. -/
def keptS {σ : Type} (dl : σ → Rel → Bool) (stp : σ → Rel → σ) : σ → List Rel → List Rel
 | _, [] => []
 | s, x :: l => if dl s x = true then keptS dl stp (stp s x) l else x :: keptS dl stp (stp s x) l
def stS {σ : Type} (stp : σ → Rel → σ) (s : σ) (l : List Rel) : σ := l.foldl stp s
section
variable {σ : Type} {dl : σ → Rel → Bool} {stp : σ → Rel → σ}
theorem keptS_app (s : σ) (l k : List Rel) : keptS dl stp s (l ++ k) = keptS dl stp s l ++ keptS dl stp (stS stp s l) k := by
 induction l generalizing s with
 | nil => rfl
 | cons x l ih =>
  show keptS dl stp s (x :: (l ++ k)) = _
  rw [keptS, keptS]
  split
  ·exact ih _
  ·exact congrArg (x :: ·) (ih _)
theorem stS_next {s : σ} {l : List Rel} {i : Nat} {x : Rel} (h : l[i]? = some x) : stS stp s (l.take (i + 1)) = stp (stS stp s (l.take i)) x := by
 unfold stS; rw [List.take_add_one, h, List.foldl_append]; rfl
theorem keptS_next {s : σ} {l : List Rel} {i : Nat} {x : Rel} (h : l[i]? = some x) : keptS dl stp s (l.take (i + 1)) = keptS dl stp s (l.take i) ++ (if dl (stS stp s (l.take i)) x = true then [] else [x]) := by
 rw [List.take_add_one, h, keptS_app]
 congr 1
theorem keptS_yes {s : σ} {l : List Rel} {i : Nat} {x : Rel} (h : l[i]? = some x) (hd : dl (stS stp s (l.take i)) x = true) : keptS dl stp s (l.take (i + 1)) = keptS dl stp s (l.take i) := by rw [keptS_next h, if_pos hd, List.append_nil]
theorem keptS_no {s : σ} {l : List Rel} {i : Nat} {x : Rel} (h : l[i]? = some x) (hd : dl (stS stp s (l.take i)) x = false) : keptS dl stp s (l.take (i + 1)) = keptS dl stp s (l.take i) ++ [x] := by rw [keptS_next h, if_neg (by rw [hd]; decide)]
theorem keptS_mem {s : σ} : ∀ {l : List Rel} {x : Rel}, x ∈ keptS dl stp s l → x ∈ l := fun {l} => by
 induction l generalizing s with
 | nil => intro x h; cases h
 | cons y l ih =>
  intro x h
  rw [keptS] at h
  split at h
  ·exact List.mem_cons_of_mem _ (ih h)
  ·rcases List.mem_cons.1 h with rfl | h
   ·exact List.mem_cons_self ..
   ·exact List.mem_cons_of_mem _ (ih h)
/-- How the row looks while some are struck. -/
structure DelAt (dl : σ → Rel → Bool) (stp : σ → Rel → σ) (s : σ) (r M : List Rel) (i j : Nat) : Prop where
 len : M.length = r.length
 hij : i < j
 hj : j ≤ r.length
 head : M.take i = keptS dl stp s (r.take j)
 tail : M.drop j = r.drop j
theorem DelAt.start {s : σ} {r : List Rel} {j : Nat} {x : Rel} (hk : keptS dl stp s (r.take j) = r.take j) (hx : r[j]? = some x) (hd : dl (stS stp s (r.take j)) x = true) : DelAt dl stp s r r j (j + 1) :=
 ⟨rfl, Nat.lt_succ_self _, (List.getElem?_eq_some_iff.1 hx).1, by rw [keptS_yes hx hd, hk], rfl⟩
theorem DelAt.get {s : σ} {r M : List Rel} {i j : Nat} (h : DelAt dl stp s r M i j) {x : Rel} (hx : r[j]? = some x) : M[j]? = some x := by
 have := congrArg (·[0]?) h.tail
 simpa [List.getElem?_drop, hx] using this
theorem DelAt.skip {s : σ} {r M : List Rel} {i j : Nat} (h : DelAt dl stp s r M i j) {x : Rel} (hx : r[j]? = some x) (hd : dl (stS stp s (r.take j)) x = true) : DelAt dl stp s r M i (j + 1) :=
 ⟨h.len, Nat.lt_succ_of_lt h.hij, (List.getElem?_eq_some_iff.1 hx).1, by rw [keptS_yes hx hd]; exact h.head, by rw [← List.drop_drop, h.tail, List.drop_drop]⟩
theorem DelAt.keep {s : σ} {r M : List Rel} {i j : Nat} (h : DelAt dl stp s r M i j) {x : Rel} (hx : r[j]? = some x) (hd : dl (stS stp s (r.take j)) x = false) : DelAt dl stp s r (M.set i x) (i + 1) (j + 1) := by
 have hi := h.hij; have hj := h.hj; have hl := h.len
 refine ⟨by rw [List.length_set]; exact hl, Nat.succ_lt_succ hi, (List.getElem?_eq_some_iff.1 hx).1, ?_, ?_⟩
 ·rw [keptS_no hx hd, ← h.head, List.take_add_one, List.getElem?_set_self (by omega), List.take_set_of_le (Nat.le_refl _)]; rfl
 ·rw [List.drop_set_of_lt (by omega), ← List.drop_drop, h.tail, List.drop_drop]
end

theorem idxF_ok {gl : Nat → Obj} {σ : Type} (RS : σ → HP) (I : σ → Prop) (dl : σ → Rel → Bool) (stp : σ → Rel → σ) (fd : Nat) (cp : List Value) (r : List Rel) (hcal : callable Tryz.prog fd = true) (hI : ∀ s x, I s → x ∈ r → I (stp s x)) (hcl : ∀ s x, I s → x ∈ r → SpecR (cx gl) fd (.agg x.cells.toArray :: cp) (fun _ _ => True) [RS s] (.bool (dl s x)) [RS (stp s x)]) (base : Option Addr) (c : Nat) (hc : r.length ≤ c) (hm : r.length ≤ 6000000000000) (s : σ) (hs : I s) : Spec (cx gl) 164 [.slice base r.length c, .func (.func fd) #[] cp.toArray] (fun _ _ => True) [ownS 175 4 (.slice base r.length c) (r.length) (rc (r)), RS s] (fun v rs => ∃ j, j ≤ r.length ∧ keptS dl stp s (r.take j) = r.take j ∧ I (stS stp s (r.take (j + 1))) ∧ (∀ x, r[j]? = some x → dl (stS stp s (r.take (j))) x = true) ∧ v = .int .i64 (if j = r.length then -1 else (j : Int)) ∧ rs = [ownS 175 4 (.slice base r.length c) (r.length) (rc (r)), RS (stS stp s (r.take (j + 1)))]) := by
 refine Spec.enter (C := cx gl) Tryz.func164 rfl 19 rfl rfl fun w0 h0 hsep hsub hpre => ?_
 show St (cx gl) _ [(0, .slice base r.length c), (1, .func (.func fd) #[] cp.toArray)] _ _
 refine rT (lA (k:=?_))
 refine L_nil (qT (rS (rT (lMv (k:=lP (pL ty_sl_28) (k:=lMv (k:=?_)))))))
 refine lQ (cE 0 rfl (cE 1 rfl (cE 4 rfl (cE 7 rfl (cE 8 rfl .nil))))) (R_block ?_)
 refine R_loopE (G := Nat) (cE 0 rfl (cE 1 rfl (cE 4 rfl (cE 7 rfl .nil)))) (fun g => [(8, .int .i64 ((g : Nat) : Int))]) (fun g => [ownS 175 4 (.slice base r.length c) (r.length) (rc (r)), RS (stS stp s (r.take (g)))]) (fun g => g ≤ r.length ∧ keptS dl stp s (r.take g) = r.take g ∧ I (stS stp s (r.take (g)))) (fun g => r.length - g) (0) (by show (0) ≤ r.length ∧ keptS dl stp s (r.take (0)) = r.take (0) ∧ I (stS stp s (r.take ((0)))); exact ⟨Nat.zero_le _, rfl, hs⟩) (by repeat (first | exact .nil | refine .cons rfl ?_ | refine .consE rfl (by first | rfl | (congr 1; omega) | (congr 1; push_cast; omega)) ?_)) (Weak.refl _) ?_
 intro i hinv
 replace hinv : i ≤ r.length ∧ keptS dl stp s (r.take i) = r.take i ∧ I (stS stp s (r.take (i))) := hinv
 show St (cx gl) _ ((8, .int .i64 ((i : Nat) : Int)) :: _) [ownS 175 4 (.slice base r.length c) (r.length) (rc (r)), RS (stS stp s (r.take (i)))] _
 obtain ⟨hi, hk, hIs⟩ := hinv
 refine rT (lP pLt (k:=?_))
 refine L_nil (qT (rS ?_))
 refine R_condP rfl (fun hlt => ?_) (fun hlt => ?_)
 ·skip
  have hil : i < r.length := by omega
  obtain ⟨x, hx⟩ : ∃ x, r[i]? = some x := ⟨_, List.getElem?_eq_getElem hil⟩
  have hxm := List.mem_of_getElem? hx
  refine St.ownSome (p := []) (by omega) fun bb bc hq _ => ?_
  simp only [Value.slice.injEq] at hq
  obtain ⟨rfl, _, rfl⟩ := hq
  refine R_skip (qT (rS (R_block (rT (lMv (k:=lA (k:=?_)))))))
  refine L_nil (qT (rT (lMv (k:=lMv (k:=lMv (k:=?_))))))
  refine lP (P_ixs (i) rfl ty_sl_28 rfl rfl (by first | rfl | omega) (by omega)) (k:=?_)
  refine lV (V_loadAgg rfl rfl ty_ag_175 (rds_rc (rds_own .h0) hx) (rfl)) (k:=?_)
  refine lO (W_callF (fi := []) (ca := cp) rfl rfl rfl rfl rfl rfl hcal (hcl (stS stp s (r.take (i))) x hIs hxm) (Split.one (p := [_])) (fun _ _ _ _ _ _ _ => trivial) fun v1 rs1 ⟨e1, e2⟩ => ?_)
  subst e1; subst e2
  refine St.res (rs' := [ownS 175 4 (.slice (some ⟨bb, 0, none⟩) r.length c) (r.length) (rc (r)), RS (stp (stS stp s (r.take (i))) x)]) (Weak.swap) ?_
  refine L_nil (qT ?_)
  refine R_cond rfl (fun hdl => ?_) (fun hdl => ?_)
  ·skip
   refine rT (lMv (k:=lA (k:=?_)))
   refine L_nil (qT (R_ret (Q_block_ret (Q_then_ret (Q_then_ret (Q_block_ret (Q_then_ret ?_)))))))
   exact R_end (rs2 := _) rfl rfl (.tmp rfl .nil) (⟨i, hi, hk, by rw [stS_next hx]; exact hI _ _ hIs hxm, fun y hy => by rw [hx] at hy; cases hy; exact hdl, by rw [if_neg (by omega)]; rfl, rfl⟩) (by rw [stS_next hx]; exact Weak.refl _)
  ·skip
   have hdl : dl (stS stp s (r.take (i))) x = false := by simpa using hdl
   refine R_skip (Q_block (qT (rR ?_)))
   first | (refine L_val rfl rfl rfl (OpP.v (P_addN rfl rfl rfl (by simp only [fits]; omega))) ?_) | (refine L_val rfl rfl rfl (OpP.v (P_add rfl rfl rfl)) ?_)
   refine lMv (k:=?_)
   refine L_nil ?_
   exact Q_round (i + 1) (by show (i + 1) ≤ r.length ∧ keptS dl stp s (r.take (i + 1)) = r.take (i + 1) ∧ I (stS stp s (r.take ((i + 1)))); exact ⟨by omega, by rw [keptS_no hx hdl, hk, List.take_add_one, hx]; rfl, by rw [stS_next hx]; exact hI _ _ hIs hxm⟩) (by show r.length - (i + 1) < r.length - i; omega) (by repeat (first | exact .nil | refine .cons rfl ?_ | refine .consE rfl (by first | rfl | (congr 1; omega) | (congr 1; push_cast; omega)) ?_)) (by rw [stS_next hx]; exact Weak.refl _)
 ·skip
  have hin : i = r.length := by omega
  refine R_exit (Q_then_exit (Q_then_exit (Q_block_eq ?_)))
  refine St.env (cE 4 rfl .nil) (qT (rT (lA (k:=?_))))
  refine L_nil (qT (R_ret ?_))
  exact R_end (rs2 := _) rfl rfl (.tmp rfl .nil) (⟨r.length, Nat.le_refl _, by rw [hin] at hk; exact hk, by rw [hin, List.take_length] at hIs; rw [List.take_of_length_le (Nat.le_succ _)]; exact hIs, fun y hy => by simp at hy, by rw [if_pos rfl]; rfl, rfl⟩) (by rw [hin, List.take_length, List.take_of_length_le (Nat.le_succ _)]; exact Weak.refl _)
theorem delF_ok {gl : Nat → Obj} {σ : Type} (RS : σ → HP) (I : σ → Prop) (dl : σ → Rel → Bool) (stp : σ → Rel → σ) (fd : Nat) (cp : List Value) (r : List Rel) (hcal : callable Tryz.prog fd = true) (hI : ∀ s x, I s → x ∈ r → I (stp s x)) (hcl : ∀ s x, I s → x ∈ r → SpecR (cx gl) fd (.agg x.cells.toArray :: cp) (fun _ _ => True) [RS s] (.bool (dl s x)) [RS (stp s x)]) (base : Option Addr) (c : Nat) (hc : r.length ≤ c) (hm : r.length ≤ 6000000000000) (s : σ) (hs : I s) : Spec (cx gl) 81 [.slice base r.length c, .func (.func fd) #[] cp.toArray] (fun _ _ => True) [ownS 175 4 (.slice base r.length c) (r.length) (rc (r)), RS s] (fun v rs => v = .slice base (keptS dl stp s r).length c ∧ rs = [ownS 175 4 (.slice base (keptS dl stp s r).length c) ((keptS dl stp s r).length) (rc ((keptS dl stp s r))), RS (stS stp s r)]) := by
 refine Spec.enter (C := cx gl) Tryz.func81 rfl 42 rfl rfl fun w0 h0 hsep hsub hpre => ?_
 show St (cx gl) _ [(0, .slice base r.length c), (1, .func (.func fd) #[] cp.toArray)] _ _
 refine rT (lA (k:=?_))
 refine L_nil (qT (rT (lMv (k:=lMv (k:=?_)))))
 refine lO (W_call rfl rfl rfl rfl fn_ca_164 (idxF_ok RS I dl stp fd cp r hcal hI hcl base c hc hm s hs) (Weak.refl _) (fun _ _ _ _ _ _ _ => trivial) fun v1 rs1 ⟨j0, hj0, hk0, hI0, hd0, e1, e2⟩ => ?_)
 subst e1; subst e2
 refine lA (k:=?_)
 refine lQ (cE 0 rfl (cE 1 rfl (cE 4 rfl (cE 5 rfl .nil)))) (rS (rT (lMv (k:=lP pEq (k:=?_)))))
 refine lQ (cE 0 rfl (cE 1 rfl (cE 4 rfl (cE 5 rfl (cE 12 rfl .nil))))) ?_
 refine R_condP rfl (fun h0 => ?_) (fun h0 => ?_)
 ·skip
  have hj : j0 = r.length := by by_cases h9 : j0 = r.length; exact h9; rw [if_neg h9] at h0; omega
  have hkr : keptS dl stp s r = r := by rw [hj, List.take_length] at hk0; exact hk0
  refine rT (lMv (k:=lA (k:=?_)))
  refine lQ (cE 0 rfl (cE 1 rfl (cE 4 rfl (cE 5 rfl .nil)))) (R_ret (Q_then_ret ?_))
  exact R_end (rs2 := _) rfl rfl (.tmp rfl .nil) (⟨by rw [hkr]; rfl, rfl⟩) (by rw [hkr, hj, List.take_of_length_le (Nat.le_succ _)]; exact Weak.refl _)
 ·skip
  have hj : j0 < r.length := by rcases Nat.lt_or_ge j0 r.length with h9 | h9; exact h9; exact absurd (if_pos (by omega)) h0
  refine E_as (t := 5) (v' := .int .i64 ((j0 : Nat) : Int)) rfl (by rw [if_neg (by omega)]) ?_
  obtain ⟨x0, hx0⟩ : ∃ x, r[j0]? = some x := ⟨_, List.getElem?_eq_getElem hj⟩
  have hst := DelAt.start hk0 hx0 (hd0 x0 hx0)
  refine St.ownSome (p := []) (by omega) fun bb bc hq _ => ?_
  simp only [Value.slice.injEq] at hq
  obtain ⟨rfl, _, rfl⟩ := hq
  refine R_skip (qT (rS (rT (lMv (k:=?_)))))
  first | (refine L_val rfl rfl rfl (OpP.v (P_addN rfl rfl rfl (by simp only [fits]; omega))) ?_) | (refine L_val rfl rfl rfl (OpP.v (P_add rfl rfl rfl)) ?_)
  refine lA (k:=?_)
  refine lQ (cE 0 rfl (cE 1 rfl (cE 4 rfl (cE 5 rfl (cE 6 rfl .nil))))) (R_block ?_)
  refine R_loopE (G := Nat × Nat × List Rel) (cE 0 rfl (cE 1 rfl (cE 4 rfl .nil))) (fun g => [(5, .int .i64 ((g.1 : Nat) : Int)), (6, .int .i64 ((g.2.1 : Nat) : Int))]) (fun g => [ownS 175 4 (.slice (some ⟨bb, 0, none⟩) r.length c) (r.length) (rc (g.2.2)), RS (stS stp s (r.take (g.2.1)))]) (fun g => DelAt dl stp s r g.2.2 g.1 g.2.1 ∧ I (stS stp s (r.take (g.2.1)))) (fun g => r.length - g.2.1) (j0, j0 + 1, r) (by show DelAt dl stp s r (r) (j0) (j0 + 1) ∧ I (stS stp s (r.take ((j0 + 1)))); exact ⟨hst, hI0⟩) (by repeat (first | exact .nil | refine .cons rfl ?_ | refine .consE rfl (by first | rfl | (congr 1; omega) | (congr 1; push_cast; omega)) ?_)) (Weak.refl _) ?_
  rintro ⟨i, j, M⟩ hinv
  replace hinv : DelAt dl stp s r M i j ∧ I (stS stp s (r.take (j))) := hinv
  show St (cx gl) _ ((5, .int .i64 ((i : Nat) : Int)) :: (6, .int .i64 ((j : Nat) : Int)) :: _) [ownS 175 4 (.slice (some ⟨bb, 0, none⟩) r.length c) (r.length) (rc (M)), RS (stS stp s (r.take (j)))] _
  obtain ⟨hD, hIs⟩ := hinv
  refine rS (rT (lMv (k:=lMv (k:=lP (pL ty_sl_28) (k:=lP pLt (k:=?_))))))
  refine L_nil (qT ?_)
  refine R_condP rfl (fun hlt => ?_) (fun hlt => ?_)
  ·skip
   have hjl : j < r.length := by omega
   obtain ⟨x, hx⟩ : ∃ x, r[j]? = some x := ⟨_, List.getElem?_eq_getElem hjl⟩
   have hxm := List.mem_of_getElem? hx
   have hM := hD.get hx
   have hij := hD.hij
   have hMl := hD.len
   refine R_skip (qT (rS (R_block (rT (lMv (k:=lMv (k:=?_)))))))
   refine lP (P_ixs (j) rfl ty_sl_28 rfl rfl (by first | rfl | omega) (by omega)) (k:=?_)
   refine lV (V_loadAgg rfl rfl ty_ag_175 (rds_rc (rds_own .h0) hM) (rfl)) (k:=?_)
   refine lO (W_alloc rfl rfl rfl ty_ze_175 fun b7 => ?_)
   refine lO (W_storeAll rfl rfl rfl rfl ty_ag_175 (rfl) (Rec.one x) .h0 (rfl) ?_)
   refine L_nil (qT (rT (lMv (k:=lV (vG ty_ag_175 .h0) (k:=?_)))))
   refine lO (W_callF (fi := []) (ca := cp) rfl rfl rfl rfl rfl rfl hcal (hcl (stS stp s (r.take (j))) x hIs hxm) (Split.one (p := [_, _])) (fun _ _ _ _ _ _ _ => trivial) fun v1 rs1 ⟨e1, e2⟩ => ?_)
   subst e1; subst e2
   refine St.res (rs' := [blk b7 x.cells 175, ownS 175 4 (.slice (some ⟨bb, 0, none⟩) r.length c) (r.length) (rc (M)), RS (stp (stS stp s (r.take (j))) x)]) (Weak.pick (p := [_]) (Weak.pick (p := [_]) (Weak.keep (Weak.nil _)))) (lP pO (k:=?_))
   refine L_nil (qT ?_)
   refine R_cond rfl (fun hdl => ?_) (fun hdl => ?_)
   ·skip
    have hdl : dl (stS stp s (r.take (j))) x = false := by simpa using hdl
    refine rT (lMv (k:=lMv (k:=lV (vG ty_ag_175 .h0) (k:=?_))))
    refine lP (P_ixs (i) rfl ty_sl_28 rfl rfl (by first | rfl | omega) (by omega)) (k:=?_)
    refine lO (W_setWhole rfl rfl rfl x rfl ty_ag_175 (by omega) rfl .h1 ?_)
    refine L_nil (qT (rR (lMv (k:=?_))))
    first | (refine L_val rfl rfl rfl (OpP.v (P_addN rfl rfl rfl (by simp only [fits]; omega))) ?_) | (refine L_val rfl rfl rfl (OpP.v (P_add rfl rfl rfl)) ?_)
    refine lA (k:=?_)
    refine L_nil (Q_block (qT (rR (lMv (k:=?_)))))
    first | (refine L_val rfl rfl rfl (OpP.v (P_addN rfl rfl rfl (by simp only [fits]; omega))) ?_) | (refine L_val rfl rfl rfl (OpP.v (P_add rfl rfl rfl)) ?_)
    refine lA (k:=?_)
    refine L_nil ?_
    exact Q_round (i + 1, j + 1, M.set i x) (by show DelAt dl stp s r (M.set i x) (i + 1) (j + 1) ∧ I (stS stp s (r.take ((j + 1)))); exact ⟨hD.keep hx hdl, by rw [stS_next hx]; exact hI _ _ hIs hxm⟩) (by show r.length - (j + 1) < r.length - j; omega) (by repeat (first | exact .nil | refine .cons rfl ?_ | refine .consE rfl (by first | rfl | (congr 1; omega) | (congr 1; push_cast; omega)) ?_)) (by rw [stS_next hx]; exact Weak.drop (Weak.refl _))
   ·skip
    have hdl : dl (stS stp s (r.take (j))) x = true := by simpa using hdl
    refine R_skip (Q_block (qT (rR (lMv (k:=?_)))))
    first | (refine L_val rfl rfl rfl (OpP.v (P_addN rfl rfl rfl (by simp only [fits]; omega))) ?_) | (refine L_val rfl rfl rfl (OpP.v (P_add rfl rfl rfl)) ?_)
    refine lA (k:=?_)
    refine L_nil ?_
    exact Q_round (i, j + 1, M) (by show DelAt dl stp s r (M) (i) (j + 1) ∧ I (stS stp s (r.take ((j + 1)))); exact ⟨hD.skip hx hdl, by rw [stS_next hx]; exact hI _ _ hIs hxm⟩) (by show r.length - (j + 1) < r.length - j; omega) (by repeat (first | exact .nil | refine .cons rfl ?_ | refine .consE rfl (by first | rfl | (congr 1; omega) | (congr 1; push_cast; omega)) ?_)) (by rw [stS_next hx]; exact Weak.drop (Weak.refl _))
  ·skip
   have hjn : j = r.length := by have := hD.hj; omega
   have hij := hD.hij
   have hMl := hD.len
   subst hjn
   have hhd := hD.head
   rw [List.take_length] at hhd
   have hil : i = (keptS dl stp s r).length := by rw [← hhd, List.length_take]; omega
   refine St.res (rs' := [ownS 175 4 (.slice (some ⟨bb, 0, none⟩) r.length c) (r.length) (rc (M)), RS (stS stp s r)]) (by rw [List.take_length]; exact Weak.refl _) (R_exit (Q_then_exit (Q_then_exit (Q_block_eq ?_))))
   refine St.env (cE 0 rfl (cE 4 rfl (cE 5 rfl .nil))) (qT (rT (lMv (k:=lMv (k:=?_)))))
   refine lP (P_slice i r.length rfl ty_sl_28 rfl ⟨_, rfl⟩ rfl (by omega) (by omega)) (k:=?_)
   refine E_as (t := 38) (v' := .slice (some ⟨bb, i * 4, none⟩) (r.length - i) (c - i)) rfl (by unfold sliced; rw [if_neg (by omega)]; simp only [Option.map_some, add_zero_off, Nat.zero_add, Value.slice.injEq, true_and, and_true, Nat.sub_zero, Nat.add_sub_add_right]; try omega) ?_
   refine lO (W_clearCut (i := i) (n := r.length) rfl rfl ty_sl_28 ty_ap_28 (by kernel_rfl) rfl (by omega) .h0 ?_)
   refine lQ (cE 0 rfl (cE 4 rfl (cE 5 rfl .nil))) (rT (lMv (k:=lMv (k:=?_))))
   refine lP (P_slice 0 i rfl ty_sl_28 rfl rfl ⟨_, rfl⟩ (by omega) (by omega)) (k:=?_)
   refine E_as (t := 41) (v' := .slice (some ⟨bb, 0, none⟩) (i) (c)) rfl (by unfold sliced; rw [if_neg (by omega)]; simp only [Option.map_some, add_zero_off, Nat.zero_add, Value.slice.injEq, true_and, and_true, Nat.sub_zero, Nat.add_sub_add_right]; try omega) (lA (k:=?_))
   refine lQ (cE 4 rfl .nil) (R_ret ?_)
   exact R_end (rs2 := _) rfl rfl (.tmp rfl .nil) (⟨by rw [hil]; rfl, rfl⟩) (by have h9 : List.take (i * 4) (rc M) = rc (M.take i) := rc_take M i; rw [h9, hhd, hil]; exact Weak.refl _)
end Go.Proofs.YtcngmkjdpoiiaaaGreatDoor
