/- Texts that poolChainUpto_holds leans on, part 6: each says at its head what it holds; no condition beyond its theorems' own. -/
import Derived.Test.YtcngmkjdpoiiaaaGreatDoorMs5
set_option linter.unusedVariables false
set_option linter.unusedSimpArgs false
set_option linter.unusedSectionVars false
/- PoolChain: the walk. Printed by gen.py. -/
set_option maxRecDepth 100000
namespace Go.Proofs.YtcngmkjdpoiiaaaGreatDoor
open Go Go.RowKit Go.Proofs Go.Sort
theorem rc_st (x : StK) : rc [x] = x.j.cells := by unfold rc; exact List.append_nil _
theorem Sn.slice0 {C : Cx} {F : Fx} {rs : List HP} {base : Option Addr} {l : List TxR} (s : Sn C F rs base (rc l)) (k c : Nat) : Sn C F rs (if c = 0 then base else base.map (·.add (0 * 22))) (rc (l.take k)) := fun w h hs mv j v hv => by
 obtain ⟨ad, e, h1, h2⟩ := (s.takeT k) w h hs mv j v hv
 refine ⟨ad, ?_, h1, h2⟩
 split
 ·exact e
 ·rw [e]; simp [Addr.add]
theorem sliced_take {base : Option Addr} {Q : List TxR} {k c : Nat} (hk : k ≤ Q.length) : sliced base 0 k c 22 = .slice (if c = 0 then base else base.map (·.add (0 * 22))) (Q.take k).length c := by
 unfold sliced
 rw [List.length_take, Nat.min_eq_left hk]; rfl
/-- A state behind a block. -/
def StK.next (x : StK) (M : Led) (hM : LF M) (ab : Option Addr) (ac : Nat) (rb : Option Addr) (rk : Nat) (h1 : M.acc.length ≤ ac) (h2 : M.rel.length ≤ rk) (hh : x.j.h < 1099511627776) : StK where
 j := { x.j with h := x.j.h + 1, l := ⟨⟨ab, ac, M.acc⟩, ⟨rb, rk, M.rel⟩, M.burnt, M.sup⟩ }
 ch := x.ch
 p := x.p
 h := ⟨by have := x.h.1; show 0 ≤ x.j.h + 1; omega, by show x.j.h + 1 ≤ _; omega⟩
 last := x.last
 hc := h1
 hc' := h2
 ok := hM.ok
 ok' := hM.ok'
 bu := hM.lok.bu
 su := ⟨by have h1 := hM.sum; have h3 := sumA_nn hM.ok; have h4 := sumR_nn hM.ok'; have := hM.b0; show 0 ≤ M.sup; omega, by have := hM.sup; have : MS = 1152921504606846975 := rfl; show M.sup ≤ _; omega⟩
 hm := by have := hM.few; show M.acc.length ≤ _; omega
 hm' := by have := hM.few'; show M.rel.length ≤ _; omega
theorem RowsOk.perm {H L : List TxR} {l : List Acc} (r : RowsOk H l) (p : L.Perm H) : RowsOk L l := fun y hy => by
 obtain ⟨g1, g2, g3, g4⟩ := r y (p.mem_iff.1 hy)
 exact ⟨g1, g2, g3, g4.imp id fun ⟨z, hz, e⟩ => ⟨z, p.mem_iff.2 hz, e⟩⟩
/-- What holds of the chain's state. -/
structure ChOk (c : StK) (H : List TxR) (i : Nat) : Prop where
 lf : LF c.j.l.led
 rows : RowsOk H c.j.l.s.xs
 h : c.j.h ≤ 549755813888 + i
theorem poolChain_bad {gl : Nat → Obj} (most : Int) (nb : Option Addr) (nc : Nat) (sts : List StK) (hnc : sts.length ≤ nc) (hns : sts.length ≤ 439804651110) (ob : Option Addr) (oc : Nat) (ops : List OpK) (hoc : ops.length ≤ oc) (hno : ops.length ≤ 1048576) (cut : Int) (hbad : most < 1 ∨ 65536 < most) : SpecV (cx gl) 15 [.agg ([.int .i64 most, .slice nb sts.length nc, .slice ob ops.length oc]).toArray, .int .i64 (cut)] (fun w => Row w nb (Go.Proofs.YtcngmkjdpoiiaaaGreatDoor.rc sts) ∧ (∀ s ∈ sts, s.in_ w) ∧ Row w ob (Go.Proofs.YtcngmkjdpoiiaaaGreatDoor.rc ops)) (.bool true) := by
 refine Spec.enter (C := cx gl) Tryz.func15 rfl 148 rfl rfl fun w0 h0 hsep hsub hpre => ?_
 obtain rfl : h0 = Heap.none := hsep
 show St (cx gl) _ [(0, .agg ([.int .i64 most, .slice nb sts.length nc, .slice ob ops.length oc]).toArray), (1, .int .i64 (cut))] _ _
 refine rT ?_
 refine lO (W_box ([.int .i64 most, .slice nb sts.length nc, .slice ob ops.length oc]) rfl rfl rfl rfl rfl fun b2 => lA (k:=?_))
 refine lQ (cE 1 rfl (cE 2 rfl (cE 4 rfl .nil))) (rT (lV (vG ty_ag_98 .h0) (k:=?_)))
 refine lO (W_call rfl rfl rfl rfl fn_ca_57 (begun_bad most hbad nb nc sts (.slice ob ops.length oc) rfl) (Split.nil _) (fun _ _ _ _ _ _ _ => trivial) fun v1 rs1 ⟨w, e1, e2⟩ => ?_)
 subst e1; subst e2
 refine lMv (k:=lP pX (k:=lP pX (k:=?_)))
 refine E_false (t := 18) rfl (rfl) (lA (k:=lA (k:=?_)))
 refine lQ (cE 1 rfl (cE 2 rfl (cE 4 rfl (cE 5 rfl (cE 6 rfl .nil))))) (rS (rT (lMv (k:=lP pO (k:=lMv (k:=lN (k:=lN (k:=lN (k:=lN (k:=lP pK (k:=?_)))))))))))
 refine lQ (cE 1 rfl (cE 2 rfl (cE 4 rfl (cE 5 rfl (cE 6 rfl (cE 26 rfl .nil)))))) (kT (k:=rT (lMv (k:=?_))))
 refine E_false (t := 27) rfl (rfl) (lMv (k:=lP (pF ty_fl_98_0) (k:=lV (vB ty_sc_3 .h0) (k:=lP pLt (k:=?_)))))
 refine E_bool (t := 31) rfl (fun h1 => ?_) (fun h1 => ?_)
 ·skip
  refine lP pK (k:=lMv (k:=lN (k:=lN (k:=lN (k:=lP pK (k:=lA (k:=?_)))))))
  refine lQ (cE 1 rfl (cE 2 rfl (cE 4 rfl (cE 5 rfl .nil)))) (R_ret (Q_then_ret ?_))
  exact R_endV rfl rfl (.tmp rfl .nil) (rfl)
 ·skip
  have h1 := of_decide_eq_false h1
  refine lP pK (k:=lMv (k:=lP (pF ty_fl_98_0) (k:=lV (vB ty_sc_3 .h0) (k:=lP pGt (k:=?_)))))
  refine E_true (t := 36) rfl (decide_eq_true (by omega)) (lP pK (k:=lA (k:=?_)))
  refine lQ (cE 1 rfl (cE 2 rfl (cE 4 rfl (cE 5 rfl .nil)))) (R_ret (Q_then_ret ?_))
  exact R_endV rfl rfl (.tmp rfl .nil) (rfl)
theorem poolChain_none {gl : Nat → Obj} (most : Int) (nb : Option Addr) (nc : Nat) (sts : List StK) (hnc : sts.length ≤ nc) (hns : sts.length ≤ 439804651110) (ob : Option Addr) (oc : Nat) (ops : List OpK) (hoc : ops.length ≤ oc) (hno : ops.length ≤ 1048576) (cut : Int) (h1 : 1 ≤ most) (h2 : most ≤ 65536) (hne : sts = []) : SpecV (cx gl) 15 [.agg ([.int .i64 most, .slice nb sts.length nc, .slice ob ops.length oc]).toArray, .int .i64 (cut)] (fun w => Row w nb (Go.Proofs.YtcngmkjdpoiiaaaGreatDoor.rc sts) ∧ (∀ s ∈ sts, s.in_ w) ∧ Row w ob (Go.Proofs.YtcngmkjdpoiiaaaGreatDoor.rc ops)) (.bool true) := by
 refine Spec.enter (C := cx gl) Tryz.func15 rfl 148 rfl rfl fun w0 h0 hsep hsub hpre => ?_
 obtain rfl : h0 = Heap.none := hsep
 show St (cx gl) _ [(0, .agg ([.int .i64 most, .slice nb sts.length nc, .slice ob ops.length oc]).toArray), (1, .int .i64 (cut))] _ _
 refine rT ?_
 refine lO (W_box ([.int .i64 most, .slice nb sts.length nc, .slice ob ops.length oc]) rfl rfl rfl rfl rfl fun b2 => lA (k:=?_))
 refine lQ (cE 1 rfl (cE 2 rfl (cE 4 rfl .nil))) (rT (lV (vG ty_ag_98 .h0) (k:=?_)))
 refine lO (W_call rfl rfl rfl rfl fn_ca_57 (begun_ok most h1 h2 nb nc sts (.slice ob ops.length oc) rfl) (Split.nil _) (fun _ _ _ _ _ _ _ => trivial) fun v1 rs1 ⟨w, p, q, e1, e2⟩ => ?_)
 subst e1; subst e2
 refine St.res (rs' := [POOL p most ([]), blk w (sightC p q (.slice none 0 0) (.slice nb sts.length nc) (0)) 135, REG q [] [], ownS 220 1 (.slice none 0 0) (([] : List (Int × Nat))).length (ptrs (([] : List (Int × Nat)))), blk b2 [.int .i64 most, .slice nb sts.length nc, .slice ob ops.length oc] 98]) (Weak.pick (p := [_]) (Weak.pick (p := [_]) (Weak.pick (p := [_]) (Weak.keep (Weak.keep (Weak.nil _)))))) (lMv (k:=lP pX (k:=lP pX (k:=?_))))
 refine E_true (t := 18) rfl (rfl) (lA (k:=lA (k:=?_)))
 refine lQ (cE 1 rfl (cE 2 rfl (cE 4 rfl (cE 5 rfl (cE 6 rfl .nil))))) (rS (rT (lMv (k:=lP pO (k:=lMv (k:=lP (pF ty_fl_98_1) (k:=lV (vB ty_sc_95 .h4) (k:=lP (pL ty_sl_95) (k:=lP pEq (k:=?_))))))))))
 refine E_true (t := 25) rfl (decide_eq_true (by rw [hne]; rfl)) (lP pK (k:=?_))
 refine lQ (cE 1 rfl (cE 2 rfl (cE 4 rfl (cE 5 rfl (cE 6 rfl (cE 26 rfl .nil)))))) (kT (k:=rT (lMv (k:=?_))))
 refine E_true (t := 27) rfl (rfl) (lMv (k:=lN (k:=lN (k:=lN (k:=lP pK (k:=lMv (k:=lN (k:=lN (k:=lN (k:=lP pK (k:=lA (k:=?_))))))))))))
 refine lQ (cE 1 rfl (cE 2 rfl (cE 4 rfl (cE 5 rfl .nil)))) (R_ret (Q_then_ret ?_))
 exact R_endV rfl rfl (.tmp rfl .nil) (rfl)
set_option maxHeartbeats 4000000 in
theorem poolChain_good {gl : Nat → Obj} (hG : Globs gl) (most : Int) (nb : Option Addr) (nc : Nat) (sts : List StK) (hnc : sts.length ≤ nc) (hns : sts.length ≤ 439804651110) (ob : Option Addr) (oc : Nat) (ops : List OpK) (hoc : ops.length ≤ oc) (hno : ops.length ≤ 1048576) (cut : Int) (h1 : 1 ≤ most) (h2 : most ≤ 65536) (s0 : StK) (st9 : List StK) (hsts : sts = s0 :: st9) : SpecV (cx gl) 15 [.agg ([.int .i64 most, .slice nb sts.length nc, .slice ob ops.length oc]).toArray, .int .i64 (cut)] (fun w => Row w nb (Go.Proofs.YtcngmkjdpoiiaaaGreatDoor.rc sts) ∧ (∀ s ∈ sts, s.in_ w) ∧ Row w ob (Go.Proofs.YtcngmkjdpoiiaaaGreatDoor.rc ops)) (.bool true) := by
 refine Spec.enter (C := cx gl) Tryz.func15 rfl 148 rfl rfl fun w0 h0 hsep hsub hpre => ?_
 obtain rfl : h0 = Heap.none := hsep
 show St (cx gl) _ [(0, .agg ([.int .i64 most, .slice nb sts.length nc, .slice ob ops.length oc]).toArray), (1, .int .i64 (cut))] _ _
 refine rT ?_
 refine lO (W_box ([.int .i64 most, .slice nb sts.length nc, .slice ob ops.length oc]) rfl rfl rfl rfl rfl fun b2 => lA (k:=?_))
 refine lQ (cE 1 rfl (cE 2 rfl (cE 4 rfl .nil))) (rT (lV (vG ty_ag_98 .h0) (k:=?_)))
 refine lO (W_call rfl rfl rfl rfl fn_ca_57 (begun_ok most h1 h2 nb nc sts (.slice ob ops.length oc) rfl) (Split.nil _) (fun _ _ _ _ _ _ _ => trivial) fun v1 rs1 ⟨w, p, q, e1, e2⟩ => ?_)
 subst e1; subst e2
 refine St.res (rs' := [POOL p most ([]), blk w (sightC p q (.slice none 0 0) (.slice nb sts.length nc) (0)) 135, REG q [] [], ownS 220 1 (.slice none 0 0) (([] : List (Int × Nat))).length (ptrs (([] : List (Int × Nat)))), blk b2 [.int .i64 most, .slice nb sts.length nc, .slice ob ops.length oc] 98]) (Weak.pick (p := [_]) (Weak.pick (p := [_]) (Weak.pick (p := [_]) (Weak.keep (Weak.keep (Weak.nil _)))))) (lMv (k:=lP pX (k:=lP pX (k:=?_))))
 refine E_true (t := 18) rfl (rfl) (lA (k:=lA (k:=?_)))
 refine lQ (cE 1 rfl (cE 2 rfl (cE 4 rfl (cE 5 rfl (cE 6 rfl .nil))))) (rS (rT (lMv (k:=lP pO (k:=lMv (k:=lP (pF ty_fl_98_1) (k:=lV (vB ty_sc_95 .h4) (k:=lP (pL ty_sl_95) (k:=lP pEq (k:=?_))))))))))
 refine E_false (t := 25) rfl (decide_eq_false (by rw [hsts, List.length_cons]; omega)) (lP pK (k:=?_))
 refine lQ (cE 1 rfl (cE 2 rfl (cE 4 rfl (cE 5 rfl (cE 6 rfl (cE 26 rfl .nil)))))) (kF (k:=R_skip (qT (rS ?_))))
 have hs0 : sts[0]? = some s0 := by rw [hsts]; rfl
 obtain ⟨nbb, nbj, rfl, hnrow⟩ := hpre.1.some_ (by rw [rc_length, hsts, List.length_cons]; show 0 < _ * 55; omega)
 obtain ⟨hr1, hr2⟩ := hpre.2.1 s0 (List.mem_of_getElem? hs0)
 refine rR (lP (pF ty_fl_98_1) (k:=lV (vB ty_sc_95 .h4) (k:=?_)))
 refine lP (P_ixs (0) rfl ty_sl_95 rfl rfl (by first | rfl | omega) (by rw [hsts, List.length_cons]; omega)) (k:=?_)
 refine lV (V_loadAgg rfl rfl ty_ag_63 (rds_rc (Rds.row hnrow rfl) hs0) (StJ.len s0.last)) (k:=?_)
 refine lO (W_alloc rfl rfl rfl ty_ze_63 fun b7 => ?_)
 refine lO (W_storeAll rfl rfl rfl rfl ty_ag_63 (StJ.len s0.last) (StJ.one s0.last) .h0 ((show (Rec.cells s0).length = 55 from StJ.len s0.last).trans rfl) ?_)
 refine lQ (cE 1 rfl (cE 2 rfl (cE 4 rfl (cE 5 rfl (cE 7 rfl .nil))))) (rT (lMv (k:=?_)))
 refine lV (V_loadAgg rfl rfl ty_ag_63 (Rds.blk .h0) (StJ.len s0.last)) (k:=?_)
 refine lO (W_lit (z := .nilIface) (s0.j.cells) rfl rfl rfl ty_sl_95 ty_lz_95 rfl rfl rfl (by decide) (by decide) (by intro v hv; simp only [List.mem_singleton] at hv; subst hv; exact StJ.len s0.last) (by simp [Value.cells]; rfl) fun b44 => lP pN (k:=lP (pF ty_fl_135_3) (k:=?_)))
 refine lO (W_store rfl rfl rfl rfl ty_sc_95 rfl .h3 (by show (3 : Nat) < 5; decide) ?_)
 refine lQ (cE 1 rfl (cE 2 rfl (cE 4 rfl (cE 5 rfl (cE 7 rfl .nil))))) (rS (rS ?_))
 refine St.res (rs' := [POOL p most ([]), blk w (sightC p q (.slice none 0 0) (.slice (some ⟨b44, 0, none⟩) 1 1) 0) 135, REG q [] [], ownS 220 1 (.slice none 0 0) (([] : List (Int × Nat))).length (ptrs (([] : List (Int × Nat)))), blk b44 (Go.Proofs.YtcngmkjdpoiiaaaGreatDoor.rc [s0]) 63, blk b7 s0.j.cells 63, blk b2 [.int .i64 most, .slice (some ⟨nbb, nbj, none⟩) sts.length nc, .slice ob ops.length oc] 98]) (by rw [rc_st]; exact Weak.pick (p := [_, _]) (Weak.pick (p := [_, _]) (Weak.pick (p := [_, _]) (Weak.pick (p := [_, _]) (Weak.keep (Weak.keep (Weak.keep (Weak.nil _)))))))) (rR (lP (pF ty_fl_63_9) (k:=?_)))
 refine lV (V_loadAgg rfl rfl ty_ag_30 ((Rds.blk .h5).part 51 (st_led s0.r _ _)) (rfl)) (k:=?_)
 refine lO (W_callV rfl rfl rfl rfl fn_ca_69 (lsound_ok s0.j.l.s.b s0.j.l.s.c s0.j.l.s.xs s0.hc s0.ok s0.j.l.r.b s0.j.l.r.c s0.j.l.r.xs s0.hc' s0.ok' s0.j.l.bu s0.j.l.su s0.bu s0.su) (fun wd nw => ⟨(Sn.row hr1 rfl).rw_ wd nw, (Sn.row hr2 rfl).rw_ wd nw⟩) ?_)
 refine lO (W_callV rfl rfl rfl rfl fn_ca_33 (num_ok (lsoundE s0.j.l.led)) (fun _ _ => trivial) (lP pNe (k:=?_)))
 refine E_bool (t := 51) rfl (fun hls => ?_) (fun hls => ?_)
 ·skip
  refine lMv (k:=lN (k:=lN (k:=lN (k:=lP pK (k:=lMv (k:=lN (k:=lN (k:=lN (k:=lN (k:=lP pK (k:=?_)))))))))))
  refine lQ (cE 1 rfl (cE 2 rfl (cE 4 rfl (cE 5 rfl (cE 7 rfl (cE 62 rfl .nil)))))) (kT (k:=rT (lA (k:=?_))))
  refine lQ (cE 1 rfl (cE 2 rfl (cE 4 rfl (cE 5 rfl (cE 7 rfl .nil))))) (R_ret (Q_then_ret ?_))
  exact R_endV rfl rfl (.tmp rfl .nil) (rfl)
 ·skip
  have hls : lsoundE s0.j.l.led = 0 := by have h9 := of_decide_eq_false hls; omega
  refine lMv (k:=lP (pF ty_fl_63_2) (k:=?_))
  refine lV (V_load rfl rfl ty_sc_23 (Rd.blk .h5 (st_h s0.r _ _))) (k:=lP pGt (k:=?_))
  refine E_bool (t := 55) rfl (fun hhs => ?_) (fun hhs => ?_)
  ·skip
   refine lP pK (k:=lMv (k:=lN (k:=lN (k:=lN (k:=lN (k:=lP pK (k:=?_)))))))
   refine lQ (cE 1 rfl (cE 2 rfl (cE 4 rfl (cE 5 rfl (cE 7 rfl (cE 62 rfl .nil)))))) (kT (k:=rT (lA (k:=?_))))
   refine lQ (cE 1 rfl (cE 2 rfl (cE 4 rfl (cE 5 rfl (cE 7 rfl .nil))))) (R_ret (Q_then_ret ?_))
   exact R_endV rfl rfl (.tmp rfl .nil) (rfl)
  ·skip
   have hhs : ¬ 549755813888 < s0.j.h := of_decide_eq_false hhs
   refine lP pK (k:=lMv (k:=lP (pF ty_fl_63_1) (k:=lP (pG ty_fl_25_3) (k:=?_))))
   refine lV (V_load rfl rfl ty_sc_23 (Rd.blk .h5 (st_par s0.r _ _ 3 _ rfl))) (k:=lP pGt (k:=?_))
   refine E_bool (t := 61) rfl (fun hps => ?_) (fun hps => ?_)
   ·skip
    refine lP pK (k:=?_)
    refine lQ (cE 1 rfl (cE 2 rfl (cE 4 rfl (cE 5 rfl (cE 7 rfl (cE 62 rfl .nil)))))) (kT (k:=rT (lA (k:=?_))))
    refine lQ (cE 1 rfl (cE 2 rfl (cE 4 rfl (cE 5 rfl (cE 7 rfl .nil))))) (R_ret (Q_then_ret ?_))
    exact R_endV rfl rfl (.tmp rfl .nil) (rfl)
   ·skip
    refine lP pK (k:=?_)
    refine lQ (cE 1 rfl (cE 2 rfl (cE 4 rfl (cE 5 rfl (cE 7 rfl (cE 62 rfl .nil)))))) (kF (k:=R_skip (qT (rS (rS ?_)))))
    have hLF := LF.of (ledFine_of hls) s0.ok s0.ok' s0.bu.1
    refine rR (lA (k:=?_))
    refine lQ (cE 1 rfl (cE 2 rfl (cE 4 rfl (cE 5 rfl (cE 7 rfl (cE 8 rfl .nil)))))) (R_block ?_)
    refine R_loopE (G := Nat × List TxR × List (Int × Nat) × List Rcd × Value × StK) (cE 1 rfl (cE 2 rfl (cE 4 rfl (cE 5 rfl (cE 7 rfl .nil))))) (fun g => [(8, .int .i64 ((g.1 : Nat) : Int))]) (fun g => [POOL p most (g.2.1), blk w (sightC p q (g.2.2.2.2.1) (.slice (some ⟨b44, 0, none⟩) 1 1) 0) 135, REG q g.2.2.1 (g.2.2.2.1), ownS 220 1 (g.2.2.2.2.1) (g.2.2.1).length (ptrs (g.2.2.1)), blk b44 (Go.Proofs.YtcngmkjdpoiiaaaGreatDoor.rc [g.2.2.2.2.2]) 63, blk b7 g.2.2.2.2.2.j.cells 63, argOr w0 50 5 g.2.2.2.2.2.j.l.s.b g.2.2.2.2.2.j.l.s.xs.length g.2.2.2.2.2.j.l.s.c (Go.Proofs.YtcngmkjdpoiiaaaGreatDoor.rc g.2.2.2.2.2.j.l.s.xs), argOr w0 175 4 g.2.2.2.2.2.j.l.r.b g.2.2.2.2.2.j.l.r.xs.length g.2.2.2.2.2.j.l.r.c (Go.Proofs.YtcngmkjdpoiiaaaGreatDoor.rc g.2.2.2.2.2.j.l.r.xs), blk b2 [.int .i64 most, .slice (some ⟨nbb, nbj, none⟩) sts.length nc, .slice ob ops.length oc] 98]) (fun g => g.1 ≤ ops.length ∧ PoolInv most g.2.1 ∧ g.2.2.1.length ≤ g.1 ∧ g.2.2.2.1.length ≤ g.1 ∧ SgOk g.2.2.1 ∧ ChOk g.2.2.2.2.2 g.2.1 (g.1)) (fun g => ops.length - g.1) (0, [], [], [], .slice none 0 0, s0) (by show (0) ≤ ops.length ∧ PoolInv most ([]) ∧ ([]).length ≤ (0) ∧ ([]).length ≤ (0) ∧ SgOk ([]) ∧ ChOk (s0) ([]) ((0)); exact ⟨Nat.zero_le _, PoolInv.nil h1, Nat.le_refl _, Nat.le_refl _, SgOk.nil, hLF, RowsOk.nil, by omega⟩) (by repeat (first | exact .nil | refine .cons rfl ?_ | refine .consE rfl (by first | rfl | (congr 1; omega) | (congr 1; push_cast; omega)) ?_)) (Weak.trans (Weak.toArg (w0 := w0) (T := 175) (sz := 4) (n := s0.j.l.r.xs.length) (c := s0.j.l.r.c) hr2) (Weak.trans (Weak.toArg (w0 := w0) (T := 50) (sz := 5) (n := s0.j.l.s.xs.length) (c := s0.j.l.s.c) hr1) (Weak.pick (p := [_, _]) (Weak.pick (p := [_, _]) (Weak.pick (p := [_, _]) (Weak.pick (p := [_, _]) (Weak.pick (p := [_, _]) (Weak.pick (p := [_, _]) (Weak.keep (Weak.keep (Weak.keep (Weak.nil _)))))))))))) ?_
    rintro ⟨i, H, sg, rc, sv, cur⟩ hinv
    replace hinv : i ≤ ops.length ∧ PoolInv most H ∧ sg.length ≤ i ∧ rc.length ≤ i ∧ SgOk sg ∧ ChOk cur H (i) := hinv
    show St (cx gl) _ ((8, .int .i64 ((i : Nat) : Int)) :: _) [POOL p most (H), blk w (sightC p q (sv) (.slice (some ⟨b44, 0, none⟩) 1 1) 0) 135, REG q sg (rc), ownS 220 1 (sv) (sg).length (ptrs (sg)), blk b44 (Go.Proofs.YtcngmkjdpoiiaaaGreatDoor.rc [cur]) 63, blk b7 cur.j.cells 63, argOr w0 50 5 cur.j.l.s.b cur.j.l.s.xs.length cur.j.l.s.c (Go.Proofs.YtcngmkjdpoiiaaaGreatDoor.rc cur.j.l.s.xs), argOr w0 175 4 cur.j.l.r.b cur.j.l.r.xs.length cur.j.l.r.c (Go.Proofs.YtcngmkjdpoiiaaaGreatDoor.rc cur.j.l.r.xs), blk b2 [.int .i64 most, .slice (some ⟨nbb, nbj, none⟩) sts.length nc, .slice ob ops.length oc] 98] _
    obtain ⟨hi, hI, hgl, hrl, hso, hCh⟩ := hinv
    refine rS (rT (lMv (k:=lP (pF ty_fl_98_2) (k:=lV (vB ty_sc_96 .h8) (k:=lP (pL ty_sl_96) (k:=lP pLt (k:=?_)))))))
    refine L_nil (qT ?_)
    refine R_condP rfl (fun hlt => ?_) (fun hlt => ?_)
    ·skip
     have him : i < ops.length := by omega
     obtain ⟨o, ho⟩ : ∃ y, ops[i]? = some y := ⟨_, List.getElem?_eq_getElem him⟩
     obtain ⟨obb, obj, rfl, hrow⟩ := hpre.2.2.some_ (by rw [rc_length]; show 0 < _ * 58; omega)
     have hfew := hI.few
     have hl : H.length ≤ 65536 := by omega
     have hch9 := hCh.h
     refine R_skip (qT (rS (R_block (rT (lP (pF ty_fl_98_2) (k:=lV (vB ty_sc_96 .h8) (k:=lMv (k:=?_))))))))
     refine lP (P_ixs (i) rfl ty_sl_96 rfl rfl (by first | rfl | omega) (by omega)) (k:=?_)
     refine lV (V_loadAgg rfl rfl ty_ag_110 (rds_rc (Rds.row hrow rfl) ho) (OpK.len o)) (k:=?_)
     refine lO (W_alloc rfl rfl rfl ty_ze_110 fun b9 => ?_)
     refine lO (W_storeAll rfl rfl rfl rfl ty_ag_110 (OpK.len o) (OpK.one o) .h0 ((show (Rec.cells o).length = 58 from OpK.len o).trans rfl) ?_)
     refine L_nil (qT ?_)
     refine R_joinE (G := List TxR × List (Int × Nat) × List Rcd × Value × StK) (cE 1 rfl (cE 2 rfl (cE 4 rfl (cE 5 rfl (cE 7 rfl (cE 8 rfl (cE 9 rfl (cE 63 rfl (cE 64 rfl (cE 65 rfl (cE 66 rfl (cE 67 rfl (cE 70 rfl (cE 71 rfl (cE 72 rfl (cE 73 rfl (cE 74 rfl .nil))))))))))))))))) (fun g => []) (fun g => [POOL p most (g.1), blk w (sightC p q (g.2.2.2.1) (.slice (some ⟨b44, 0, none⟩) 1 1) 0) 135, REG q g.2.1 (g.2.2.1), ownS 220 1 (g.2.2.2.1) (g.2.1).length (ptrs (g.2.1)), blk b44 (Go.Proofs.YtcngmkjdpoiiaaaGreatDoor.rc [g.2.2.2.2]) 63, blk b7 g.2.2.2.2.j.cells 63, argOr w0 50 5 g.2.2.2.2.j.l.s.b g.2.2.2.2.j.l.s.xs.length g.2.2.2.2.j.l.s.c (Go.Proofs.YtcngmkjdpoiiaaaGreatDoor.rc g.2.2.2.2.j.l.s.xs), argOr w0 175 4 g.2.2.2.2.j.l.r.b g.2.2.2.2.j.l.r.xs.length g.2.2.2.2.j.l.r.c (Go.Proofs.YtcngmkjdpoiiaaaGreatDoor.rc g.2.2.2.2.j.l.r.xs), blk b9 o.o.cells 110, blk b2 [.int .i64 most, .slice (some ⟨nbb, nbj, none⟩) sts.length nc, .slice (some ⟨obb, obj, none⟩) ops.length oc] 98]) (fun g => PoolInv most g.1 ∧ g.2.1.length ≤ i + 1 ∧ g.2.2.1.length ≤ i + 1 ∧ SgOk g.2.1 ∧ ChOk g.2.2.2.2 g.1 (i + 1)) ?_ ?_
     ·skip
      refine rS ?_
      refine St.res (rs' := [POOL p most (H), blk w (sightC p q (sv) (.slice (some ⟨b44, 0, none⟩) 1 1) 0) 135, REG q sg (rc), ownS 220 1 (sv) (sg).length (ptrs (sg)), blk b44 (Go.Proofs.YtcngmkjdpoiiaaaGreatDoor.rc [cur]) 63, blk b7 cur.j.cells 63, argOr w0 50 5 cur.j.l.s.b cur.j.l.s.xs.length cur.j.l.s.c (Go.Proofs.YtcngmkjdpoiiaaaGreatDoor.rc cur.j.l.s.xs), argOr w0 175 4 cur.j.l.r.b cur.j.l.r.xs.length cur.j.l.r.c (Go.Proofs.YtcngmkjdpoiiaaaGreatDoor.rc cur.j.l.r.xs), blk b9 o.o.cells 110, blk b2 [.int .i64 most, .slice (some ⟨nbb, nbj, none⟩) sts.length nc, .slice (some ⟨obb, obj, none⟩) ops.length oc] 98]) (Weak.pick (p := [_]) (Weak.pick (p := [_]) (Weak.pick (p := [_]) (Weak.pick (p := [_]) (Weak.pick (p := [_]) (Weak.pick (p := [_]) (Weak.pick (p := [_]) (Weak.pick (p := [_]) (Weak.keep (Weak.keep (Weak.nil _))))))))))) (rR (lP (pF ty_fl_110_0) (k:=lV (vB ty_sc_3 .h8) (k:=?_))))
      refine L_nil (qT (R_block (rT (lP pEq (k:=?_)))))
      refine E_bool (t := 78) rfl (fun k1 => ?_) (fun k1 => ?_)
      ·skip
       refine lA (k:=?_)
       refine L_nil (qT (kT (k:=?_)))
       refine R_openQ [(0, 0), (1, 0), (2, 0), (3, 1), (4, 1), (5, 0), (6, 0), (7, 0), (8, 1), (9, 0), (10, 0), (11, 1), (12, 2), (13, 2)] [sightP w p q (.slice (some ⟨b44, 0, none⟩) 1 1) 0, blk b7 cur.j.cells 63, blk b9 o.o.cells 110] (Weak.trans (Weak.pick (p := [_]) (Weak.pick (p := [_, _, _, _]) (Weak.pick (p := [_, _, _, _, _, _]) (Weak.nil _)))) Weak.sightP) mixed (by kernel_rfl) (QOk.block (QOk.then (QOk.block (QOk.then (QOk.then (QOk.block (QOk.then QOk.body))))))) ?_
       refine O_pureQ rfl rfl rfl rfl (P_move rfl rfl) ?_
       refine O_pureQ rfl rfl rfl rfl (P_nil rfl rfl) ?_
       refine O_pureQ rfl rfl rfl rfl (P_fld0 rfl ty_fl_135_0 rfl) ?_
       refine O_valQ rfl rfl rfl rfl (V_load rfl rfl ty_sc_68 (rd_sightP .h0 (fun _ => rfl))) ?_
       refine O_valQ rfl rfl rfl rfl (V_loadAgg rfl rfl ty_ag_63 (Rds.blk .h1) (StJ.len cur.last)) ?_
       refine O_pureQ rfl rfl rfl rfl (P_move rfl rfl) ?_
       refine O_pureQ rfl rfl rfl rfl (P_nil rfl rfl) ?_
       refine O_pureQ rfl rfl rfl rfl (P_fld0 rfl ty_fl_135_1 rfl) ?_
       refine O_valQ rfl rfl rfl rfl (V_load rfl rfl ty_sc_69 (rd_sightP .h0 (fun _ => rfl))) ?_
       refine O_pureQ rfl rfl rfl rfl (P_move rfl rfl) ?_
       refine O_pureQ rfl rfl rfl rfl (P_fld0 rfl ty_fl_110_1 rfl) ?_
       refine O_valQ rfl rfl rfl rfl (V_loadAgg rfl rfl ty_ag_67 ((Rds.blk .h2).part 1 (op_tx o)) (o.tx.cellsLen)) ?_
       refine O_keepQ rfl rfl (W_call rfl rfl rfl rfl fn_ca_58 (sign_ok hG w p q sv 0 (some ⟨b44, 0, none⟩) 1 [cur] (Nat.le_refl _) (by show 1 ≤ _; decide) (AtOk.zero _) sg rc (by omega) (by omega) hso o.o.tx o.tx) (Weak.pick (p := [_]) (Weak.pick (p := [_]) (Weak.pick (p := [_]) (Weak.keep (Weak.keep (Weak.keep (Weak.keep (Weak.keep (Weak.keep (Weak.keep (Weak.nil _))))))))))) (Sn.pre (Sn.ofBlk .h1)) fun v3 rs3 ⟨sg2, sv2, e1, hsl, hso2, e2⟩ => ?_)
       subst e1; subst e2
       have hrl9 := sigR_len cur.j.ch o.o.tx rc
       have hxo := sigX_ok cur.j.ch o.tx
       obtain ⟨cp, hC⟩ := cheap_ex hI.ok (⟨(sigX cur.j.ch o.o.tx), hxo⟩ : TxR).t.frm
       refine K_keepQ (Weak.trans (Weak.keep (Weak.pick (p := [_, _, _, _]) (Weak.pick (p := [_, _, _, _, _, _]) (Weak.nil _)))) Weak.sightP) ?_
       refine O_keepQ rfl rfl (W_callR rfl rfl rfl rfl fn_ca_35 (padd_ok hG p most H hI.ok q sg2 (sigR cur.j.ch o.o.tx rc) cur.j.l.s.b cur.j.l.s.c cur.j.l.s.xs cur.hc (by have := cur.hm; omega) cur.ok cur.j.l.r.val rfl cur.r cur.ch (⟨(sigX cur.j.ch o.o.tx), hxo⟩ : TxR) cp hC) (Weak.pick (p := [_, _, _]) (Weak.pick (p := [_]) (Weak.keep (Weak.keep (Weak.keep (Weak.keep (Weak.keep (Weak.keep (Weak.keep (Weak.keep (Weak.nil _))))))))))) (Sn.pre (Sn.argOr .h4 rfl)) (K_keepQ (Weak.trans (Weak.pick (p := [_, _]) (Weak.pick (p := [_, _, _, _]) (Weak.pick (p := [_, _, _, _, _, _]) (Weak.nil _)))) Weak.sightP) ?_))
       refine O_nilQ ?_
       refine St.env (cE 1 rfl (cE 2 rfl (cE 4 rfl (cE 5 rfl (cE 7 rfl (cE 8 rfl (cE 9 rfl (cE 63 rfl (cE 64 rfl (cE 65 rfl (cE 66 rfl (cE 67 rfl (cE 70 rfl (cE 71 rfl (cE 72 rfl (cE 73 rfl (cE 74 rfl (cE 75 rfl (cE 76 rfl (cE 77 rfl (cE 78 rfl (cE 79 rfl (cE 80 rfl (cE 81 rfl (cE 82 rfl (cE 83 rfl (cE 84 rfl (cE 85 rfl (cE 86 rfl (cE 87 rfl (cE 88 rfl (cE 89 rfl (cE 90 rfl (cE 91 rfl .nil)))))))))))))))))))))))))))))))))) (Q_block ?_)
       exact Q_meet ((addH (sigR cur.j.ch o.o.tx rc) cur.r.ch H cur.j.l.s.xs most (⟨(sigX cur.j.ch o.o.tx), hxo⟩ : TxR) cp), sg2, (sigR cur.j.ch o.o.tx rc), sv2, cur) (by show PoolInv most ((addH (sigR cur.j.ch o.o.tx rc) cur.r.ch H cur.j.l.s.xs most (⟨(sigX cur.j.ch o.o.tx), hxo⟩ : TxR) cp)) ∧ (sg2).length ≤ i + 1 ∧ ((sigR cur.j.ch o.o.tx rc)).length ≤ i + 1 ∧ SgOk (sg2) ∧ ChOk (cur) ((addH (sigR cur.j.ch o.o.tx rc) cur.r.ch H cur.j.l.s.xs most (⟨(sigX cur.j.ch o.o.tx), hxo⟩ : TxR) cp)) (i + 1); exact ⟨add_inv hI hC, by omega, by omega, hso2, hCh.lf, add_rows hCh.rows hI.ok hC, by push_cast; omega⟩) (by repeat (first | exact .nil | refine .cons rfl ?_ | refine .consE rfl (by first | rfl | (congr 1; omega) | (congr 1; push_cast; omega)) ?_)) (Weak.keep (Weak.pick (p := [_]) (Weak.keep (Weak.keep (Weak.keep (Weak.keep (Weak.keep (Weak.keep (Weak.keep (Weak.keep (Weak.nil _)))))))))))
      ·skip
       refine lA (k:=?_)
       refine L_nil (qT (kF (k:=?_)))
       refine R_joinE0 (G := Bool) (cE 1 rfl (cE 2 rfl (cE 4 rfl (cE 5 rfl (cE 7 rfl (cE 8 rfl (cE 9 rfl (cE 63 rfl (cE 64 rfl (cE 65 rfl (cE 66 rfl (cE 67 rfl (cE 70 rfl (cE 71 rfl (cE 72 rfl (cE 73 rfl (cE 74 rfl (cE 75 rfl (cE 76 rfl (cE 77 rfl (cE 78 rfl .nil))))))))))))))))))))) (fun g => [(93, .bool g)]) (fun g => True) ?_ ?_
       ·skip
        refine rT (lP pEq (k:=?_))
        refine E_bool (t := 94) rfl (fun k2 => ?_) (fun k2 => ?_)
        ·skip
         refine lA (k:=?_)
         refine L_nil (qT (kT (k:=R_skip ?_)))
         exact Q_meet (true) (trivial) (by repeat (first | exact .nil | refine .cons rfl ?_ | refine .consE rfl (by first | rfl | (congr 1; omega) | (congr 1; push_cast; omega)) ?_)) (Weak.refl _)
        ·skip
         refine lA (k:=?_)
         refine L_nil (qT (kF (k:=rT (lP pEq (k:=?_)))))
         refine E_bool (t := 95) rfl (fun k7 => ?_) (fun k7 => ?_)
         ·skip
          refine lA (k:=?_)
          refine L_nil (qT (kT (k:=R_skip ?_)))
          exact Q_meet (true) (trivial) (by repeat (first | exact .nil | refine .cons rfl ?_ | refine .consE rfl (by first | rfl | (congr 1; omega) | (congr 1; push_cast; omega)) ?_)) (Weak.refl _)
         ·skip
          refine lA (k:=?_)
          refine L_nil (qT (kF (k:=rR (lP pEq (k:=?_)))))
          refine E_bool (t := 96) rfl (fun k3 => ?_) (fun k3 => ?_)
          ·skip
           refine lA (k:=?_)
           refine L_nil ?_
           exact Q_meet (true) (trivial) (by repeat (first | exact .nil | refine .cons rfl ?_ | refine .consE rfl (by first | rfl | (congr 1; omega) | (congr 1; push_cast; omega)) ?_)) (Weak.refl _)
          ·skip
           refine lA (k:=?_)
           refine L_nil ?_
           exact Q_meet (false) (trivial) (by repeat (first | exact .nil | refine .cons rfl ?_ | refine .consE rfl (by first | rfl | (congr 1; omega) | (congr 1; push_cast; omega)) ?_)) (Weak.refl _)
       ·intro bq hinv
        replace hinv : True := hinv
        show St (cx gl) _ ((93, .bool bq) :: _) _ _
        refine R_cond rfl (fun hbq => ?_) (fun hbq => ?_)
        ·skip
         refine rS ?_
         refine R_open [(0, 0), (1, 0), (2, 0), (3, 1), (4, 1), (5, 0), (6, 0), (7, 0), (8, 1), (9, 0), (10, 1), (11, 3), (12, 0)] mixed (by kernel_rfl) (QOk.then (QOk.block (QOk.then (QOk.block (QOk.then (QOk.then (QOk.block (QOk.then QOk.body)))))))) (oP rfl pM (k:=oP rfl pN (k:=oP rfl (pF ty_fl_135_0) (k:=oV rfl (vB ty_sc_68 .h1) (k:=?_)))))
         refine oV rfl (V_loadAgg rfl rfl ty_ag_63 (Rds.blk .h5) (StJ.len cur.last)) (k:=oP rfl pM (k:=oP rfl pN (k:=oP rfl (pF ty_fl_135_1) (k:=oV rfl (vB ty_sc_69 .h1) (k:=oP rfl (pF ty_fl_110_5) (k:=?_))))))
         refine oV rfl (V_load rfl rfl ty_sc_26 (Rd.blk .h8 (op_end o 1 _ rfl))) (k:=?_)
         refine O_new rfl rfl (W_call rfl rfl rfl rfl fn_ca_36 (ppick_ok hG p most H hI.ok hI.top hl q sg rc cur.j.l.s.b cur.j.l.s.c cur.j.l.s.xs cur.hc (by have := cur.hm; omega) cur.ok cur.j.l.r.b cur.j.l.r.c cur.j.l.r.xs cur.hc' (by have := cur.hm'; omega) cur.ok' cur.r cur.ch cur.h cur.p.p3 cur.bu o.o.pr) (Weak.keep (Weak.pick (p := [_]) (Weak.keep (Weak.keep (Weak.keep (Weak.keep (Weak.keep (Weak.keep (Weak.keep (Weak.keep (Weak.nil _))))))))))) (fun wd a b ha hb dj m => ⟨Sn.pre (Sn.argOr .h4 rfl) wd a b ha hb dj m, Sn.pre (Sn.argOr .h5 rfl) wd a b ha hb dj m⟩) fun v5 rs5 ⟨Q, qb, qc, e1, hPk, e2⟩ => ?_)
         subst e1; subst e2
         refine St.ownForm (p := [_, _]) fun qb9 qc9 hq hqc => ?_
         simp only [Value.slice.injEq] at hq
         obtain ⟨rfl, _, rfl⟩ := hq
         have hpd := hPk.picked
         have hQl := nodup_sub_len hpd.nodup hpd.mem
         refine K_new (oP rfl pA (k:=O_nil (qT (rT (lMv (k:=lMv (k:=lP (pL ty_sl_92) (k:=?_))))))))
         refine lP (P_addN rfl rfl rfl (by simp only [fits]; omega)) (k:=?_)
         refine lO (W_callV rfl rfl rfl rfl fn_ca_39 (ar_ok cut ((Q.length : Int) + 1) (by omega)) (fun _ _ => trivial) (lA (k:=?_)))
         refine L_nil (qT ?_)
         refine R_joinE (G := Nat × List Acc × List Rel × Int × Option Addr × Nat × Option Addr × Nat) (cE 1 rfl (cE 2 rfl (cE 4 rfl (cE 5 rfl (cE 7 rfl (cE 8 rfl (cE 9 rfl (cE 10 rfl (cE 11 rfl (cE 63 rfl (cE 64 rfl (cE 65 rfl (cE 66 rfl (cE 67 rfl (cE 70 rfl (cE 71 rfl (cE 72 rfl (cE 73 rfl (cE 74 rfl (cE 75 rfl (cE 76 rfl (cE 77 rfl (cE 78 rfl (cE 93 rfl (cE 97 rfl (cE 98 rfl (cE 99 rfl (cE 100 rfl (cE 101 rfl (cE 102 rfl (cE 103 rfl (cE 104 rfl (cE 105 rfl (cE 106 rfl (cE 107 rfl (cE 108 rfl (cE 109 rfl (cE 110 rfl (cE 111 rfl (cE 112 rfl (cE 113 rfl .nil))))))))))))))))))))))))))))))))))))))))) (fun g => [(12, .pointer (some ⟨g.1, 0, none⟩)), (13, .bool true)]) (fun g => [blk w (sightC p q (sv) (.slice (some ⟨b44, 0, none⟩) 1 1) 0) 135, REG q sg (rc), blk g.1 (({ cur.r with bu := g.2.2.2.1, h := cur.r.h + 1 } : StR).cells (.slice g.2.2.2.2.1 g.2.1.length g.2.2.2.2.2.1) (.slice g.2.2.2.2.2.2.1 g.2.2.1.length g.2.2.2.2.2.2.2)) 63, ownS 50 5 (.slice g.2.2.2.2.1 g.2.1.length g.2.2.2.2.2.1) (g.2.1.length) (Go.Proofs.YtcngmkjdpoiiaaaGreatDoor.rc (g.2.1)), ownS 175 4 (.slice g.2.2.2.2.2.2.1 g.2.2.1.length g.2.2.2.2.2.2.2) (g.2.2.1.length) (Go.Proofs.YtcngmkjdpoiiaaaGreatDoor.rc (g.2.2.1)), POOL p most (H), ownS 67 22 (.slice qb Q.length qc) Q.length (Go.Proofs.YtcngmkjdpoiiaaaGreatDoor.rc Q), ownS 220 1 (sv) (sg).length (ptrs (sg)), blk b44 (Go.Proofs.YtcngmkjdpoiiaaaGreatDoor.rc [cur]) 63, blk b7 cur.j.cells 63, argOr w0 50 5 cur.j.l.s.b cur.j.l.s.xs.length cur.j.l.s.c (Go.Proofs.YtcngmkjdpoiiaaaGreatDoor.rc cur.j.l.s.xs), argOr w0 175 4 cur.j.l.r.b cur.j.l.r.xs.length cur.j.l.r.c (Go.Proofs.YtcngmkjdpoiiaaaGreatDoor.rc cur.j.l.r.xs), blk b9 o.o.cells 110, blk b2 [.int .i64 most, .slice (some ⟨nbb, nbj, none⟩) sts.length nc, .slice (some ⟨obb, obj, none⟩) ops.length oc] 98]) (fun g => Ends (appF rc cur.r.ch cur.r.p (cur.r.h + 1) o.o.pr) (payL cur.j.l.led (cur.r.h + 1)) (Q.take (arI cut ((Q.length : Int) + 1)).toNat) (⟨g.2.1, g.2.2.1, g.2.2.2.1, cur.j.l.su⟩ : Led) ∧ g.2.1.length ≤ g.2.2.2.2.2.1 ∧ g.2.2.1.length ≤ g.2.2.2.2.2.2.2) ?_ ?_
         ·skip
          obtain ⟨hk0, hk1⟩ := arI_bound (x := cut) (n := (Q.length : Int) + 1) (by omega)
          have hkn : (arI cut ((Q.length : Int) + 1)).toNat ≤ Q.length := by omega
          have hhn : cur.r.h < 1099511627776 := by show cur.j.h < _; omega
          have hchq : Chain (appF rc cur.r.ch cur.r.p (cur.r.h + 1) o.o.pr) (payL cur.j.l.led (cur.r.h + 1)) (Q.take (arI cut ((Q.length : Int) + 1)).toNat) := by
           cases hQ9 : Q with
           | nil => rw [List.take_nil]; exact .nil
           | cons y l9 => rw [← hQ9]; exact (hpd.pick (by rw [hQ9]; simp)).2.take _
          refine St.res (rs' := [blk w (sightC p q (sv) (.slice (some ⟨b44, 0, none⟩) 1 1) 0) 135, REG q sg (rc), POOL p most (H), ownS 67 22 (.slice qb Q.length qc) Q.length (Go.Proofs.YtcngmkjdpoiiaaaGreatDoor.rc Q), ownS 220 1 (sv) (sg).length (ptrs (sg)), blk b44 (Go.Proofs.YtcngmkjdpoiiaaaGreatDoor.rc [cur]) 63, blk b7 cur.j.cells 63, argOr w0 50 5 cur.j.l.s.b cur.j.l.s.xs.length cur.j.l.s.c (Go.Proofs.YtcngmkjdpoiiaaaGreatDoor.rc cur.j.l.s.xs), argOr w0 175 4 cur.j.l.r.b cur.j.l.r.xs.length cur.j.l.r.c (Go.Proofs.YtcngmkjdpoiiaaaGreatDoor.rc cur.j.l.r.xs), blk b9 o.o.cells 110, blk b2 [.int .i64 most, .slice (some ⟨nbb, nbj, none⟩) sts.length nc, .slice (some ⟨obb, obj, none⟩) ops.length oc] 98]) (Weak.pick (p := [_, _, _]) (Weak.pick (p := [_]) (Weak.keep (Weak.keep (Weak.keep (Weak.keep (Weak.keep (Weak.keep (Weak.keep (Weak.keep (Weak.keep (Weak.nil _)))))))))))) ?_
          refine T_open (.op 0 0 (.op 1 1 (.op 2 0 (.op 3 0 (.op 4 0 (.op 5 0 (.op 6 1 (.two 7 11 (.op 8 0 (.op 9 0 (.op 10 0 (.op 11 2 (.op 12 3 (.op 13 0 .nil)))))) (.op 7 2 (.op 8 0 (.op 9 0 (.op 10 0 (.op 12 3 (.op 13 0 .nil)))))))))))))) mixed (by kernel_rfl) (QOk.then (QOk.block (QOk.then (QOk.block (QOk.then (QOk.then (QOk.block (QOk.then QOk.body)))))))) ?_
          refine T_pure rfl rfl rfl rfl (P_move rfl rfl) ?_
          refine T_val rfl rfl rfl rfl (V_loadAgg rfl rfl ty_ag_63 (Rds.blk .h6) (StJ.len cur.last)) ?_
          refine T_pure rfl rfl rfl rfl (P_move rfl rfl) ?_
          refine T_pure rfl rfl rfl rfl (P_move rfl rfl) ?_
          refine T_pure rfl rfl rfl rfl (P_slice 0 (arI cut ((Q.length : Int) + 1)).toNat rfl ty_sl_92 rfl rfl ⟨_, by rw [show (((arI cut ((Q.length : Int) + 1)).toNat : Nat) : Int) = arI cut ((Q.length : Int) + 1) by omega]; rfl⟩ (Nat.zero_le _) (by omega)) ?_
          refine E_as (t := 119) (v' := .slice (if qc = 0 then qb else qb.map (·.add (0 * 22))) (Q.take (arI cut ((Q.length : Int) + 1)).toNat).length qc) rfl (sliced_take hkn) ?_
          refine T_pure rfl rfl rfl rfl (P_fld0 rfl ty_fl_110_5 rfl) ?_
          refine T_val rfl rfl rfl rfl (V_load rfl rfl ty_sc_26 (Rd.blk .h9 (op_end o 1 _ rfl))) ?_
          refine T_two ?_ ?_
          ·skip
           refine T_keep rfl rfl (W_call rfl rfl rfl rfl fn_ca_73 (lblock_ok hG w p q sv (.slice (some ⟨b44, 0, none⟩) 1 1) 0 cur sg rc o.o.pr (if qc = 0 then qb else qb.map (·.add (0 * 22))) qc (Q.take (arI cut ((Q.length : Int) + 1)).toNat) (by rw [List.length_take]; omega) (by rw [List.length_take]; omega) hhn hchq) (by first | exact (Weak.refl _) | exact (Weak.pick (p := [_]) (Weak.pick (p := [_]) (Weak.keep (Weak.keep (Weak.keep (Weak.keep (Weak.keep (Weak.keep (Weak.keep (Weak.keep (Weak.keep (Weak.keep (Weak.nil _)))))))))))))) (fun wd a b ha hb dj m => ⟨by first | exact Sn.pre (Sn.argOr .h5 rfl) wd a b ha hb dj m | exact Sn.pre (Sn.argOr .h6 rfl) wd a b ha hb dj m, by first | exact Sn.pre (Sn.argOr .h6 rfl) wd a b ha hb dj m | exact Sn.pre (Sn.argOr .h7 rfl) wd a b ha hb dj m, by first | exact Sn.pre ((Sn.own .h1 rfl).slice0 _ _) wd a b ha hb dj m | exact Sn.pre ((Sn.own .h2 rfl).slice0 _ _) wd a b ha hb dj m⟩) fun v6 rs6 ⟨la, ra, bz, ab, ac, rb, rk, e1, hen, hLO, hac, hrk, e2⟩ => ?_)
           subst e1; subst e2
           refine K_keepT (by first | exact (Weak.keep (Weak.keep (Weak.drop (Weak.drop (Weak.refl _))))) | exact (Weak.pick (p := [_, _, _, _]) (Weak.keep (Weak.keep (Weak.pick (p := [_, _]) (Weak.pick (p := [_, _]) (Weak.pick (p := [_, _]) (Weak.pick (p := [_, _]) (Weak.pick (p := [_, _]) (Weak.pick (p := [_, _]) (Weak.pick (p := [_, _]) (Weak.pick (p := [_, _]) (Weak.pick (p := [_, _]) (Weak.nil _)))))))))))))) ?_
           refine T_pure rfl rfl rfl rfl (P_move rfl rfl) ?_
           refine T_pure rfl rfl rfl rfl (P_extract rfl rfl rfl) ?_
           refine T_pure rfl rfl rfl rfl (P_extract rfl rfl rfl) ?_
           refine T_keep rfl rfl (W_alloc rfl rfl rfl ty_ze_63 fun b12 => (K_keepT (Weak.drop (Weak.refl _)) ?_))
           first | (refine T_new rfl rfl (W_storeAll rfl rfl rfl rfl ty_ag_63 (StR.len _ _ _) (StR.one _ rfl rfl) .h0 ((StR.len _ _ _).trans rfl) (K_newT ?_))) | (refine T_new rfl rfl (W_storeAll rfl rfl rfl rfl ty_ag_63 (StR.len _ _ _) (StR.one _ rfl rfl) .h1 ((StR.len _ _ _).trans rfl) (K_newT ?_))) | (refine T_new rfl rfl (W_storeAll rfl rfl rfl rfl ty_ag_63 (StR.len _ _ _) (StR.one _ rfl rfl) .h2 ((StR.len _ _ _).trans rfl) (K_newT ?_))) | (refine T_new rfl rfl (W_storeAll rfl rfl rfl rfl ty_ag_63 (StR.len _ _ _) (StR.one _ rfl rfl) .h3 ((StR.len _ _ _).trans rfl) (K_newT ?_))) | (refine T_new rfl rfl (W_storeAll rfl rfl rfl rfl ty_ag_63 (StR.len _ _ _) (StR.one _ rfl rfl) .h4 ((StR.len _ _ _).trans rfl) (K_newT ?_))) | (refine T_new rfl rfl (W_storeAll rfl rfl rfl rfl ty_ag_63 (StR.len _ _ _) (StR.one _ rfl rfl) .h5 ((StR.len _ _ _).trans rfl) (K_newT ?_))) | (refine T_new rfl rfl (W_storeAll rfl rfl rfl rfl ty_ag_63 (StR.len _ _ _) (StR.one _ rfl rfl) .h6 ((StR.len _ _ _).trans rfl) (K_newT ?_))) | (refine T_new rfl rfl (W_storeAll rfl rfl rfl rfl ty_ag_63 (StR.len _ _ _) (StR.one _ rfl rfl) .h7 ((StR.len _ _ _).trans rfl) (K_newT ?_)))
           refine T_pure rfl rfl rfl rfl (P_assign rfl rfl) ?_
           refine T_nil ?_
           exact Q_meet (b12, la, ra, bz, ab, ac, rb, rk) (by show Ends (appF rc cur.r.ch cur.r.p (cur.r.h + 1) o.o.pr) (payL cur.j.l.led (cur.r.h + 1)) (Q.take (arI cut ((Q.length : Int) + 1)).toNat) (⟨(la), (ra), (bz), cur.j.l.su⟩ : Led) ∧ (la).length ≤ (ac) ∧ (ra).length ≤ (rk); exact ⟨hen, hac, hrk⟩) (by repeat (first | exact .nil | refine .cons rfl ?_ | refine .consE rfl (by first | rfl | (congr 1; omega) | (congr 1; push_cast; omega)) ?_)) (by first | exact (Weak.pick (p := [_]) (Weak.pick (p := [_]) (Weak.keep (Weak.keep (Weak.keep (Weak.keep (Weak.keep (Weak.keep (Weak.keep (Weak.keep (Weak.keep (Weak.keep (Weak.keep (Weak.keep (Weak.nil _))))))))))))))) | exact (Weak.keep (Weak.keep (Weak.pick (p := [_, _]) (Weak.keep (Weak.keep (Weak.keep (Weak.keep (Weak.keep (Weak.keep (Weak.keep (Weak.keep (Weak.keep (Weak.keep (Weak.keep (Weak.nil _))))))))))))))))
          ·skip
           refine T_keep rfl rfl (W_alloc rfl rfl rfl ty_ze_63 fun b12 => (K_keepT (Weak.drop (Weak.refl _)) ?_))
           refine T_keep rfl rfl (W_call rfl rfl rfl rfl fn_ca_73 (lblock_ok hG w p q sv (.slice (some ⟨b44, 0, none⟩) 1 1) 0 cur sg rc o.o.pr (if qc = 0 then qb else qb.map (·.add (0 * 22))) qc (Q.take (arI cut ((Q.length : Int) + 1)).toNat) (by rw [List.length_take]; omega) (by rw [List.length_take]; omega) hhn hchq) (by first | exact (Weak.refl _) | exact (Weak.pick (p := [_]) (Weak.pick (p := [_]) (Weak.keep (Weak.keep (Weak.keep (Weak.keep (Weak.keep (Weak.keep (Weak.keep (Weak.keep (Weak.keep (Weak.keep (Weak.nil _)))))))))))))) (fun wd a b ha hb dj m => ⟨by first | exact Sn.pre (Sn.argOr .h5 rfl) wd a b ha hb dj m | exact Sn.pre (Sn.argOr .h6 rfl) wd a b ha hb dj m, by first | exact Sn.pre (Sn.argOr .h6 rfl) wd a b ha hb dj m | exact Sn.pre (Sn.argOr .h7 rfl) wd a b ha hb dj m, by first | exact Sn.pre ((Sn.own .h1 rfl).slice0 _ _) wd a b ha hb dj m | exact Sn.pre ((Sn.own .h2 rfl).slice0 _ _) wd a b ha hb dj m⟩) fun v6 rs6 ⟨la, ra, bz, ab, ac, rb, rk, e1, hen, hLO, hac, hrk, e2⟩ => ?_)
           subst e1; subst e2
           refine K_keepT (by first | exact (Weak.keep (Weak.keep (Weak.drop (Weak.drop (Weak.refl _))))) | exact (Weak.pick (p := [_, _, _, _]) (Weak.keep (Weak.keep (Weak.pick (p := [_, _]) (Weak.pick (p := [_, _]) (Weak.pick (p := [_, _]) (Weak.pick (p := [_, _]) (Weak.pick (p := [_, _]) (Weak.pick (p := [_, _]) (Weak.pick (p := [_, _]) (Weak.pick (p := [_, _]) (Weak.pick (p := [_, _]) (Weak.nil _)))))))))))))) ?_
           refine T_pure rfl rfl rfl rfl (P_move rfl rfl) ?_
           refine T_pure rfl rfl rfl rfl (P_extract rfl rfl rfl) ?_
           refine T_pure rfl rfl rfl rfl (P_extract rfl rfl rfl) ?_
           first | (refine T_new rfl rfl (W_storeAll rfl rfl rfl rfl ty_ag_63 (StR.len _ _ _) (StR.one _ rfl rfl) .h0 ((StR.len _ _ _).trans rfl) (K_newT ?_))) | (refine T_new rfl rfl (W_storeAll rfl rfl rfl rfl ty_ag_63 (StR.len _ _ _) (StR.one _ rfl rfl) .h1 ((StR.len _ _ _).trans rfl) (K_newT ?_))) | (refine T_new rfl rfl (W_storeAll rfl rfl rfl rfl ty_ag_63 (StR.len _ _ _) (StR.one _ rfl rfl) .h2 ((StR.len _ _ _).trans rfl) (K_newT ?_))) | (refine T_new rfl rfl (W_storeAll rfl rfl rfl rfl ty_ag_63 (StR.len _ _ _) (StR.one _ rfl rfl) .h3 ((StR.len _ _ _).trans rfl) (K_newT ?_))) | (refine T_new rfl rfl (W_storeAll rfl rfl rfl rfl ty_ag_63 (StR.len _ _ _) (StR.one _ rfl rfl) .h4 ((StR.len _ _ _).trans rfl) (K_newT ?_))) | (refine T_new rfl rfl (W_storeAll rfl rfl rfl rfl ty_ag_63 (StR.len _ _ _) (StR.one _ rfl rfl) .h5 ((StR.len _ _ _).trans rfl) (K_newT ?_))) | (refine T_new rfl rfl (W_storeAll rfl rfl rfl rfl ty_ag_63 (StR.len _ _ _) (StR.one _ rfl rfl) .h6 ((StR.len _ _ _).trans rfl) (K_newT ?_))) | (refine T_new rfl rfl (W_storeAll rfl rfl rfl rfl ty_ag_63 (StR.len _ _ _) (StR.one _ rfl rfl) .h7 ((StR.len _ _ _).trans rfl) (K_newT ?_)))
           refine T_pure rfl rfl rfl rfl (P_assign rfl rfl) ?_
           refine T_nil ?_
           exact Q_meet (b12, la, ra, bz, ab, ac, rb, rk) (by show Ends (appF rc cur.r.ch cur.r.p (cur.r.h + 1) o.o.pr) (payL cur.j.l.led (cur.r.h + 1)) (Q.take (arI cut ((Q.length : Int) + 1)).toNat) (⟨(la), (ra), (bz), cur.j.l.su⟩ : Led) ∧ (la).length ≤ (ac) ∧ (ra).length ≤ (rk); exact ⟨hen, hac, hrk⟩) (by repeat (first | exact .nil | refine .cons rfl ?_ | refine .consE rfl (by first | rfl | (congr 1; omega) | (congr 1; push_cast; omega)) ?_)) (by first | exact (Weak.pick (p := [_]) (Weak.pick (p := [_]) (Weak.keep (Weak.keep (Weak.keep (Weak.keep (Weak.keep (Weak.keep (Weak.keep (Weak.keep (Weak.keep (Weak.keep (Weak.keep (Weak.keep (Weak.nil _))))))))))))))) | exact (Weak.keep (Weak.keep (Weak.pick (p := [_, _]) (Weak.keep (Weak.keep (Weak.keep (Weak.keep (Weak.keep (Weak.keep (Weak.keep (Weak.keep (Weak.keep (Weak.keep (Weak.keep (Weak.nil _))))))))))))))))
         ·rintro ⟨b12, la, ra, bz, ab, ac, rb, rk⟩ hinv
          replace hinv : Ends (appF rc cur.r.ch cur.r.p (cur.r.h + 1) o.o.pr) (payL cur.j.l.led (cur.r.h + 1)) (Q.take (arI cut ((Q.length : Int) + 1)).toNat) (⟨la, ra, bz, cur.j.l.su⟩ : Led) ∧ la.length ≤ ac ∧ ra.length ≤ rk := hinv
          show St (cx gl) _ ((12, .pointer (some ⟨b12, 0, none⟩)) :: (13, .bool true) :: _) [blk w (sightC p q (sv) (.slice (some ⟨b44, 0, none⟩) 1 1) 0) 135, REG q sg (rc), blk b12 (({ cur.r with bu := bz, h := cur.r.h + 1 } : StR).cells (.slice ab la.length ac) (.slice rb ra.length rk)) 63, ownS 50 5 (.slice ab la.length ac) (la.length) (Go.Proofs.YtcngmkjdpoiiaaaGreatDoor.rc (la)), ownS 175 4 (.slice rb ra.length rk) (ra.length) (Go.Proofs.YtcngmkjdpoiiaaaGreatDoor.rc (ra)), POOL p most (H), ownS 67 22 (.slice qb Q.length qc) Q.length (Go.Proofs.YtcngmkjdpoiiaaaGreatDoor.rc Q), ownS 220 1 (sv) (sg).length (ptrs (sg)), blk b44 (Go.Proofs.YtcngmkjdpoiiaaaGreatDoor.rc [cur]) 63, blk b7 cur.j.cells 63, argOr w0 50 5 cur.j.l.s.b cur.j.l.s.xs.length cur.j.l.s.c (Go.Proofs.YtcngmkjdpoiiaaaGreatDoor.rc cur.j.l.s.xs), argOr w0 175 4 cur.j.l.r.b cur.j.l.r.xs.length cur.j.l.r.c (Go.Proofs.YtcngmkjdpoiiaaaGreatDoor.rc cur.j.l.r.xs), blk b9 o.o.cells 110, blk b2 [.int .i64 most, .slice (some ⟨nbb, nbj, none⟩) sts.length nc, .slice (some ⟨obb, obj, none⟩) ops.length oc] 98] _
          obtain ⟨hen, hac, hrk⟩ := hinv
          have hhn : cur.r.h < 1099511627776 := by show cur.j.h < _; omega
          have hp9 := cur.p.p3
          have hkp : Kept cur.j.l.led (⟨la, ra, bz, cur.j.l.su⟩ : Led) := by
           have hpe : payE (cur.r.h + 1) = 0 := by unfold payE; have h9 := cur.h.1; have h9 : 0 ≤ cur.r.h := h9; rw [if_neg (by omega)]
           have k1 := pay_kept hCh.lf hpe
           exact k1.trans (hen.kept k1.lf o.pr ⟨by have h9 := cur.h.1; have h9 : 0 ≤ cur.r.h := h9; omega, by omega⟩ cur.p.p3)
          obtain ⟨cur2, hc2⟩ : ∃ c, c = cur.next (⟨la, ra, bz, cur.j.l.su⟩ : Led) hkp.lf ab ac rb rk hac hrk hhn := ⟨_, rfl⟩
          have hCh2 : ChOk cur2 (keptH cur2.j.l.s.xs H) (i + 1) := by
           rw [hc2]
           exact ⟨hkp.lf, hCh.rows.on hCh.lf hkp, by show cur.j.h + 1 ≤ _; push_cast; omega⟩
          refine St.res (rs' := [blk w (sightC p q (sv) (.slice (some ⟨b44, 0, none⟩) 1 1) 0) 135, REG q sg (rc), blk b12 cur2.j.cells 63, argOr w0 50 5 cur2.j.l.s.b cur2.j.l.s.xs.length cur2.j.l.s.c (Go.Proofs.YtcngmkjdpoiiaaaGreatDoor.rc cur2.j.l.s.xs), argOr w0 175 4 cur2.j.l.r.b cur2.j.l.r.xs.length cur2.j.l.r.c (Go.Proofs.YtcngmkjdpoiiaaaGreatDoor.rc cur2.j.l.r.xs), POOL p most (H), ownS 67 22 (.slice qb Q.length qc) Q.length (Go.Proofs.YtcngmkjdpoiiaaaGreatDoor.rc Q), ownS 220 1 (sv) (sg).length (ptrs (sg)), blk b44 (Go.Proofs.YtcngmkjdpoiiaaaGreatDoor.rc [cur]) 63, blk b7 cur.j.cells 63, argOr w0 50 5 cur.j.l.s.b cur.j.l.s.xs.length cur.j.l.s.c (Go.Proofs.YtcngmkjdpoiiaaaGreatDoor.rc cur.j.l.s.xs), argOr w0 175 4 cur.j.l.r.b cur.j.l.r.xs.length cur.j.l.r.c (Go.Proofs.YtcngmkjdpoiiaaaGreatDoor.rc cur.j.l.r.xs), blk b9 o.o.cells 110, blk b2 [.int .i64 most, .slice (some ⟨nbb, nbj, none⟩) sts.length nc, .slice (some ⟨obb, obj, none⟩) ops.length oc] 98]) (by rw [hc2]; exact Weak.keep (Weak.keep (Weak.keep (Weak.trans Weak.ownArg (Weak.keep Weak.ownArg))))) (rS (rT (lMv (k:=?_))))
          refine E_true (t := 125) rfl (rfl) (lP pO (k:=?_))
          refine L_nil (qT (kF (k:=R_skip (qT (rT ?_)))))
          refine lV (V_loadAgg rfl rfl ty_ag_63 (Rds.blk .h2) (StJ.len cur2.last)) (k:=?_)
          refine lO (W_storeAll rfl rfl rfl rfl ty_ag_63 (StJ.len cur2.last) (StJ.one cur2.last) .h9 ((StJ.len cur2.last).trans (StJ.len cur.last).symm) ?_)
          refine L_nil (qT (rS ?_))
          refine R_open [(0, 0), (1, 0), (2, 0), (3, 1), (4, 1), (5, 0), (6, 3)] mixed (by kernel_rfl) (QOk.then (QOk.block (QOk.then (QOk.block (QOk.then (QOk.then (QOk.block (QOk.then QOk.body)))))))) (oP rfl pM (k:=oP rfl pN (k:=oP rfl (pF ty_fl_135_3) (k:=oV rfl (vB ty_sc_95 .h0) (k:=?_)))))
          refine oV rfl (V_loadAgg rfl rfl ty_ag_63 (Rds.blk .h9) (StJ.len cur2.last)) (k:=?_)
          refine oP rfl (P_ixs (0) rfl ty_sl_95 rfl rfl (by first | rfl | omega) (by omega)) (k:=?_)
          refine O_new rfl rfl (W_storeAll rfl rfl rfl rfl ty_ag_63 (StJ.len cur2.last) (StJ.one cur2.last) .h8 ((StJ.len cur2.last).trans (by rw [rc_st]; exact (StJ.len cur.last).symm)) (K_new (O_nil (qT ?_))))
          refine St.res (rs' := [blk w (sightC p q (sv) (.slice (some ⟨b44, 0, none⟩) 1 1) 0) 135, REG q sg (rc), blk b12 cur2.j.cells 63, argOr w0 50 5 cur2.j.l.s.b cur2.j.l.s.xs.length cur2.j.l.s.c (Go.Proofs.YtcngmkjdpoiiaaaGreatDoor.rc cur2.j.l.s.xs), argOr w0 175 4 cur2.j.l.r.b cur2.j.l.r.xs.length cur2.j.l.r.c (Go.Proofs.YtcngmkjdpoiiaaaGreatDoor.rc cur2.j.l.r.xs), POOL p most (H), ownS 67 22 (.slice qb Q.length qc) Q.length (Go.Proofs.YtcngmkjdpoiiaaaGreatDoor.rc Q), ownS 220 1 (sv) (sg).length (ptrs (sg)), blk b44 (Go.Proofs.YtcngmkjdpoiiaaaGreatDoor.rc [cur2]) 63, blk b7 cur2.j.cells 63, argOr w0 50 5 cur.j.l.s.b cur.j.l.s.xs.length cur.j.l.s.c (Go.Proofs.YtcngmkjdpoiiaaaGreatDoor.rc cur.j.l.s.xs), argOr w0 175 4 cur.j.l.r.b cur.j.l.r.xs.length cur.j.l.r.c (Go.Proofs.YtcngmkjdpoiiaaaGreatDoor.rc cur.j.l.r.xs), blk b9 o.o.cells 110, blk b2 [.int .i64 most, .slice (some ⟨nbb, nbj, none⟩) sts.length nc, .slice (some ⟨obb, obj, none⟩) ops.length oc] 98]) (by rw [rc_st cur2]; exact Weak.refl _) ?_
          refine R_open [(0, 0), (1, 0), (2, 0), (3, 1), (4, 1), (5, 3)] mixed (by kernel_rfl) (QOk.block (QOk.then (QOk.block (QOk.then (QOk.then (QOk.block (QOk.then QOk.body))))))) (oP rfl pM (k:=oP rfl pN (k:=oP rfl (pF ty_fl_135_0) (k:=oV rfl (vB ty_sc_68 .h0) (k:=?_)))))
          refine oV rfl (V_loadAgg rfl rfl ty_ag_63 (Rds.blk .h9) (StJ.len cur2.last)) (k:=?_)
          refine O_new rfl rfl (W_call rfl rfl rfl rfl fn_ca_45 (precheck_ok hG p most H hI.ok hl cur2.j.l.s.b cur2.j.l.s.c cur2.j.l.s.xs cur2.hc (by have := cur2.hm; omega) cur2.ok cur2.j.l.r.val rfl cur2.r) (Split.one (p := [_, _, _, _, _])) (Sn.pre (Sn.argOr .h3 rfl)) fun v7 rs7 ⟨G, gb, gc, e1, hDG, e2⟩ => ?_)
          subst e1; subst e2
          refine K_new (O_nil ?_)
          refine St.env (cE 1 rfl (cE 2 rfl (cE 4 rfl (cE 5 rfl (cE 7 rfl (cE 8 rfl (cE 9 rfl (cE 10 rfl (cE 11 rfl (cE 12 rfl (cE 13 rfl (cE 63 rfl (cE 64 rfl (cE 65 rfl (cE 66 rfl (cE 67 rfl (cE 70 rfl (cE 71 rfl (cE 72 rfl (cE 73 rfl (cE 74 rfl (cE 75 rfl (cE 76 rfl (cE 77 rfl (cE 78 rfl (cE 93 rfl (cE 97 rfl (cE 98 rfl (cE 99 rfl (cE 100 rfl (cE 101 rfl (cE 102 rfl (cE 103 rfl (cE 104 rfl (cE 105 rfl (cE 106 rfl (cE 107 rfl (cE 108 rfl (cE 109 rfl (cE 110 rfl (cE 111 rfl (cE 112 rfl (cE 113 rfl (cE 125 rfl (cE 126 rfl (cE 127 rfl (cE 128 rfl (cE 129 rfl (cE 130 rfl (cE 131 rfl (cE 132 rfl (cE 133 rfl (cE 134 rfl (cE 135 rfl (cE 136 rfl (cE 137 rfl (cE 138 rfl .nil))))))))))))))))))))))))))))))))))))))))))))))))))))))))) (Q_block ?_)
          exact Q_meet (keptH cur2.j.l.s.xs H, sg, rc, sv, cur2) (by show PoolInv most (keptH cur2.j.l.s.xs H) ∧ (sg).length ≤ i + 1 ∧ (rc).length ≤ i + 1 ∧ SgOk (sg) ∧ ChOk (cur2) (keptH cur2.j.l.s.xs H) (i + 1); exact ⟨hI.kept _, by omega, by omega, hso, hCh2⟩) (by repeat (first | exact .nil | refine .cons rfl ?_ | refine .consE rfl (by first | rfl | (congr 1; omega) | (congr 1; push_cast; omega)) ?_)) (Weak.keep (Weak.pick (p := [_]) (Weak.pick (p := [_]) (Weak.pick (p := [_, _, _, _, _]) (Weak.pick (p := [_, _, _, _, _]) (Weak.pick (p := [_, _, _, _, _]) (Weak.pick (p := [_, _]) (Weak.pick (p := [_, _]) (Weak.pick (p := [_, _, _, _, _]) (Weak.pick (p := [_, _, _, _, _]) (Weak.nil _)))))))))))
        ·skip
         refine R_skip (Q_block ?_)
         exact Q_meet (H, sg, rc, sv, cur) (by show PoolInv most (H) ∧ (sg).length ≤ i + 1 ∧ (rc).length ≤ i + 1 ∧ SgOk (sg) ∧ ChOk (cur) (H) (i + 1); exact ⟨hI, by omega, by omega, hso, hCh.lf, hCh.rows, by push_cast; omega⟩) (by repeat (first | exact .nil | refine .cons rfl ?_ | refine .consE rfl (by first | rfl | (congr 1; omega) | (congr 1; push_cast; omega)) ?_)) (Weak.refl _)
     ·rintro ⟨H2, sg2, rc2, sv2, cur2⟩ hinv
      replace hinv : PoolInv most H2 ∧ sg2.length ≤ i + 1 ∧ rc2.length ≤ i + 1 ∧ SgOk sg2 ∧ ChOk cur2 H2 (i + 1) := hinv
      show St (cx gl) _ _ [POOL p most (H2), blk w (sightC p q (sv2) (.slice (some ⟨b44, 0, none⟩) 1 1) 0) 135, REG q sg2 (rc2), ownS 220 1 (sv2) (sg2).length (ptrs (sg2)), blk b44 (Go.Proofs.YtcngmkjdpoiiaaaGreatDoor.rc [cur2]) 63, blk b7 cur2.j.cells 63, argOr w0 50 5 cur2.j.l.s.b cur2.j.l.s.xs.length cur2.j.l.s.c (Go.Proofs.YtcngmkjdpoiiaaaGreatDoor.rc cur2.j.l.s.xs), argOr w0 175 4 cur2.j.l.r.b cur2.j.l.r.xs.length cur2.j.l.r.c (Go.Proofs.YtcngmkjdpoiiaaaGreatDoor.rc cur2.j.l.r.xs), blk b9 o.o.cells 110, blk b2 [.int .i64 most, .slice (some ⟨nbb, nbj, none⟩) sts.length nc, .slice (some ⟨obb, obj, none⟩) ops.length oc] 98] _
      obtain ⟨hI2, hgl2, hrl2, hso2, hCh2⟩ := hinv
      have hl2 : H2.length ≤ 65536 := by have := hI2.few; omega
      refine rS ?_
      refine R_open [(0, 0), (1, 0), (2, 0), (3, 1), (5, 1), (4, 2), (6, 2), (7, 0)] mixed (by kernel_rfl) (QOk.then (QOk.block (QOk.then (QOk.then (QOk.block (QOk.then QOk.body)))))) (oP rfl pM (k:=oP rfl pN (k:=oP rfl (pF ty_fl_135_0) (k:=oV rfl (vB ty_sc_68 .h1) (k:=?_)))))
      refine oV rfl (V_loadAgg rfl rfl ty_ag_63 (Rds.blk .h5) (StJ.len cur2.last)) (k:=?_)
      refine O_keep rfl rfl (W_call rfl rfl rfl rfl fn_ca_47 (plist_ok p most H2 hl2) (Split.one (p := [])) (fun _ _ _ _ _ _ _ => trivial) fun v8 rs8 ⟨L, lb, lc, e1, hDL, e2⟩ => ?_)
      subst e1; subst e2
      refine K_keep (Weak.keep (Weak.drop (Weak.refl _))) ?_
      refine O_keep rfl rfl (W_callV rfl rfl rfl rfl fn_ca_74 (lrows_ok lb lc L (by rw [hDL.perm.length_eq]; exact hl2) cur2 (hCh2.rows.perm hDL.perm)) (fun wd nw => ⟨(Sn.own .h1 rfl).rw_ wd nw, (Sn.argOr .h7 rfl).rw_ wd nw⟩) (K_keep (Weak.refl _) ?_))
      refine E_true (t := 146) rfl (rfl) (oP rfl pO (k:=O_nil (qT (kF (k:=R_skip (Q_block (qT (rR (lMv (k:=?_))))))))))
      first | (refine L_val rfl rfl rfl (OpP.v (P_addN rfl rfl rfl (by simp only [fits]; omega))) ?_) | (refine L_val rfl rfl rfl (OpP.v (P_add rfl rfl rfl)) ?_)
      refine lA (k:=?_)
      refine L_nil ?_
      exact Q_round (i + 1, H2, sg2, rc2, sv2, cur2) (by show (i + 1) ≤ ops.length ∧ PoolInv most (H2) ∧ (sg2).length ≤ (i + 1) ∧ (rc2).length ≤ (i + 1) ∧ SgOk (sg2) ∧ ChOk (cur2) (H2) ((i + 1)); exact ⟨by omega, hI2, hgl2, hrl2, hso2, hCh2⟩) (by show ops.length - (i + 1) < ops.length - i; omega) (by repeat (first | exact .nil | refine .cons rfl ?_ | refine .consE rfl (by first | rfl | (congr 1; omega) | (congr 1; push_cast; omega)) ?_)) (Weak.keep (Weak.pick (p := [_]) (Weak.pick (p := [_]) (Weak.pick (p := [_]) (Weak.pick (p := [_]) (Weak.pick (p := [_]) (Weak.pick (p := [_]) (Weak.pick (p := [_]) (Weak.pick (p := [_, _]) (Weak.nil _))))))))))
    ·skip
     refine R_exit (Q_then_exit (Q_then_exit (Q_block_eq ?_)))
     refine St.env (cE 4 rfl .nil) (qT (rT (lA (k:=?_))))
     refine L_nil (qT (R_ret ?_))
     exact R_endV rfl rfl (.tmp rfl .nil) (rfl)
theorem poolChain_walk {gl : Nat → Obj} (hG : Globs gl) (most : Int) (nb : Option Addr) (nc : Nat) (sts : List StK) (hnc : sts.length ≤ nc) (hns : sts.length ≤ 439804651110) (ob : Option Addr) (oc : Nat) (ops : List OpK) (hoc : ops.length ≤ oc) (hno : ops.length ≤ 1048576) (cut : Int) : SpecV (cx gl) 15 [.agg ([.int .i64 most, .slice nb sts.length nc, .slice ob ops.length oc]).toArray, .int .i64 (cut)] (fun w => Row w nb (Go.Proofs.YtcngmkjdpoiiaaaGreatDoor.rc sts) ∧ (∀ s ∈ sts, s.in_ w) ∧ Row w ob (Go.Proofs.YtcngmkjdpoiiaaaGreatDoor.rc ops)) (.bool true) := by
 by_cases h : 1 ≤ most ∧ most ≤ 65536
 ·cases hs : sts with
  | nil => subst hs; exact poolChain_none most nb nc [] hnc hns ob oc ops hoc hno cut h.1 h.2 rfl
  | cons s0 l => rw [← hs]; exact poolChain_good hG most nb nc sts hnc hns ob oc ops hoc hno cut h.1 h.2 s0 l hs
 ·exact poolChain_bad most nb nc sts hnc hns ob oc ops hoc hno cut (by omega)
end Go.Proofs.YtcngmkjdpoiiaaaGreatDoor

/- What the listed variables hold. Printed by gen.py. -/
set_option maxRecDepth 100000
namespace Go.Proofs.YtcngmkjdpoiiaaaGreatDoor
open Go Go.RowKit Go.ChangeShapes Go.WideShapes Go.Proofs
theorem ownNone : ownKnob Tryz.prog.godebug = none := by kernel_rfl
theorem gAdds : Tryz.prog.globalNamed "assent/digest.adds" = some 4 := by kernel_rfl
theorem gBegin : Tryz.prog.globalNamed "assent/digest.begin" = some 3 := by kernel_rfl
theorem tAdds : (Tryz.prog.globals[4]?).map (·.type) = some 352 := by kernel_rfl
theorem tBegin : (Tryz.prog.globals[3]?).map (·.type) = some 285 := by kernel_rfl
theorem cells_82 : Tryz.prog.cellsOf 82 = 1 := by kernel_rfl
theorem cells_352 : Tryz.prog.cellsOf 352 = 64 := by kernel_rfl
theorem cells_285 : Tryz.prog.cellsOf 285 = 8 := by kernel_rfl
theorem arr_of_laid {H : Type} {enc : TypeId × Value → H} {W : World} {base : Nat} {sp : Nat → Bool} {hd : Bool} {t n fuel : Nat} {cs : Array Value} {zs : List Int} {ps : List MemPlace} (ht : Tryz.prog.underlying t = some (.array n 82)) (hc : Tryz.prog.cellsOf t = n)
  (h : DataW.trod enc Tryz.prog W base sp hd fuel t cs.toList = some (.agg (lits .u32 zs), ps)) : cs = (ints .u32 zs).toArray := by
 obtain ⟨ys, h1, _, h3, _⟩ := open_intArr ht ty_int_82 cells_82 hc h
 simp only [Prod.mk.injEq, DataW.agg.injEq] at h3
 rw [lits_inj h3.1, ← h1]
theorem glob_of {W : World} {i : Nat} {o : Obj} (h : W.heap[i]? = some o) : (W.heap[i]?).getD default = o := by rw [h]; rfl
noncomputable def laid2 : List (String × DataW Unit) := [("assent/digest.adds", Rows.laid_assent_digest_adds), ("assent/digest.begin", Rows.laid_assent_digest_begin)]
theorem globs2_of_laid {W : World} (h : laidMetH Tryz.prog laid2 W) : ∃ gl, Globs gl ∧ (cx gl).ok W := by
 rw [MakeChecks.laidMetH_plain _ _ _ (by kernel_rfl)] at h
 obtain ⟨ps, ⟨g1, t1, cs1, f1, p1, q1, hg1, ht1, hv1, hd1, ⟨g2, t2, cs2, f2, p2, q2, hg2, ht2, hv2, hd2, _, _⟩, _⟩, _, _⟩ := h
 obtain rfl := Option.some.inj (gAdds.symm.trans hg1)
 obtain rfl := Option.some.inj (gBegin.symm.trans hg2)
 obtain rfl := Option.some.inj (tAdds.symm.trans ht1)
 obtain rfl := Option.some.inj (tBegin.symm.trans ht2)
 obtain rfl := arr_of_laid (zs := addsK) ty_un_352 cells_352 hd1
 obtain rfl := arr_of_laid (zs := beginK) ty_un_285 cells_285 hd2
 obtain ⟨T1, r1, e1⟩ := var_heap gAdds hv1
 obtain ⟨T2, r2, e2⟩ := var_heap gBegin hv2
 refine ⟨fun i => (W.heap[i]?).getD default, ⟨⟨T2, r2, glob_of e2⟩, ⟨T1, r1, glob_of e1⟩⟩, fun i hi => ?_⟩
 have hi : i < 5 := hi
 have hs := lt_of_some (w := W) e1
 show W.heap[i]? = some ((W.heap[i]?).getD default)
 rw [Array.getElem?_eq_getElem (by omega)]; rfl
end Go.Proofs.YtcngmkjdpoiiaaaGreatDoor
