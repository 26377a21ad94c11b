/- Texts that ledgerKeeps_holds leans on, part 6: each says at its head what it holds; no condition beyond its theorems' own. -/
import Derived.Test.YtcngmkjdpoiiaaaGreatDoorMk5
set_option linter.unusedVariables false
set_option linter.unusedSimpArgs false
set_option linter.unusedSectionVars false
/- LedgerKeeps: the walk. Printed by gen.py. -/
set_option maxRecDepth 100000
namespace Go.Proofs.YtcngmkjdpoiiaaaGreatDoor
open Go Go.RowKit Go.Proofs
/-- A transaction whose cells are as many as they are. -/
structure TxR where
 t : Tx
 ok : t.ok
instance : Rec TxR := ⟨fun x => x.t.cells, 22, fun x => x.ok.cellsLen, fun x => x.t.one⟩
/-- What was taken, with its heights. -/
structure DoneAll (rc : List Rcd) (ch : List Int) (p : Par) (l : List Acc) (DT : List TxR) (DH : List Int) : Prop where
 len : DT.length = DH.length
 u : ∀ h ∈ DH, u64 h
 all : ∀ (j : Nat) (x : TxR) (h : Int), DT[j]? = some x → DH[j]? = some h → DoneOk rc ch p l x.t h
theorem DoneAll.nil {rc : List Rcd} {ch : List Int} {p : Par} {l : List Acc} : DoneAll rc ch p l [] [] := ⟨rfl, fun _ h => (nomatch h), fun j x h h1 _ => by simp at h1⟩
theorem DoneAll.sign {rc rc' : List Rcd} {ch : List Int} {p : Par} {l : List Acc} {DT : List TxR} {DH : List Int} (d : DoneAll rc ch p l DT DH) (hs : ∀ r ∈ rc, r ∈ rc') : DoneAll rc' ch p l DT DH := ⟨d.len, d.u, fun j x h h1 h2 => (d.all j x h h1 h2).sign hs⟩
theorem DoneAll.keep {rc : List Rcd} {ch : List Int} {p : Par} {L M : Led} {DT : List TxR} {DH : List Int} (d : DoneAll rc ch p L.acc DT DH) (hk : Kept L M) : DoneAll rc ch p M.acc DT DH := ⟨d.len, d.u, fun j x h h1 h2 => (d.all j x h h1 h2).keep hk⟩
theorem DoneAll.snoc {rc : List Rcd} {ch : List Int} {p : Par} {l : List Acc} {DT : List TxR} {DH : List Int} (d : DoneAll rc ch p l DT DH) {x : TxR} {h : Int} (hh : u64 h) (hd : DoneOk rc ch p l x.t h) : DoneAll rc ch p l (DT ++ [x]) (DH ++ [h]) := by
 refine ⟨by rw [List.length_append, List.length_append, d.len]; rfl, fun y hy => ?_, fun j y g h1 h2 => ?_⟩
 ·rcases List.mem_append.1 hy with hy | hy
  ·exact d.u y hy
  ·rw [List.mem_singleton] at hy; subst hy; exact hh
 ·rcases Nat.lt_or_ge j DT.length with hj | hj
  ·rw [List.getElem?_append_left hj] at h1
   rw [List.getElem?_append_left (by rw [← d.len]; exact hj)] at h2
   exact d.all j y g h1 h2
  ·rw [List.getElem?_append_right hj] at h1
   rw [List.getElem?_append_right (by rw [← d.len]; exact hj)] at h2
   have hj0 : j - DT.length = 0 := by
    rcases Nat.eq_zero_or_pos (j - DT.length) with h9 | h9
    ·exact h9
    ·have := (List.getElem?_eq_some_iff.1 h1).1; simp at this; omega
   rw [hj0] at h1
   rw [show j - DH.length = 0 by rw [← d.len]; exact hj0] at h2
   simp only [List.getElem?_cons_zero, Option.some.injEq] at h1 h2
   subst h1; subst h2; exact hd
structure StepOk (L M : Led) (e : Int) (rc : List Rcd) (ch : List Int) (p : Par) (DT : List TxR) (DH : List Int) (i : Nat) : Prop where
 kept : e = 0 → Kept L M
 done : DoneAll rc ch p (if e = 0 then M.acc else L.acc) DT DH
 len : DT.length ≤ i + 1
theorem led_sup {L : Led} (h : LF L) : supR (supA L.burnt L.acc) L.rel = L.sup := by
 have hs := h.sum; have hsu := h.sup; have hb := h.b0; have hA := sumA_nn h.ok; have hR := sumR_nn h.ok'
 rw [supA_sum h.ok _ hb (by omega), supR_sum h.ok' _ (by omega) (by omega)]; exact hs
set_option maxHeartbeats 4000000 in
theorem ledgerKeeps_walk {gl : Nat → Obj} (hG : GlobsR gl) (base : Option Addr) (c : Nat) (l : List Acc) (hc : l.length ≤ c) (hm : l.length ≤ 3518437208800)(hok : ∀ x ∈ l, x.ok) (p : Par) (hp2 : 0 ≤ p.p2) (hp3 : u64 p.p3) (ch : List Int) (hcb : IsB ch) (sb : Option Addr) (sc : Nat) (st : List StpR) (hsc : st.length ≤ sc) (hms : st.length ≤ 1300000000000) : SpecV (cx gl) 13 [.slice base l.length c, .agg p.cells.toArray, .string (strOfNums ch), .slice sb st.length sc] (fun w => Row w base (Go.Proofs.YtcngmkjdpoiiaaaGreatDoor.rc l) ∧ Row w sb (Go.Proofs.YtcngmkjdpoiiaaaGreatDoor.rc st)) (.bool true) := by
 refine Spec.enter (C := cx gl) Tryz.func13 rfl 237 rfl rfl fun w0 h0 hsep hsub hpre => ?_
 obtain rfl : h0 = Heap.none := hsep
 show St (cx gl) _ [(0, .slice base l.length c), (1, .agg p.cells.toArray), (2, .string (strOfNums ch)), (3, .slice sb st.length sc)] _ _
 refine rT ?_
 refine lO (W_box (p.cells) rfl rfl rfl rfl rfl fun b5 => lA (k:=?_))
 refine lQ (cE 0 rfl (cE 2 rfl (cE 3 rfl (cE 5 rfl (cE 8 rfl .nil))))) (rT ?_)
 refine lO (W_callV rfl rfl rfl rfl fn_ca_16 (alive8) (fun _ _ => trivial) (lA (k:=?_)))
 refine lQ (cE 0 rfl (cE 2 rfl (cE 3 rfl (cE 5 rfl (cE 8 rfl (cE 9 rfl .nil)))))) (rS (rT (lM (k:=lP pO (k:=?_)))))
 refine E_false (t := 27) rfl (rfl) ?_
 refine lQ (cE 0 rfl (cE 2 rfl (cE 3 rfl (cE 5 rfl (cE 8 rfl (cE 9 rfl (cE 27 rfl .nil))))))) (kF (k:=R_skip (qT (rT (lM (k:=?_))))))
 refine lO (W_call rfl rfl rfl rfl fn_ca_18 (lnew_ok base c l hc (by omega) hok) (Split.nil _) (fun w a b _ hb dj m => (Sn.row hpre.1 rfl).rw_ w ⟨_, hb, m.le (Heap.le_join_right dj)⟩) fun v1 rs1 ⟨u, z1, z2⟩ => ?_)
 subst z1; subst z2
 refine St.ownForm (p := []) fun ub uc huv huc => ?_
 subst huv
 refine lM (k:=lP pX (k:=lP pX (k:=?_)))
 refine lO (W_alloc rfl rfl rfl ty_ze_30 fun b10 => ?_)
 refine lO (W_storeAll rfl rfl rfl rfl ty_ag_30 (rfl) (ledV_one _ _ _ _ rfl rfl) .h0 (rfl) (lA (k:=?_)))
 refine lQ (cE 0 rfl (cE 2 rfl (cE 3 rfl (cE 5 rfl (cE 8 rfl (cE 9 rfl (cE 10 rfl (cE 11 rfl .nil)))))))) (rT (lM (k:=?_)))
 refine lO (W_call rfl rfl rfl rfl fn_ca_17 (rlnew_ok base c l hc (by omega) hok) (Split.nil _) (fun w a b _ hb dj m => (Sn.row hpre.1 rfl).rw_ w ⟨_, hb, m.le (Heap.le_join_right dj)⟩) fun v2 rs2 ⟨u2, z1, z2⟩ => ?_)
 subst z1; subst z2
 refine St.ownForm (p := []) fun ub2 uc2 huv huc2 => ?_
 subst huv
 refine lM (k:=lP pX (k:=lP pX (k:=?_)))
 refine lO (W_alloc rfl rfl rfl ty_ze_30 fun b12 => ?_)
 refine lO (W_storeAll rfl rfl rfl rfl ty_ag_30 (rfl) (ledV_one _ _ _ _ rfl rfl) .h0 (rfl) (lA (k:=?_)))
 refine lQ (cE 2 rfl (cE 3 rfl (cE 5 rfl (cE 8 rfl (cE 9 rfl (cE 10 rfl (cE 11 rfl (cE 13 rfl .nil)))))))) (rS (rT (lM (k:=lM (k:=lP pNe (k:=?_))))))
 refine E_false (t := 40) rfl (by simp) ?_
 refine lQ (cE 2 rfl (cE 3 rfl (cE 5 rfl (cE 8 rfl (cE 9 rfl (cE 10 rfl (cE 11 rfl (cE 13 rfl (cE 40 rfl .nil))))))))) (kF (k:=R_skip (qT (rS (rT (lM (k:=lP pNe (k:=?_))))))))
 refine E_bool (t := 42) rfl (fun he => ?_) (fun he => ?_)
 ·skip
  refine lQ (cE 2 rfl (cE 3 rfl (cE 5 rfl (cE 8 rfl (cE 9 rfl (cE 10 rfl (cE 11 rfl (cE 42 rfl .nil)))))))) (kT (k:=rT (lA (k:=?_))))
  refine lQ (cE 2 rfl (cE 3 rfl (cE 5 rfl (cE 8 rfl (cE 9 rfl (cE 10 rfl (cE 11 rfl .nil))))))) (R_ret (Q_then_ret ?_))
  exact R_endV rfl rfl (.tmp rfl .nil) (rfl)
 ·skip
  have he9 : newE l = 0 := by have h9 := of_decide_eq_false he; omega
  obtain ⟨hfew, hae, hsu⟩ := newE_zero he9
  rw [newL8_fine he9] at huc ⊢
  have huc : l.length ≤ uc := huc
  refine lQ (cE 2 rfl (cE 3 rfl (cE 5 rfl (cE 8 rfl (cE 9 rfl (cE 10 rfl (cE 11 rfl (cE 42 rfl .nil)))))))) (kF (k:=R_skip (qT (rS ?_))))
  refine St.res (rs' := [blk b10 (ledV (.slice ub l.length uc) (.slice none 0 0) 0 (sumA l)) 30, ownS 50 5 (.slice ub l.length uc) (l.length) (rc (l)), blk b5 p.cells 25]) (Weak.drop (Weak.drop (Weak.refl _))) (rR (lM (k:=lM (k:=?_))))
  refine lO (W_call rfl rfl rfl rfl fn_ca_63 (enters_ok sb sc st hsc hms ch) (Split.nil _) (fun w a b _ hb dj m => (Sn.row hpre.2 rfl).rw_ w ⟨_, hb, m.le (Heap.le_join_right dj)⟩) fun v3 rs3 ⟨wb, rp, rq, mv, ov, sg, tg, e1, hw, e2⟩ => ?_)
  subst e1; subst e2
  refine St.res (rs' := [blk wb [.pointer (some ⟨rp, 0, none⟩), .pointer (some ⟨rq, 0, none⟩), mv, ov, .string (strOfNums ch)] 154, REG rp (sg) ([]), REF rq (tg) ([]), ownS 220 1 (mv) (sg.length) (ptrs (sg)), ownS 222 1 (ov) (tg.length) (ptrs (tg)), blk b10 (ledV (.slice ub l.length uc) (.slice none 0 0) 0 (sumA l)) 30, ownS 50 5 (.slice ub l.length uc) (l.length) (rc (l)), blk b5 p.cells 25]) (Weak.refl _) (lM (k:=lP pX (k:=lP pX (k:=lA (k:=lA (k:=?_))))))
  refine lQ (cE 2 rfl (cE 3 rfl (cE 5 rfl (cE 8 rfl (cE 9 rfl (cE 10 rfl (cE 11 rfl (cE 14 rfl .nil)))))))) (rS (rT (lM (k:=lP pO (k:=?_)))))
  refine E_false (t := 50) rfl (rfl) ?_
  refine lQ (cE 2 rfl (cE 3 rfl (cE 5 rfl (cE 8 rfl (cE 10 rfl (cE 11 rfl (cE 14 rfl (cE 50 rfl .nil)))))))) (kF (k:=R_skip (qT (rT (lP (pF ty_fl_30_3) (k:=lV (vB ty_sc_23 .h5) (k:=lA (k:=?_))))))))
  refine lQ (cE 2 rfl (cE 3 rfl (cE 5 rfl (cE 8 rfl (cE 10 rfl (cE 11 rfl (cE 14 rfl (cE 15 rfl .nil)))))))) (rT (lA (k:=?_)))
  refine L_nil (qT (rT (lA (k:=?_))))
  refine L_nil (qT (rS (rS ?_)))
  have hel := entS_len st
  refine rR (lA (k:=?_))
  refine L_nil (qT (R_block ?_))
  refine R_loopE (G := Nat × List Rcd × List Acc × List Rel × Int × Option Addr × Nat × Option Addr × Nat × List TxR × List Int × Option Addr × Nat × Option Addr × Nat) (cE 2 rfl (cE 3 rfl (cE 5 rfl (cE 8 rfl (cE 10 rfl (cE 14 rfl (cE 15 rfl .nil))))))) (fun g => [(16, .slice g.2.2.2.2.2.2.2.2.2.2.2.1 g.2.2.2.2.2.2.2.2.2.1.length g.2.2.2.2.2.2.2.2.2.2.2.2.1), (17, .slice g.2.2.2.2.2.2.2.2.2.2.2.2.2.1 g.2.2.2.2.2.2.2.2.2.2.1.length g.2.2.2.2.2.2.2.2.2.2.2.2.2.2), (18, .int .i64 ((g.1 : Nat) : Int))]) (fun g => [ownS 23 1 (.slice g.2.2.2.2.2.2.2.2.2.2.2.2.2.1 g.2.2.2.2.2.2.2.2.2.2.1.length g.2.2.2.2.2.2.2.2.2.2.2.2.2.2) (g.2.2.2.2.2.2.2.2.2.2.1).length (ints .u64 g.2.2.2.2.2.2.2.2.2.2.1), ownS 67 22 (.slice g.2.2.2.2.2.2.2.2.2.2.2.1 g.2.2.2.2.2.2.2.2.2.1.length g.2.2.2.2.2.2.2.2.2.2.2.2.1) (g.2.2.2.2.2.2.2.2.2.1).length (rc g.2.2.2.2.2.2.2.2.2.1), ownS 175 4 (.slice g.2.2.2.2.2.2.2.1 g.2.2.2.1.length g.2.2.2.2.2.2.2.2.1) (g.2.2.2.1.length) (rc (g.2.2.2.1)), blk wb [.pointer (some ⟨rp, 0, none⟩), .pointer (some ⟨rq, 0, none⟩), mv, ov, .string (strOfNums ch)] 154, REG rp (sg) (g.2.1), REF rq (tg) (g.2.1), ownS 220 1 (mv) (sg.length) (ptrs (sg)), ownS 222 1 (ov) (tg.length) (ptrs (tg)), blk b10 (ledV (.slice g.2.2.2.2.2.1 g.2.2.1.length g.2.2.2.2.2.2.1) (.slice g.2.2.2.2.2.2.2.1 g.2.2.2.1.length g.2.2.2.2.2.2.2.2.1) g.2.2.2.2.1 (sumA l)) 30, ownS 50 5 (.slice g.2.2.2.2.2.1 g.2.2.1.length g.2.2.2.2.2.2.1) (g.2.2.1.length) (rc (g.2.2.1)), blk b5 p.cells 25]) (fun g => g.1 ≤ st.length ∧ LF (⟨g.2.2.1, g.2.2.2.1, g.2.2.2.2.1, sumA l⟩ : Led) ∧ g.2.1.length ≤ g.1 ∧ g.2.2.2.2.2.2.2.2.2.1.length ≤ g.1 ∧ DoneAll g.2.1 ch p g.2.2.1 g.2.2.2.2.2.2.2.2.2.1 g.2.2.2.2.2.2.2.2.2.2.1 ∧ g.2.2.1.length ≤ g.2.2.2.2.2.2.1 ∧ g.2.2.2.1.length ≤ g.2.2.2.2.2.2.2.2.1 ∧ g.2.2.2.2.2.2.2.2.2.1.length ≤ g.2.2.2.2.2.2.2.2.2.2.2.2.1 ∧ g.2.2.2.2.2.2.2.2.2.2.1.length ≤ g.2.2.2.2.2.2.2.2.2.2.2.2.2.2) (fun g => st.length - g.1) (0, [], l, [], 0, ub, uc, none, 0, [], [], none, 0, none, 0) (by show (0) ≤ st.length ∧ LF (⟨(l), ([]), (0), sumA l⟩ : Led) ∧ ([]).length ≤ (0) ∧ ([]).length ≤ (0) ∧ DoneAll ([]) ch p (l) ([]) ([]) ∧ (l).length ≤ (uc) ∧ ([]).length ≤ (0) ∧ ([]).length ≤ (0) ∧ ([]).length ≤ (0); exact ⟨Nat.zero_le _, LF.new he9 hok, Nat.le_refl _, Nat.le_refl _, DoneAll.nil, huc, Nat.le_refl _, Nat.le_refl _, Nat.le_refl _⟩) (by repeat (first | exact .nil | refine .cons rfl ?_ | refine .consE rfl (by first | rfl | (congr 1; omega) | (congr 1; push_cast; omega)) ?_)) (Weak.trans (Weak.newNil (T := 175) (sz := 4)) (Weak.trans (Weak.newNil (T := 67) (sz := 22)) (Weak.newNil (T := 23) (sz := 1)))) ?_
  rintro ⟨i, rcd, la, ra, bu, ab, ac, rb, rk, DT, DH, db, dc, tb, tc⟩ hinv
  replace hinv : i ≤ st.length ∧ LF (⟨la, ra, bu, sumA l⟩ : Led) ∧ rcd.length ≤ i ∧ DT.length ≤ i ∧ DoneAll rcd ch p la DT DH ∧ la.length ≤ ac ∧ ra.length ≤ rk ∧ DT.length ≤ dc ∧ DH.length ≤ tc := hinv
  show St (cx gl) _ ((16, .slice db DT.length dc) :: (17, .slice tb DH.length tc) :: (18, .int .i64 ((i : Nat) : Int)) :: _) [ownS 23 1 (.slice tb DH.length tc) (DH).length (ints .u64 DH), ownS 67 22 (.slice db DT.length dc) (DT).length (rc DT), ownS 175 4 (.slice rb ra.length rk) (ra.length) (rc (ra)), blk wb [.pointer (some ⟨rp, 0, none⟩), .pointer (some ⟨rq, 0, none⟩), mv, ov, .string (strOfNums ch)] 154, REG rp (sg) (rcd), REF rq (tg) (rcd), ownS 220 1 (mv) (sg.length) (ptrs (sg)), ownS 222 1 (ov) (tg.length) (ptrs (tg)), blk b10 (ledV (.slice ab la.length ac) (.slice rb ra.length rk) bu (sumA l)) 30, ownS 50 5 (.slice ab la.length ac) (la.length) (rc (la)), blk b5 p.cells 25] _
  obtain ⟨hi, hLF, hrl, hdl, hda, hac, hrk, hdc, htc⟩ := hinv
  refine rS (rT (lM (k:=lM (k:=lP (pL ty_sl_141) (k:=lP pLt (k:=?_))))))
  refine L_nil (qT ?_)
  refine R_condP rfl (fun hlt => ?_) (fun hlt => ?_)
  ·skip
   have hil : i < st.length := by omega
   obtain ⟨s, hs⟩ : ∃ s, st[i]? = some s := ⟨_, List.getElem?_eq_getElem hil⟩
   obtain ⟨pb, pj, rfl, hrow⟩ := hpre.2.some_ (by rw [rc_length]; show 0 < _ * 28; omega)
   have hlf1 : la.length ≤ 65536 := hLF.few
   have hlf2 : ra.length ≤ 65536 := hLF.few'
   have hlo : ∀ x ∈ la, x.ok := hLF.ok
   have hro : ∀ y ∈ ra, y.ok := hLF.ok'
   have hdl2 : DH.length = DT.length := hda.len.symm
   have hb0 : 0 ≤ bu := hLF.b0
   have hsum0 : bu + sumA la + sumR ra = sumA l := hLF.sum
   have hsA := sumA_nn hlo
   have hsR := sumR_nn hro
   have hms' : MS = 1152921504606846975 := rfl
   have hsup0 : sumA l ≤ MS := hLF.sup
   refine R_skip (qT (rS (R_block (rT (lM (k:=lM (k:=?_)))))))
   refine lP (P_ixs (i) rfl ty_sl_141 rfl rfl (by first | rfl | omega) (by omega)) (k:=?_)
   refine lV (V_loadAgg rfl rfl ty_ag_147 (rds_rc (Rds.row hrow rfl) hs) (Stp.len s.ok)) (k:=?_)
   refine lO (W_alloc rfl rfl rfl ty_ze_147 fun b19 => ?_)
   refine lO (W_storeAll rfl rfl rfl rfl ty_ag_147 (Stp.len s.ok) (s.s.one) .h0 (Stp.len s.ok) ?_)
   refine L_nil (qT (rT ?_))
   refine lO (W_alloc rfl rfl rfl ty_ze_30 fun b20 => ?_)
   refine L_nil (qT (rT (lM (k:=lP (pF ty_fl_147_1) (k:=?_)))))
   refine lV (V_loadAgg rfl rfl ty_ag_67 ((Rds.blk .h1).part 1 (stp_tx s.s)) (s.ok.tx.cellsLen)) (k:=lP (pF ty_fl_147_2) (k:=?_))
   refine lV (V_load rfl rfl ty_sc_4 (Rd.blk .h1 (stp_end s.ok 0 _ rfl))) (k:=?_)
   refine lO (W_callR rfl rfl rfl rfl fn_ca_64 (signed_ok hG wb rp rq mv ov sg tg rcd (by omega) (entS st) hw (by omega) ch hcb s.s.tx s.ok.tx s.s.wrong) (Weak.trans (Weak.pick (p := [_, _, _, _, _]) (Weak.pick (p := [_, _, _, _, _]) (Weak.pick (p := [_, _, _, _, _]) (Weak.pick (p := [_, _, _, _, _]) (Weak.pick (p := [_, _, _, _, _]) (Weak.keep (Weak.keep (Weak.keep (Weak.keep (Weak.keep (Weak.keep (Weak.keep (Weak.keep (Weak.nil _)))))))))))))) (Weak.refl _)) (fun _ _ _ _ _ _ _ => trivial) (lM (k:=lP pX (k:=lP pX (k:=?_)))))
   refine lO (W_alloc rfl rfl rfl ty_ze_67 fun b21 => ?_)
   refine lO (W_storeAll rfl rfl rfl rfl ty_ag_67 ((sgnTx_ok _ _ _ s.ok.tx).cellsLen) (Tx.one _) .h0 ((sgnTx_ok _ _ _ s.ok.tx).cellsLen) (lA (k:=?_)))
   refine L_nil (qT (rS (rT (lM (k:=lP pO (k:=?_))))))
   refine E_false (t := 73) rfl (rfl) ?_
   refine L_nil (qT (kF (k:=R_skip (qT ?_))))
   have hxo := sgnTx_ok (entS st) ch s.s.wrong s.ok.tx
   have hrm := sgnR_mem (es := (entS st)) (ch := ch) (x := s.s.tx) (wr := s.s.wrong) (rc := rcd)
   have hrn := sgnR_le (es := (entS st)) (ch := ch) (x := s.s.tx) (wr := s.s.wrong) (rc := rcd)
   generalize (sgnTx (entS st) ch s.s.tx s.s.wrong) = x at hxo ⊢
   generalize (sgnR (entS st) ch s.s.tx s.s.wrong rcd) = rc2 at hrm hrn ⊢
   have hda2 := hda.sign hrm
   refine St.res (rs' := [REG rp (sg) (rc2), blk wb [.pointer (some ⟨rp, 0, none⟩), .pointer (some ⟨rq, 0, none⟩), mv, ov, .string (strOfNums ch)] 154, blk b19 s.s.cells 147, blk b5 p.cells 25, blk b21 x.cells 67, blk b20 (ledV (.slice none 0 0) (.slice none 0 0) 0 0) 30, blk b10 (ledV (.slice ab la.length ac) (.slice rb ra.length rk) bu (sumA l)) 30, ownS 50 5 (.slice ab la.length ac) (la.length) (rc (la)), ownS 175 4 (.slice rb ra.length rk) (ra.length) (rc (ra)), REF rq (tg) (rc2), ownS 220 1 (mv) (sg.length) (ptrs (sg)), ownS 222 1 (ov) (tg.length) (ptrs (tg)), ownS 67 22 (.slice db DT.length dc) (DT).length (rc DT), ownS 23 1 (.slice tb DH.length tc) (DH).length (ints .u64 DH)]) (Weak.pick (p := [_, _]) (Weak.pick (p := [_]) (Weak.pick (p := [_, _, _, _, _]) (Weak.pick (p := [_, _, _, _, _, _, _, _, _, _]) (Weak.keep (Weak.pick (p := [_, _, _]) (Weak.pick (p := [_, _, _, _, _, _]) (Weak.pick (p := [_, _, _, _, _, _]) (Weak.pick (p := [_, _, _, _, _]) (Weak.keep (Weak.keep (Weak.keep (Weak.pick (p := [_]) (Weak.keep (Weak.nil _))))))))))))))) ?_
   refine R_joinE (G := Int × List Acc × List Rel × Int × Int × Option Addr × Nat × Option Addr × Nat × List TxR × List Int × Option Addr × Nat × Option Addr × Nat) (cE 2 rfl (cE 3 rfl (cE 5 rfl (cE 8 rfl (cE 10 rfl (cE 14 rfl (cE 15 rfl (cE 18 rfl (cE 19 rfl (cE 20 rfl (cE 21 rfl (cE 22 rfl (cE 53 rfl (cE 54 rfl (cE 55 rfl (cE 56 rfl (cE 59 rfl (cE 60 rfl (cE 61 rfl (cE 62 rfl (cE 63 rfl (cE 64 rfl (cE 65 rfl (cE 66 rfl (cE 67 rfl (cE 68 rfl (cE 69 rfl (cE 70 rfl (cE 71 rfl (cE 72 rfl (cE 73 rfl .nil))))))))))))))))))))))))))))))) (fun g => [(11, .int .i64 (g.1)), (16, .slice g.2.2.2.2.2.2.2.2.2.2.2.1 g.2.2.2.2.2.2.2.2.2.1.length g.2.2.2.2.2.2.2.2.2.2.2.2.1), (17, .slice g.2.2.2.2.2.2.2.2.2.2.2.2.2.1 g.2.2.2.2.2.2.2.2.2.2.1.length g.2.2.2.2.2.2.2.2.2.2.2.2.2.2)]) (fun g => [REG rp (sg) (rc2), blk wb [.pointer (some ⟨rp, 0, none⟩), .pointer (some ⟨rq, 0, none⟩), mv, ov, .string (strOfNums ch)] 154, blk b19 s.s.cells 147, blk b5 p.cells 25, blk b21 x.cells 67, blk b20 (ledV (.slice g.2.2.2.2.2.1 g.2.1.length g.2.2.2.2.2.2.1) (.slice g.2.2.2.2.2.2.2.1 g.2.2.1.length g.2.2.2.2.2.2.2.2.1) g.2.2.2.1 g.2.2.2.2.1) 30, blk b10 (ledV (.slice ab la.length ac) (.slice rb ra.length rk) bu (sumA l)) 30, ownS 50 5 (.slice ab la.length ac) (la.length) (rc (la)), ownS 175 4 (.slice rb ra.length rk) (ra.length) (rc (ra)), ownS 50 5 (.slice g.2.2.2.2.2.1 g.2.1.length g.2.2.2.2.2.2.1) (g.2.1.length) (rc (g.2.1)), ownS 175 4 (.slice g.2.2.2.2.2.2.2.1 g.2.2.1.length g.2.2.2.2.2.2.2.2.1) (g.2.2.1.length) (rc (g.2.2.1)), REF rq (tg) (rc2), ownS 220 1 (mv) (sg.length) (ptrs (sg)), ownS 222 1 (ov) (tg.length) (ptrs (tg)), ownS 67 22 (.slice g.2.2.2.2.2.2.2.2.2.2.2.1 g.2.2.2.2.2.2.2.2.2.1.length g.2.2.2.2.2.2.2.2.2.2.2.2.1) (g.2.2.2.2.2.2.2.2.2.1).length (rc g.2.2.2.2.2.2.2.2.2.1), ownS 23 1 (.slice g.2.2.2.2.2.2.2.2.2.2.2.2.2.1 g.2.2.2.2.2.2.2.2.2.2.1.length g.2.2.2.2.2.2.2.2.2.2.2.2.2.2) (g.2.2.2.2.2.2.2.2.2.2.1).length (ints .u64 g.2.2.2.2.2.2.2.2.2.2.1)]) (fun g => StepOk (⟨la, ra, bu, sumA l⟩ : Led) (⟨g.2.1, g.2.2.1, g.2.2.2.1, g.2.2.2.2.1⟩ : Led) g.1 rc2 ch p g.2.2.2.2.2.2.2.2.2.1 g.2.2.2.2.2.2.2.2.2.2.1 i ∧ g.2.1.length ≤ g.2.2.2.2.2.2.1 ∧ g.2.2.1.length ≤ g.2.2.2.2.2.2.2.2.1 ∧ g.2.2.2.2.2.2.2.2.2.1.length ≤ g.2.2.2.2.2.2.2.2.2.2.2.2.1 ∧ g.2.2.2.2.2.2.2.2.2.2.1.length ≤ g.2.2.2.2.2.2.2.2.2.2.2.2.2.2) ?_ ?_
   ·skip
    refine rT (lP (pF ty_fl_147_0) (k:=lV (vB ty_sc_3 .h2) (k:=?_)))
    refine L_nil (qT (R_block (rT (lP pEq (k:=?_)))))
    refine E_bool (t := 128) rfl (fun hk1 => ?_) (fun hk1 => ?_)
    ·skip
     refine lA (k:=?_)
     refine L_nil (qT (kT (k:=rT (lV (vG ty_ag_30 .h6) (k:=lV (vG ty_ag_25 .h3) (k:=lP (pF ty_fl_147_5) (k:=?_)))))))
     refine lV (V_load rfl rfl ty_sc_26 (Rd.blk .h2 (stp_end s.ok 3 _ rfl))) (k:=lP (pF ty_fl_147_6) (k:=?_))
     refine lV (V_load rfl rfl ty_sc_23 (Rd.blk .h2 (stp_end s.ok 4 _ rfl))) (k:=?_)
     refine lO (W_call rfl rfl rfl rfl fn_ca_20 (punish_ok ab ac la hac (by omega) hlo rb rk ra hrk (by omega) hro bu (sumA l) p hp2 s.s.a s.s.n s.ok.n) (Split.nil _) (fun w a b ha hb dj m => ⟨Sn.pre (Sn.own .h7 rfl) w a b ha hb dj m, Sn.pre (Sn.own .h8 rfl) w a b ha hb dj m⟩) fun v32 rs32 ⟨u32, u32', z1, z2⟩ => ?_)
     subst z1; subst z2
     refine St.ownForm (p := []) fun ua uc2 huv huc2 => ?_
     subst huv
     refine St.ownForm (p := [_]) fun va vc2 huv hvc2 => ?_
     subst huv
     refine lM (k:=lP pX (k:=lP pX (k:=?_)))
     refine lO (W_storeAll rfl rfl rfl rfl ty_ag_30 (rfl) (ledV_one _ _ _ _ rfl rfl) .h7 (rfl) (lA (k:=?_)))
     refine L_nil (qT (rT (lM (k:=lP pEq (k:=?_)))))
     refine E_bool (t := 140) rfl (fun heq => ?_) (fun heq => ?_)
     ·skip
      have heq : (punE (⟨la, ra, bu, sumA l⟩ : Led) p.p2 s.s.a s.s.n) = 0 := of_decide_eq_true heq
      have hP := keep_pun (h := s.s.n) hLF hp2 heq
      rw [show (punL (⟨la, ra, bu, sumA l⟩ : Led) p.p2 s.s.a s.s.n) = (punP (⟨la, ra, bu, sumA l⟩ : Led) p.p2 s.s.a s.s.n) from if_pos heq] at huc2 hvc2 ⊢
      generalize (punP (⟨la, ra, bu, sumA l⟩ : Led) p.p2 s.s.a s.s.n) = M at hP huc2 hvc2 ⊢
      have hm1 := hP.kept.lf.few
      have hm2 := hP.kept.lf.few'
      have hbu9 : bu ≤ M.burnt := hP.burnt
      refine lM (k:=lV (vG ty_ag_30 .h8) (k:=lV (vG ty_ag_30 .h7) (k:=lP (pF ty_fl_147_5) (k:=?_))))
      refine lV (V_load rfl rfl ty_sc_26 (Rd.blk .h4 (stp_end s.ok 3 _ rfl))) (k:=lP (pF ty_fl_147_5) (k:=?_))
      refine lV (V_load rfl rfl ty_sc_26 (Rd.blk .h4 (stp_end s.ok 3 _ rfl))) (k:=lP (pF ty_fl_147_5) (k:=?_))
      refine lV (V_load rfl rfl ty_sc_26 (Rd.blk .h4 (stp_end s.ok 3 _ rfl))) (k:=?_)
      refine lO (W_callV rfl rfl rfl rfl fn_ca_65 (others_ok ab ac la hac (by omega) (.slice rb ra.length rk) rfl bu (sumA l) ua uc2 M.acc huc2 (by omega) (.slice va M.rel.length vc2) rfl M.burnt M.sup s.s.a s.s.a s.s.a (fun z hz h1 _ _ => hP.oth z hz h1) (hP.kept.there hLF)) (fun w nw => ⟨(Sn.own .h9 rfl).rw_ w nw, (Sn.own .h0 rfl).rw_ w nw⟩) (lP pO (k:=?_)))
      refine E_false (t := 151) rfl (rfl) (lM (k:=lV (vG ty_ag_30 .h7) (k:=lP (pF ty_fl_147_5) (k:=?_))))
      refine lV (V_load rfl rfl ty_sc_26 (Rd.blk .h4 (stp_end s.ok 3 _ rfl))) (k:=?_)
      refine lO (W_callV rfl rfl rfl rfl fn_ca_66 (lfind_ok ua uc2 M.acc huc2 (by omega) (.slice va M.rel.length vc2) rfl M.burnt M.sup s.s.a) ((Sn.own .h0 rfl).rw_) ?_)
      refine lP (P_field rfl ty_fld_50_4 ty_sc_4 rfl (rfl)) (k:=lP pO (k:=?_))
      refine E_false (t := 158) rfl (by rw [hP.jail]; rfl) (lP pK (k:=lM (k:=lP (pF ty_fl_30_2) (k:=lV (vB ty_sc_23 .h7) (k:=lP (pF ty_fl_30_2) (k:=lV (vB ty_sc_23 .h8) (k:=lP pLt (k:=?_))))))))
      refine E_false (t := 165) rfl (decide_eq_false (by omega)) (lP pK (k:=lP pK (k:=?_)))
      refine L_nil (qT (kF (k:=R_skip (Q_block ?_))))
      exact Q_meet ((punE (⟨la, ra, bu, sumA l⟩ : Led) p.p2 s.s.a s.s.n), M.acc, M.rel, M.burnt, M.sup, ua, uc2, va, vc2, DT, DH, db, dc, tb, tc) (by show StepOk (⟨la, ra, bu, sumA l⟩ : Led) (⟨(M.acc), (M.rel), (M.burnt), (M.sup)⟩ : Led) ((punE (⟨la, ra, bu, sumA l⟩ : Led) p.p2 s.s.a s.s.n)) rc2 ch p (DT) (DH) i ∧ (M.acc).length ≤ (uc2) ∧ (M.rel).length ≤ (vc2) ∧ (DT).length ≤ (dc) ∧ (DH).length ≤ (tc); exact ⟨⟨fun _ => hP.kept, by rw [if_pos heq]; exact hda2.keep hP.kept, by omega⟩, huc2, hvc2, hdc, htc⟩) (by repeat (first | exact .nil | refine .cons rfl ?_ | refine .consE rfl (by first | rfl | (congr 1; omega) | (congr 1; push_cast; omega)) ?_)) (Weak.pick (p := [_, _]) (Weak.pick (p := [_, _]) (Weak.pick (p := [_, _]) (Weak.pick (p := [_, _]) (Weak.pick (p := [_, _]) (Weak.pick (p := [_, _]) (Weak.pick (p := [_, _]) (Weak.pick (p := [_, _]) (Weak.pick (p := [_, _]) (Weak.keep (Weak.keep (Weak.keep (Weak.keep (Weak.keep (Weak.keep (Weak.keep (Weak.nil _)))))))))))))))))
     ·skip
      have heq : ¬ (punE (⟨la, ra, bu, sumA l⟩ : Led) p.p2 s.s.a s.s.n) = 0 := of_decide_eq_false heq
      refine lM (k:=lN (k:=lN (k:=lN (k:=lN (k:=lN (k:=lN (k:=lN (k:=lN (k:=lN (k:=lN (k:=lN (k:=lN (k:=lN (k:=lN (k:=lN (k:=lN (k:=lN (k:=lN (k:=lN (k:=lN (k:=lN (k:=lN (k:=lN (k:=lN (k:=lN (k:=lP pK (k:=?_)))))))))))))))))))))))))))
      refine L_nil (qT (kF (k:=R_skip (Q_block ?_))))
      exact Q_meet ((punE (⟨la, ra, bu, sumA l⟩ : Led) p.p2 s.s.a s.s.n), (punL (⟨la, ra, bu, sumA l⟩ : Led) p.p2 s.s.a s.s.n).acc, (punL (⟨la, ra, bu, sumA l⟩ : Led) p.p2 s.s.a s.s.n).rel, (punL (⟨la, ra, bu, sumA l⟩ : Led) p.p2 s.s.a s.s.n).burnt, (punL (⟨la, ra, bu, sumA l⟩ : Led) p.p2 s.s.a s.s.n).sup, ua, uc2, va, vc2, DT, DH, db, dc, tb, tc) (by show StepOk (⟨la, ra, bu, sumA l⟩ : Led) (⟨((punL (⟨la, ra, bu, sumA l⟩ : Led) p.p2 s.s.a s.s.n).acc), ((punL (⟨la, ra, bu, sumA l⟩ : Led) p.p2 s.s.a s.s.n).rel), ((punL (⟨la, ra, bu, sumA l⟩ : Led) p.p2 s.s.a s.s.n).burnt), ((punL (⟨la, ra, bu, sumA l⟩ : Led) p.p2 s.s.a s.s.n).sup)⟩ : Led) ((punE (⟨la, ra, bu, sumA l⟩ : Led) p.p2 s.s.a s.s.n)) rc2 ch p (DT) (DH) i ∧ ((punL (⟨la, ra, bu, sumA l⟩ : Led) p.p2 s.s.a s.s.n).acc).length ≤ (uc2) ∧ ((punL (⟨la, ra, bu, sumA l⟩ : Led) p.p2 s.s.a s.s.n).rel).length ≤ (vc2) ∧ (DT).length ≤ (dc) ∧ (DH).length ≤ (tc); exact ⟨⟨fun h9 => absurd h9 heq, by rw [if_neg heq]; exact hda2, by omega⟩, huc2, hvc2, hdc, htc⟩) (by repeat (first | exact .nil | refine .cons rfl ?_ | refine .consE rfl (by first | rfl | (congr 1; omega) | (congr 1; push_cast; omega)) ?_)) (Weak.pick (p := [_, _]) (Weak.pick (p := [_, _]) (Weak.pick (p := [_, _]) (Weak.pick (p := [_, _]) (Weak.pick (p := [_, _]) (Weak.pick (p := [_, _]) (Weak.pick (p := [_, _]) (Weak.pick (p := [_, _]) (Weak.pick (p := [_, _]) (Weak.keep (Weak.keep (Weak.keep (Weak.keep (Weak.keep (Weak.keep (Weak.keep (Weak.nil _)))))))))))))))))
    ·skip
     refine lA (k:=?_)
     refine L_nil (qT (kF (k:=rT (lP pEq (k:=?_)))))
     refine E_bool (t := 169) rfl (fun hk2 => ?_) (fun hk2 => ?_)
     ·skip
      refine lA (k:=?_)
      refine L_nil (qT (kT (k:=rT (lV (vG ty_ag_30 .h6) (k:=lP (pF ty_fl_147_6) (k:=?_))))))
      refine lV (V_load rfl rfl ty_sc_23 (Rd.blk .h2 (stp_end s.ok 4 _ rfl))) (k:=?_)
      refine lO (W_call rfl rfl rfl rfl fn_ca_19 (pay_ok ab ac la hac (by omega) hlo rb rk ra hrk (by omega) bu (sumA l) s.s.n s.ok.n) (Split.nil _) (fun w a b ha hb dj m => ⟨Sn.pre (Sn.own .h7 rfl) w a b ha hb dj m, Sn.pre (Sn.own .h8 rfl) w a b ha hb dj m⟩) fun v36 rs36 ⟨u36, u36', z1, z2⟩ => ?_)
      subst z1; subst z2
      refine St.ownForm (p := []) fun ua uc2 huv huc2 => ?_
      subst huv
      refine St.ownForm (p := [_]) fun va vc2 huv hvc2 => ?_
      subst huv
      refine lM (k:=lP pX (k:=lP pX (k:=?_)))
      refine lO (W_storeAll rfl rfl rfl rfl ty_ag_30 (rfl) (ledV_one _ _ _ _ rfl rfl) .h7 (rfl) (lA (k:=?_)))
      refine L_nil (qT (rT (lM (k:=lP pEq (k:=?_)))))
      refine E_bool (t := 178) rfl (fun heq => ?_) (fun heq => ?_)
      ·skip
       have heq : (payE s.s.n) = 0 := of_decide_eq_true heq
       have hP := keep_pay hLF s.s.n
       have hpl9 := paidA_len s.s.n la ra
       rw [show (payL (⟨la, ra, bu, sumA l⟩ : Led) s.s.n) = (⟨paidA s.s.n la ra, paidK s.s.n la ra, bu, sumA l⟩ : Led) from if_pos heq] at huc2 hvc2 ⊢
       have hMb : (⟨paidA s.s.n la ra, paidK s.s.n la ra, bu, sumA l⟩ : Led).burnt = bu := rfl
       have hMl : (⟨paidA s.s.n la ra, paidK s.s.n la ra, bu, sumA l⟩ : Led).acc.length = la.length := hpl9
       replace hP : Kept (⟨la, ra, bu, sumA l⟩ : Led) (⟨paidA s.s.n la ra, paidK s.s.n la ra, bu, sumA l⟩ : Led) := hP
       generalize (⟨paidA s.s.n la ra, paidK s.s.n la ra, bu, sumA l⟩ : Led) = M at hP hMb hMl huc2 hvc2 ⊢
       refine lM (k:=lP (pF ty_fl_30_2) (k:=lV (vB ty_sc_23 .h7) (k:=lP (pF ty_fl_30_2) (k:=lV (vB ty_sc_23 .h8) (k:=lP pNe (k:=?_))))))
       refine E_false (t := 184) rfl (decide_eq_false (fun h9 => h9 hMb)) (lM (k:=lP (pF ty_fl_30_0) (k:=lV (vB ty_sc_22 .h7) (k:=lP (pL ty_sl_22) (k:=lP (pF ty_fl_30_0) (k:=lV (vB ty_sc_22 .h8) (k:=lP (pL ty_sl_22) (k:=lP pNe (k:=?_)))))))))
       refine E_false (t := 192) rfl (decide_eq_false (fun h9 => h9 (by rw [hMl]))) (lP pK (k:=lP pK (k:=?_)))
       refine L_nil (qT (kF (k:=R_skip (Q_block ?_))))
       exact Q_meet ((payE s.s.n), M.acc, M.rel, M.burnt, M.sup, ua, uc2, va, vc2, DT, DH, db, dc, tb, tc) (by show StepOk (⟨la, ra, bu, sumA l⟩ : Led) (⟨(M.acc), (M.rel), (M.burnt), (M.sup)⟩ : Led) ((payE s.s.n)) rc2 ch p (DT) (DH) i ∧ (M.acc).length ≤ (uc2) ∧ (M.rel).length ≤ (vc2) ∧ (DT).length ≤ (dc) ∧ (DH).length ≤ (tc); exact ⟨⟨fun _ => hP, by rw [if_pos heq]; exact hda2.keep hP, by omega⟩, huc2, hvc2, hdc, htc⟩) (by repeat (first | exact .nil | refine .cons rfl ?_ | refine .consE rfl (by first | rfl | (congr 1; omega) | (congr 1; push_cast; omega)) ?_)) (Weak.pick (p := [_, _]) (Weak.pick (p := [_, _]) (Weak.pick (p := [_, _]) (Weak.pick (p := [_, _]) (Weak.pick (p := [_, _]) (Weak.pick (p := [_, _]) (Weak.pick (p := [_, _]) (Weak.pick (p := [_, _]) (Weak.pick (p := [_, _]) (Weak.keep (Weak.keep (Weak.keep (Weak.keep (Weak.keep (Weak.keep (Weak.keep (Weak.nil _)))))))))))))))))
      ·skip
       have heq : ¬ (payE s.s.n) = 0 := of_decide_eq_false heq
       refine lM (k:=lN (k:=lN (k:=lN (k:=lN (k:=lN (k:=lN (k:=lN (k:=lN (k:=lN (k:=lN (k:=lN (k:=lN (k:=lN (k:=lN (k:=lP pK (k:=?_))))))))))))))))
       refine L_nil (qT (kF (k:=R_skip (Q_block ?_))))
       exact Q_meet ((payE s.s.n), (payL (⟨la, ra, bu, sumA l⟩ : Led) s.s.n).acc, (payL (⟨la, ra, bu, sumA l⟩ : Led) s.s.n).rel, (payL (⟨la, ra, bu, sumA l⟩ : Led) s.s.n).burnt, (payL (⟨la, ra, bu, sumA l⟩ : Led) s.s.n).sup, ua, uc2, va, vc2, DT, DH, db, dc, tb, tc) (by show StepOk (⟨la, ra, bu, sumA l⟩ : Led) (⟨((payL (⟨la, ra, bu, sumA l⟩ : Led) s.s.n).acc), ((payL (⟨la, ra, bu, sumA l⟩ : Led) s.s.n).rel), ((payL (⟨la, ra, bu, sumA l⟩ : Led) s.s.n).burnt), ((payL (⟨la, ra, bu, sumA l⟩ : Led) s.s.n).sup)⟩ : Led) ((payE s.s.n)) rc2 ch p (DT) (DH) i ∧ ((payL (⟨la, ra, bu, sumA l⟩ : Led) s.s.n).acc).length ≤ (uc2) ∧ ((payL (⟨la, ra, bu, sumA l⟩ : Led) s.s.n).rel).length ≤ (vc2) ∧ (DT).length ≤ (dc) ∧ (DH).length ≤ (tc); exact ⟨⟨fun h9 => absurd h9 heq, by rw [if_neg heq]; exact hda2, by omega⟩, huc2, hvc2, hdc, htc⟩) (by repeat (first | exact .nil | refine .cons rfl ?_ | refine .consE rfl (by first | rfl | (congr 1; omega) | (congr 1; push_cast; omega)) ?_)) (Weak.pick (p := [_, _]) (Weak.pick (p := [_, _]) (Weak.pick (p := [_, _]) (Weak.pick (p := [_, _]) (Weak.pick (p := [_, _]) (Weak.pick (p := [_, _]) (Weak.pick (p := [_, _]) (Weak.pick (p := [_, _]) (Weak.pick (p := [_, _]) (Weak.keep (Weak.keep (Weak.keep (Weak.keep (Weak.keep (Weak.keep (Weak.keep (Weak.nil _)))))))))))))))))
     ·skip
      refine lA (k:=?_)
      refine L_nil (qT (kF (k:=rS ?_)))
      refine R_open [(0, 1), (1, 0), (2, 0), (3, 0), (4, 1), (5, 0), (6, 1), (7, 0), (8, 1), (9, 0), (10, 1), (11, 1), (12, 2), (13, 0), (14, 0), (15, 0), (16, 3), (17, 0)] mixed (by kernel_rfl) (QOk.then (QOk.block (QOk.then (QOk.block (QOk.then (QOk.then (QOk.block (QOk.then QOk.body)))))))) (oV rfl (vG ty_ag_30 .h6) (k:=oP rfl pM (k:=oP rfl pN (k:=oP rfl (pF ty_fl_154_0) (k:=oV rfl (vB ty_sc_69 .h1) (k:=oP rfl pM (k:=oV rfl (vG ty_ag_25 .h3) (k:=oP rfl (pF ty_fl_147_3) (k:=?_)))))))))
      refine oV rfl (V_load rfl rfl ty_sc_23 (Rd.blk .h2 (stp_end s.ok 1 _ rfl))) (k:=oP rfl (pF ty_fl_147_4) (k:=?_))
      refine oV rfl (V_load rfl rfl ty_sc_26 (Rd.blk .h2 (stp_end s.ok 2 _ rfl))) (k:=?_)
      refine oV rfl (V_loadAgg rfl rfl ty_ag_67 (Rds.blk .h4) (hxo.cellsLen)) (k:=?_)
      refine O_keep rfl rfl (W_call rfl rfl rfl rfl fn_ca_67 (apply_ok hG.toGlobs rp sg rc2 ab ac la hac (by omega) hlo rb rk ra hrk (by omega) hro bu (sumA l) ⟨hb0, by omega⟩ ch hcb p hp3 s.s.h s.s.b s.ok.h x hxo) (Split.one (p := [])) (fun w a b ha hb dj m => ⟨Sn.pre (Sn.own .h6 rfl) w a b ha hb dj m, Sn.pre (Sn.own .h7 rfl) w a b ha hb dj m⟩) fun v25 rs25 ⟨u25, u25', z1, z2⟩ => ?_)
      subst z1; subst z2
      refine St.ownForm (p := []) fun ua uc2 huv huc2 => ?_
      subst huv
      refine St.ownForm (p := [_]) fun va vc2 huv hvc2 => ?_
      subst huv
      refine K_keep (Weak.drop (Weak.drop (Weak.refl _))) (oP rfl pM (k:=oP rfl pX (k:=oP rfl pX (k:=?_))))
      refine O_new rfl rfl (W_storeAll rfl rfl rfl rfl ty_ag_30 (rfl) (ledV_one _ _ _ _ rfl rfl) .h7 (rfl) (K_new (oP rfl pA (k:=O_nil (qT (rT (lM (k:=lP pEq (k:=?_)))))))))
      refine E_bool (t := 93) rfl (fun heq => ?_) (fun heq => ?_)
      ·skip
       have heq : (chkE rc2 ch (⟨la, ra, bu, sumA l⟩ : Led) p s.s.h x) = 0 := of_decide_eq_true heq
       have hC := chkFine_of heq
       have hP := keep_app hLF hxo s.ok.b s.ok.h hp3 hC
       rw [appL_zero heq] at huc2 hvc2 ⊢
       generalize (appP (⟨la, ra, bu, sumA l⟩ : Led) p s.s.h s.s.b x) = M at hP huc2 hvc2 ⊢
       have hm1 := hP.kept.lf.few
       have hm2 := hP.kept.lf.few'
       have hn1 : (findA la x.frm).non = x.non := hP.one
       have hn2 := hC.top
       obtain ⟨hn3, hn4⟩ := hxo.non
       refine L_nil (qT (kT (k:=rS (rS ?_))))
       refine R_open [(0, 1), (1, 1), (2, 0), (3, 1), (4, 0), (5, 1), (6, 0), (7, 1), (8, 2), (9, 0), (10, 0), (11, 1), (12, 0), (13, 1), (16, 1), (17, 0), (18, 1), (14, 2), (15, 0), (19, 2), (20, 0), (21, 0), (22, 0), (23, 0)] mixed (by kernel_rfl) (QOk.then (QOk.then (QOk.block (QOk.then (QOk.block (QOk.then (QOk.then (QOk.block (QOk.then QOk.body))))))))) (oV rfl (vG ty_ag_30 .h8) (k:=oV rfl (vG ty_ag_30 .h7) (k:=oP rfl (pF ty_fl_67_1) (k:=oV rfl (vB ty_sc_26 .h6) (k:=oP rfl (pF ty_fl_67_2) (k:=oV rfl (vB ty_sc_26 .h6) (k:=oP rfl (pF ty_fl_147_4) (k:=?_))))))))
       refine oV rfl (V_load rfl rfl ty_sc_26 (Rd.blk .h4 (stp_end s.ok 2 _ rfl))) (k:=?_)
       refine O_keep rfl rfl (W_callV rfl rfl rfl rfl fn_ca_65 (others_ok ab ac la hac (by omega) (.slice rb ra.length rk) rfl bu (sumA l) ua uc2 M.acc huc2 (by omega) (.slice va M.rel.length vc2) rfl M.burnt M.sup x.frm x.to s.s.b (fun z hz h1 h2 h3 => hP.oth z hz h1 h2 h3) (hP.kept.there hLF)) (fun w nw => ⟨(Sn.own .h9 rfl).rw_ w nw, (Sn.own .h0 rfl).rw_ w nw⟩) (K_keep (Weak.refl _) (oP rfl pO (k:=?_))))
       refine E_false (t := 103) rfl (rfl) (oP rfl pM (k:=oV rfl (vG ty_ag_30 .h7) (k:=oP rfl (pF ty_fl_67_1) (k:=oV rfl (vB ty_sc_26 .h6) (k:=oV rfl (vG ty_ag_30 .h8) (k:=oP rfl (pF ty_fl_67_1) (k:=oV rfl (vB ty_sc_26 .h6) (k:=?_))))))))
       refine O_keep rfl rfl (W_callV rfl rfl rfl rfl fn_ca_66 (lfind_ok ua uc2 M.acc huc2 (by omega) (.slice va M.rel.length vc2) rfl M.burnt M.sup x.frm) ((Sn.own .h0 rfl).rw_) (K_keep (Weak.refl _) ?_))
       refine oP rfl (P_field rfl ty_fld_50_3 ty_sc_23 rfl (rfl)) (k:=?_)
       refine O_keep rfl rfl (W_callV rfl rfl rfl rfl fn_ca_66 (lfind_ok ab ac la hac (by omega) (.slice rb ra.length rk) rfl bu (sumA l) x.frm) ((Sn.own .h9 rfl).rw_) (K_keep (Weak.refl _) ?_))
       refine oP rfl (P_field rfl ty_fld_50_3 ty_sc_23 rfl (rfl)) (k:=?_)
       refine oP rfl (P_addN rfl rfl rfl (by simp only [fits]; omega)) (k:=oP rfl pNe (k:=?_))
       refine E_false (t := 116) rfl (decide_eq_false (fun h9 => h9 hP.nonc)) (oP rfl pK (k:=O_nil (qT (kF (k:=R_skip (qT (rT (lM (k:=?_)))))))))
       refine lV (V_loadAgg rfl rfl ty_ag_67 (Rds.blk .h6) (hxo.cellsLen)) (k:=?_)
       refine lO (W_lit (z := .nilIface) (rc [(⟨x, hxo⟩ : TxR)]) rfl rfl rfl ty_sl_92 ty_lz_92 rfl rfl rfl (by decide) (by decide) (by intro v hv; rw [List.mem_singleton] at hv; subst hv; exact hxo.cellsLen) (rfl) fun b120 => ?_)
       refine lO (W_append (p := [_, _, _, _, _, _, _, _, _, _, _, _, _, _, _]) rfl rfl rfl ty_sl_92 ty_ap_92 ty_src_92 rfl rfl rfl (Src.slice (sz := 22) (m := 1) (news := rc [(⟨x, hxo⟩ : TxR)]) (Rds.blk .h0) (rc_length [(⟨x, hxo⟩ : TxR)]) (rc_one [(⟨x, hxo⟩ : TxR)])) (by omega) (by simp only [maxLen]; omega) fun v121 => ?_)
       refine St.res (rs' := [ownS 50 5 (.slice ua M.acc.length uc2) (M.acc.length) (rc (M.acc)), ownS 175 4 (.slice va M.rel.length vc2) (M.rel.length) (rc (M.rel)), REG rp (sg) (rc2), blk wb [.pointer (some ⟨rp, 0, none⟩), .pointer (some ⟨rq, 0, none⟩), mv, ov, .string (strOfNums ch)] 154, blk b19 s.s.cells 147, blk b5 p.cells 25, blk b21 x.cells 67, blk b20 (ledV (.slice ua M.acc.length uc2) (.slice va M.rel.length vc2) M.burnt M.sup) 30, blk b10 (ledV (.slice ab la.length ac) (.slice rb ra.length rk) bu (sumA l)) 30, ownS 50 5 (.slice ab la.length ac) (la.length) (rc (la)), ownS 175 4 (.slice rb ra.length rk) (ra.length) (rc (ra)), REF rq (tg) (rc2), ownS 220 1 (mv) (sg.length) (ptrs (sg)), ownS 222 1 (ov) (tg.length) (ptrs (tg)), ownS 67 22 v121 (DT ++ [(⟨x, hxo⟩ : TxR)]).length (rc (DT ++ [(⟨x, hxo⟩ : TxR)])), ownS 23 1 (.slice tb DH.length tc) (DH).length (ints .u64 DH)]) (Weak.drop (Weak.keep (Weak.keep (Weak.keep (Weak.keep (Weak.keep (Weak.keep (Weak.keep (Weak.keep (Weak.keep (Weak.keep (Weak.keep (Weak.keep (Weak.keep (Weak.keep (ownS.to1 (by rw [List.length_append]; rfl) (by rw [rc_append]))))))))))))))))) ?_
       refine St.ownForm (p := [_, _, _, _, _, _, _, _, _, _, _, _, _, _]) fun eb ec huv hec => ?_
       subst huv
       refine lA (k:=?_)
       refine L_nil (qT (rR (lM (k:=lP (pF ty_fl_147_3) (k:=?_)))))
       refine lV (V_load rfl rfl ty_sc_23 (Rd.blk .h4 (stp_end s.ok 1 _ rfl))) (k:=?_)
       refine lO (W_lit (z := .nilIface) (ints .u64 [s.s.h]) rfl rfl rfl ty_sl_145 ty_lz_145 rfl rfl rfl (by decide) (by decide) (by intro v hv; rw [List.mem_singleton] at hv; subst hv; rfl) (rfl) fun b125 => ?_)
       refine lO (W_append (p := [_, _, _, _, _, _, _, _, _, _, _, _, _, _, _, _]) rfl rfl rfl ty_sl_145 ty_ap_145 ty_src_145 rfl rfl rfl (Src.slice (sz := 1) (m := 1) (news := ints .u64 [s.s.h]) (Rds.blk .h0) rfl (ints_one)) (by omega) (by simp only [maxLen]; omega) fun v126 => ?_)
       refine St.res (rs' := [ownS 50 5 (.slice ua M.acc.length uc2) (M.acc.length) (rc (M.acc)), ownS 175 4 (.slice va M.rel.length vc2) (M.rel.length) (rc (M.rel)), REG rp (sg) (rc2), blk wb [.pointer (some ⟨rp, 0, none⟩), .pointer (some ⟨rq, 0, none⟩), mv, ov, .string (strOfNums ch)] 154, blk b19 s.s.cells 147, blk b5 p.cells 25, blk b21 x.cells 67, blk b20 (ledV (.slice ua M.acc.length uc2) (.slice va M.rel.length vc2) M.burnt M.sup) 30, blk b10 (ledV (.slice ab la.length ac) (.slice rb ra.length rk) bu (sumA l)) 30, ownS 50 5 (.slice ab la.length ac) (la.length) (rc (la)), ownS 175 4 (.slice rb ra.length rk) (ra.length) (rc (ra)), REF rq (tg) (rc2), ownS 220 1 (mv) (sg.length) (ptrs (sg)), ownS 222 1 (ov) (tg.length) (ptrs (tg)), ownS 67 22 (.slice eb (DT ++ [(⟨x, hxo⟩ : TxR)]).length ec) (DT ++ [(⟨x, hxo⟩ : TxR)]).length (rc (DT ++ [(⟨x, hxo⟩ : TxR)])), ownS 23 1 v126 (DH ++ [s.s.h]).length (ints .u64 (DH ++ [s.s.h]))]) (Weak.drop (Weak.keep (Weak.keep (Weak.keep (Weak.keep (Weak.keep (Weak.keep (Weak.keep (Weak.keep (Weak.keep (Weak.keep (Weak.keep (Weak.keep (Weak.keep (Weak.keep (Weak.keep (ownS.to1 (by rw [List.length_append]; rfl) (by simp [ints])))))))))))))))))) ?_
       refine St.ownForm (p := [_, _, _, _, _, _, _, _, _, _, _, _, _, _, _]) fun gb gc huv hgc => ?_
       subst huv
       refine lA (k:=?_)
       refine L_nil (Q_block ?_)
       exact Q_meet ((chkE rc2 ch (⟨la, ra, bu, sumA l⟩ : Led) p s.s.h x), M.acc, M.rel, M.burnt, M.sup, ua, uc2, va, vc2, (DT ++ [(⟨x, hxo⟩ : TxR)]), (DH ++ [s.s.h]), eb, ec, gb, gc) (by show StepOk (⟨la, ra, bu, sumA l⟩ : Led) (⟨(M.acc), (M.rel), (M.burnt), (M.sup)⟩ : Led) ((chkE rc2 ch (⟨la, ra, bu, sumA l⟩ : Led) p s.s.h x)) rc2 ch p ((DT ++ [(⟨x, hxo⟩ : TxR)])) ((DH ++ [s.s.h])) i ∧ (M.acc).length ≤ (uc2) ∧ (M.rel).length ≤ (vc2) ∧ ((DT ++ [(⟨x, hxo⟩ : TxR)])).length ≤ (ec) ∧ ((DH ++ [s.s.h])).length ≤ (gc); exact ⟨⟨fun _ => hP.kept, by rw [if_pos heq]; exact (hda2.keep hP.kept).snoc s.ok.h (DoneOk.new hLF hC hP), by rw [List.length_append]; show DT.length + 1 ≤ i + 1; omega⟩, huc2, hvc2, hec, hgc⟩) (by repeat (first | exact .nil | refine .cons rfl ?_ | refine .consE rfl (by first | rfl | (congr 1; omega) | (congr 1; push_cast; omega)) ?_)) (Weak.pick (p := [_, _]) (Weak.pick (p := [_, _]) (Weak.pick (p := [_, _]) (Weak.pick (p := [_, _]) (Weak.pick (p := [_, _]) (Weak.pick (p := [_, _]) (Weak.pick (p := [_, _]) (Weak.pick (p := [_, _]) (Weak.pick (p := [_, _]) (Weak.keep (Weak.keep (Weak.keep (Weak.keep (Weak.keep (Weak.keep (Weak.keep (Weak.nil _)))))))))))))))))
      ·skip
       have heq : ¬ (chkE rc2 ch (⟨la, ra, bu, sumA l⟩ : Led) p s.s.h x) = 0 := of_decide_eq_false heq
       refine L_nil (qT (kF (k:=R_skip (Q_block ?_))))
       exact Q_meet ((chkE rc2 ch (⟨la, ra, bu, sumA l⟩ : Led) p s.s.h x), (appL rc2 ch (⟨la, ra, bu, sumA l⟩ : Led) p s.s.h s.s.b x).acc, (appL rc2 ch (⟨la, ra, bu, sumA l⟩ : Led) p s.s.h s.s.b x).rel, (appL rc2 ch (⟨la, ra, bu, sumA l⟩ : Led) p s.s.h s.s.b x).burnt, (appL rc2 ch (⟨la, ra, bu, sumA l⟩ : Led) p s.s.h s.s.b x).sup, ua, uc2, va, vc2, DT, DH, db, dc, tb, tc) (by show StepOk (⟨la, ra, bu, sumA l⟩ : Led) (⟨((appL rc2 ch (⟨la, ra, bu, sumA l⟩ : Led) p s.s.h s.s.b x).acc), ((appL rc2 ch (⟨la, ra, bu, sumA l⟩ : Led) p s.s.h s.s.b x).rel), ((appL rc2 ch (⟨la, ra, bu, sumA l⟩ : Led) p s.s.h s.s.b x).burnt), ((appL rc2 ch (⟨la, ra, bu, sumA l⟩ : Led) p s.s.h s.s.b x).sup)⟩ : Led) ((chkE rc2 ch (⟨la, ra, bu, sumA l⟩ : Led) p s.s.h x)) rc2 ch p (DT) (DH) i ∧ ((appL rc2 ch (⟨la, ra, bu, sumA l⟩ : Led) p s.s.h s.s.b x).acc).length ≤ (uc2) ∧ ((appL rc2 ch (⟨la, ra, bu, sumA l⟩ : Led) p s.s.h s.s.b x).rel).length ≤ (vc2) ∧ (DT).length ≤ (dc) ∧ (DH).length ≤ (tc); exact ⟨⟨fun h9 => absurd h9 heq, by rw [if_neg heq]; exact hda2, by omega⟩, huc2, hvc2, hdc, htc⟩) (by repeat (first | exact .nil | refine .cons rfl ?_ | refine .consE rfl (by first | rfl | (congr 1; omega) | (congr 1; push_cast; omega)) ?_)) (Weak.pick (p := [_, _]) (Weak.pick (p := [_, _]) (Weak.pick (p := [_, _]) (Weak.pick (p := [_, _]) (Weak.pick (p := [_, _]) (Weak.pick (p := [_, _]) (Weak.pick (p := [_, _]) (Weak.pick (p := [_, _]) (Weak.pick (p := [_, _]) (Weak.keep (Weak.keep (Weak.keep (Weak.keep (Weak.keep (Weak.keep (Weak.keep (Weak.nil _)))))))))))))))))
   ·rintro ⟨e4, lm, rm, bm, sm, ua, uc2, va, vc2, DT2, DH2, d2b, d2c, t2b, t2c⟩ hinv
    replace hinv : StepOk (⟨la, ra, bu, sumA l⟩ : Led) (⟨lm, rm, bm, sm⟩ : Led) e4 rc2 ch p DT2 DH2 i ∧ lm.length ≤ uc2 ∧ rm.length ≤ vc2 ∧ DT2.length ≤ d2c ∧ DH2.length ≤ t2c := hinv
    show St (cx gl) _ ((11, .int .i64 (e4)) :: (16, .slice d2b DT2.length d2c) :: (17, .slice t2b DH2.length t2c) :: _) [REG rp (sg) (rc2), blk wb [.pointer (some ⟨rp, 0, none⟩), .pointer (some ⟨rq, 0, none⟩), mv, ov, .string (strOfNums ch)] 154, blk b19 s.s.cells 147, blk b5 p.cells 25, blk b21 x.cells 67, blk b20 (ledV (.slice ua lm.length uc2) (.slice va rm.length vc2) bm sm) 30, blk b10 (ledV (.slice ab la.length ac) (.slice rb ra.length rk) bu (sumA l)) 30, ownS 50 5 (.slice ab la.length ac) (la.length) (rc (la)), ownS 175 4 (.slice rb ra.length rk) (ra.length) (rc (ra)), ownS 50 5 (.slice ua lm.length uc2) (lm.length) (rc (lm)), ownS 175 4 (.slice va rm.length vc2) (rm.length) (rc (rm)), REF rq (tg) (rc2), ownS 220 1 (mv) (sg.length) (ptrs (sg)), ownS 222 1 (ov) (tg.length) (ptrs (tg)), ownS 67 22 (.slice d2b DT2.length d2c) (DT2).length (rc DT2), ownS 23 1 (.slice t2b DH2.length t2c) (DH2).length (ints .u64 DH2)] _
    obtain ⟨hSO, huc2, hvc2, hd2c, ht2c⟩ := hinv
    refine rS (rT (lM (k:=lP pNe (k:=?_))))
    refine E_bool (t := 196) rfl (fun he4 => ?_) (fun he4 => ?_)
    ·skip
     have he4 : ¬ e4 = 0 := of_decide_eq_true he4
     refine L_nil (qT (kT (k:=R_exit (Q_then_exit (Q_block_eq (qT (rR (lM (k:=?_)))))))))
     first | (refine L_val rfl rfl rfl (OpP.v (P_addN rfl rfl rfl (by simp only [fits]; omega))) ?_) | (refine L_val rfl rfl rfl (OpP.v (P_add rfl rfl rfl)) ?_)
     refine lA (k:=?_)
     refine L_nil ?_
     exact Q_round (i + 1, rc2, la, ra, bu, ab, ac, rb, rk, DT2, DH2, d2b, d2c, t2b, t2c) (by show (i + 1) ≤ st.length ∧ LF (⟨(la), (ra), (bu), sumA l⟩ : Led) ∧ (rc2).length ≤ (i + 1) ∧ (DT2).length ≤ (i + 1) ∧ DoneAll (rc2) ch p (la) (DT2) (DH2) ∧ (la).length ≤ (ac) ∧ (ra).length ≤ (rk) ∧ (DT2).length ≤ (d2c) ∧ (DH2).length ≤ (t2c); exact ⟨by omega, hLF, by omega, hSO.len, by have h9 := hSO.done; rw [if_neg he4] at h9; exact h9, hac, hrk, hd2c, ht2c⟩) (by show st.length - (i + 1) < st.length - i; omega) (by repeat (first | exact .nil | refine .cons rfl ?_ | refine .consE rfl (by first | rfl | (congr 1; omega) | (congr 1; push_cast; omega)) ?_)) (Weak.pick (p := [_, _, _, _, _, _, _, _, _, _, _, _, _, _, _]) (Weak.pick (p := [_, _, _, _, _, _, _, _, _, _, _, _, _, _]) (Weak.pick (p := [_, _, _, _, _, _, _, _]) (Weak.pick (p := [_]) (Weak.keep (Weak.pick (p := [_, _, _, _, _, _, _, _]) (Weak.pick (p := [_, _, _, _, _, _, _, _]) (Weak.pick (p := [_, _, _, _, _, _, _, _]) (Weak.pick (p := [_, _, _, _]) (Weak.pick (p := [_, _, _, _]) (Weak.pick (p := [_]) (Weak.nil _))))))))))))
    ·skip
     have he4 : e4 = 0 := by have h9 := of_decide_eq_false he4; omega
     have hK := hSO.kept he4
     have hML := hK.lf
     have hsm : sm = sumA l := hK.sup
     subst hsm
     have hMF : LF (⟨lm, rm, bm, sumA l⟩ : Led) := hML
     have hm1 : lm.length ≤ 65536 := hMF.few
     have hm2 : rm.length ≤ 65536 := hMF.few'
     have hbm0 : 0 ≤ bm := hMF.b0
     have hsum9 : bm + sumA lm + sumR rm = sumA l := hMF.sum
     have hs91 := sumA_nn hMF.ok
     have hs92 := sumR_nn hMF.ok'
     have hs93 : 0 ≤ sumA lm := hs91
     have hs94 : 0 ≤ sumR rm := hs92
     have hsup9 : supR (supA bm lm) rm = sumA l := led_sup hMF
     have hz9 : lsoundE (⟨lm, rm, bm, sumA l⟩ : Led) = 0 := hMF.fine.zero
     refine L_nil (qT (kF (k:=R_skip (qT (rS (rT (lP (pF ty_fl_30_3) (k:=lV (vB ty_sc_23 .h5) (k:=lM (k:=lP pNe (k:=?_)))))))))))
     refine E_false (t := 200) rfl (by simp) (lM (k:=lV (vG ty_ag_30 .h5) (k:=?_)))
     refine lO (W_callV rfl rfl rfl rfl fn_ca_68 (supply_ok ua uc2 lm huc2 (by omega) va vc2 rm hvc2 (by omega) bm (sumA l)) (fun w nw => ⟨(Sn.own .h9 rfl).rw_ w nw, (Sn.own .h10 rfl).rw_ w nw⟩) (lM (k:=lP pNe (k:=?_))))
     refine E_false (t := 205) rfl (decide_eq_false (fun h9 => h9 hsup9)) (lP pK (k:=lM (k:=lV (vG ty_ag_30 .h5) (k:=?_))))
     refine lO (W_callV rfl rfl rfl rfl fn_ca_69 (lsound_ok ua uc2 lm huc2 hMF.ok va vc2 rm hvc2 hMF.ok' bm (sumA l) ⟨hbm0, by omega⟩ ⟨by omega, by omega⟩) (fun w nw => ⟨(Sn.own .h9 rfl).rw_ w nw, (Sn.own .h10 rfl).rw_ w nw⟩) (lP pNe (k:=?_)))
     refine E_false (t := 210) rfl (decide_eq_false (fun h9 => h9 hz9)) (lP pK (k:=?_))
     refine L_nil (qT (kF (k:=R_skip (qT (rR (lV (vG ty_ag_30 .h5) (k:=?_)))))))
     refine lO (W_storeAll rfl rfl rfl rfl ty_ag_30 (rfl) (ledV_one _ _ _ _ rfl rfl) .h6 (rfl) ?_)
     refine L_nil (Q_block (qT (rR (lM (k:=?_)))))
     first | (refine L_val rfl rfl rfl (OpP.v (P_addN rfl rfl rfl (by simp only [fits]; omega))) ?_) | (refine L_val rfl rfl rfl (OpP.v (P_add rfl rfl rfl)) ?_)
     refine lA (k:=?_)
     refine L_nil ?_
     exact Q_round (i + 1, rc2, lm, rm, bm, ua, uc2, va, vc2, DT2, DH2, d2b, d2c, t2b, t2c) (by show (i + 1) ≤ st.length ∧ LF (⟨(lm), (rm), (bm), sumA l⟩ : Led) ∧ (rc2).length ≤ (i + 1) ∧ (DT2).length ≤ (i + 1) ∧ DoneAll (rc2) ch p (lm) (DT2) (DH2) ∧ (lm).length ≤ (uc2) ∧ (rm).length ≤ (vc2) ∧ (DT2).length ≤ (d2c) ∧ (DH2).length ≤ (t2c); exact ⟨by omega, hMF, by omega, hSO.len, by have h9 := hSO.done; rw [if_pos he4] at h9; exact h9, huc2, hvc2, hd2c, ht2c⟩) (by show st.length - (i + 1) < st.length - i; omega) (by repeat (first | exact .nil | refine .cons rfl ?_ | refine .consE rfl (by first | rfl | (congr 1; omega) | (congr 1; push_cast; omega)) ?_)) (Weak.pick (p := [_, _, _, _, _, _, _, _, _, _, _, _, _, _, _]) (Weak.pick (p := [_, _, _, _, _, _, _, _, _, _, _, _, _, _]) (Weak.pick (p := [_, _, _, _, _, _, _, _, _, _]) (Weak.pick (p := [_]) (Weak.keep (Weak.pick (p := [_, _, _, _, _, _, _, _]) (Weak.pick (p := [_, _, _, _, _, _, _, _]) (Weak.pick (p := [_, _, _, _, _, _, _, _]) (Weak.pick (p := [_, _, _, _]) (Weak.pick (p := [_, _, _, _, _, _]) (Weak.pick (p := [_]) (Weak.nil _))))))))))))
  ·skip
   have hin : i = st.length := by omega
   refine R_exit (Q_then_exit (Q_then_exit (Q_block_eq ?_)))
   refine St.env (cE 2 rfl (cE 5 rfl (cE 8 rfl (cE 10 rfl (cE 14 rfl (cE 16 rfl (cE 17 rfl .nil))))))) (qT (rS (rT (lA (k:=?_)))))
   refine L_nil (qT (R_block ?_))
   refine R_loopE (G := Nat) (cE 2 rfl (cE 5 rfl (cE 8 rfl (cE 10 rfl (cE 14 rfl (cE 16 rfl (cE 17 rfl .nil))))))) (fun g => [(23, .int .i64 ((g : Nat) : Int))]) (fun g => [REG rp (sg) (rcd), blk wb [.pointer (some ⟨rp, 0, none⟩), .pointer (some ⟨rq, 0, none⟩), mv, ov, .string (strOfNums ch)] 154, blk b10 (ledV (.slice ab la.length ac) (.slice rb ra.length rk) bu (sumA l)) 30, blk b5 p.cells 25, ownS 50 5 (.slice ab la.length ac) (la.length) (rc (la)), ownS 175 4 (.slice rb ra.length rk) (ra.length) (rc (ra)), ownS 67 22 (.slice db DT.length dc) (DT).length (rc DT), ownS 23 1 (.slice tb DH.length tc) (DH).length (ints .u64 DH)]) (fun g => g ≤ DT.length) (fun g => DT.length - g) (0) (Nat.zero_le _) (by repeat (first | exact .nil | refine .cons rfl ?_ | refine .consE rfl (by first | rfl | (congr 1; omega) | (congr 1; push_cast; omega)) ?_)) (Weak.pick (p := [_, _, _, _]) (Weak.pick (p := [_, _, _]) (Weak.pick (p := [_, _, _, _, _, _]) (Weak.pick (p := [_, _, _, _, _, _, _]) (Weak.pick (p := [_, _, _, _, _, _]) (Weak.pick (p := [_, _]) (Weak.pick (p := [_]) (Weak.keep (Weak.nil _))))))))) ?_
   intro j hinv
   replace hinv : j ≤ DT.length := hinv
   show St (cx gl) _ ((23, .int .i64 ((j : Nat) : Int)) :: _) [REG rp (sg) (rcd), blk wb [.pointer (some ⟨rp, 0, none⟩), .pointer (some ⟨rq, 0, none⟩), mv, ov, .string (strOfNums ch)] 154, blk b10 (ledV (.slice ab la.length ac) (.slice rb ra.length rk) bu (sumA l)) 30, blk b5 p.cells 25, ownS 50 5 (.slice ab la.length ac) (la.length) (rc (la)), ownS 175 4 (.slice rb ra.length rk) (ra.length) (rc (ra)), ownS 67 22 (.slice db DT.length dc) (DT).length (rc DT), ownS 23 1 (.slice tb DH.length tc) (DH).length (ints .u64 DH)] _
   have hj := hinv
   refine rS (rT (lM (k:=lM (k:=lP (pL ty_sl_92) (k:=lP pLt (k:=?_))))))
   refine L_nil (qT ?_)
   refine R_condP rfl (fun hlt2 => ?_) (fun hlt2 => ?_)
   ·skip
    have hjl : j < DT.length := by omega
    have hjh : j < DH.length := by rw [← hda.len]; exact hjl
    obtain ⟨y, hy⟩ : ∃ y, DT[j]? = some y := ⟨_, List.getElem?_eq_getElem hjl⟩
    obtain ⟨g, hg⟩ : ∃ g, DH[j]? = some g := ⟨_, List.getElem?_eq_getElem hjh⟩
    have hgu := hda.u g (List.mem_of_getElem? hg)
    have hck := (hda.all j y g hy hg).chk (L := (⟨la, ra, bu, sumA l⟩ : Led)) hLF.up
    have hlf1 : la.length ≤ 65536 := hLF.few
    have hlf2 : ra.length ≤ 65536 := hLF.few'
    refine St.ownSome (p := [_, _, _, _, _, _]) (by omega) fun dbb dcc hq _ => ?_
    simp only [Value.slice.injEq] at hq
    obtain ⟨rfl, _, rfl⟩ := hq
    refine St.ownSome (p := [_, _, _, _, _, _, _]) (by omega) fun tbb tcc hq _ => ?_
    simp only [Value.slice.injEq] at hq
    obtain ⟨rfl, _, rfl⟩ := hq
    refine R_skip (qT (rS (R_block (rS ?_))))
    refine R_open [(0, 1), (1, 0), (2, 0), (3, 0), (4, 1), (5, 0), (6, 1), (7, 0), (8, 0), (9, 0), (10, 1), (11, 0), (12, 0), (13, 0), (14, 1), (15, 2), (16, 0)] mixed (by kernel_rfl) (QOk.then (QOk.block (QOk.then (QOk.then (QOk.block (QOk.then QOk.body)))))) (oV rfl (vG ty_ag_30 .h2) (k:=oP rfl pM (k:=oP rfl pN (k:=oP rfl (pF ty_fl_154_0) (k:=oV rfl (vB ty_sc_69 .h1) (k:=oP rfl pM (k:=oV rfl (vG ty_ag_25 .h3) (k:=oP rfl pM (k:=oP rfl pM (k:=?_))))))))))
    refine oP rfl (P_ixs (j) rfl ty_sl_145 rfl rfl (by first | rfl | omega) (by omega)) (k:=?_)
    refine oV rfl (V_load rfl rfl ty_sc_23 (Rd.own .h7 (show (ints .u64 DH)[0 + j * 1]? = some (.int .u64 g) by rw [Nat.zero_add, Nat.mul_one]; simp [ints, hg]))) (k:=oP rfl pM (k:=oP rfl pM (k:=?_)))
    refine oP rfl (P_ixs (j) rfl ty_sl_92 rfl rfl (by first | rfl | omega) (by omega)) (k:=?_)
    refine oV rfl (V_loadAgg rfl rfl ty_ag_67 (rds_rc (rds_own .h6) hy) (y.ok.cellsLen)) (k:=?_)
    refine O_keep rfl rfl (W_callR rfl rfl rfl rfl fn_ca_70 (lcheck_ok hG.toGlobs rp sg rcd ab ac la hac (by omega) rb rk ra hrk (by omega) bu (sumA l) ch hcb p hp3 g hgu y.t y.ok) (Split.one (p := [])) (fun w a b ha hb dj m => ⟨Sn.pre (Sn.own .h3 rfl) w a b ha hb dj m, Sn.pre (Sn.own .h4 rfl) w a b ha hb dj m⟩) (K_keep (Weak.refl _) (oP rfl pA (k:=O_nil (qT (rT (lM (k:=lP pNe (k:=?_)))))))))
    refine E_false (t := 236) rfl (decide_eq_false (fun h9 => h9 hck)) ?_
    refine L_nil (qT (kF (k:=R_skip (Q_block (qT (rR (lM (k:=?_))))))))
    first | (refine L_val rfl rfl rfl (OpP.v (P_addN rfl rfl rfl (by simp only [fits]; omega))) ?_) | (refine L_val rfl rfl rfl (OpP.v (P_add rfl rfl rfl)) ?_)
    refine lA (k:=?_)
    refine L_nil ?_
    exact Q_round (j + 1) (by show j + 1 ≤ DT.length; omega) (by show DT.length - (j + 1) < DT.length - j; omega) (by repeat (first | exact .nil | refine .cons rfl ?_ | refine .consE rfl (by first | rfl | (congr 1; omega) | (congr 1; push_cast; omega)) ?_)) (Weak.refl _)
   ·skip
    refine R_exit (Q_then_exit (Q_then_exit (Q_block_eq ?_)))
    refine St.env (cE 8 rfl .nil) (qT (rT (lA (k:=?_))))
    refine L_nil (qT (R_ret ?_))
    exact R_endV rfl rfl (.tmp rfl .nil) (rfl)
end Go.Proofs.YtcngmkjdpoiiaaaGreatDoor

/- How scripts are read. Printed by gen.py. -/
set_option maxRecDepth 100000
namespace Go.Proofs.YtcngmkjdpoiiaaaGreatDoor
open Go Go.RowKit Go.ChangeShapes Go.WideShapes Go.Proofs
theorem bytes_stp : Tryz.prog.bytesOf 147 = 112 := by kernel_rfl
def rd_stps := PLift.up (Reads.slice ty_sl_141 cells_stp bytes_stp (fun _ => .inr trivial) rd_stp.down)
/-- Steps whose cells are as many as they are. -/
theorem stps_of : ∀ {xs : List Stp}, (∀ x ∈ xs, x.ok) → ∃ st : List StpR, st.length = xs.length ∧ rc st = xs.flatMap Stp.cells
 | [], _ => ⟨[], rfl, rfl⟩
 | x :: xs, h => by
  obtain ⟨st, e1, e2⟩ := stps_of (xs := xs) fun y hy => h y (List.mem_cons_of_mem _ hy)
  refine ⟨⟨x, h x (List.mem_cons_self ..)⟩ :: st, by simp [e1], ?_⟩
  rw [List.flatMap_cons, ← e2]; rfl
end Go.Proofs.YtcngmkjdpoiiaaaGreatDoor

/- What the listed variables hold. Printed by gen.py. -/
set_option maxRecDepth 100000
namespace Go.Proofs.YtcngmkjdpoiiaaaGreatDoor
open Go Go.RowKit Go.ChangeShapes Go.WideShapes Go.Proofs
theorem ownNone : ownKnob Tryz.prog.godebug = none := by kernel_rfl
noncomputable def laid3 : List (String × DataW Unit) := [("assent/assentref02.adds", Rows.laid_assent_assentref02_adds), ("assent/digest.adds", Rows.laid_assent_digest_adds), ("assent/digest.begin", Rows.laid_assent_digest_begin)]
theorem laid3_door (os : Os) (args : Array Value) : laidMetH Tryz.prog laid3 ((World.doorLaid Tryz.prog 400 os).forCall (fun _ _ => 0) ⟨#[], args, []⟩).memory :=
 laidMetH_of_parts3 (fuel := 8) (laidMet_of_run' 8 (by kernel_rfl) (by kernel_rfl)) (by kernel_rfl) (by kernel_rfl)
theorem gRef : Tryz.prog.globalNamed "assent/assentref02.adds" = some 2 := by kernel_rfl
theorem gAdds : Tryz.prog.globalNamed "assent/digest.adds" = some 4 := by kernel_rfl
theorem gBegin : Tryz.prog.globalNamed "assent/digest.begin" = some 3 := by kernel_rfl
theorem tRef : (Tryz.prog.globals[2]?).map (·.type) = some 352 := by kernel_rfl
theorem tAdds : (Tryz.prog.globals[4]?).map (·.type) = some 352 := by kernel_rfl
theorem tBegin : (Tryz.prog.globals[3]?).map (·.type) = some 285 := by kernel_rfl
theorem cells_82 : Tryz.prog.cellsOf 82 = 1 := by kernel_rfl
theorem cells_352 : Tryz.prog.cellsOf 352 = 64 := by kernel_rfl
theorem cells_285 : Tryz.prog.cellsOf 285 = 8 := by kernel_rfl
theorem arr_of_laid {H : Type} {enc : TypeId × Value → H} {W : World} {base : Nat} {sp : Nat → Bool} {hd : Bool} {t n fuel : Nat} {cs : Array Value} {zs : List Int} {ps : List MemPlace} (ht : Tryz.prog.underlying t = some (.array n 82)) (hc : Tryz.prog.cellsOf t = n)
  (h : DataW.trod enc Tryz.prog W base sp hd fuel t cs.toList = some (.agg (lits .u32 zs), ps)) : cs = (ints .u32 zs).toArray := by
 obtain ⟨ys, h1, _, h3, _⟩ := open_intArr ht ty_int_82 cells_82 hc h
 simp only [Prod.mk.injEq, DataW.agg.injEq] at h3
 rw [lits_inj h3.1, ← h1]
theorem glob_of {W : World} {i : Nat} {o : Obj} (h : W.heap[i]? = some o) : (W.heap[i]?).getD default = o := by rw [h]; rfl
/-- What the condition gives: the world's first blocks are the program's tables. -/
theorem globs_of_laid {W : World} (h : laidMetH Tryz.prog laid3 W) : ∃ gl, GlobsR gl ∧ (cx gl).ok W := by
 rw [MakeChecks.laidMetH_plain _ _ _ (by kernel_rfl)] at h
 obtain ⟨ps, ⟨g0, t0, cs0, f0, p0, q0, hg0, ht0, hv0, hd0, ⟨g1, t1, cs1, f1, p1, q1, hg1, ht1, hv1, hd1, ⟨g2, t2, cs2, f2, p2, q2, hg2, ht2, hv2, hd2, _, _⟩, _⟩, _⟩, _, _⟩ := h
 obtain rfl := Option.some.inj (gRef.symm.trans hg0)
 obtain rfl := Option.some.inj (gAdds.symm.trans hg1)
 obtain rfl := Option.some.inj (gBegin.symm.trans hg2)
 obtain rfl := Option.some.inj (tRef.symm.trans ht0)
 obtain rfl := Option.some.inj (tAdds.symm.trans ht1)
 obtain rfl := Option.some.inj (tBegin.symm.trans ht2)
 obtain rfl := arr_of_laid (zs := addsK) ty_un_352 cells_352 hd0
 obtain rfl := arr_of_laid (zs := addsK) ty_un_352 cells_352 hd1
 obtain rfl := arr_of_laid (zs := beginK) ty_un_285 cells_285 hd2
 obtain ⟨T0, r0, e0⟩ := var_heap gRef hv0
 obtain ⟨T1, r1, e1⟩ := var_heap gAdds hv1
 obtain ⟨T2, r2, e2⟩ := var_heap gBegin hv2
 refine ⟨fun i => (W.heap[i]?).getD default, ⟨⟨⟨T2, r2, glob_of e2⟩, ⟨T1, r1, glob_of e1⟩⟩, ⟨T0, r0, glob_of e0⟩⟩, fun i hi => ?_⟩
 have hi : i < 5 := hi
 have hs := lt_of_some (w := W) e1
 show W.heap[i]? = some ((W.heap[i]?).getD default)
 rw [Array.getElem?_eq_getElem (by omega)]; rfl
end Go.Proofs.YtcngmkjdpoiiaaaGreatDoor
