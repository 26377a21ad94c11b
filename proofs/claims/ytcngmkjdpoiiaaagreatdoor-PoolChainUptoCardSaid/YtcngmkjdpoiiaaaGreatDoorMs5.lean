/- Texts that poolChainUpto_holds leans on, part 5: each says at its head what it holds; no condition beyond its theorems' own. -/
import Derived.Test.YtcngmkjdpoiiaaaGreatDoorMs4
set_option linter.unusedVariables false
set_option linter.unusedSimpArgs false
set_option linter.unusedSectionVars false
/- Walks: Pay. Printed by gen.py. -/
set_option maxRecDepth 100000
namespace Go.Proofs.YtcngmkjdpoiiaaaGreatDoor
open Go Go.RowKit Go.Proofs
/-- Is a row due? -/
def dueB (h : Int) (l : List Acc) (y : Rel) : Bool := !(decide (h < y.h)) && spotB l y.a
def addB' (n : Int) (A : Acc) : Acc := ⟨A.a, IntKind.u64.wrap (A.bal + n), A.bond, A.non, A.jail⟩
/-- What a row does to the accounts. -/
def payY (h : Int) (l : List Acc) (y : Rel) : List Acc := if dueB h l y = true then l.set (spotI l y.a) (addB' y.amt (accAt l (spotI l y.a))) else l
theorem payY_len (h : Int) (l : List Acc) (y : Rel) : (payY h l y).length = l.length := by unfold payY; split <;> simp
def payRS (lb hb : Nat) (sb : Option Addr) (n c : Nat) (rv : Value) (bu su h : Int) (tl tu : Nat) (l : List Acc) : HP := bundle [blk lb (ledV (.slice sb n c) rv bu su) tl, ownS 50 5 (.slice sb n c) n (rc l), blk hb [.int .u64 h] tu]
def paidK (h : Int) (l : List Acc) (r : List Rel) : List Rel := keptS (fun s y => dueB h s y) (payY h) l r
def paidA (h : Int) (l : List Acc) (r : List Rel) : List Acc := stS (payY h) l r
def payE (h : Int) : Int := if h = 0 ∨ 1099511627776 < h then 2 else 0
/-- What Pay answers. -/
def payL (L : Led) (h : Int) : Led := if payE h = 0 then ⟨paidA h L.acc L.rel, paidK h L.acc L.rel, L.burnt, L.sup⟩ else led0
theorem paidA_len (h : Int) (l : List Acc) (r : List Rel) : (paidA h l r).length = l.length := by
 unfold paidA stS
 induction r generalizing l with
 | nil => rfl
 | cons y r ih => exact (ih _).trans (payY_len h l y)
theorem pay1_ok {gl : Nat → Obj} (lb hb : Nat) (sb : Option Addr) (n c : Nat) (rv : Value) (hrv : rv.oneCell' = true) (bu su h : Int) (l : List Acc) (hn : n = l.length) (hc : l.length ≤ c) (hm : l.length ≤ 5000000000000) (x : Rel) : SpecR (cx gl) 82 [.agg x.cells.toArray, .pointer (some ⟨lb, 0, none⟩), .pointer (some ⟨hb, 0, none⟩)] (fun _ _ => True) [payRS lb hb sb n c rv bu su h 30 23 (l)] (.bool (dueB h l x)) [payRS lb hb sb n c rv bu su h 30 23 (payY h l x)] := by
 refine Spec.enter (C := cx gl) Tryz.func82 rfl 29 rfl rfl fun w0 h0 hsep hsub hpre => ?_
 show St (cx gl) _ [(0, .agg x.cells.toArray), (1, .pointer (some ⟨lb, 0, none⟩)), (2, .pointer (some ⟨hb, 0, none⟩))] _ _
 refine rT ?_
 refine lO (W_box (x.cells) rfl rfl rfl rfl rfl fun b3 => lA (k:=?_))
 refine lQ (cE 1 rfl (cE 2 rfl (cE 3 rfl (cE 4 rfl .nil)))) (rS ?_)
 unfold payRS
 refine St.unbundle [_] ?_
 subst hn
 refine rR (lV (vG ty_ag_30 .h1) (k:=lP (pF ty_fl_175_1) (k:=lV (vB ty_sc_26 .h0) (k:=?_))))
 refine lO (W_callV rfl rfl rfl rfl fn_ca_83 (place_ok sb c l hc (by omega) rv hrv bu su x.a) ((Sn.own .h2 rfl).rw_) (lA (k:=?_)))
 refine lQ (cE 1 rfl (cE 2 rfl (cE 3 rfl (cE 4 rfl (cE 5 rfl .nil))))) (rS (rT (lP (pF ty_fl_175_0) (k:=lV (vB ty_sc_23 .h0) (k:=lV (vB ty_sc_23 .h3) (k:=lP pGt (k:=?_)))))))
 refine E_bool (t := 13) rfl (fun q1 => ?_) (fun q1 => ?_)
 ·skip
  have hd : dueB h l x = false := by unfold dueB; rw [q1]; rfl
  refine lMv (k:=lN (k:=lN (k:=lP pK (k:=?_))))
  refine lQ (cE 1 rfl (cE 3 rfl (cE 4 rfl (cE 5 rfl (cE 17 rfl .nil))))) (kT (k:=rT (lA (k:=?_))))
  refine lQ (cE 1 rfl (cE 3 rfl (cE 4 rfl (cE 5 rfl .nil)))) (R_ret (Q_then_ret ?_))
  exact R_end (rs2 := _) rfl rfl (.tmp rfl .nil) (⟨by rw [hd]; rfl, rfl⟩) (Weak.drop (by rw [show payY h l x = l from if_neg (by rw [hd]; decide)]; exact Weak.bundle (L := [_, _, _]) (rs := [])))
 ·skip
  refine lMv (k:=lMv (k:=lP pLt (k:=?_)))
  refine E_bool (t := 16) rfl (fun q2 => ?_) (fun q2 => ?_)
  ·skip
   have q2 := of_decide_eq_true q2
   have hd : dueB h l x = false := by unfold dueB; rw [(place_neg _ _).1 q2, Bool.and_false]
   refine lP pK (k:=?_)
   refine lQ (cE 1 rfl (cE 3 rfl (cE 4 rfl (cE 5 rfl (cE 17 rfl .nil))))) (kT (k:=rT (lA (k:=?_))))
   refine lQ (cE 1 rfl (cE 3 rfl (cE 4 rfl (cE 5 rfl .nil)))) (R_ret (Q_then_ret ?_))
   exact R_end (rs2 := _) rfl rfl (.tmp rfl .nil) (⟨by rw [hd]; rfl, rfl⟩) (Weak.drop (by rw [show payY h l x = l from if_neg (by rw [hd]; decide)]; exact Weak.bundle (L := [_, _, _]) (rs := [])))
  ·skip
   have q2 := of_decide_eq_false q2
   have hb : spotB l x.a = true := by cases h9 : spotB l x.a with | true => rfl | false => exact absurd ((place_neg _ _).2 h9) q2
   have hd : dueB h l x = true := by unfold dueB; rw [q1, hb]; rfl
   have hp2 : placeI l x.a = (spotI l x.a : Int) := by unfold placeI; rw [if_pos hb]
   have hlt : spotI l x.a < l.length := by unfold spotB at hb; rw [Bool.and_eq_true, decide_eq_true_eq] at hb; exact hb.1
   have hA := accAt_get hlt
   refine St.ownSome (p := [_, _]) (by omega) fun fb fc hq _ => ?_
   simp only [Value.slice.injEq] at hq
   obtain ⟨rfl, _, rfl⟩ := hq
   refine E_as (t := 5) (v' := .int .i64 (((spotI l x.a) : Nat) : Int)) rfl (by rw [hp2]) (lP pK (k:=?_))
   refine lQ (cE 1 rfl (cE 3 rfl (cE 4 rfl (cE 5 rfl (cE 17 rfl .nil))))) (kF (k:=R_skip (qT (rS ?_))))
   refine R_open [(0, 0), (1, 1), (2, 0), (3, 0), (4, 0), (5, 1), (6, 0), (7, 1), (8, 0), (9, 0), (10, 0), (11, 3)] mixed (by kernel_rfl) (QOk.then QOk.body) (oP rfl (pF ty_fl_30_0) (k:=oV rfl (vB ty_sc_22 .h1) (k:=oP rfl pM (k:=?_))))
   refine oP rfl (P_ixs ((spotI l x.a)) rfl ty_sl_22 rfl rfl (by first | rfl | omega) (by omega)) (k:=oP rfl (pG ty_fl_50_1) (k:=?_))
   refine oV rfl (V_load rfl rfl ty_sc_23 (rd_rc (rds_own .h2) hA rfl)) (k:=oP rfl (pF ty_fl_175_3) (k:=oV rfl (vB ty_sc_23 .h0) (k:=?_)))
   refine oP rfl (P_add rfl rfl rfl) (k:=?_)
   refine oP rfl (P_ixs ((spotI l x.a)) rfl ty_sl_22 rfl rfl (by first | rfl | omega) (by omega)) (k:=oP rfl (pG ty_fl_50_1) (k:=?_))
   refine O_new rfl rfl (W_setRec (sz := 5) (j := 1) (z := addB' x.amt (accAt l (spotI l x.a))) rfl rfl rfl rfl ty_sc_23 rfl hA rfl (by decide) rfl .h2 (K_new (O_nil ?_)))
   refine St.env (cE 4 rfl .nil) (qT (rT (lA (k:=?_))))
   refine L_nil (qT (R_ret ?_))
   exact R_end (rs2 := _) rfl rfl (.tmp rfl .nil) (⟨by rw [hd]; rfl, rfl⟩) (Weak.drop (by rw [show payY h l x = _ from if_pos hd]; exact Weak.bundle (L := [_, _, _]) (rs := [])))
set_option maxHeartbeats 1000000 in
theorem pay_ok {gl : Nat → Obj} (base : Option Addr) (c : Nat) (l : List Acc) (hc : l.length ≤ c) (hm : l.length ≤ 4900000000000)(hok : ∀ x ∈ l, x.ok) (base' : Option Addr) (c' : Nat) (r : List Rel) (hc' : r.length ≤ c') (hm' : r.length ≤ 5900000000000) (bu su h : Int) (hh : u64 h) : Spec (cx gl) 19 [.agg (ledV (.slice base l.length c) (.slice base' r.length c') bu su).toArray, .int .u64 h] (fun w hp => Seen w hp base (rc l) ∧ Seen w hp base' (rc r)) [] (fun v rs => ∃ u u', v = .tuple #[.agg (ledV u u' (payL (⟨l, r, bu, su⟩ : Led) h).burnt (payL (⟨l, r, bu, su⟩ : Led) h).sup).toArray, .int .i64 (payE h)] ∧ rs = [ownS 50 5 (u) ((payL (⟨l, r, bu, su⟩ : Led) h).acc.length) (rc ((payL (⟨l, r, bu, su⟩ : Led) h).acc)), ownS 175 4 (u') ((payL (⟨l, r, bu, su⟩ : Led) h).rel.length) (rc ((payL (⟨l, r, bu, su⟩ : Led) h).rel))]) := by
 refine Spec.enter (C := cx gl) Tryz.func19 rfl 27 rfl rfl fun w0 h0 hsep hsub hpre => ?_
 obtain rfl : h0 = Heap.none := hsep
 show St (cx gl) _ [(0, .agg (ledV (.slice base l.length c) (.slice base' r.length c') bu su).toArray), (1, .int .u64 h)] _ _
 obtain ⟨hh0, hh1⟩ := hh
 refine rT ?_
 refine lO (W_box (ledV (.slice base l.length c) (.slice base' r.length c') bu su) rfl rfl rfl rfl rfl fun b2 => ?_)
 refine lO (W_box ([.int .u64 h]) rfl rfl rfl rfl rfl fun b3 => ?_)
 refine lO (W_alloc rfl rfl rfl ty_ze_30 fun b4 => lA (k:=?_))
 refine lQ (cE 2 rfl (cE 3 rfl (cE 4 rfl (cE 5 rfl .nil)))) (rS (rT (lV (vB ty_sc_23 .h1) (k:=lP pEq (k:=?_)))))
 refine E_bool (t := 7) rfl (fun q1 => ?_) (fun q1 => ?_)
 ·skip
  have q1 := of_decide_eq_true q1
  refine lMv (k:=lN (k:=lN (k:=lP pK (k:=?_))))
  refine lQ (cE 2 rfl (cE 3 rfl (cE 4 rfl (cE 5 rfl (cE 11 rfl .nil))))) (kT (k:=rT ?_))
  refine lP (P_buildStruct rfl ty_pl_30 ty_ze_30 rfl rfl (rfl)) (k:=?_)
  refine lO (W_storeAll rfl rfl rfl rfl ty_ag_30 (rfl) (ledV_one _ _ _ _ rfl rfl) .h0 (rfl) (lA (k:=?_)))
  refine lQ (cE 2 rfl (cE 3 rfl (cE 4 rfl (cE 5 rfl .nil)))) (R_ret (Q_then_ret ?_))
  exact R_end (rs2 := _) rfl rfl (.cell rfl (Rds.loadVar ty_ag_30 (Rds.blk .h0) rfl) (.tmp rfl .nil)) (⟨.slice none 0 0, .slice none 0 0, by rw [show (payL (⟨l, r, bu, su⟩ : Led) h) = led0 from if_neg (by rw [show payE h = 2 by unfold payE; rw [if_pos (by omega)]]; decide), show payE h = 2 by unfold payE; rw [if_pos (by omega)]]; rfl, rfl⟩) (by rw [show (payL (⟨l, r, bu, su⟩ : Led) h) = led0 from if_neg (by rw [show payE h = 2 by unfold payE; rw [if_pos (by omega)]]; decide)]; exact Weak.trans (Weak.newNil (T := 175) (sz := 4)) (Weak.trans (Weak.newNil (T := 50) (sz := 5)) (Weak.keep (Weak.keep (Weak.nil _)))))
 ·skip
  have q1 := of_decide_eq_false q1
  refine lMv (k:=lV (vB ty_sc_23 .h1) (k:=lP pGt (k:=?_)))
  refine E_bool (t := 10) rfl (fun q2 => ?_) (fun q2 => ?_)
  ·skip
   have q2 := of_decide_eq_true q2
   refine lP pK (k:=?_)
   refine lQ (cE 2 rfl (cE 3 rfl (cE 4 rfl (cE 5 rfl (cE 11 rfl .nil))))) (kT (k:=rT ?_))
   refine lP (P_buildStruct rfl ty_pl_30 ty_ze_30 rfl rfl (rfl)) (k:=?_)
   refine lO (W_storeAll rfl rfl rfl rfl ty_ag_30 (rfl) (ledV_one _ _ _ _ rfl rfl) .h0 (rfl) (lA (k:=?_)))
   refine lQ (cE 2 rfl (cE 3 rfl (cE 4 rfl (cE 5 rfl .nil)))) (R_ret (Q_then_ret ?_))
   exact R_end (rs2 := _) rfl rfl (.cell rfl (Rds.loadVar ty_ag_30 (Rds.blk .h0) rfl) (.tmp rfl .nil)) (⟨.slice none 0 0, .slice none 0 0, by rw [show (payL (⟨l, r, bu, su⟩ : Led) h) = led0 from if_neg (by rw [show payE h = 2 by unfold payE; rw [if_pos (by omega)]]; decide), show payE h = 2 by unfold payE; rw [if_pos (by omega)]]; rfl, rfl⟩) (by rw [show (payL (⟨l, r, bu, su⟩ : Led) h) = led0 from if_neg (by rw [show payE h = 2 by unfold payE; rw [if_pos (by omega)]]; decide)]; exact Weak.trans (Weak.newNil (T := 175) (sz := 4)) (Weak.trans (Weak.newNil (T := 50) (sz := 5)) (Weak.keep (Weak.keep (Weak.nil _)))))
  ·skip
   have q2 := of_decide_eq_false q2
   refine lP pK (k:=?_)
   refine lQ (cE 2 rfl (cE 3 rfl (cE 4 rfl (cE 5 rfl (cE 11 rfl .nil))))) (kF (k:=R_skip (qT (rS ?_))))
   refine R_open [(0, 0), (1, 1), (3, 0), (4, 1), (2, 2), (6, 0), (5, 2), (7, 3), (8, 0), (9, 3)] mixed (by kernel_rfl) (QOk.then QOk.body) (oP rfl (pF ty_fl_30_0) (k:=oV rfl (vB ty_sc_22 .h2) (k:=oP rfl (pF ty_fl_30_1) (k:=oV rfl (vB ty_sc_28 .h2) (k:=?_)))))
   refine O_keep rfl rfl (W_call rfl rfl rfl rfl fn_ca_79 (freshA_ok base c l hc (by omega)) (Split.nil _) (Sn.pre (Sn.old hpre.1)) fun v1 rs1 (e1 : rs1 = _) => ?_)
   subst e1
   refine St.ownForm (p := []) fun fb fc huv hfc => ?_
   subst huv
   refine K_keep (Weak.drop (Weak.refl _)) (oP rfl (pF ty_fl_30_0) (k:=?_))
   refine O_keep rfl rfl (W_call rfl rfl rfl rfl fn_ca_80 (freshR_ok base' c' r hc' (by omega)) (Split.nil _) (Sn.pre (Sn.old hpre.2)) fun v2 rs2 (e2 : rs2 = _) => ?_)
   subst e2
   refine St.ownForm (p := []) fun vb vc hvv hvc => ?_
   subst hvv
   refine K_keep (Weak.drop (Weak.refl _)) ?_
   refine O_new rfl rfl (W_store rfl rfl rfl rfl ty_sc_22 rfl .h4 (by simp [ledV]) (K_new (oP rfl (pF ty_fl_30_1) (k:=?_))))
   refine O_new rfl rfl (W_store rfl rfl rfl rfl ty_sc_28 rfl .h4 (by simp [ledV]) (K_new (O_nil ?_)))
   refine St.env (cE 2 rfl (cE 3 rfl (cE 4 rfl (cE 5 rfl .nil)))) (qT (rS ?_))
   refine St.res (rs' := [ownS 50 5 (.slice fb l.length fc) (l.length) (rc (l)), ownS 175 4 (.slice vb r.length vc) (r.length) (rc (r)), blk b4 (ledV (.slice none 0 0) (.slice none 0 0) 0 0) 30, blk b3 [.int .u64 h] 23, blk b2 (ledV (.slice fb l.length fc) (.slice vb r.length vc) bu su) 30]) (Weak.pick (p := [_]) (Weak.keep (Weak.keep (Weak.keep (Weak.keep (Weak.nil _)))))) ?_
   have hpe : payE h = 0 := by unfold payE; rw [if_neg (by omega)]
   have hPL : (payL (⟨l, r, bu, su⟩ : Led) h) = ⟨(paidA h l r), (paidK h l r), bu, su⟩ := if_pos hpe
   have hal := paidA_len h l r
   have h9 := delF_ok (gl := gl) (fun s => payRS b2 b3 fb l.length fc (.slice vb r.length vc) bu su h 30 23 (s)) (fun s => l.length = s.length) (fun s y => dueB h s y) (payY h) 82 [.pointer (some ⟨b2, 0, none⟩), .pointer (some ⟨b3, 0, none⟩)] r fn_ca_82 (fun s y hs _ => by rw [payY_len]; exact hs) (fun s y hs _ => pay1_ok b2 b3 fb l.length fc (.slice vb r.length vc) rfl bu su h s hs (by omega) (by omega) y) vb vc hvc (by omega) l rfl
   refine rR (lP (pF ty_fl_30_1) (k:=lV (vB ty_sc_28 .h4) (k:=?_)))
   refine lP (P_func rfl rfl rfl) (k:=?_)
   refine lO (W_call rfl rfl rfl rfl fn_ca_81 (h9) (Weak.trans (Weak.pick (p := [_, _, _, _]) (Weak.keep (Weak.pick (p := [_, _]) (Weak.keep (Weak.keep (Weak.nil _)))))) (Weak.trans (Weak.bundle (L := [_, _, _]) (rs := [_, _])) (Weak.swap))) (fun _ _ _ _ _ _ _ => trivial) fun v3 rs3 ⟨e3, e4⟩ => ?_)
   subst e3; subst e4
   refine St.unbundle [_] ?_
   refine St.res (rs' := [ownS 175 4 (.slice vb (paidK h l r).length vc) ((paidK h l r).length) (rc ((paidK h l r))), ownS 50 5 (.slice fb l.length fc) (l.length) (rc ((paidA h l r))), blk b4 (ledV (.slice none 0 0) (.slice none 0 0) 0 0) 30, blk b3 [.int .u64 h] 23, blk b2 (ledV (.slice fb l.length fc) (.slice vb r.length vc) bu su) 30]) (Weak.keep (Weak.pick (p := [_]) (Weak.pick (p := [_, _]) (Weak.pick (p := [_]) (Weak.keep (Weak.nil _)))))) (lP (pF ty_fl_30_1) (k:=?_))
   refine lO (W_store rfl rfl rfl rfl ty_sc_28 rfl .h4 (by simp [ledV]) ?_)
   refine lQ (cE 2 rfl (cE 4 rfl (cE 5 rfl .nil))) (rT (lV (vG ty_ag_30 .h4) (k:=?_)))
   refine lO (W_storeAll rfl rfl rfl rfl ty_ag_30 (rfl) (ledV_one _ _ _ _ rfl rfl) .h2 (rfl) (lA (k:=?_)))
   refine lQ (cE 4 rfl (cE 5 rfl .nil)) (R_ret ?_)
   exact R_end (rs2 := _) rfl rfl (.cell rfl (Rds.loadVar ty_ag_30 (Rds.blk .h2) rfl) (.tmp rfl .nil)) (⟨.slice fb l.length fc, .slice vb (paidK h l r).length vc, by rw [hPL, hpe]; rfl, rfl⟩) (by rw [hPL]; exact Weak.trans (Weak.pick (p := [_]) (Weak.keep (Weak.nil _))) (ownS.to1 hal.symm rfl))
end Go.Proofs.YtcngmkjdpoiiaaaGreatDoor

/- What Pick answers. Printed by gen.py. -/
set_option maxRecDepth 100000
namespace Go.Proofs.YtcngmkjdpoiiaaaGreatDoor
open Go Go.RowKit Go.Proofs Go.Sort
section
variable {C : Cx} {F : Fx} {rs : List HP}
theorem rds_rowR {r : RwR} (m : Has rs (rowH r) (rowH r) rs) : Rds C F rs ⟨r.b, r.k * 22 + 0 * 22, none⟩ r.hd.t.cells :=
 Rds.sn (k := 0 * 22) (Sn.rowR m) fun i v hv => rc_at r.hd_at hv
end
/-- What a transaction does to a ledger in a block of a state. -/
def appF (rc : List Rcd) (ch : List Int) (p : Par) (h by_ : Int) (L : Led) (x : TxR) : Option Led := if chkE rc ch L p h x.t = 0 then some (appP L p h by_ x.t) else none
/-- What Pick answers. -/
def PickOf (rc : List Rcd) (ch : List Int) (p : Par) (h by_ : Int) (H : List TxR) (L : Led) (O : List TxR) : Prop :=
 if 1099511627776 ≤ h then O = [] else PickR H (appF rc ch p (h + 1) by_) (nx0 (payL L (h + 1)).acc) (payL L (h + 1)) p.p5.toNat O
theorem st_p5 (s : StR) (u v : Value) : (s.cells u v)[1 + 5]? = some (.int .i64 s.p.p5) := st_par s u v 5 _ rfl
/-- All of a ledger is as much as its words hold. -/
structure LOk (L : Led) : Prop where
 acc : ∀ z ∈ L.acc, z.ok
 rel : ∀ z ∈ L.rel, z.ok
 bu : u64 L.burnt
theorem u64_0 : u64 0 := ⟨by decide, by decide⟩
theorem set_okA {l : List Acc} (h : ∀ z ∈ l, z.ok) (i : Nat) {y : Acc} (hy : y.ok) : ∀ z ∈ l.set i y, z.ok := fun z hz => by
 rcases List.mem_or_eq_of_mem_set hz with hz | rfl
 ·exact h z hz
 ·exact hy
theorem ins_mem {α : Type} {l : List α} {i : Nat} {y z : α} (h : z ∈ insL l i y) : z ∈ l ∨ z = y := by
 unfold insL at h
 rcases List.mem_append.1 h with h | h
 ·exact .inl (List.mem_of_mem_take h)
 ·rcases List.mem_cons.1 h with h | h
  ·exact .inr h
  ·exact .inl (List.mem_of_mem_drop h)
theorem midA_ok {l : List Acc} (h : ∀ z ∈ l, z.ok) {a : Int} (ha : u64 a) : ∀ z ∈ midA l a, z.ok := fun z hz => by
 unfold midA at hz
 split at hz
 ·exact h z hz
 ·rcases ins_mem hz with hz | rfl
  ·exact h z hz
  ·exact ⟨ha, u64_0, u64_0, u64_0⟩
theorem stS_ok (h : Int) : ∀ (r : List Rel) {l : List Acc}, (∀ x ∈ l, x.ok) → ∀ x ∈ stS (payY h) l r, x.ok
 | [], _, hl => hl
 | y :: r, l, hl => by
  refine stS_ok h r (l := payY h l y) ?_
  unfold payY
  split
  ·rename_i hd
   unfold dueB at hd
   rw [Bool.and_eq_true] at hd
   exact set_okA hl _ (ok_add y.amt _ (hl _ (accAt_mem (spotB_lt hd.2))))
  ·exact hl
theorem keptS_len {σ : Type} {dl : σ → Rel → Bool} {stp : σ → Rel → σ} : ∀ {l : List Rel} {s : σ}, (keptS dl stp s l).length ≤ l.length
 | [], _ => Nat.le_refl _
 | y :: l, s => by
  rw [keptS]
  split
  ·exact Nat.le_succ_of_le keptS_len
  ·rw [List.length_cons, List.length_cons]; exact Nat.succ_le_succ keptS_len
theorem payL_lok {L : Led} (h : LOk L) {n : Int} (he : payE n = 0) : LOk (payL L n) ∧ (payL L n).acc.length = L.acc.length ∧ (payL L n).rel.length ≤ L.rel.length ∧ (payL L n).sup = L.sup := by
 have e : payL L n = ⟨paidA n L.acc L.rel, paidK n L.acc L.rel, L.burnt, L.sup⟩ := if_pos he
 rw [e]
 exact ⟨⟨stS_ok n L.rel h.acc, fun z hz => h.rel z (keptS_mem hz), h.bu⟩, paidA_len n L.acc L.rel, keptS_len, rfl⟩
theorem paidL_ok {L : Led} (hL : LOk L) {rc : List Rcd} {ch : List Int} {p : Par} {h : Int} {x : Tx} (hx : x.ok) (hC : ChkFine rc ch L p h x) : (payer x (senderA L x)).ok ∧ ∀ z ∈ paidL L x, z.ok := by
 have hA := hL.acc _ (accAt_mem (spotB_lt hC.frm))
 have hA : (senderA L x).ok := hA
 have hb := hC.bal
 have hn := hC.non
 have ht := hC.top
 have hc0 : 0 ≤ costI x := by unfold costI; have := hx.fee.1; have := hx.amt.1; split <;> omega
 obtain ⟨h1, ⟨h2, h3⟩, h4, ⟨h5, h6⟩⟩ := hA
 have hp : (payer x (senderA L x)).ok := ⟨h1, ⟨by show 0 ≤ (senderA L x).bal - costI x; omega, by show (senderA L x).bal - costI x ≤ _; omega⟩, h4, ⟨by show 0 ≤ (senderA L x).non + 1; omega, by show (senderA L x).non + 1 ≤ _; omega⟩⟩
 exact ⟨hp, set_okA hL.acc _ hp⟩
theorem appP_lok {L : Led} (hL : LOk L) {rc : List Rcd} {ch : List Int} {p : Par} {h b : Int} {x : Tx} (hx : x.ok) (hh : u64 h) (hp3 : u64 p.p3) (hC : ChkFine rc ch L p h x) : LOk (appP L p h b x) := by
 obtain ⟨hp, hl⟩ := paidL_ok hL hx hC
 have hkd := hC.kind
 have ht := hC.time
 unfold timeB at ht
 obtain ⟨q1, q2⟩ := hp3
 obtain ⟨q3, q4⟩ := hh
 have hK : ∀ z ∈ accK L x, z.ok := by
  unfold accK
  split
  ·exact set_okA (midA_ok hl hx.to) _ (ok_add x.amt _ (midA_ok hl hx.to _ (accAt_mem (midA_lt _ _))))
  ·split
   ·exact set_okA hL.acc _ ⟨hp.1, hp.2.1, w64_ok _, hp.2.2.2⟩
   ·split
    ·rename_i k1 k2 k3
     have hs : x.amt ≤ (senderA L x).bond := by
      unfold kindE at hkd; rw [if_neg k1, if_pos k3] at hkd; split at hkd <;> omega
     refine set_okA hL.acc _ ⟨hp.1, hp.2.1, ⟨by show 0 ≤ (senderA L x).bond - x.amt; omega, ?_⟩, hp.2.2.2⟩
     have h1 := hp.2.2.1.2
     have h1 : (senderA L x).bond ≤ _ := h1
     have := hx.amt.1
     show (senderA L x).bond - x.amt ≤ _; omega
    ·split
     ·exact set_okA hL.acc _ hp
     ·exact hl
 have hR : ∀ z ∈ relK L p h x, z.ok := by
  unfold relK
  split
  ·have hm : ∀ z ∈ midR L.rel (h + p.p3) x.frm h, z.ok := fun z hz => by
    unfold midR at hz
    split at hz
    ·exact hL.rel z hz
    ·rcases ins_mem hz with hz | rfl
     ·exact hL.rel z hz
     ·exact ⟨⟨by show 0 ≤ h + p.p3; omega, by show h + p.p3 ≤ _; omega⟩, hx.frm, ⟨q3, q4⟩, u64_0⟩
   intro z hz
   unfold relP at hz
   rcases List.mem_or_eq_of_mem_set hz with hz | rfl
   ·exact hm z hz
   ·have h2 := hm _ (relAt_mem (midR_lt L.rel (h + p.p3) x.frm h))
    exact ⟨h2.1, h2.2.1, h2.2.2.1, w64_ok _⟩
  ·exact hL.rel
 unfold appP
 split
 ·rename_i hB
  exact ⟨set_okA hK _ (ok_add x.fee _ (hK _ (accAt_mem (spotB_lt hB)))), hR, hL.bu⟩
 ·exact ⟨hK, hR, w64_ok _⟩
theorem appP_sup (L : Led) (p : Par) (h b : Int) (x : Tx) : (appP L p h b x).sup = L.sup := by unfold appP; split <;> rfl
theorem appF_yes {rc : List Rcd} {ch : List Int} {p : Par} {h b : Int} {L : Led} {x : TxR} (hc : chkE rc ch L p h x.t = 0) : appF rc ch p h b L x = some (appP L p h b x.t) := if_pos hc
theorem appF_no {rc : List Rcd} {ch : List Int} {p : Par} {h b : Int} {L : Led} {x : TxR} (hc : chkE rc ch L p h x.t ≠ 0) : appF rc ch p h b L x = none := if_neg hc
/-- What stays to be picked leads on to the whole. -/
def Rest (H : List TxR) {σ : Type} (app : σ → TxR → Option σ) (ρ0 : Nx) (s0 : σ) (m : Nat) (ρ : Nx) (s : σ) (O : List TxR) : Prop :=
 O.length ≤ m ∧ ∀ out, PickR H app ρ s (m - O.length) out → PickR H app ρ0 s0 m (O ++ out)
theorem Rest.start {H : List TxR} {σ : Type} {app : σ → TxR → Option σ} {ρ0 : Nx} {s0 : σ} {m : Nat} : Rest H app ρ0 s0 m ρ0 s0 [] := ⟨Nat.zero_le _, fun _ h => h⟩
theorem Rest.take {H : List TxR} {σ : Type} {app : σ → TxR → Option σ} {ρ0 ρ : Nx} {s0 s s' : σ} {m : Nat} {O : List TxR} (h : Rest H app ρ0 s0 m ρ s O) {x : TxR} (hb : Dearest H ρ x) (ha : app s x = some s') (hl : O.length < m) : Rest H app ρ0 s0 m (setN ρ x.t.frm (some (x.t.non + 1))) s' (O ++ [x]) := by
 refine ⟨by rw [List.length_append]; exact hl, fun out k => ?_⟩
 rw [List.append_assoc]
 refine h.2 _ ?_
 rw [List.length_append, List.length_singleton] at k
 rw [show m - O.length = m - (O.length + 1) + 1 by omega]
 exact .take hb ha k
theorem Rest.skip {H : List TxR} {σ : Type} {app : σ → TxR → Option σ} {ρ0 ρ : Nx} {s0 s : σ} {m : Nat} {O : List TxR} (h : Rest H app ρ0 s0 m ρ s O) {x : TxR} (hb : Dearest H ρ x) (ha : app s x = none) (hl : O.length < m) : Rest H app ρ0 s0 m (setN ρ x.t.frm none) s O := by
 refine ⟨h.1, fun out k => h.2 _ ?_⟩
 rw [show m - O.length = m - O.length - 1 + 1 by omega] at k ⊢
 exact .skip hb ha k
theorem Rest.full {H : List TxR} {σ : Type} {app : σ → TxR → Option σ} {ρ0 ρ : Nx} {s0 s : σ} {m : Nat} {O : List TxR} (h : Rest H app ρ0 s0 m ρ s O) (hl : ¬ O.length < m) : PickR H app ρ0 s0 m O := by
 have h1 := h.1
 have h2 := h.2 [] (by rw [show m - O.length = 0 by omega]; exact .full)
 rwa [List.append_nil] at h2
theorem Rest.over {H : List TxR} {σ : Type} {app : σ → TxR → Option σ} {ρ0 ρ : Nx} {s0 s : σ} {m : Nat} {O : List TxR} (h : Rest H app ρ0 s0 m ρ s O) (hn : NoneNext H ρ) : PickR H app ρ0 s0 m O := by
 have h2 := h.2 [] (.over hn)
 rwa [List.append_nil] at h2
/-- What a popped heap holds. -/
theorem HeapRel.rest {H : List TxR} (hk : (H.map keyT).Nodup) {ρ : Nx} {r : RwR} {d : List RwR} (h : HeapRel H ρ (r :: d)) : HeapRel H (setN ρ r.hd.t.frm none) d := h.drop hk fun _ _ _ => by simp
theorem runsL_next (r : RwR) (h : r.k + 1 < r.all.length) : (r.next h).l.length + 1 = r.l.length := by
 rw [r.next_l h, List.length_drop]; have := r.l_pos; omega
theorem RwR.more (r : RwR) : 1 < r.l.length ↔ r.k + 1 < r.all.length := by unfold RwR.l; rw [List.length_drop]; omega
end Go.Proofs.YtcngmkjdpoiiaaaGreatDoor

/- A pool: Pick. Printed by gen.py. -/
set_option maxRecDepth 100000
namespace Go.Proofs.YtcngmkjdpoiiaaaGreatDoor
open Go Go.RowKit Go.Proofs Go.Sort
theorem sliced_next (g : RwR) (h : g.k + 1 < g.all.length) : sliced (some ⟨g.b, g.k * 22, none⟩) 1 g.l.length (g.cap - g.k) 22 = (g.next h).val := by
 have hc := g.len_cap
 have hl := g.more.2 h
 unfold sliced RwR.val RwR.base
 rw [if_neg (by omega), g.next_l h, List.length_drop]
 show Value.slice (some (Addr.add _ _)) _ _ = Value.slice (some ⟨g.b, (g.k + 1) * 22, none⟩) _ (g.cap - (g.k + 1))
 simp [Addr.add, Nat.sub_sub, Nat.add_mul]
set_option maxHeartbeats 2000000 in
theorem ppick_ok {gl : Nat → Obj} (hG : Globs gl) (p : Nat) (most : Int) (H : List TxR) (hP : PoolOk H) (hT : TopOk H) (hl : H.length ≤ 65536) (q : Nat) (sg : List (Int × Nat)) (rc : List Rcd) (base : Option Addr) (c : Nat) (l : List Acc) (hc : l.length ≤ c) (hm : l.length ≤ 4000000000000)(hok : ∀ x ∈ l, x.ok) (base' : Option Addr) (c' : Nat) (r : List Rel) (hc' : r.length ≤ c') (hm' : r.length ≤ 5000000000000) (hok' : ∀ y ∈ r, y.ok) (s : StR) (hcb : IsB s.ch) (hsh : u64 s.h) (hp3 : u64 s.p.p3) (hbu : u64 s.bu) (pr : Int) : Spec (cx gl) 36 [.pointer (some ⟨p, 0, none⟩), .agg (s.cells (.slice base l.length c) (.slice base' r.length c')).toArray, .pointer (some ⟨q, 0, none⟩), .int .u64 (pr)] (fun w hp => Seen w hp base (Go.Proofs.YtcngmkjdpoiiaaaGreatDoor.rc l) ∧ Seen w hp base' (Go.Proofs.YtcngmkjdpoiiaaaGreatDoor.rc r)) [POOL p most (H), REG q sg rc] (fun v rs => ∃ (O : List TxR) (b : Option Addr) (c : Nat), v = .slice b O.length c ∧ PickOf rc s.ch s.p s.h pr H (⟨l, r, s.bu, s.su⟩ : Led) O ∧ rs = [POOL p most (H), REG q sg rc, ownS 67 22 (.slice b O.length c) (O.length) (Go.Proofs.YtcngmkjdpoiiaaaGreatDoor.rc O)]) := by
 refine Spec.enter (C := cx gl) Tryz.func36 rfl 88 rfl rfl fun w0 h0 hsep hsub hpre => ?_
 show St (cx gl) _ [(0, .pointer (some ⟨p, 0, none⟩)), (1, .agg (s.cells (.slice base l.length c) (.slice base' r.length c')).toArray), (2, .pointer (some ⟨q, 0, none⟩)), (3, .int .u64 (pr))] _ _
 refine rT ?_
 refine lO (W_box ((s.cells (.slice base l.length c) (.slice base' r.length c'))) rfl rfl rfl rfl rfl fun b5 => lA (k:=?_))
 refine lQ (cE 0 rfl (cE 2 rfl (cE 3 rfl (cE 5 rfl (cE 8 rfl .nil))))) (rS (rS ?_))
 refine St.openP [_] fun ⟨mh, mi⟩ _ => ?_
 refine St.res (Weak.mid (p := [_]) Weak.unbundle) ?_
 refine St.res (rs' := [blk p (poolC mh mi most) 78, mapK rec2K mh (hM (H)), mapK iK mi (iM (H)), REG q sg rc, blk b5 (s.cells (.slice base l.length c) (.slice base' r.length c')) 63]) (Weak.pick (p := [_]) (Weak.pick (p := [_]) (Weak.pick (p := [_]) (Weak.pick (p := [_]) (Weak.keep (Weak.nil _)))))) (rR (lMv (k:=?_)))
 refine lO (W_callR rfl rfl rfl rfl fn_ca_109 (pmissing_ok p mh mi most) (Split.one (p := [])) (fun _ _ _ _ _ _ _ => trivial) ?_)
 refine E_false (t := 17) rfl (rfl) (lMv (k:=lMv (k:=?_)))
 refine lO (W_callR rfl rfl rfl rfl fn_ca_110 (unmade_ok q sg rc) (Weak.pick (p := [_, _, _]) (Weak.keep (Weak.keep (Weak.keep (Weak.keep (Weak.nil _)))))) (fun _ _ _ _ _ _ _ => trivial) ?_)
 refine E_false (t := 20) rfl (rfl) (lP pK (k:=lMv (k:=lP (pF ty_fl_63_2) (k:=?_))))
 refine lV (V_load rfl rfl ty_sc_23 (Rd.blk .h4 (st_h s _ _))) (k:=lP pGe (k:=?_))
 refine E_bool (t := 25) rfl (fun hh9 => ?_) (fun hh9 => ?_)
 ·skip
  have hh9 := of_decide_eq_true hh9
  have hhl : 1099511627776 ≤ s.h := by omega
  refine lP pK (k:=?_)
  refine lQ (cE 0 rfl (cE 2 rfl (cE 3 rfl (cE 5 rfl (cE 8 rfl (cE 26 rfl .nil)))))) (kT (k:=rT (lA (k:=?_))))
  refine lQ (cE 0 rfl (cE 2 rfl (cE 3 rfl (cE 5 rfl (cE 8 rfl .nil))))) (R_ret (Q_then_ret ?_))
  exact R_end (rs2 := _) rfl rfl (.tmp rfl .nil) (⟨[], none, 0, rfl, by unfold PickOf; rw [if_pos hhl], rfl⟩) (Weak.trans (Weak.newNil (T := 67) (sz := 22)) (Weak.trans (Weak.pick (p := [_, _]) (Weak.pick (p := [_, _]) (Weak.pick (p := [_, _]) (Weak.pick (p := [_]) (Weak.keep (Weak.nil _)))))) (pool_close (rs := [_, _]))))
 ·skip
  have hh9 := of_decide_eq_false hh9
  have hhl : ¬ 1099511627776 ≤ s.h := by omega
  obtain ⟨hh0, hh1⟩ := hsh
  have hpe : payE (s.h + 1) = 0 := by unfold payE; rw [if_neg (by omega)]
  refine lP pK (k:=?_)
  refine lQ (cE 0 rfl (cE 2 rfl (cE 3 rfl (cE 5 rfl (cE 8 rfl (cE 26 rfl .nil)))))) (kF (k:=R_skip (qT (rS ?_))))
  refine St.res (rs' := [REG q sg rc, POOL p most (H), blk b5 (s.cells (.slice base l.length c) (.slice base' r.length c')) 63]) (Weak.trans (Weak.pick (p := [_]) (Weak.pick (p := [_]) (Weak.pick (p := [_]) (Weak.keep (Weak.keep (Weak.nil _)))))) (Weak.trans (pool_close (rs := [_, _])) (Weak.pick (p := [_]) (Weak.keep (Weak.keep (Weak.nil _)))))) (rR (lP (pF ty_fl_63_9) (k:=?_)))
  refine lV (V_loadAgg rfl rfl ty_ag_30 ((Rds.blk .h2).part 51 (st_led s _ _)) (rfl)) (k:=lP (pF ty_fl_63_2) (k:=?_))
  refine lV (V_load rfl rfl ty_sc_23 (Rd.blk .h2 (st_h s _ _))) (k:=?_)
  refine lP (P_addN rfl rfl rfl (by simp only [fits]; omega)) (k:=?_)
  refine lO (W_call rfl rfl rfl rfl fn_ca_19 (pay_ok base c l hc (by omega) hok base' c' r hc' (by omega) s.bu s.su (s.h + 1) ⟨by omega, by omega⟩) (Split.nil _) (fun w a b ha hb dj m => ⟨Sn.pre (Sn.old hpre.1) w a b ha hb dj m, Sn.pre (Sn.old hpre.2) w a b ha hb dj m⟩) fun v1 rs1 ⟨u, u', e1, e2⟩ => ?_)
  subst e1; subst e2
  refine St.ownForm (p := []) fun ab ac huv hac => ?_
  subst huv
  refine St.ownForm (p := [_]) fun rb rk huv hrk => ?_
  subst huv
  refine lMv (k:=lP pX (k:=lP pX (k:=?_)))
  refine lO (W_alloc rfl rfl rfl ty_ze_30 fun b9 => ?_)
  refine lO (W_storeAll rfl rfl rfl rfl ty_ag_30 (rfl) (ledV_one _ _ _ _ rfl rfl) .h0 (rfl) (lA (k:=?_)))
  refine lQ (cE 0 rfl (cE 2 rfl (cE 3 rfl (cE 5 rfl (cE 8 rfl (cE 9 rfl (cE 10 rfl .nil))))))) (rS (rT (lMv (k:=lP pNe (k:=?_)))))
  refine E_false (t := 37) rfl (decide_eq_false (fun h9 => h9 hpe)) ?_
  refine lQ (cE 0 rfl (cE 2 rfl (cE 3 rfl (cE 5 rfl (cE 8 rfl (cE 9 rfl (cE 37 rfl .nil))))))) (kF (k:=R_skip (qT (rS ?_))))
  obtain ⟨hLO, hLa, hLr, hLs⟩ := payL_lok (L := (⟨l, r, s.bu, s.su⟩ : Led)) ⟨hok, hok', hbu⟩ hpe
  obtain ⟨M0, hM0⟩ : ∃ M0, M0 = (payL (⟨l, r, s.bu, s.su⟩ : Led) (s.h + 1)) := ⟨_, rfl⟩
  rw [← hM0] at hLO hLa hLr hLs hac hrk ⊢
  obtain ⟨l0, r0, bu0, su0⟩ := M0
  replace hLa : l0.length = l.length := hLa
  replace hLr : r0.length ≤ r.length := hLr
  obtain rfl : su0 = s.su := hLs
  replace hac : l0.length ≤ ac := hac
  replace hrk : r0.length ≤ rk := hrk
  refine St.res (rs' := [blk b9 (ledV (.slice ab l0.length ac) (.slice rb r0.length rk) bu0 s.su) 30, ownS 50 5 (.slice ab l0.length ac) (l0.length) (Go.Proofs.YtcngmkjdpoiiaaaGreatDoor.rc (l0)), ownS 175 4 (.slice rb r0.length rk) (r0.length) (Go.Proofs.YtcngmkjdpoiiaaaGreatDoor.rc (r0)), REG q sg rc, POOL p most (H), blk b5 (s.cells (.slice base l.length c) (.slice base' r.length c')) 63]) (Weak.refl _) (rR (lA (k:=?_)))
  refine lQ (cE 0 rfl (cE 2 rfl (cE 3 rfl (cE 5 rfl (cE 8 rfl (cE 9 rfl (cE 11 rfl .nil))))))) (rS (rT (lMv (k:=lV (vG ty_ag_30 .h0) (k:=?_)))))
  refine lO (W_call rfl rfl rfl rfl fn_ca_116 (prows_ok p most H hP hT hl ab ac l0 hac (by omega) (.slice rb r0.length rk) rfl bu0 s.su) (Weak.pick (p := [_, _, _, _]) (Weak.keep (Weak.keep (Weak.keep (Weak.keep (Weak.keep (Weak.nil _))))))) (Sn.pre (Sn.own .h1 rfl)) fun v2 rs2 ⟨h, d, e1, hHI, hHR, e2⟩ => ?_)
  subst e1; subst e2
  have hds := hHR.size
  have hsum := hHR.sum
  have hsum2 : d.toList.length * H.length ≤ 65536 * 65536 := Nat.mul_le_mul (by omega) hl
  refine St.res (rs' := [REG q sg rc, blk b9 (ledV (.slice ab l0.length ac) (.slice rb r0.length rk) bu0 s.su) 30, ownS 50 5 (.slice ab l0.length ac) (l0.length) (Go.Proofs.YtcngmkjdpoiiaaaGreatDoor.rc (l0)), ownS 175 4 (.slice rb r0.length rk) (r0.length) (Go.Proofs.YtcngmkjdpoiiaaaGreatDoor.rc (r0)), HEAP h d, POOL p most (H), blk b5 (s.cells (.slice base l.length c) (.slice base' r.length c')) 63]) (Weak.pick (p := [_, _, _, _, _]) (Weak.pick (p := [_, _]) (Weak.pick (p := [_, _]) (Weak.pick (p := [_, _]) (Weak.pick (p := [_]) (Weak.keep (Weak.keep (Weak.nil _)))))))) (lA (k:=?_))
  refine lQ (cE 2 rfl (cE 3 rfl (cE 5 rfl (cE 8 rfl (cE 9 rfl (cE 11 rfl (cE 12 rfl .nil))))))) (R_block ?_)
  refine R_loopE (G := List TxR × Value × Array RwR × Nx × List Acc × List Rel × Int × Option Addr × Nat × Option Addr × Nat) (cE 2 rfl (cE 3 rfl (cE 5 rfl (cE 8 rfl (cE 9 rfl (cE 12 rfl .nil)))))) (fun g => [(11, g.2.1)]) (fun g => [REG q sg rc, blk b9 (ledV (.slice g.2.2.2.2.2.2.2.1 g.2.2.2.2.1.length g.2.2.2.2.2.2.2.2.1) (.slice g.2.2.2.2.2.2.2.2.2.1 g.2.2.2.2.2.1.length g.2.2.2.2.2.2.2.2.2.2) g.2.2.2.2.2.2.1 s.su) 30, ownS 50 5 (.slice g.2.2.2.2.2.2.2.1 g.2.2.2.2.1.length g.2.2.2.2.2.2.2.2.1) (g.2.2.2.2.1.length) (Go.Proofs.YtcngmkjdpoiiaaaGreatDoor.rc (g.2.2.2.2.1)), ownS 175 4 (.slice g.2.2.2.2.2.2.2.2.2.1 g.2.2.2.2.2.1.length g.2.2.2.2.2.2.2.2.2.2) (g.2.2.2.2.2.1.length) (Go.Proofs.YtcngmkjdpoiiaaaGreatDoor.rc (g.2.2.2.2.2.1)), HEAP h g.2.2.1, POOL p most (H), blk b5 (s.cells (.slice base l.length c) (.slice base' r.length c')) 63, ownS 67 22 (g.2.1) (g.1.length) (Go.Proofs.YtcngmkjdpoiiaaaGreatDoor.rc g.1)]) (fun g => HeapIn ltR g.2.2.1.size g.2.2.1 ∧ HeapRel H g.2.2.2.1 g.2.2.1.toList ∧ Rest H (appF rc s.ch s.p (s.h + 1) pr) (nx0 l0) (⟨l0, r0, bu0, s.su⟩ : Led) s.p.p5.toNat g.2.2.2.1 (⟨g.2.2.2.2.1, g.2.2.2.2.2.1, g.2.2.2.2.2.2.1, s.su⟩ : Led) g.1 ∧ LOk (⟨g.2.2.2.2.1, g.2.2.2.2.2.1, g.2.2.2.2.2.2.1, s.su⟩ : Led) ∧ g.2.2.2.2.1.length ≤ g.2.2.2.2.2.2.2.2.1 ∧ g.2.2.2.2.2.1.length ≤ g.2.2.2.2.2.2.2.2.2.2 ∧ g.1.length + runsL g.2.2.1.toList ≤ 4294967296 ∧ g.2.2.2.2.1.length + runsL g.2.2.1.toList ≤ l.length + 4294967296 ∧ g.2.2.2.2.2.1.length + runsL g.2.2.1.toList ≤ r.length + 4294967296) (fun g => runsL g.2.2.1.toList) ([], .slice none 0 0, d, nx0 l0, l0, r0, bu0, ab, ac, rb, rk) (by show HeapIn ltR (d).size (d) ∧ HeapRel H (nx0 l0) (d).toList ∧ Rest H (appF rc s.ch s.p (s.h + 1) pr) (nx0 l0) (⟨l0, r0, bu0, s.su⟩ : Led) s.p.p5.toNat (nx0 l0) (⟨(l0), (r0), (bu0), s.su⟩ : Led) ([]) ∧ LOk (⟨(l0), (r0), (bu0), s.su⟩ : Led) ∧ (l0).length ≤ (ac) ∧ (r0).length ≤ (rk) ∧ ([]).length + runsL (d).toList ≤ 4294967296 ∧ (l0).length + runsL (d).toList ≤ l.length + 4294967296 ∧ (r0).length + runsL (d).toList ≤ r.length + 4294967296; exact ⟨hHI, hHR, Rest.start, hLO, hac, hrk, by show 0 + _ ≤ _; omega, by omega, by omega⟩) (by repeat (first | exact .nil | refine .cons rfl ?_ | refine .consE rfl (by first | rfl | (congr 1; omega) | (congr 1; push_cast; omega)) ?_)) (Weak.trans (Weak.newNil (T := 67) (sz := 22)) (Weak.pick (p := [_]) (Weak.pick (p := [_]) (Weak.pick (p := [_]) (Weak.pick (p := [_]) (Weak.pick (p := [_]) (Weak.pick (p := [_]) (Weak.pick (p := [_]) (Weak.keep (Weak.nil _)))))))))) ?_
  rintro ⟨O, ov, d, ρ, la, ra, bu, ab, ac, rb, rk⟩ hinv
  replace hinv : HeapIn ltR d.size d ∧ HeapRel H ρ d.toList ∧ Rest H (appF rc s.ch s.p (s.h + 1) pr) (nx0 l0) (⟨l0, r0, bu0, s.su⟩ : Led) s.p.p5.toNat ρ (⟨la, ra, bu, s.su⟩ : Led) O ∧ LOk (⟨la, ra, bu, s.su⟩ : Led) ∧ la.length ≤ ac ∧ ra.length ≤ rk ∧ O.length + runsL d.toList ≤ 4294967296 ∧ la.length + runsL d.toList ≤ l.length + 4294967296 ∧ ra.length + runsL d.toList ≤ r.length + 4294967296 := hinv
  show St (cx gl) _ ((11, ov) :: _) [REG q sg rc, blk b9 (ledV (.slice ab la.length ac) (.slice rb ra.length rk) bu s.su) 30, ownS 50 5 (.slice ab la.length ac) (la.length) (Go.Proofs.YtcngmkjdpoiiaaaGreatDoor.rc (la)), ownS 175 4 (.slice rb ra.length rk) (ra.length) (Go.Proofs.YtcngmkjdpoiiaaaGreatDoor.rc (ra)), HEAP h d, POOL p most (H), blk b5 (s.cells (.slice base l.length c) (.slice base' r.length c')) 63, ownS 67 22 (ov) (O.length) (Go.Proofs.YtcngmkjdpoiiaaaGreatDoor.rc O)] _
  obtain ⟨hHI, hHR, hRe, hLO, hac, hrk, hOb, hlb, hrb⟩ := hinv
  refine rS (rT (lMv (k:=?_)))
  refine lV (V_lenOwn .h7 rfl ty_sl_92 rfl) (k:=lP (pF ty_fl_63_1) (k:=lP (pG ty_fl_25_5) (k:=?_)))
  refine lV (V_load rfl rfl ty_sc_3 (Rd.blk .h6 (st_p5 s _ _))) (k:=lP pLt (k:=?_))
  refine E_bool (t := 46) rfl (fun hrm => ?_) (fun hrm => ?_)
  ·skip
   have hrm : O.length < s.p.p5.toNat := by have := of_decide_eq_true hrm; omega
   refine lMv (k:=lMv (k:=?_))
   refine lO (W_callR rfl rfl rfl rfl fn_ca_117 (hlen_ok h d) (Split.one (p := [_, _, _, _])) (fun _ _ _ _ _ _ _ => trivial) ?_)
   refine St.res (rs' := [REG q sg rc, blk b9 (ledV (.slice ab la.length ac) (.slice rb ra.length rk) bu s.su) 30, ownS 50 5 (.slice ab la.length ac) (la.length) (Go.Proofs.YtcngmkjdpoiiaaaGreatDoor.rc (la)), ownS 175 4 (.slice rb ra.length rk) (ra.length) (Go.Proofs.YtcngmkjdpoiiaaaGreatDoor.rc (ra)), HEAP h d, POOL p most (H), blk b5 (s.cells (.slice base l.length c) (.slice base' r.length c')) 63, ownS 67 22 (ov) (O.length) (Go.Proofs.YtcngmkjdpoiiaaaGreatDoor.rc O)]) (Weak.pick (p := [_]) (Weak.pick (p := [_]) (Weak.pick (p := [_]) (Weak.pick (p := [_]) (Weak.keep (Weak.keep (Weak.keep (Weak.keep (Weak.nil _))))))))) (lP pGt (k:=?_))
   refine E_bool (t := 50) rfl (fun hne => ?_) (fun hne => ?_)
   ·skip
    have hne : 0 < d.size := by have := of_decide_eq_true hne; omega
    have hds := hHR.size
    rw [Array.length_toList] at hds
    refine lP pK (k:=?_)
    refine L_nil (qT (kT (k:=R_skip (qT (R_block (rT (lMv (k:=?_))))))))
    refine lO (W_call rfl rfl rfl rfl fn_ca_118 (hpop_ok h d hne (by omega) hHI) (Split.one (p := [_, _, _, _])) (fun _ _ _ _ _ _ _ => trivial) fun v3 rs3 ⟨e, e1, hei, hep, e2⟩ => ?_)
    subst e1; subst e2
    have hBe0 := hHR.best hHI hne
    obtain ⟨y0, hg9⟩ : ∃ y0, y0 = d[0]! := ⟨_, rfl⟩
    rw [← hg9] at hep hBe0 ⊢
    have hBe : Dearest H ρ y0.hd := hBe0
    have hHR2 : HeapRel H ρ (y0 :: e.toList) := hHR.perm hep.symm
    have hrs : y0.l.length + runsL e.toList = runsL d.toList := runsL_perm hep
    have hgl := y0.l_pos
    have hes := hep.length_eq
    rw [List.length_cons, Array.length_toList, Array.length_toList] at hes
    have hgc := y0.len_cap
    refine E_as (t := 53) (v' := .slice (some ⟨y0.b, y0.k * 22, none⟩) y0.l.length (y0.cap - y0.k)) rfl (rfl) ?_
    refine St.res (rs' := [REG q sg rc, blk b9 (ledV (.slice ab la.length ac) (.slice rb ra.length rk) bu s.su) 30, ownS 50 5 (.slice ab la.length ac) (la.length) (Go.Proofs.YtcngmkjdpoiiaaaGreatDoor.rc (la)), ownS 175 4 (.slice rb ra.length rk) (ra.length) (Go.Proofs.YtcngmkjdpoiiaaaGreatDoor.rc (ra)), HEAP h e, POOL p most (H), blk b5 (s.cells (.slice base l.length c) (.slice base' r.length c')) 63, ownS 67 22 (ov) (O.length) (Go.Proofs.YtcngmkjdpoiiaaaGreatDoor.rc O), rowH y0]) (Weak.pick (p := [_, _]) (Weak.pick (p := [_, _]) (Weak.pick (p := [_, _]) (Weak.pick (p := [_, _]) (Weak.keep (Weak.pick (p := [_]) (Weak.pick (p := [_]) (Weak.pick (p := [_]) (Weak.keep (Weak.nil _)))))))))) (lA (k:=?_))
    refine L_nil (qT ?_)
    refine R_joinE (G := Nat × Option Addr × Nat × Option Addr × Nat) (cE 2 rfl (cE 3 rfl (cE 5 rfl (cE 8 rfl (cE 9 rfl (cE 11 rfl (cE 12 rfl (cE 13 rfl (cE 41 rfl (cE 42 rfl (cE 43 rfl (cE 44 rfl (cE 45 rfl (cE 46 rfl (cE 47 rfl (cE 48 rfl (cE 49 rfl (cE 50 rfl (cE 51 rfl (cE 52 rfl (cE 53 rfl .nil))))))))))))))))))))) (fun g => [(14, .pointer (some ⟨g.1, 0, none⟩)), (15, .int .i64 (chkE rc s.ch (⟨la, ra, bu, s.su⟩ : Led) s.p (s.h + 1) y0.hd.t))]) (fun g => [REG q sg rc, blk g.1 (ledV (.slice g.2.1 (appL rc s.ch (⟨la, ra, bu, s.su⟩ : Led) s.p (s.h + 1) pr y0.hd.t).acc.length g.2.2.1) (.slice g.2.2.2.1 (appL rc s.ch (⟨la, ra, bu, s.su⟩ : Led) s.p (s.h + 1) pr y0.hd.t).rel.length g.2.2.2.2) (appL rc s.ch (⟨la, ra, bu, s.su⟩ : Led) s.p (s.h + 1) pr y0.hd.t).burnt (appL rc s.ch (⟨la, ra, bu, s.su⟩ : Led) s.p (s.h + 1) pr y0.hd.t).sup) 30, ownS 50 5 (.slice g.2.1 (appL rc s.ch (⟨la, ra, bu, s.su⟩ : Led) s.p (s.h + 1) pr y0.hd.t).acc.length g.2.2.1) ((appL rc s.ch (⟨la, ra, bu, s.su⟩ : Led) s.p (s.h + 1) pr y0.hd.t).acc.length) (Go.Proofs.YtcngmkjdpoiiaaaGreatDoor.rc ((appL rc s.ch (⟨la, ra, bu, s.su⟩ : Led) s.p (s.h + 1) pr y0.hd.t).acc)), ownS 175 4 (.slice g.2.2.2.1 (appL rc s.ch (⟨la, ra, bu, s.su⟩ : Led) s.p (s.h + 1) pr y0.hd.t).rel.length g.2.2.2.2) ((appL rc s.ch (⟨la, ra, bu, s.su⟩ : Led) s.p (s.h + 1) pr y0.hd.t).rel.length) (Go.Proofs.YtcngmkjdpoiiaaaGreatDoor.rc ((appL rc s.ch (⟨la, ra, bu, s.su⟩ : Led) s.p (s.h + 1) pr y0.hd.t).rel)), blk b9 (ledV (.slice ab la.length ac) (.slice rb ra.length rk) bu s.su) 30, ownS 50 5 (.slice ab la.length ac) (la.length) (Go.Proofs.YtcngmkjdpoiiaaaGreatDoor.rc (la)), ownS 175 4 (.slice rb ra.length rk) (ra.length) (Go.Proofs.YtcngmkjdpoiiaaaGreatDoor.rc (ra)), HEAP h e, POOL p most (H), blk b5 (s.cells (.slice base l.length c) (.slice base' r.length c')) 63, ownS 67 22 (ov) (O.length) (Go.Proofs.YtcngmkjdpoiiaaaGreatDoor.rc O), rowH y0]) (fun g => (appL rc s.ch (⟨la, ra, bu, s.su⟩ : Led) s.p (s.h + 1) pr y0.hd.t).acc.length ≤ g.2.2.1 ∧ (appL rc s.ch (⟨la, ra, bu, s.su⟩ : Led) s.p (s.h + 1) pr y0.hd.t).rel.length ≤ g.2.2.2.2) ?_ ?_
    ·skip
     refine T_open (.op 0 1 (.op 1 0 (.op 2 0 (.op 3 1 (.op 4 0 (.op 5 1 (.op 6 0 (.op 7 1 (.op 8 0 (.op 9 0 (.op 10 0 (.op 11 0 (.op 12 1 (.two 13 17 (.op 14 0 (.op 15 0 (.op 16 0 (.op 17 2 (.op 18 3 (.op 19 0 .nil)))))) (.op 13 2 (.op 14 0 (.op 15 0 (.op 16 0 (.op 18 3 (.op 19 0 .nil)))))))))))))))))))) mixed (by kernel_rfl) (QOk.then (QOk.block (QOk.then (QOk.block (QOk.then QOk.body))))) ?_
     refine T_val rfl rfl rfl rfl (V_loadAgg rfl rfl ty_ag_30 (Rds.blk .h1) (rfl)) ?_
     refine T_pure rfl rfl rfl rfl (P_move rfl rfl) ?_
     refine T_pure rfl rfl rfl rfl (P_fld0 rfl ty_fl_63_0 rfl) ?_
     refine T_val rfl rfl rfl rfl (V_load rfl rfl ty_sc_9 (Rd.blk .h6 rfl)) ?_
     refine T_pure rfl rfl rfl rfl (P_fld0 rfl ty_fl_63_1 rfl) ?_
     refine T_val rfl rfl rfl rfl (V_loadAgg rfl rfl ty_ag_25 ((Rds.blk .h6).part 1 (st_par s _ _)) (rfl)) ?_
     refine T_pure rfl rfl rfl rfl (P_fld0 rfl ty_fl_63_2 rfl) ?_
     refine T_val rfl rfl rfl rfl (V_load rfl rfl ty_sc_23 (Rd.blk .h6 (st_h s _ _))) ?_
     refine T_pure rfl rfl rfl rfl (P_addN rfl rfl rfl (by simp only [fits]; omega)) ?_
     refine T_pure rfl rfl rfl rfl (P_move rfl rfl) ?_
     refine T_pure rfl rfl rfl rfl (P_move rfl rfl) ?_
     refine T_pure rfl rfl rfl rfl (P_ixs (0) rfl ty_sl_92 rfl rfl (by first | rfl | omega) (by omega)) ?_
     refine T_val rfl rfl rfl rfl (V_loadAgg rfl rfl ty_ag_67 (rds_rowR .h8) (y0.hd.ok.cellsLen)) ?_
     refine T_two ?_ ?_
     ·skip
      refine T_keep rfl rfl (W_call rfl rfl rfl rfl fn_ca_67 (apply_ok hG q sg rc ab ac la hac (by omega) hLO.acc rb rk ra hrk (by omega) hLO.rel bu s.su hLO.bu s.ch hcb s.p hp3 (s.h + 1) pr ⟨by omega, by omega⟩ y0.hd.t y0.hd.ok) (by first | exact (Split.one (p := [])) | exact (Split.one (p := [_]))) (fun w a b ha hb dj m => ⟨by first | exact Sn.pre (Sn.own .h1 rfl) w a b ha hb dj m | exact Sn.pre (Sn.own .h2 rfl) w a b ha hb dj m, by first | exact Sn.pre (Sn.own .h2 rfl) w a b ha hb dj m | exact Sn.pre (Sn.own .h3 rfl) w a b ha hb dj m⟩) fun v4 rs4 ⟨u, u', e1, e2⟩ => ?_)
      subst e1; subst e2
      refine St.ownForm (p := []) fun ua uc huv huc => ?_
      subst huv
      refine St.ownForm (p := [_]) fun va vc huv hvc => ?_
      subst huv
      refine K_keepT (by first | exact (Weak.drop (Weak.drop (Weak.refl _))) | exact (Weak.drop (Weak.drop Weak.swap))) ?_
      refine T_pure rfl rfl rfl rfl (P_move rfl rfl) ?_
      refine T_pure rfl rfl rfl rfl (P_extract rfl rfl rfl) ?_
      refine T_pure rfl rfl rfl rfl (P_extract rfl rfl rfl) ?_
      refine T_keep rfl rfl (W_alloc rfl rfl rfl ty_ze_30 fun b14 => (K_keepT (Weak.drop (Weak.refl _)) ?_))
      first | (refine T_new rfl rfl (W_storeAll rfl rfl rfl rfl ty_ag_30 (rfl) (ledV_one _ _ _ _ rfl rfl) .h0 (rfl) (K_newT ?_))) | (refine T_new rfl rfl (W_storeAll rfl rfl rfl rfl ty_ag_30 (rfl) (ledV_one _ _ _ _ rfl rfl) .h1 (rfl) (K_newT ?_))) | (refine T_new rfl rfl (W_storeAll rfl rfl rfl rfl ty_ag_30 (rfl) (ledV_one _ _ _ _ rfl rfl) .h2 (rfl) (K_newT ?_))) | (refine T_new rfl rfl (W_storeAll rfl rfl rfl rfl ty_ag_30 (rfl) (ledV_one _ _ _ _ rfl rfl) .h3 (rfl) (K_newT ?_))) | (refine T_new rfl rfl (W_storeAll rfl rfl rfl rfl ty_ag_30 (rfl) (ledV_one _ _ _ _ rfl rfl) .h4 (rfl) (K_newT ?_))) | (refine T_new rfl rfl (W_storeAll rfl rfl rfl rfl ty_ag_30 (rfl) (ledV_one _ _ _ _ rfl rfl) .h5 (rfl) (K_newT ?_))) | (refine T_new rfl rfl (W_storeAll rfl rfl rfl rfl ty_ag_30 (rfl) (ledV_one _ _ _ _ rfl rfl) .h6 (rfl) (K_newT ?_))) | (refine T_new rfl rfl (W_storeAll rfl rfl rfl rfl ty_ag_30 (rfl) (ledV_one _ _ _ _ rfl rfl) .h7 (rfl) (K_newT ?_)))
      refine T_pure rfl rfl rfl rfl (P_assign rfl rfl) ?_
      refine T_nil ?_
      exact Q_meet (b14, ua, uc, va, vc) (by show (appL rc s.ch (⟨la, ra, bu, s.su⟩ : Led) s.p (s.h + 1) pr y0.hd.t).acc.length ≤ (uc) ∧ (appL rc s.ch (⟨la, ra, bu, s.su⟩ : Led) s.p (s.h + 1) pr y0.hd.t).rel.length ≤ (vc); exact ⟨huc, hvc⟩) (by repeat (first | exact .nil | refine .cons rfl ?_ | refine .consE rfl (by first | rfl | (congr 1; omega) | (congr 1; push_cast; omega)) ?_)) (by first | exact (Weak.pick (p := [_, _, _]) (Weak.keep (Weak.keep (Weak.keep (Weak.keep (Weak.keep (Weak.keep (Weak.keep (Weak.keep (Weak.keep (Weak.keep (Weak.keep (Weak.nil _))))))))))))) | exact (Weak.pick (p := [_, _]) (Weak.pick (p := [_, _]) (Weak.keep (Weak.keep (Weak.keep (Weak.keep (Weak.keep (Weak.keep (Weak.keep (Weak.keep (Weak.keep (Weak.keep (Weak.nil _))))))))))))))
     ·skip
      refine T_keep rfl rfl (W_alloc rfl rfl rfl ty_ze_30 fun b14 => (K_keepT (Weak.drop (Weak.refl _)) ?_))
      refine T_keep rfl rfl (W_call rfl rfl rfl rfl fn_ca_67 (apply_ok hG q sg rc ab ac la hac (by omega) hLO.acc rb rk ra hrk (by omega) hLO.rel bu s.su hLO.bu s.ch hcb s.p hp3 (s.h + 1) pr ⟨by omega, by omega⟩ y0.hd.t y0.hd.ok) (by first | exact (Split.one (p := [])) | exact (Split.one (p := [_]))) (fun w a b ha hb dj m => ⟨by first | exact Sn.pre (Sn.own .h1 rfl) w a b ha hb dj m | exact Sn.pre (Sn.own .h2 rfl) w a b ha hb dj m, by first | exact Sn.pre (Sn.own .h2 rfl) w a b ha hb dj m | exact Sn.pre (Sn.own .h3 rfl) w a b ha hb dj m⟩) fun v4 rs4 ⟨u, u', e1, e2⟩ => ?_)
      subst e1; subst e2
      refine St.ownForm (p := []) fun ua uc huv huc => ?_
      subst huv
      refine St.ownForm (p := [_]) fun va vc huv hvc => ?_
      subst huv
      refine K_keepT (by first | exact (Weak.drop (Weak.drop (Weak.refl _))) | exact (Weak.drop (Weak.drop Weak.swap))) ?_
      refine T_pure rfl rfl rfl rfl (P_move rfl rfl) ?_
      refine T_pure rfl rfl rfl rfl (P_extract rfl rfl rfl) ?_
      refine T_pure rfl rfl rfl rfl (P_extract rfl rfl rfl) ?_
      first | (refine T_new rfl rfl (W_storeAll rfl rfl rfl rfl ty_ag_30 (rfl) (ledV_one _ _ _ _ rfl rfl) .h0 (rfl) (K_newT ?_))) | (refine T_new rfl rfl (W_storeAll rfl rfl rfl rfl ty_ag_30 (rfl) (ledV_one _ _ _ _ rfl rfl) .h1 (rfl) (K_newT ?_))) | (refine T_new rfl rfl (W_storeAll rfl rfl rfl rfl ty_ag_30 (rfl) (ledV_one _ _ _ _ rfl rfl) .h2 (rfl) (K_newT ?_))) | (refine T_new rfl rfl (W_storeAll rfl rfl rfl rfl ty_ag_30 (rfl) (ledV_one _ _ _ _ rfl rfl) .h3 (rfl) (K_newT ?_))) | (refine T_new rfl rfl (W_storeAll rfl rfl rfl rfl ty_ag_30 (rfl) (ledV_one _ _ _ _ rfl rfl) .h4 (rfl) (K_newT ?_))) | (refine T_new rfl rfl (W_storeAll rfl rfl rfl rfl ty_ag_30 (rfl) (ledV_one _ _ _ _ rfl rfl) .h5 (rfl) (K_newT ?_))) | (refine T_new rfl rfl (W_storeAll rfl rfl rfl rfl ty_ag_30 (rfl) (ledV_one _ _ _ _ rfl rfl) .h6 (rfl) (K_newT ?_))) | (refine T_new rfl rfl (W_storeAll rfl rfl rfl rfl ty_ag_30 (rfl) (ledV_one _ _ _ _ rfl rfl) .h7 (rfl) (K_newT ?_)))
      refine T_pure rfl rfl rfl rfl (P_assign rfl rfl) ?_
      refine T_nil ?_
      exact Q_meet (b14, ua, uc, va, vc) (by show (appL rc s.ch (⟨la, ra, bu, s.su⟩ : Led) s.p (s.h + 1) pr y0.hd.t).acc.length ≤ (uc) ∧ (appL rc s.ch (⟨la, ra, bu, s.su⟩ : Led) s.p (s.h + 1) pr y0.hd.t).rel.length ≤ (vc); exact ⟨huc, hvc⟩) (by repeat (first | exact .nil | refine .cons rfl ?_ | refine .consE rfl (by first | rfl | (congr 1; omega) | (congr 1; push_cast; omega)) ?_)) (by first | exact (Weak.pick (p := [_, _, _]) (Weak.keep (Weak.keep (Weak.keep (Weak.keep (Weak.keep (Weak.keep (Weak.keep (Weak.keep (Weak.keep (Weak.keep (Weak.keep (Weak.nil _))))))))))))) | exact (Weak.pick (p := [_, _]) (Weak.pick (p := [_, _]) (Weak.keep (Weak.keep (Weak.keep (Weak.keep (Weak.keep (Weak.keep (Weak.keep (Weak.keep (Weak.keep (Weak.keep (Weak.nil _))))))))))))))
    ·rintro ⟨b14, ua, uc, va, vc⟩ hinv
     replace hinv : (appL rc s.ch (⟨la, ra, bu, s.su⟩ : Led) s.p (s.h + 1) pr y0.hd.t).acc.length ≤ uc ∧ (appL rc s.ch (⟨la, ra, bu, s.su⟩ : Led) s.p (s.h + 1) pr y0.hd.t).rel.length ≤ vc := hinv
     show St (cx gl) _ ((14, .pointer (some ⟨b14, 0, none⟩)) :: (15, .int .i64 (chkE rc s.ch (⟨la, ra, bu, s.su⟩ : Led) s.p (s.h + 1) y0.hd.t)) :: _) [REG q sg rc, blk b14 (ledV (.slice ua (appL rc s.ch (⟨la, ra, bu, s.su⟩ : Led) s.p (s.h + 1) pr y0.hd.t).acc.length uc) (.slice va (appL rc s.ch (⟨la, ra, bu, s.su⟩ : Led) s.p (s.h + 1) pr y0.hd.t).rel.length vc) (appL rc s.ch (⟨la, ra, bu, s.su⟩ : Led) s.p (s.h + 1) pr y0.hd.t).burnt (appL rc s.ch (⟨la, ra, bu, s.su⟩ : Led) s.p (s.h + 1) pr y0.hd.t).sup) 30, ownS 50 5 (.slice ua (appL rc s.ch (⟨la, ra, bu, s.su⟩ : Led) s.p (s.h + 1) pr y0.hd.t).acc.length uc) ((appL rc s.ch (⟨la, ra, bu, s.su⟩ : Led) s.p (s.h + 1) pr y0.hd.t).acc.length) (Go.Proofs.YtcngmkjdpoiiaaaGreatDoor.rc ((appL rc s.ch (⟨la, ra, bu, s.su⟩ : Led) s.p (s.h + 1) pr y0.hd.t).acc)), ownS 175 4 (.slice va (appL rc s.ch (⟨la, ra, bu, s.su⟩ : Led) s.p (s.h + 1) pr y0.hd.t).rel.length vc) ((appL rc s.ch (⟨la, ra, bu, s.su⟩ : Led) s.p (s.h + 1) pr y0.hd.t).rel.length) (Go.Proofs.YtcngmkjdpoiiaaaGreatDoor.rc ((appL rc s.ch (⟨la, ra, bu, s.su⟩ : Led) s.p (s.h + 1) pr y0.hd.t).rel)), blk b9 (ledV (.slice ab la.length ac) (.slice rb ra.length rk) bu s.su) 30, ownS 50 5 (.slice ab la.length ac) (la.length) (Go.Proofs.YtcngmkjdpoiiaaaGreatDoor.rc (la)), ownS 175 4 (.slice rb ra.length rk) (ra.length) (Go.Proofs.YtcngmkjdpoiiaaaGreatDoor.rc (ra)), HEAP h e, POOL p most (H), blk b5 (s.cells (.slice base l.length c) (.slice base' r.length c')) 63, ownS 67 22 (ov) (O.length) (Go.Proofs.YtcngmkjdpoiiaaaGreatDoor.rc O), rowH y0] _
     obtain ⟨huc, hvc⟩ := hinv
     refine rS (rT (lMv (k:=lP pNe (k:=?_))))
     refine E_bool (t := 72) rfl (fun hce => ?_) (fun hce => ?_)
     ·skip
      have hce : chkE rc s.ch (⟨la, ra, bu, s.su⟩ : Led) s.p (s.h + 1) y0.hd.t ≠ 0 := of_decide_eq_true hce
      refine L_nil (qT (kT (k:=R_exit (Q_then_exit (Q_block_eq ?_)))))
      exact Q_round (O, ov, e, setN ρ y0.hd.t.frm none, la, ra, bu, ab, ac, rb, rk) (by show HeapIn ltR (e).size (e) ∧ HeapRel H (setN ρ y0.hd.t.frm none) (e).toList ∧ Rest H (appF rc s.ch s.p (s.h + 1) pr) (nx0 l0) (⟨l0, r0, bu0, s.su⟩ : Led) s.p.p5.toNat (setN ρ y0.hd.t.frm none) (⟨(la), (ra), (bu), s.su⟩ : Led) (O) ∧ LOk (⟨(la), (ra), (bu), s.su⟩ : Led) ∧ (la).length ≤ (ac) ∧ (ra).length ≤ (rk) ∧ (O).length + runsL (e).toList ≤ 4294967296 ∧ (la).length + runsL (e).toList ≤ l.length + 4294967296 ∧ (ra).length + runsL (e).toList ≤ r.length + 4294967296; exact ⟨hei, hHR2.rest hP.keys, hRe.skip hBe (appF_no hce) hrm, hLO, hac, hrk, by omega, by omega, by omega⟩) (by show runsL e.toList < runsL d.toList; omega) (by repeat (first | exact .nil | refine .cons rfl ?_ | refine .consE rfl (by first | rfl | (congr 1; omega) | (congr 1; push_cast; omega)) ?_)) (Weak.keep (Weak.pick (p := [_, _, _]) (Weak.pick (p := [_, _, _]) (Weak.pick (p := [_, _, _]) (Weak.pick (p := [_, _, _]) (Weak.pick (p := [_, _, _]) (Weak.pick (p := [_, _, _]) (Weak.pick (p := [_, _, _]) (Weak.nil _)))))))))
     ·skip
      have hce : chkE rc s.ch (⟨la, ra, bu, s.su⟩ : Led) s.p (s.h + 1) y0.hd.t = 0 := by have h9 := of_decide_eq_false hce; omega
      have hap := appF_yes (b := pr) hce
      have hMO := appP_lok (b := pr) hLO y0.hd.ok (h := (s.h + 1)) ⟨by omega, by omega⟩ hp3 (chkFine_of hce)
      obtain ⟨hMl, hMr⟩ := app_len (⟨la, ra, bu, s.su⟩ : Led) s.p (s.h + 1) pr y0.hd.t
      have hMs := appP_sup (⟨la, ra, bu, s.su⟩ : Led) s.p (s.h + 1) pr y0.hd.t
      rw [appL_zero hce] at huc hvc ⊢
      generalize (appP (⟨la, ra, bu, s.su⟩ : Led) s.p (s.h + 1) pr y0.hd.t) = M at hap hMO hMl hMr hMs huc hvc ⊢
      obtain ⟨lm, rm, bm, sm⟩ := M
      obtain rfl : sm = s.su := hMs
      replace hMl : lm.length ≤ la.length + 1 := hMl
      replace hMr : rm.length ≤ ra.length + 1 := hMr
      replace huc : lm.length ≤ uc := huc
      replace hvc : rm.length ≤ vc := hvc
      refine St.res (rs' := [REG q sg rc, blk b14 (ledV (.slice ua lm.length uc) (.slice va rm.length vc) bm s.su) 30, ownS 50 5 (.slice ua lm.length uc) (lm.length) (Go.Proofs.YtcngmkjdpoiiaaaGreatDoor.rc (lm)), ownS 175 4 (.slice va rm.length vc) (rm.length) (Go.Proofs.YtcngmkjdpoiiaaaGreatDoor.rc (rm)), blk b9 (ledV (.slice ab la.length ac) (.slice rb ra.length rk) bu s.su) 30, ownS 50 5 (.slice ab la.length ac) (la.length) (Go.Proofs.YtcngmkjdpoiiaaaGreatDoor.rc (la)), ownS 175 4 (.slice rb ra.length rk) (ra.length) (Go.Proofs.YtcngmkjdpoiiaaaGreatDoor.rc (ra)), HEAP h e, POOL p most (H), blk b5 (s.cells (.slice base l.length c) (.slice base' r.length c')) 63, ownS 67 22 (ov) (O.length) (Go.Proofs.YtcngmkjdpoiiaaaGreatDoor.rc O), rowH y0]) (Weak.refl _) ?_
      refine L_nil (qT (kF (k:=R_skip (qT (rT (lV (vG ty_ag_30 .h1) (k:=?_)))))))
      refine lO (W_storeAll rfl rfl rfl rfl ty_ag_30 (rfl) (ledV_one _ _ _ _ rfl rfl) .h4 (rfl) ?_)
      refine L_nil (qT (rT (lMv (k:=lMv (k:=?_)))))
      refine lP (P_ixs (0) rfl ty_sl_92 rfl rfl (by first | rfl | omega) (by omega)) (k:=?_)
      refine lV (V_loadAgg rfl rfl ty_ag_67 (rds_rowR .h11) (y0.hd.ok.cellsLen)) (k:=?_)
      refine lO (W_lit (z := .nilIface) (y0.hd.t.cells) rfl rfl rfl ty_sl_92 ty_lz_92 rfl rfl rfl (by decide) (by decide) (by intro v hv; simp only [List.mem_singleton] at hv; subst hv; exact y0.hd.ok.cellsLen) (by simp [Value.cells]) fun b78 => ?_)
      refine lO (W_append (p := [_, _, _, _, _, _, _, _, _, _, _]) rfl rfl rfl ty_sl_92 ty_ap_92 ty_src_92 rfl rfl rfl (Src.slice (sz := 22) (m := 1) (news := y0.hd.t.cells) (Rds.blk .h0) y0.hd.ok.cellsLen (Tx.one _)) (by omega) (by simp only [maxLen]; omega) fun v79 => lA (k:=?_))
      refine L_nil (qT (rT (lMv (k:=lP (pL ty_sl_92) (k:=lP pGt (k:=?_))))))
      refine L_nil (qT ?_)
      refine R_condP rfl (fun hmore => ?_) (fun hmore => ?_)
      ·skip
       have hmo : y0.k + 1 < y0.all.length := y0.more.1 (by omega)
       have hnl := runsL_next y0 hmo
       refine rR (lMv (k:=lMv (k:=?_)))
       refine lP (P_slice 1 y0.l.length rfl ty_sl_92 rfl ⟨_, rfl⟩ rfl (by omega) (by omega)) (k:=?_)
       refine E_as (t := 85) (v' := (y0.next hmo).val) rfl (sliced_next y0 hmo) ?_
       refine lO (W_call rfl rfl rfl rfl fn_ca_119 (hpush_ok h e (y0.next hmo) (by omega) hei) (Weak.pick (p := [_, _, _, _, _, _, _, _]) (Weak.pick (p := [_, _, _, _, _, _, _, _, _, _, _]) (Weak.keep (Weak.keep (Weak.keep (Weak.keep (Weak.keep (Weak.keep (Weak.keep (Weak.keep (Weak.keep (Weak.keep (Weak.keep (Weak.nil _)))))))))))))) (fun _ _ _ _ _ _ _ => trivial) fun v5 rs5 ⟨e1, d2, hfp, hfi, e2⟩ => ?_)
       subst e1; subst e2
       have hs2 : (y0.next hmo).l.length + runsL e.toList = runsL d2.toList := runsL_perm (heap_push_perm hfp)
       refine lE (cE 2 rfl (cE 3 rfl (cE 5 rfl (cE 8 rfl (cE 9 rfl (cE 11 rfl (cE 12 rfl (cE 13 rfl (cE 14 rfl (cE 15 rfl (cE 41 rfl (cE 42 rfl (cE 43 rfl (cE 44 rfl (cE 45 rfl (cE 46 rfl (cE 47 rfl (cE 48 rfl (cE 49 rfl (cE 50 rfl (cE 51 rfl (cE 52 rfl (cE 53 rfl (cE 71 rfl (cE 72 rfl (cE 73 rfl (cE 74 rfl (cE 75 rfl (cE 76 rfl (cE 77 rfl (cE 78 rfl (cE 79 rfl (cE 80 rfl (cE 81 rfl (cE 82 rfl (cE 83 rfl (cE 84 rfl (cE 85 rfl .nil)))))))))))))))))))))))))))))))))))))) (Q_block ?_)
       exact Q_round ((O ++ [y0.hd]), v79, d2, setN ρ y0.hd.t.frm (some (y0.hd.t.non + 1)), lm, rm, bm, ua, uc, va, vc) (by show HeapIn ltR (d2).size (d2) ∧ HeapRel H (setN ρ y0.hd.t.frm (some (y0.hd.t.non + 1))) (d2).toList ∧ Rest H (appF rc s.ch s.p (s.h + 1) pr) (nx0 l0) (⟨l0, r0, bu0, s.su⟩ : Led) s.p.p5.toNat (setN ρ y0.hd.t.frm (some (y0.hd.t.non + 1))) (⟨(lm), (rm), (bm), s.su⟩ : Led) ((O ++ [y0.hd])) ∧ LOk (⟨(lm), (rm), (bm), s.su⟩ : Led) ∧ (lm).length ≤ (uc) ∧ (rm).length ≤ (vc) ∧ ((O ++ [y0.hd])).length + runsL (d2).toList ≤ 4294967296 ∧ (lm).length + runsL (d2).toList ≤ l.length + 4294967296 ∧ (rm).length + runsL (d2).toList ≤ r.length + 4294967296; exact ⟨hfi, (hHR2.step hP.keys hmo).perm (heap_push_perm hfp), hRe.take hBe hap hrm, hMO, huc, hvc, by rw [List.length_append]; show O.length + 1 + _ ≤ _; omega, by omega, by omega⟩) (by show runsL d2.toList < runsL d.toList; omega) (by repeat (first | exact .nil | refine .cons rfl ?_ | refine .consE rfl (by first | rfl | (congr 1; omega) | (congr 1; push_cast; omega)) ?_)) (by rw [List.length_append, rc_append, rc_tx]; exact Weak.pick (p := [_, _]) (Weak.pick (p := [_, _, _, _, _]) (Weak.pick (p := [_, _, _]) (Weak.pick (p := [_, _, _]) (Weak.keep (Weak.pick (p := [_, _, _, _]) (Weak.pick (p := [_, _, _, _]) (Weak.pick (p := [_, _, _, _]) (Weak.nil _)))))))))
      ·skip
       have hmo : ¬ y0.k + 1 < y0.all.length := fun h9 => hmore (by have := y0.more.2 h9; omega)
       refine R_skip (Q_block ?_)
       exact Q_round ((O ++ [y0.hd]), v79, e, setN ρ y0.hd.t.frm (some (y0.hd.t.non + 1)), lm, rm, bm, ua, uc, va, vc) (by show HeapIn ltR (e).size (e) ∧ HeapRel H (setN ρ y0.hd.t.frm (some (y0.hd.t.non + 1))) (e).toList ∧ Rest H (appF rc s.ch s.p (s.h + 1) pr) (nx0 l0) (⟨l0, r0, bu0, s.su⟩ : Led) s.p.p5.toNat (setN ρ y0.hd.t.frm (some (y0.hd.t.non + 1))) (⟨(lm), (rm), (bm), s.su⟩ : Led) ((O ++ [y0.hd])) ∧ LOk (⟨(lm), (rm), (bm), s.su⟩ : Led) ∧ (lm).length ≤ (uc) ∧ (rm).length ≤ (vc) ∧ ((O ++ [y0.hd])).length + runsL (e).toList ≤ 4294967296 ∧ (lm).length + runsL (e).toList ≤ l.length + 4294967296 ∧ (rm).length + runsL (e).toList ≤ r.length + 4294967296; exact ⟨hei, hHR2.last hP.keys hmo, hRe.take hBe hap hrm, hMO, huc, hvc, by rw [List.length_append]; show O.length + 1 + _ ≤ _; omega, by omega, by omega⟩) (by show runsL e.toList < runsL d.toList; omega) (by repeat (first | exact .nil | refine .cons rfl ?_ | refine .consE rfl (by first | rfl | (congr 1; omega) | (congr 1; push_cast; omega)) ?_)) (by rw [List.length_append, rc_append, rc_tx]; exact Weak.pick (p := [_]) (Weak.pick (p := [_, _, _, _]) (Weak.pick (p := [_, _]) (Weak.pick (p := [_, _]) (Weak.pick (p := [_, _, _, _]) (Weak.pick (p := [_, _, _, _]) (Weak.pick (p := [_, _, _, _]) (Weak.pick (p := [_, _, _, _]) (Weak.nil _)))))))))
   ·skip
    have hd0 : d.toList = [] := by have := of_decide_eq_false hne; exact List.eq_nil_of_length_eq_zero (by rw [Array.length_toList]; omega)
    have hPK := hRe.over (by rw [hd0] at hHR; exact hHR.noNext)
    refine lP pK (k:=?_)
    refine L_nil (qT (kF (k:=R_exit (Q_then_exit (Q_then_exit (Q_block_eq ?_))))))
    refine St.env (cE 8 rfl (cE 11 rfl .nil)) (qT (rS ?_))
    refine St.ownForm (p := [_, _, _, _, _, _, _]) fun ob oc huv hoc => ?_
    subst huv
    refine rR (lMv (k:=lA (k:=?_)))
    refine lQ (cE 8 rfl .nil) (R_ret ?_)
    exact R_end (rs2 := _) rfl rfl (.tmp rfl .nil) (⟨O, ob, oc, rfl, by unfold PickOf; rw [if_neg hhl, ← hM0]; exact hPK, rfl⟩) (Weak.pick (p := [_, _, _, _, _]) (Weak.keep (Weak.pick (p := [_, _, _, _, _]) (Weak.nil _))))
  ·skip
   have hPK := hRe.full (by have := of_decide_eq_false hrm; omega)
   refine lMv (k:=lN (k:=lN (k:=lN (k:=lP pK (k:=?_)))))
   refine L_nil (qT (kF (k:=R_exit (Q_then_exit (Q_then_exit (Q_block_eq ?_))))))
   refine St.env (cE 8 rfl (cE 11 rfl .nil)) (qT (rS ?_))
   refine St.ownForm (p := [_, _, _, _, _, _, _]) fun ob oc huv hoc => ?_
   subst huv
   refine rR (lMv (k:=lA (k:=?_)))
   refine lQ (cE 8 rfl .nil) (R_ret ?_)
   exact R_end (rs2 := _) rfl rfl (.tmp rfl .nil) (⟨O, ob, oc, rfl, by unfold PickOf; rw [if_neg hhl, ← hM0]; exact hPK, rfl⟩) (Weak.pick (p := [_, _, _, _, _]) (Weak.keep (Weak.pick (p := [_, _, _, _, _]) (Weak.nil _))))
end Go.Proofs.YtcngmkjdpoiiaaaGreatDoor

/- Lists of transactions compared. Printed by gen.py. -/
set_option maxRecDepth 100000
namespace Go.Proofs.YtcngmkjdpoiiaaaGreatDoor
open Go Go.RowKit Go.Proofs Go.Sort
/-! ### Transactions compared -/
/-! ### A list in two -/
/-! ### What an Add changed -/
structure AddFacts (L N : List TxR) (x : TxR) (most : Int) : Prop where
 new : x ∈ N
 gone : ∀ y ∈ L, y ∉ N → y.t.fee < x.t.fee ∧ (keyT y = keyT x ∨ (most ≤ (L.length : Int) ∧ y.t.frm ≠ x.t.frm ∧ ∀ z ∈ L, z.t.frm = y.t.frm → z.t.non ≤ y.t.non))
 one : ∀ y ∈ L, y ∉ N → ∀ z ∈ L, z ∉ N → y = z
 all : (∀ y ∈ L, y ∈ N) → N.length = L.length + 1
 some_ : (∃ y ∈ L, y ∉ N) → N.length = L.length
/-- How many are gone among the first. -/
def GoneAt (L N : List TxR) (i g : Nat) : Prop := (g = 0 ∧ ∀ y ∈ L.take i, y ∈ N) ∨ (g = 1 ∧ ∃ y ∈ L.take i, y ∉ N)
theorem GoneAt.start {L N : List TxR} : GoneAt L N 0 0 := .inl ⟨rfl, fun y hy => by rw [List.take_zero] at hy; cases hy⟩
theorem take_snoc {L : List TxR} {i : Nat} {y : TxR} (h : L[i]? = some y) : L.take (i + 1) = L.take i ++ [y] := by rw [List.take_add_one, h]; rfl
theorem GoneAt.not {L N : List TxR} {x : TxR} {most : Int} (f : AddFacts L N x most) (hn : L.Nodup) {i g : Nat} {y : TxR} (h : GoneAt L N i g) (hy : L[i]? = some y) (hm : y ∉ N) : g = 0 ∧ GoneAt L N (i + 1) (g + 1) := by
 have hyL := List.mem_of_getElem? hy
 unfold GoneAt
 rw [take_snoc hy]
 rcases h with ⟨rfl, h⟩ | ⟨rfl, z, hz, h⟩
 ·exact ⟨rfl, .inr ⟨rfl, y, by simp, hm⟩⟩
 ·exfalso
  obtain rfl := f.one z (List.mem_of_mem_take hz) h y hyL hm
  obtain ⟨hi, e⟩ := List.getElem?_eq_some_iff.1 hy
  obtain ⟨j, hj, e2⟩ := List.mem_iff_getElem.1 hz
  rw [List.length_take] at hj
  rw [List.getElem_take] at e2
  exact List.pairwise_iff_getElem.1 hn j i (by omega) hi (by omega) (e2.trans e.symm)
end Go.Proofs.YtcngmkjdpoiiaaaGreatDoor

/- A pool: refusals; Add where there is room. Printed by gen.py. -/
set_option maxRecDepth 100000
namespace Go.Proofs.YtcngmkjdpoiiaaaGreatDoor
open Go Go.RowKit Go.Proofs
structure LookFine (rc : List Rcd) (ch : List Int) (H : List TxR) (x : Tx) : Prop where
 plain : plainE x = 0
 tx : txbE ch x = 0
 sealed : seald rc ch x = true
 new : hasId H (idH x) = false
theorem lookFine_of {rc : List Rcd} {ch : List Int} {H : List TxR} {x : Tx} (h : lookE rc ch H x = 0) : LookFine rc ch H x := by
 unfold lookE at h
 split at h
 ·rename_i h1; exact absurd h h1
 ·split at h
  ·rename_i h1; exact absurd h h1
  ·split at h
   ·omega
   ·split at h
    ·omega
    ·rename_i h1 h2 h3 h4
     exact ⟨Classical.not_not.1 h1, Classical.not_not.1 h2, by simpa using h3, by simpa using h4⟩
/-- What Add answers where there is room. -/
def addE0 (rc : List Rcd) (ch : List Int) (H : List TxR) (l : List Acc) (x : TxR) : Int :=
 if lookE rc ch H x.t ≠ 0 then lookE rc ch H x.t else if fitE H l x ≠ 0 then fitE H l x else if (heldAt H (keyT x)).isSome = true ∧ x.t.fee ≤ ((heldAt H (keyT x)).getD txrz).t.fee then 94 else 0
end Go.Proofs.YtcngmkjdpoiiaaaGreatDoor

/- PoolNil: the walk. Printed by gen.py. -/
set_option maxRecDepth 100000
namespace Go.Proofs.YtcngmkjdpoiiaaaGreatDoor
open Go Go.RowKit Go.Proofs
theorem num_ok {gl : Nat → Obj} (e : Int) : SpecV (cx gl) 33 [.int .i64 e] noPre (.int .i64 e) := by
 refine Spec.enter (C := cx gl) Tryz.func33 rfl 4 rfl rfl fun w0 h0 hsep hsub hpre => ?_
 obtain rfl : h0 = Heap.none := hsep
 show St (cx gl) _ [(0, .int .i64 (e))] _ _
 refine rT (lA (k:=?_))
 refine L_nil (qT (rT (lMv (k:=lA (k:=?_)))))
 refine lQ (cE 2 rfl .nil) (R_ret ?_)
 exact R_endV rfl rfl (.tmp rfl .nil) (rfl)
end Go.Proofs.YtcngmkjdpoiiaaaGreatDoor

/- The world of the outright statements. Printed by gen.py. -/
set_option maxRecDepth 100000
namespace Go.Proofs.YtcngmkjdpoiiaaaGreatDoor
open Go Go.RowKit Go.Proofs Go.Sort
/-! ### States -/
theorem StJ.len {x : StJ} (h : x.last.length = 32) : x.cells.length = 55 := by rw [StJ.rcells x h]; exact StR.len _ _ _
theorem StJ.one {x : StJ} (h : x.last.length = 32) : ∀ v ∈ x.cells, v.oneCell' = true := by rw [StJ.rcells x h]; exact StR.one _ rfl rfl
/-- A state, apart from the world in which it lies. -/
structure StK where
 j : StJ
 ch : IsB j.ch
 p : j.p.ok
 h : u64 j.h
 last : j.last.length = 32
 hc : j.l.s.xs.length ≤ j.l.s.c
 hc' : j.l.r.xs.length ≤ j.l.r.c
 ok : ∀ y ∈ j.l.s.xs, y.ok
 ok' : ∀ y ∈ j.l.r.xs, y.ok
 bu : u64 j.l.bu
 su : u64 j.l.su
 hm : j.l.s.xs.length ≤ 3600000000000
 hm' : j.l.r.xs.length ≤ 4500000000000
instance : Rec StK := ⟨fun x => x.j.cells, 55, fun x => StJ.len x.last, fun x => StJ.one x.last⟩
def StK.r (x : StK) : StR := x.j.r x.last
/-- Its ledger's rows lie in a world. -/
def StK.in_ (w : World) (x : StK) : Prop := Row w x.j.l.s.b (rc x.j.l.s.xs) ∧ Row w x.j.l.r.b (rc x.j.l.r.xs)
def stzJ : StJ := ⟨[], ⟨0, 0, 0, 0, 0, 0, 0, 0, 0, 0, 0, 0⟩, 0, 0, List.replicate 32 0, (none, 0, 0), (none, 0, 0), (none, 0, 0), (none, 0, 0), ⟨⟨none, 0, []⟩, ⟨none, 0, []⟩, 0, 0⟩⟩
theorem u64_00 : u64 0 := ⟨by decide, by decide⟩
def stz : StK := ⟨stzJ, fun _ h => (nomatch h), ⟨u64_00, ⟨by decide, by decide⟩, u64_00, u64_00, u64_00, ⟨by decide, by decide⟩, u64_00, u64_00, u64_00, u64_00, u64_00, u64_00⟩, u64_00, rfl, Nat.le_refl _, Nat.le_refl _, fun _ h => (nomatch h), fun _ h => (nomatch h), u64_00, u64_00, Nat.zero_le _, Nat.zero_le _⟩
/-- The state that is present. -/
def curS (sts : List StK) (a : Int) : StK := sts.getD a.toNat stz
theorem curS_at {sts : List StK} {a : Int} (h0 : 0 ≤ a) (h : a < sts.length) : sts[a.toNat]? = some (curS sts a) := by
 unfold curS
 rw [List.getD_eq_getElem?_getD, List.getElem?_eq_getElem (by omega)]; rfl
/-- Where the present one may stand. -/
def AtOk (sts : List StK) (a : Int) : Prop := 0 ≤ a ∧ (sts = [] ∨ a < sts.length)
theorem AtOk.zero (sts : List StK) : AtOk sts 0 := ⟨Int.le_refl _, by cases sts with | nil => exact .inl rfl | cons x l => exact .inr (by rw [List.length_cons]; omega)⟩
/-! ### Steps -/
structure OpJ where
 kind : Int
 tx : Tx
 tw : Int
 id : List Int
 at_ : Int
 pr : Int
def OpJ.cells (o : OpJ) : List Value := .int .i64 o.kind :: (o.tx.cells ++ (.int .i64 o.tw :: (ints .u8 o.id ++ [.int .i64 o.at_, .int .u64 o.pr])))
structure OpK where
 o : OpJ
 tx : o.tx.ok
 idb : IsB o.id
 idl : o.id.length = 32
 pr : u64 o.pr
theorem OpK.len (x : OpK) : x.o.cells.length = 58 := by
 unfold OpJ.cells
 rw [List.length_cons, List.length_append, List.length_cons, List.length_append, x.tx.cellsLen, ints_length, x.idl]; rfl
theorem OpK.one (x : OpK) : ∀ v ∈ x.o.cells, v.oneCell' = true := by
 intro v hv
 unfold OpJ.cells at hv
 rcases List.mem_cons.1 hv with rfl | hv
 ·rfl
 ·rcases List.mem_append.1 hv with hv | hv
  ·exact x.o.tx.one v hv
  ·rcases List.mem_cons.1 hv with rfl | hv
   ·rfl
   ·rcases List.mem_append.1 hv with hv | hv
    ·exact ints_one v hv
    ·simp only [List.mem_cons, List.not_mem_nil, or_false] at hv
     rcases hv with rfl | rfl <;> rfl
instance : Rec OpK := ⟨fun x => x.o.cells, 58, OpK.len, OpK.one⟩
theorem op_tx (x : OpK) : ∀ (i : Nat) (v : Value), x.o.tx.cells[i]? = some v → x.o.cells[1 + i]? = some v := fun i v h => by
 unfold OpJ.cells
 rw [Nat.add_comm 1 i, List.getElem?_cons_succ, List.getElem?_append_left (List.getElem?_eq_some_iff.1 h).1]; exact h
theorem op_end (x : OpK) : ∀ (i : Nat) (v : Value), [Value.int .i64 x.o.at_, .int .u64 x.o.pr][i]? = some v → x.o.cells[56 + i]? = some v := fun i v h => by
 unfold OpJ.cells
 rw [show 56 + i = (55 + i) + 1 by omega, List.getElem?_cons_succ, List.getElem?_append_right (by rw [x.tx.cellsLen]; omega), x.tx.cellsLen, show 55 + i - 22 = (32 + i) + 1 by omega, List.getElem?_cons_succ, List.getElem?_append_right (by rw [ints_length, x.idl]; omega), ints_length, x.idl, show 32 + i - 32 = i by omega]; exact h
/-- A number brought into 0 .. n - 1. -/
def arI (x n : Int) : Int := if n < 1 then 0 else (if x.tmod n < 0 then x.tmod n + n else x.tmod n)
theorem arI_bound {x n : Int} (h : 1 ≤ n) : 0 ≤ arI x n ∧ arI x n < n := by
 unfold arI
 rw [if_neg (by omega)]
 have h1 := Int.tmod_lt_of_pos x (show 0 < n by omega)
 have h2 := Int.lt_tmod_of_pos x (show 0 < n by omega)
 split <;> omega
section
variable {C : Cx} {F : Fx} {rs : List HP} {α : Type} [Rec α]
theorem rds_seen {b j : Nat} {l : List α} (s : Seen F.w F.h (some ⟨b, j, none⟩) (rc l)) : Rds C F rs ⟨b, j, none⟩ (rc l) := by
 have h := Rds.sn (C := C) (F := F) (rs := rs) (k := 0) (us := rc l) (Sn.old s) fun i v hv => by rw [Nat.zero_add]; exact hv
 exact h
end
/-- What is kept while a script of the outright statements is played. -/
def sightC (p q : Nat) (sv nv : Value) (a : Int) : List Value := [.pointer (some ⟨p, 0, none⟩), .pointer (some ⟨q, 0, none⟩), sv, nv, .int .i64 a]
theorem ar_ok {gl : Nat → Obj} (x n : Int) (h2 : n ≤ 4398046511104) : SpecV (cx gl) 39 [.int .i64 x, .int .i64 n] noPre (.int .i64 (arI x n)) := by
 refine Spec.enter (C := cx gl) Tryz.func39 rfl 17 rfl rfl fun w0 h0 hsep hsub hpre => ?_
 obtain rfl : h0 = Heap.none := hsep
 show St (cx gl) _ [(0, .int .i64 x), (1, .int .i64 n)] _ _
 refine rT (lA (k:=?_))
 refine L_nil (qT (rS (rT (lMv (k:=lP pLt (k:=?_))))))
 refine E_bool (t := 7) rfl (fun hn1 => ?_) (fun hn1 => ?_)
 ·skip
  have hn1 := of_decide_eq_true hn1
  refine lQ (cE 0 rfl (cE 1 rfl (cE 4 rfl (cE 7 rfl .nil)))) (kT (k:=rT (lA (k:=?_))))
  refine lQ (cE 0 rfl (cE 1 rfl (cE 4 rfl .nil))) (R_ret (Q_then_ret ?_))
  exact R_endV rfl rfl (.tmp rfl .nil) (by show Value.int .i64 _ = Value.int .i64 _; unfold arI; rw [if_pos hn1])
 ·skip
  have hn1 := of_decide_eq_false hn1
  have hlt := Int.tmod_lt_of_pos x (show 0 < n by omega)
  have hgt := Int.lt_tmod_of_pos x (show 0 < n by omega)
  refine lQ (cE 0 rfl (cE 1 rfl (cE 4 rfl (cE 7 rfl .nil)))) (kF (k:=R_skip (qT (rT (lMv (k:=lMv (k:=?_)))))))
  refine lP (P_rem rfl rfl rfl (by omega)) (k:=lA (k:=?_))
  refine lQ (cE 1 rfl (cE 4 rfl (cE 5 rfl .nil))) (rS (rT (lMv (k:=lP pLt (k:=?_)))))
  refine lQ (cE 1 rfl (cE 4 rfl (cE 5 rfl (cE 12 rfl .nil)))) ?_
  refine R_condP rfl (fun hy => ?_) (fun hy => ?_)
  ·skip
   refine rR (lMv (k:=lMv (k:=?_)))
   first | (refine L_val rfl rfl rfl (OpP.v (P_addN rfl rfl rfl (by simp only [fits]; omega))) ?_) | (refine L_val rfl rfl rfl (OpP.v (P_add rfl rfl rfl)) ?_)
   refine lA (k:=?_)
   refine lQ (cE 4 rfl (cE 5 rfl .nil)) (rT (lMv (k:=lA (k:=?_))))
   refine lQ (cE 4 rfl .nil) (R_ret ?_)
   exact R_endV rfl rfl (.tmp rfl .nil) (by show Value.int .i64 _ = Value.int .i64 _; unfold arI; rw [if_neg hn1]; first | rw [if_pos hy] | rw [if_neg hy])
  ·skip
   refine R_skip (qT (rT (lMv (k:=lA (k:=?_)))))
   refine lQ (cE 4 rfl .nil) (R_ret ?_)
   exact R_endV rfl rfl (.tmp rfl .nil) (by show Value.int .i64 _ = Value.int .i64 _; unfold arI; rw [if_neg hn1]; first | rw [if_pos hy] | rw [if_neg hy])
theorem state_ok {gl : Nat → Obj} (w p q : Nat) (sv : Value) (at_ : Int) (nb : Option Addr) (nc : Nat) (sts : List StK) (hnc : sts.length ≤ nc) (hns : sts.length ≤ 439804651110) (hat : AtOk sts at_) : SpecR (cx gl) 59 [.pointer (some ⟨w, 0, none⟩)] (fun wd hp => Seen wd hp nb (Go.Proofs.YtcngmkjdpoiiaaaGreatDoor.rc sts)) [blk w (sightC p q (sv) (.slice nb sts.length nc) (at_)) 135] (.agg (curS sts at_).j.cells.toArray) [blk w (sightC p q (sv) (.slice nb sts.length nc) (at_)) 135] := by
 refine Spec.enter (C := cx gl) Tryz.func59 rfl 20 rfl rfl fun w0 h0 hsep hsub hpre => ?_
 show St (cx gl) _ [(0, .pointer (some ⟨w, 0, none⟩))] _ _
 refine rT ?_
 refine lO (W_alloc rfl rfl rfl ty_ze_63 fun b2 => ?_)
 refine L_nil (qT (rS (rT (lMv (k:=lP pN (k:=lP (pF ty_fl_135_3) (k:=lV (vB ty_sc_95 .h1) (k:=lP (pL ty_sl_95) (k:=lP pEq (k:=?_))))))))))
 refine E_bool (t := 8) rfl (fun he => ?_) (fun he => ?_)
 ·skip
  have he : sts = [] := List.eq_nil_of_length_eq_zero (by have := of_decide_eq_true he; omega)
  have hcu : curS sts at_ = stz := by unfold curS; rw [he]; rfl
  refine lQ (cE 0 rfl (cE 2 rfl (cE 8 rfl .nil))) (kT (k:=rT ?_))
  refine lP (P_buildStruct rfl ty_pl_63 ty_ze_63 rfl rfl (rfl)) (k:=?_)
  refine E_as (t := 9) (v' := .agg stz.j.cells.toArray) rfl (rfl) ?_
  refine lO (W_storeAll rfl rfl rfl rfl ty_ag_63 (StJ.len stz.last) (StJ.one stz.last) .h0 (by rw [StJ.len stz.last]; rfl) ?_)
  refine lQ (cE 0 rfl (cE 2 rfl .nil)) (R_ret (Q_then_ret ?_))
  exact R_end (rs2 := _) rfl rfl (.cell rfl (Rds.loadVar ty_ag_63 (Rds.blk .h0) (StJ.len stz.last)) .nil) (⟨by rw [hcu]; rfl, rfl⟩) (Weak.drop (Weak.refl _))
 ·skip
  have he := of_decide_eq_false he
  have hlt : at_ < sts.length := hat.2.resolve_left (fun h9 => he (by rw [h9]; rfl))
  have hj := curS_at hat.1 hlt
  have hat0 := hat.1
  obtain ⟨pb, pj, rfl, hrow⟩ := hpre.row.some_ (by rw [rc_length]; show 0 < _ * 55; omega)
  refine lQ (cE 0 rfl (cE 2 rfl (cE 8 rfl .nil))) (kF (k:=R_skip (qT (rS ?_))))
  refine R_open [(0, 0), (1, 0), (2, 0), (3, 1), (4, 0), (5, 0), (6, 0), (7, 1), (8, 0), (9, 1), (10, 3)] mixed (by kernel_rfl) (QOk.then QOk.body) (oP rfl pM (k:=oP rfl pN (k:=oP rfl (pF ty_fl_135_3) (k:=oV rfl (vB ty_sc_95 .h1) (k:=oP rfl pM (k:=oP rfl pN (k:=oP rfl (pF ty_fl_135_4) (k:=oV rfl (vB ty_sc_3 .h1) (k:=?_)))))))))
  refine oP rfl (P_ixs (at_.toNat) rfl ty_sl_95 rfl rfl (by first | rfl | omega) (by omega)) (k:=?_)
  refine oV rfl (V_loadAgg rfl rfl ty_ag_63 (rds_rc (rds_seen hpre) hj) (StJ.len (curS sts at_).last)) (k:=?_)
  refine O_new rfl rfl (W_storeAll rfl rfl rfl rfl ty_ag_63 (StJ.len (curS sts at_).last) (StJ.one (curS sts at_).last) .h0 ((show (Rec.cells (curS sts at_)).length = 55 from StJ.len (curS sts at_).last).trans rfl) (K_new (O_nil ?_)))
  refine St.env (cE 2 rfl .nil) (qT (R_ret ?_))
  exact R_end (rs2 := _) rfl rfl (.cell rfl (Rds.loadVar ty_ag_63 (Rds.blk .h0) (StJ.len (curS sts at_).last)) .nil) (⟨rfl, rfl⟩) (Weak.drop (Weak.refl _))
theorem pnew_bad {gl : Nat → Obj} (n : Int) (h : n < 1 ∨ 65536 < n) : SpecV (cx gl) 32 [.int .i64 n] noPre (.tuple #[.pointer none, .int .i64 2]) := by
 refine Spec.enter (C := cx gl) Tryz.func32 rfl 15 rfl rfl fun w0 h0 hsep hsub hpre => ?_
 obtain rfl : h0 = Heap.none := hsep
 show St (cx gl) _ [(0, .int .i64 (n))] _ _
 refine rT (lA (k:=lA (k:=?_)))
 refine L_nil (qT (rS (rT (lMv (k:=lP pLt (k:=?_))))))
 refine E_bool (t := 5) rfl (fun h1 => ?_) (fun h1 => ?_)
 ·skip
  refine lMv (k:=lN (k:=lN (k:=lP pK (k:=?_))))
  refine lQ (cE 0 rfl (cE 2 rfl (cE 3 rfl (cE 9 rfl .nil)))) (kT (k:=rT (lA (k:=lA (k:=?_)))))
  refine lQ (cE 0 rfl (cE 2 rfl (cE 3 rfl .nil))) (R_ret (Q_then_ret ?_))
  exact R_endV rfl rfl (.tmp rfl (.tmp rfl .nil)) (rfl)
 ·skip
  have h1 := of_decide_eq_false h1
  refine lMv (k:=lMv (k:=lP pGt (k:=?_)))
  refine E_true (t := 8) rfl (decide_eq_true (by omega)) (lP pK (k:=?_))
  refine lQ (cE 0 rfl (cE 2 rfl (cE 3 rfl (cE 9 rfl .nil)))) (kT (k:=rT (lA (k:=lA (k:=?_)))))
  refine lQ (cE 0 rfl (cE 2 rfl (cE 3 rfl .nil))) (R_ret (Q_then_ret ?_))
  exact R_endV rfl rfl (.tmp rfl (.tmp rfl .nil)) (rfl)
theorem begun_ok {gl : Nat → Obj} (most : Int) (h1 : 1 ≤ most) (h2 : most ≤ 65536) (nb : Option Addr) (nc : Nat) (sts : List StK) (ov : Value) (hov : ov.oneCell' = true) : Spec (cx gl) 57 [.agg [.int .i64 most, .slice nb sts.length nc, ov].toArray] (fun _ _ => True) [] (fun v rs => ∃ w p q, v = .tuple #[.pointer (some ⟨w, 0, none⟩), .bool true] ∧ rs = [ownS 220 1 (.slice none 0 0) (([] : List (Int × Nat))).length (ptrs (([] : List (Int × Nat)))), POOL p most [], blk w (sightC p q (.slice none 0 0) (.slice nb sts.length nc) (0)) 135, REG q [] []]) := by
 refine Spec.enter (C := cx gl) Tryz.func57 rfl 37 rfl rfl fun w0 h0 hsep hsub hpre => ?_
 obtain rfl : h0 = Heap.none := hsep
 show St (cx gl) _ [(0, .agg [.int .i64 most, .slice nb sts.length nc, ov].toArray)] _ _
 refine rT ?_
 refine lO (W_box ([.int .i64 most, .slice nb sts.length nc, ov]) rfl rfl rfl rfl rfl fun b1 => lA (k:=lA (k:=?_)))
 refine lQ (cE 1 rfl (cE 2 rfl (cE 3 rfl .nil))) (rS ?_)
 refine R_open [(1, 0), (2, 1), (0, 2), (3, 0), (4, 2), (5, 0)] mixed (by kernel_rfl) (QOk.then QOk.body) (oP rfl (pF ty_fl_98_1) (k:=oV rfl (vB ty_sc_95 .h0) (k:=?_)))
 refine O_keep rfl rfl (W_call rfl rfl rfl rfl fn_ca_31 (snew_ok) (Split.nil _) (fun _ _ _ _ _ _ _ => trivial) fun v1 rs1 ⟨q, e1, e2⟩ => ?_)
 subst e1; subst e2
 refine K_keep (Weak.drop (Weak.refl _)) ?_
 refine oP rfl (P_buildStruct rfl ty_pl_135 ty_ze_135 rfl rfl (rfl)) (k:=?_)
 refine E_as (t := 10) (v' := .agg [.pointer none, .pointer (some ⟨q, 0, none⟩), .slice none 0 0, .slice nb sts.length nc, .int .i64 0].toArray) rfl (rfl) ?_
 refine O_keep rfl rfl (W_box ([.pointer none, .pointer (some ⟨q, 0, none⟩), .slice none 0 0, .slice nb sts.length nc, .int .i64 0]) rfl rfl rfl rfl rfl fun b11 => (K_keep (Weak.drop (Weak.refl _)) (oP rfl pA (k:=O_nil ?_))))
 refine St.env (cE 1 rfl (cE 2 rfl (cE 3 rfl (cE 4 rfl .nil)))) (qT (rT (lP (pF ty_fl_98_0) (k:=lV (vB ty_sc_3 .h2) (k:=?_)))))
 refine lO (W_call rfl rfl rfl rfl fn_ca_32 (pnew_ok most h1 h2) (Split.nil _) (fun _ _ _ _ _ _ _ => trivial) fun v2 rs2 ⟨p, e1, e2⟩ => ?_)
 subst e1; subst e2
 refine lMv (k:=lP pX (k:=lP pX (k:=lA (k:=lA (k:=?_)))))
 refine lQ (cE 2 rfl (cE 3 rfl (cE 4 rfl (cE 5 rfl (cE 6 rfl .nil))))) (rT (lMv (k:=lMv (k:=lP pN (k:=lP (pF ty_fl_135_0) (k:=?_))))))
 refine lO (W_store rfl rfl rfl rfl ty_sc_68 rfl .h1 (by first | decide | (simp [ints]; done) | (simp [ints]; omega)) ?_)
 refine lQ (cE 2 rfl (cE 3 rfl (cE 4 rfl (cE 5 rfl (cE 6 rfl .nil))))) (rT (lMv (k:=lMv (k:=?_))))
 refine lP (P_neNil rfl ty_ptr_68 rfl rfl) (k:=lMv (k:=lMv (k:=lP pN (k:=lP (pF ty_fl_135_1) (k:=lV (vB ty_sc_69 .h1) (k:=?_))))))
 refine lP (P_neNil rfl ty_ptr_69 rfl rfl) (k:=lP pK (k:=lMv (k:=lMv (k:=?_))))
 refine lO (W_callV rfl rfl rfl rfl fn_ca_33 (num_ok 0) (fun _ _ => trivial) (lP pEq (k:=?_)))
 refine E_true (t := 35) rfl (rfl) (lP pK (k:=lA (k:=lA (k:=?_))))
 refine lQ (cE 2 rfl (cE 3 rfl .nil)) (R_ret ?_)
 exact R_end (rs2 := _) rfl rfl (.tmp rfl (.tmp rfl .nil)) (⟨b11, p, q, rfl, rfl⟩) (Weak.trans (Weak.keep (Weak.keep (Weak.keep (Weak.nil _)))) (Weak.newNil (T := 220) (sz := 1)))
theorem begun_bad {gl : Nat → Obj} (most : Int) (hbad : most < 1 ∨ 65536 < most) (nb : Option Addr) (nc : Nat) (sts : List StK) (ov : Value) (hov : ov.oneCell' = true) : Spec (cx gl) 57 [.agg [.int .i64 most, .slice nb sts.length nc, ov].toArray] (fun _ _ => True) [] (fun v rs => ∃ w, v = .tuple #[.pointer (some ⟨w, 0, none⟩), .bool false] ∧ rs = []) := by
 refine Spec.enter (C := cx gl) Tryz.func57 rfl 37 rfl rfl fun w0 h0 hsep hsub hpre => ?_
 obtain rfl : h0 = Heap.none := hsep
 show St (cx gl) _ [(0, .agg [.int .i64 most, .slice nb sts.length nc, ov].toArray)] _ _
 refine rT ?_
 refine lO (W_box ([.int .i64 most, .slice nb sts.length nc, ov]) rfl rfl rfl rfl rfl fun b1 => lA (k:=lA (k:=?_)))
 refine lQ (cE 1 rfl (cE 2 rfl (cE 3 rfl .nil))) (rS ?_)
 refine R_open [(1, 0), (2, 1), (0, 2), (3, 0), (4, 2), (5, 0)] mixed (by kernel_rfl) (QOk.then QOk.body) (oP rfl (pF ty_fl_98_1) (k:=oV rfl (vB ty_sc_95 .h0) (k:=?_)))
 refine O_keep rfl rfl (W_call rfl rfl rfl rfl fn_ca_31 (snew_ok) (Split.nil _) (fun _ _ _ _ _ _ _ => trivial) fun v1 rs1 ⟨q, e1, e2⟩ => ?_)
 subst e1; subst e2
 refine K_keep (Weak.drop (Weak.refl _)) ?_
 refine oP rfl (P_buildStruct rfl ty_pl_135 ty_ze_135 rfl rfl (rfl)) (k:=?_)
 refine E_as (t := 10) (v' := .agg [.pointer none, .pointer (some ⟨q, 0, none⟩), .slice none 0 0, .slice nb sts.length nc, .int .i64 0].toArray) rfl (rfl) ?_
 refine O_keep rfl rfl (W_box ([.pointer none, .pointer (some ⟨q, 0, none⟩), .slice none 0 0, .slice nb sts.length nc, .int .i64 0]) rfl rfl rfl rfl rfl fun b11 => (K_keep (Weak.drop (Weak.refl _)) (oP rfl pA (k:=O_nil ?_))))
 refine St.env (cE 1 rfl (cE 2 rfl (cE 3 rfl (cE 4 rfl .nil)))) (qT (rT (lP (pF ty_fl_98_0) (k:=lV (vB ty_sc_3 .h2) (k:=?_)))))
 refine lO (W_callV rfl rfl rfl rfl fn_ca_32 (pnew_bad most hbad) (fun _ _ => trivial) (lMv (k:=lP pX (k:=lP pX (k:=lA (k:=lA (k:=?_)))))))
 refine lQ (cE 2 rfl (cE 3 rfl (cE 4 rfl (cE 5 rfl (cE 6 rfl .nil))))) (rT (lMv (k:=lMv (k:=lP pN (k:=lP (pF ty_fl_135_0) (k:=?_))))))
 refine lO (W_store rfl rfl rfl rfl ty_sc_68 rfl .h0 (by first | decide | (simp [ints]; done) | (simp [ints]; omega)) ?_)
 refine lQ (cE 2 rfl (cE 3 rfl (cE 4 rfl (cE 5 rfl (cE 6 rfl .nil))))) (rT (lMv (k:=lMv (k:=?_))))
 refine lP (P_neNil0 rfl ty_ptr_68 rfl rfl) (k:=lMv (k:=lN (k:=lN (k:=lN (k:=lN (k:=lN (k:=lP pK (k:=lMv (k:=lN (k:=lN (k:=lN (k:=lP pK (k:=lA (k:=lA (k:=?_)))))))))))))))
 refine lQ (cE 2 rfl (cE 3 rfl .nil)) (R_ret ?_)
 exact R_end (rs2 := _) rfl rfl (.tmp rfl (.tmp rfl .nil)) (⟨_, rfl, rfl⟩) (Weak.nil _)
end Go.Proofs.YtcngmkjdpoiiaaaGreatDoor

/- How plays are read. Printed by gen.py. -/
set_option maxRecDepth 100000
namespace Go.Proofs.YtcngmkjdpoiiaaaGreatDoor
open Go Go.RowKit Go.ChangeShapes Go.WideShapes Go.Proofs
theorem cells_op : Tryz.prog.cellsOf 110 = 58 := by kernel_rfl
theorem bytes_op : Tryz.prog.bytesOf 110 = 128 := by kernel_rfl
theorem bytes_st : Tryz.prog.bytesOf 63 = 320 := by kernel_rfl
theorem cells_pl : Tryz.prog.cellsOf 98 = 3 := by kernel_rfl
theorem fs_op : fsB Tryz.prog 110 [(3, 0, 1), (67, 1, 22), (3, 23, 1), (40, 24, 32), (3, 56, 1), (26, 57, 1)] = true := by kernel_rfl
theorem fs_pl : fsB Tryz.prog 98 [(3, 0, 1), (95, 1, 1), (96, 2, 1)] = true := by kernel_rfl
structure OpJ.ok (o : OpJ) : Prop where
 tx : o.tx.ok
 idb : IsB o.id
 idl : o.id.length = 32
 pr : u64 o.pr
def opOf (a : Int × Tx × Int × List Int × Int × Int × Unit) : OpJ := ⟨a.1, a.2.1, a.2.2.1, a.2.2.2.1, a.2.2.2.2.1, a.2.2.2.2.2.1⟩
def rd_op := PLift.up (Reads.as (cells' := OpJ.cells) (Hd' := fun _ o => o.ok) (bulk' := fun _ => 1) (Small' := fun _ => True) opOf (Reads.struct fs_op cells_op (ReadsF.cons (Reads.int ty_int_3) (ReadsF.cons rd_tx.down (ReadsF.cons (Reads.int ty_int_3) (ReadsF.cons (Reads.ints (k := .u8) ty_un_40 ty_int_5 cells_u8 cells_hs) (ReadsF.cons (Reads.int ty_int_3) (ReadsF.cons (Reads.int ty_int_26) ReadsF.nil))))))) (fun a => by simp [OpJ.cells, opOf]) (fun W a h => by
 obtain ⟨⟨_, ⟨h1, _⟩, _, ⟨⟨h3, h4⟩, _⟩, _, ⟨h5, _⟩, _⟩, _⟩ := h
 exact ⟨h1, fun z hz => by have := h4 z hz; simp only [fits] at this; omega, h3, fits64 h5⟩) (fun _ => by omega) (fun a h => trivial))
def rd_ops := PLift.up (Reads.slice ty_sl_96 cells_op bytes_op (fun _ => .inr trivial) rd_op.down)
def rd_sts := PLift.up (Reads.slice ty_sl_95 cells_st bytes_st (fun _ => .inr trivial) rd_st.down)
/-- A play, as it is read. -/
structure PlayJ where
 most : Int
 s : Sl StJ
 o : Sl OpJ
def PlayJ.cells (x : PlayJ) : List Value := [.int .i64 x.most, x.s.val, x.o.val]
def playOf (a : Int × Sl StJ × Sl OpJ × Unit) : PlayJ := ⟨a.1, a.2.1, a.2.2.1⟩
structure PlayJ.ok (W : World) (x : PlayJ) : Prop where
 hs : x.s.xs.length ≤ x.s.c
 ho : x.o.xs.length ≤ x.o.c
 rs : Row W x.s.b (x.s.xs.flatMap StJ.cells)
 ro : Row W x.o.b (x.o.xs.flatMap OpJ.cells)
 st : ∀ y ∈ x.s.xs, y.ok W
 op : ∀ y ∈ x.o.xs, y.ok
def PlayJ.small (x : PlayJ) : Prop := (x.s.xs.length * 320 ≤ reachBytes ∧ ∀ y ∈ x.s.xs, y.l.s.xs.length * 40 ≤ reachBytes ∧ y.l.r.xs.length * 32 ≤ reachBytes) ∧ x.o.xs.length * 128 ≤ reachBytes
/-- States whose cells are as many as they are. -/
theorem sts_of {W : World} : ∀ {xs : List StJ}, (∀ x ∈ xs, x.ok W) → (∀ y ∈ xs, y.l.s.xs.length * 40 ≤ reachBytes ∧ y.l.r.xs.length * 32 ≤ reachBytes) → ∃ sts : List StK, sts.length = xs.length ∧ rc sts = xs.flatMap StJ.cells ∧ ∀ s ∈ sts, s.in_ W
 | [], _, _ => ⟨[], rfl, rfl, fun _ h => (nomatch h)⟩
 | x :: xs, h, hs => by
  obtain ⟨sts, e1, e2, e3⟩ := sts_of (xs := xs) (fun y hy => h y (List.mem_cons_of_mem _ hy)) fun y hy => hs y (List.mem_cons_of_mem _ hy)
  obtain ⟨g1, g2, g3, g4, ⟨q1, q2, q3, q4, q5, q6, q7, q8⟩⟩ := h x (List.mem_cons_self ..)
  obtain ⟨m1, m2⟩ := hs x (List.mem_cons_self ..)
  simp only [reachBytes] at m1 m2
  refine ⟨⟨x, g1, g2, g3, g4, q1, q2, q5, q6, q7, q8, by omega, by omega⟩ :: sts, by simp [e1], ?_, fun s hs => ?_⟩
  ·rw [List.flatMap_cons, ← e2]; rfl
  ·rcases List.mem_cons.1 hs with rfl | hs
   ·exact ⟨q3, q4⟩
   ·exact e3 s hs
theorem ops_of : ∀ {xs : List OpJ}, (∀ x ∈ xs, x.ok) → ∃ ops : List OpK, ops.length = xs.length ∧ rc ops = xs.flatMap OpJ.cells
 | [], _ => ⟨[], rfl, rfl⟩
 | x :: xs, h => by
  obtain ⟨ops, e1, e2⟩ := ops_of (xs := xs) fun y hy => h y (List.mem_cons_of_mem _ hy)
  have hx := h x (List.mem_cons_self ..)
  refine ⟨⟨x, hx.tx, hx.idb, hx.idl, hx.pr⟩ :: ops, by simp [e1], ?_⟩
  rw [List.flatMap_cons, ← e2]; rfl
end Go.Proofs.YtcngmkjdpoiiaaaGreatDoor

/- How plays are read, their bulk at hand. Printed by gen.py. -/
set_option maxRecDepth 100000
namespace Go.Proofs.YtcngmkjdpoiiaaaGreatDoor
open Go Go.RowKit Go.ChangeShapes Go.WideShapes Go.Proofs
theorem sum_ones9 {α : Type} (l : List α) : (l.map fun _ => 1).sum = l.length := by
 induction l with
 | nil => rfl
 | cons _ l ih => simp only [List.map_cons, List.sum_cons, List.length_cons, ih]; omega
def rd_playB := PLift.up (Reads.as (cells' := PlayJ.cells) (Hd' := PlayJ.ok) (bulk' := fun x => x.o.xs.length) (Small' := PlayJ.small) playOf (Reads.struct fs_pl cells_pl (ReadsF.cons (Reads.int ty_int_3) (ReadsF.cons rd_sts.down (ReadsF.cons rd_ops.down ReadsF.nil)))) (fun _ => rfl) (fun W a h => by
 obtain ⟨⟨_, ⟨⟨h1, _, h2, h3⟩, _⟩, ⟨⟨h4, _, h5, h6⟩, _⟩, _⟩, _⟩ := h
 exact ⟨h1, h4, h2, h5, fun y hy => (h3 y hy).1, fun y hy => (h6 y hy).1⟩) (fun a => by
 show a.2.2.1.xs.length ≤ 1 + (((a.2.1.xs.map fun _ => 1).sum + 1) + (((a.2.2.1.xs.map fun _ => 1).sum + 1) + _)) + 1
 rw [sum_ones9, sum_ones9]; omega) (fun a h => ⟨h.2.1, h.2.2.1.1⟩))
end Go.Proofs.YtcngmkjdpoiiaaaGreatDoor

/- A pool: Add. Printed by gen.py. -/
set_option maxRecDepth 100000
namespace Go.Proofs.YtcngmkjdpoiiaaaGreatDoor
open Go Go.RowKit Go.Proofs
theorem lasts_ex (V : List TxR) : ∃ L, Lasts V L := by
 have key : ∀ n (V : List TxR), V.length = n → ∃ L, Lasts V L := by
  intro n
  induction n with
  | zero => intro V h; rw [List.length_eq_zero_iff.1 h]; exact ⟨[], Lasts.nil⟩
  | succ n ih =>
   intro V h
   obtain ⟨W, x, rfl⟩ : ∃ W x, V = W ++ [x] := ⟨V.dropLast, V.getLast (by intro e; rw [e] at h; cases h), (List.dropLast_concat_getLast _).symm⟩
   obtain ⟨L, d⟩ := ih W (by simpa using h)
   by_cases hx : ∃ y ∈ L, y.t.frm = x.t.frm ∧ ¬ y.t.non < x.t.non
   ·obtain ⟨y, hy, e, hn⟩ := hx
    exact ⟨L, d.keep hy e hn⟩
   ·exact ⟨_, d.put fun y hy e => Classical.byContradiction fun hn => hx ⟨y, hy, e, hn⟩⟩
 exact key _ V rfl
theorem least_ex (V : List TxR) : ∃ c, Least V c := by
 have key : ∀ n (V : List TxR), V.length = n → ∃ c, Least V c := by
  intro n
  induction n with
  | zero => intro V h; exact ⟨none, List.length_eq_zero_iff.1 h⟩
  | succ n ih =>
   intro V h
   obtain ⟨W, x, rfl⟩ : ∃ W x, V = W ++ [x] := ⟨V.dropLast, V.getLast (by intro e; rw [e] at h; cases h), (List.dropLast_concat_getLast _).symm⟩
   obtain ⟨c, d⟩ := ih W (by simpa using h)
   cases c with
   | none =>
    have d : W = [] := d
    subst d
    exact ⟨some x, Least.first x⟩
   | some c =>
    by_cases hx : 0 < cmpT x.t c.t
    ·exact ⟨_, d.take hx⟩
    ·exact ⟨_, d.keep hx⟩
 exact key _ V rfl
theorem cheap_ex {H : List TxR} (hP : PoolOk H) (but : Int) : ∃ c, CheapOf H but c := by
 obtain ⟨L, d⟩ := lasts_ex H
 obtain ⟨c, h⟩ := least_ex (noOf but L)
 exact ⟨c, cheap_best hP d (mem_noOf d.one but) (fun _ => Iff.rfl) h⟩
theorem cheap_one {H : List TxR} (hP : PoolOk H) {but : Int} : ∀ {c c' : Option TxR}, CheapOf H but c → CheapOf H but c' → c' = c
 | none, none, _, _ => rfl
 | none, some c', h, h' => absurd (h c' h'.1) h'.2.1
 | some c, none, h, h' => absurd (h' c h.1) h.2.1
 | some c, some c', ⟨h1, h2, h3, h4⟩, ⟨g1, g2, g3, g4⟩ => by
  have a := h4 c' g1 g2 g3
  have b := g4 c h1 h2 h3
  rw [cmpT_le] at a b
  rw [nodup_inj hP.keys g1 h1 (Prod.ext (by show c'.t.frm = c.t.frm; omega) (by show c'.t.non = c.t.non; omega))]
/-- What Add answers. -/
def addE (rc : List Rcd) (ch : List Int) (H : List TxR) (l : List Acc) (most : Int) (x : TxR) (c : Option TxR) : Int :=
 if addE0 rc ch H l x ≠ 0 then addE0 rc ch H l x else if (heldAt H (keyT x)).isSome = true ∨ (H.length : Int) < most then 0 else match c with
  | none => 94
  | some c => if x.t.fee ≤ c.t.fee then 94 else 0
def addH (rc : List Rcd) (ch : List Int) (H : List TxR) (l : List Acc) (most : Int) (x : TxR) (c : Option TxR) : List TxR :=
 if addE rc ch H l most x c ≠ 0 then H else if (heldAt H (keyT x)).isSome = true ∨ (H.length : Int) < most then putH x H else match c with
  | none => H
  | some c => putH x (dropH (keyT c) H)
section
variable {rc : List Rcd} {ch : List Int} {H : List TxR} {l : List Acc} {most : Int} {x : TxR} {c : Option TxR}
theorem addE_no (h : addE rc ch H l most x c ≠ 0) : addH rc ch H l most x c = H := if_pos h
theorem addE_first {e : Int} (h : addE0 rc ch H l x = e) (he : e ≠ 0) : addE rc ch H l most x c = e ∧ addH rc ch H l most x c = H := by
 have h1 : addE rc ch H l most x c = e := by unfold addE; rw [if_pos (by rw [h]; exact he), h]
 exact ⟨h1, addE_no (by rw [h1]; exact he)⟩
theorem addE_room (h : addE0 rc ch H l x = 0) (hr : (heldAt H (keyT x)).isSome = true ∨ (H.length : Int) < most) : addE rc ch H l most x c = 0 ∧ addH rc ch H l most x c = putH x H := by
 have h1 : addE rc ch H l most x c = 0 := by unfold addE; rw [if_neg (by rw [h]; simp), if_pos hr]
 exact ⟨h1, by unfold addH; rw [if_neg (by rw [h1]; simp), if_pos hr]⟩
theorem addE_low (h : addE0 rc ch H l x = 0) (hr : ¬ ((heldAt H (keyT x)).isSome = true ∨ (H.length : Int) < most)) (hl : ∀ c0, c = some c0 → x.t.fee ≤ c0.t.fee) : addE rc ch H l most x c = 94 ∧ addH rc ch H l most x c = H := by
 have h1 : addE rc ch H l most x c = 94 := by
  unfold addE; rw [if_neg (by rw [h]; simp), if_neg hr]
  cases c with
  | none => rfl
  | some c0 => exact if_pos (hl c0 rfl)
 exact ⟨h1, addE_no (by rw [h1]; decide)⟩
theorem addE_put (h : addE0 rc ch H l x = 0) (hr : ¬ ((heldAt H (keyT x)).isSome = true ∨ (H.length : Int) < most)) {c0 : TxR} (hc : c = some c0) (hl : ¬ x.t.fee ≤ c0.t.fee) : addE rc ch H l most x c = 0 ∧ addH rc ch H l most x c = putH x (dropH (keyT c0) H) := by
 subst hc
 have h1 : addE rc ch H l most x (some c0) = 0 := by
  unfold addE; rw [if_neg (by rw [h]; simp), if_neg hr]; exact if_neg hl
 exact ⟨h1, by unfold addH; rw [if_neg (by rw [h1]; simp), if_neg hr]⟩
end
set_option maxHeartbeats 1000000 in
theorem padd_ok {gl : Nat → Obj} (hG : Globs gl) (p : Nat) (most : Int) (H : List TxR) (hP : PoolOk H) (q : Nat) (sg : List (Int × Nat)) (rc : List Rcd) (base : Option Addr) (c : Nat) (l : List Acc) (hc : l.length ≤ c) (hm : l.length ≤ 5000000000000)(hok : ∀ x ∈ l, x.ok) (v : Value) (hv : v.oneCell' = true) (s : StR) (hcb : IsB s.ch) (x : TxR) (cp : Option TxR) (hC : CheapOf H x.t.frm cp) : SpecR (cx gl) 35 [.pointer (some ⟨p, 0, none⟩), .agg (s.cells (.slice base l.length c) v).toArray, .pointer (some ⟨q, 0, none⟩), .agg x.t.cells.toArray] (fun w hp => Seen w hp base (Go.Proofs.YtcngmkjdpoiiaaaGreatDoor.rc l)) [POOL p most (H), REG q sg rc] (.int .i64 (addE rc s.ch H l most x cp)) [POOL p most ((addH rc s.ch H l most x cp)), REG q sg rc] := by
 refine Spec.enter (C := cx gl) Tryz.func35 rfl 87 rfl rfl fun w0 h0 hsep hsub hpre => ?_
 show St (cx gl) _ [(0, .pointer (some ⟨p, 0, none⟩)), (1, .agg (s.cells (.slice base l.length c) v).toArray), (2, .pointer (some ⟨q, 0, none⟩)), (3, .agg x.t.cells.toArray)] _ _
 refine St.openP [] fun ⟨mh, mi⟩ _ => ?_
 refine St.unbundle [] (rT ?_)
 refine lO (W_box ((s.cells (.slice base l.length c) v)) rfl rfl rfl rfl rfl fun b5 => ?_)
 refine lO (W_box (x.t.cells) rfl rfl rfl rfl rfl fun b7 => lA (k:=?_))
 refine lQ (cE 0 rfl (cE 2 rfl (cE 5 rfl (cE 7 rfl (cE 8 rfl .nil))))) (rS (rS ?_))
 refine St.res (rs' := [blk p (poolC mh mi most) 78, mapK rec2K mh (hM (H)), mapK iK mi (iM (H)), REG q sg rc, blk b7 x.t.cells 67, blk b5 (s.cells (.slice base l.length c) v) 63]) (Weak.pick (p := [_, _]) (Weak.pick (p := [_, _]) (Weak.pick (p := [_, _]) (Weak.pick (p := [_, _]) (Weak.keep (Weak.keep (Weak.nil _))))))) (rR (lMv (k:=?_)))
 refine lO (W_callR rfl rfl rfl rfl fn_ca_109 (pmissing_ok p mh mi most) (Split.one (p := [])) (fun _ _ _ _ _ _ _ => trivial) ?_)
 refine E_false (t := 16) rfl (rfl) (lMv (k:=lMv (k:=?_)))
 refine lO (W_callR rfl rfl rfl rfl fn_ca_110 (unmade_ok q sg rc) (Weak.pick (p := [_, _, _]) (Weak.keep (Weak.keep (Weak.keep (Weak.keep (Weak.keep (Weak.nil _))))))) (fun _ _ _ _ _ _ _ => trivial) ?_)
 refine E_false (t := 19) rfl (rfl) (lP pK (k:=?_))
 refine lQ (cE 0 rfl (cE 2 rfl (cE 5 rfl (cE 7 rfl (cE 8 rfl (cE 20 rfl .nil)))))) (kF (k:=R_skip (qT (rS (rS ?_)))))
 refine St.res (rs' := [POOL p most (H), REG q sg rc, blk b7 x.t.cells 67, blk b5 (s.cells (.slice base l.length c) v) 63]) (Weak.trans (Weak.pick (p := [_]) (Weak.pick (p := [_]) (Weak.pick (p := [_]) (Weak.keep (Weak.keep (Weak.keep (Weak.nil _))))))) (pool_close (rs := [_, _, _]))) (rR (lMv (k:=?_)))
 refine lV (V_loadAgg rfl rfl ty_ag_63 (Rds.blk .h3) (s.len _ _)) (k:=lMv (k:=?_))
 refine lV (V_loadAgg rfl rfl ty_ag_67 (Rds.blk .h2) (x.ok.cellsLen)) (k:=?_)
 refine lO (W_callR rfl rfl rfl rfl fn_ca_111 (plook_ok hG p most H q sg rc s hcb (.slice base l.length c) v x) (Weak.refl _) (fun _ _ _ _ _ _ _ => trivial) (lA (k:=?_)))
 refine lQ (cE 0 rfl (cE 5 rfl (cE 7 rfl (cE 8 rfl (cE 9 rfl .nil))))) (rT (lMv (k:=lP pNe (k:=?_))))
 refine lQ (cE 0 rfl (cE 5 rfl (cE 7 rfl (cE 8 rfl (cE 9 rfl (cE 27 rfl .nil)))))) ?_
 refine R_condP rfl (fun h1 => ?_) (fun h1 => ?_)
 ·skip
  have ha9 := addE_first (most := most) (c := cp) (show addE0 rc s.ch H l x = lookE rc s.ch H x.t from if_pos h1) h1
  refine rT (lMv (k:=lA (k:=?_)))
  refine lQ (cE 0 rfl (cE 5 rfl (cE 7 rfl (cE 8 rfl .nil)))) (R_ret (Q_then_ret ?_))
  exact R_end (rs2 := _) rfl rfl (.tmp rfl .nil) (⟨by rw [ha9.1]; rfl, rfl⟩) (by rw [ha9.2]; exact Weak.keep (Weak.keep (Weak.nil _)))
 ·skip
  have h1 : lookE rc s.ch H x.t = 0 := Classical.not_not.1 h1
  obtain ⟨hpx, htx, hsx, hid⟩ := lookFine_of h1
  refine R_skip (qT (rS (rT (lMv (k:=?_)))))
  refine lV (V_loadAgg rfl rfl ty_ag_63 (Rds.blk .h3) (s.len _ _)) (k:=?_)
  refine lV (V_loadAgg rfl rfl ty_ag_67 (Rds.blk .h2) (x.ok.cellsLen)) (k:=?_)
  refine lO (W_callR rfl rfl rfl rfl fn_ca_112 (pfits_ok p most H hP base c l hc hm hok v hv s x hpx) (Split.one (p := [])) (Sn.pre (Sn.old hpre)) (lA (k:=?_)))
  refine lQ (cE 0 rfl (cE 7 rfl (cE 8 rfl (cE 10 rfl .nil)))) (rT (lMv (k:=lP pNe (k:=?_))))
  refine lQ (cE 0 rfl (cE 7 rfl (cE 8 rfl (cE 10 rfl (cE 34 rfl .nil))))) ?_
  refine R_condP rfl (fun h2 => ?_) (fun h2 => ?_)
  ·skip
   have ha9 := addE_first (most := most) (c := cp) (show addE0 rc s.ch H l x = fitE H l x by unfold addE0; rw [if_neg (by rw [h1]; simp), if_pos h2]) h2
   refine rT (lMv (k:=lA (k:=?_)))
   refine lQ (cE 0 rfl (cE 7 rfl (cE 8 rfl .nil))) (R_ret (Q_then_ret ?_))
   exact R_end (rs2 := _) rfl rfl (.tmp rfl .nil) (⟨by rw [ha9.1]; rfl, rfl⟩) (by rw [ha9.2]; exact Weak.keep (Weak.keep (Weak.nil _)))
  ·skip
   have h2 : fitE H l x = 0 := Classical.not_not.1 h2
   refine R_skip (qT ?_)
   refine R_joinE (G := List TxR) (cE 0 rfl (cE 7 rfl (cE 8 rfl .nil))) (fun g => []) (fun g => [POOL p most (g), REG q sg rc, blk b7 x.t.cells 67, blk b5 (s.cells (.slice base l.length c) v) 63]) (fun g => addE rc s.ch H l most x cp = 0 ∧ (addH rc s.ch H l most x cp) = putH x g ∧ PoolOk g ∧ hasId g (idH x.t) = false) ?_ ?_
   ·skip
    refine rS ?_
    refine St.openP [] fun ⟨mh, mi⟩ _ => ?_
    refine St.unbundle [] ?_
    refine R_open [(0, 0), (1, 0), (2, 0), (3, 1), (4, 0), (5, 1), (6, 0), (7, 1), (8, 0), (9, 1), (10, 0), (11, 0), (12, 0), (13, 2), (14, 3), (15, 0)] mixed (by kernel_rfl) (QOk.then (QOk.then QOk.body)) (oP rfl pM (k:=oP rfl pN (k:=oP rfl (pF ty_fl_78_1) (k:=oV rfl (vB ty_sc_75 .h0) (k:=oP rfl (pF ty_fl_67_1) (k:=oV rfl (vB ty_sc_26 .h4) (k:=oP rfl (pF ty_fl_67_5) (k:=oV rfl (vB ty_sc_23 .h4) (k:=?_)))))))))
    refine oP rfl (P_buildStruct rfl ty_pl_207 ty_ze_207 rfl rfl (rfl)) (k:=?_)
    refine E_as (t := 45) (v' := rec2K (keyT x)) rfl (rfl) ?_
    refine oV rfl (V_lookupK (k := keyT x) rfl ty_map_75 (keyRec2 rec2_key) rfl rfl (trivial) (fun _ _ => trivial) .h1 (run_zeroValue_of ty_zv_67)) (k:=oP rfl pM (k:=?_))
    refine E_as (t := 36) (v' := .tuple #[.agg ((heldAt H (keyT x)).getD txrz).t.cells.toArray, .bool (heldAt H (keyT x)).isSome]) rfl (by rw [look_held]) (oP rfl pX (k:=oP rfl pX (k:=?_)))
    refine O_keep rfl rfl (W_alloc rfl rfl rfl ty_ze_67 fun b11 => (K_keep (Weak.drop (Weak.refl _)) ?_))
    refine O_new rfl rfl (W_storeAll rfl rfl rfl rfl ty_ag_67 (((heldAt H (keyT x)).getD txrz).ok.cellsLen) (Tx.one _) .h0 (((heldAt H (keyT x)).getD txrz).ok.cellsLen) (K_new (oP rfl pA (k:=O_nil ?_))))
    refine St.env (cE 0 rfl (cE 7 rfl (cE 8 rfl (cE 11 rfl (cE 12 rfl .nil))))) (qT (rT (lMv (k:=?_))))
    refine lQ (cE 0 rfl (cE 7 rfl (cE 8 rfl (cE 11 rfl (cE 49 rfl .nil))))) ?_
    refine R_cond rfl (fun hs => ?_) (fun hs => ?_)
    ·skip
     obtain ⟨y, hy⟩ := Option.isSome_iff_exists.1 hs
     refine rT (lP (pF ty_fl_67_4) (k:=lV (vB ty_sc_23 .h5) (k:=lP (pF ty_fl_67_4) (k:=lV (vB ty_sc_23 .h0) (k:=?_)))))
     refine E_as (t := 53) (v' := .int .u64 (y.t.fee)) rfl (by rw [hy]; rfl) (lP pLe (k:=?_))
     refine lQ (cE 0 rfl (cE 7 rfl (cE 8 rfl (cE 54 rfl .nil)))) ?_
     refine R_condP rfl (fun h3 => ?_) (fun h3 => ?_)
     ·skip
      have ha9 := addE_first (most := most) (c := cp) (show addE0 rc s.ch H l x = 94 by unfold addE0; rw [if_neg (by rw [h1]; simp), if_neg (by rw [h2]; simp), if_pos ⟨hs, by rw [hy]; exact h3⟩]) (by decide)
      refine rT (lA (k:=?_))
      refine lQ (cE 0 rfl (cE 7 rfl (cE 8 rfl .nil))) (R_ret (Q_then_ret ?_))
      exact R_end (rs2 := _) rfl rfl (.tmp rfl .nil) (⟨by rw [ha9.1]; rfl, rfl⟩) (by rw [ha9.2]; exact Weak.trans (Weak.pick (p := [_]) (Weak.pick (p := [_]) (Weak.pick (p := [_]) (Weak.pick (p := [_]) (Weak.nil _))))) (pool_close (rs := [_])))
     ·skip
      refine R_skip ?_
      exact Q_meet (H) (by show addE rc s.ch H l most x cp = 0 ∧ (addH rc s.ch H l most x cp) = putH x (H) ∧ PoolOk (H) ∧ hasId (H) (idH x.t) = false; exact ⟨(addE_room (most := most) (c := cp) (by unfold addE0; rw [if_neg (by rw [h1]; simp), if_neg (by rw [h2]; simp)]; exact if_neg (by rintro ⟨_, h9⟩; rw [hy] at h9; exact h3 h9)) (.inl hs)).1, (addE_room (most := most) (c := cp) (by unfold addE0; rw [if_neg (by rw [h1]; simp), if_neg (by rw [h2]; simp)]; exact if_neg (by rintro ⟨_, h9⟩; rw [hy] at h9; exact h3 h9)) (.inl hs)).2, hP, hid⟩) (by repeat (first | exact .nil | refine .cons rfl ?_ | refine .consE rfl (by first | rfl | (congr 1; omega) | (congr 1; push_cast; omega)) ?_)) (Weak.trans (Weak.pick (p := [_]) (Weak.pick (p := [_]) (Weak.pick (p := [_]) (Weak.pick (p := [_]) (Weak.pick (p := [_]) (Weak.pick (p := [_]) (Weak.nil _))))))) (pool_close (rs := [_, _, _])))
    ·skip
     have hs : (heldAt H (keyT x)).isSome = false := hs
     have ha0 : addE0 rc s.ch H l x = 0 := (by unfold addE0; rw [if_neg (by rw [h1]; simp), if_neg (by rw [h2]; simp)]; exact if_neg (by rintro ⟨h9, _⟩; rw [hs] at h9; cases h9))
     refine rS ?_
     refine R_open [(0, 0), (1, 0), (2, 0), (3, 1), (4, 1), (5, 0), (6, 0), (7, 0), (8, 1), (9, 0)] mixed (by kernel_rfl) (QOk.then (QOk.then QOk.body)) (oP rfl pM (k:=oP rfl pN (k:=oP rfl (pF ty_fl_78_1) (k:=oV rfl (vB ty_sc_75 .h1) (k:=?_)))))
     refine oV rfl (V_lenMapK rfl ty_map_75 rfl .h2) (k:=oP rfl pM (k:=oP rfl pN (k:=oP rfl (pF ty_fl_78_0) (k:=oV rfl (vB ty_sc_3 .h1) (k:=oP rfl pGe (k:=O_nil ?_))))))
     refine St.env (cE 0 rfl (cE 7 rfl (cE 8 rfl (cE 64 rfl .nil)))) (qT ?_)
     refine R_condP rfl (fun h4 => ?_) (fun h4 => ?_)
     ·skip
      have hnr : ¬ ((heldAt H (keyT x)).isSome = true ∨ (H.length : Int) < most) := fun h9 => h9.elim (fun h8 => by rw [hs] at h8; cases h8) (fun h8 => by rw [hM_len] at h4; omega)
      refine rS ?_
      refine St.res (rs' := [POOL p most (H), REG q sg rc, blk b7 x.t.cells 67, blk b5 (s.cells (.slice base l.length c) v) 63]) (Weak.trans (Weak.pick (p := [_]) (Weak.pick (p := [_]) (Weak.pick (p := [_]) (Weak.pick (p := [_]) (Weak.pick (p := [_]) (Weak.pick (p := [_]) (Weak.nil _))))))) (pool_close (rs := [_, _, _]))) (rR (lMv (k:=lP (pF ty_fl_67_1) (k:=lV (vB ty_sc_26 .h2) (k:=?_)))))
      refine lO (W_call rfl rfl rfl rfl fn_ca_113 (cheap_ok p most H hP x.t.frm) (Split.nil _) (fun _ _ _ _ _ _ _ => trivial) fun v1 rs1 ⟨c1, hc1, e1, e2⟩ => ?_)
      subst e1; subst e2
      obtain rfl : cp = c1 := (cheap_one hP hC hc1).symm
      refine lMv (k:=lP pX (k:=lP pX (k:=?_)))
      refine lO (W_alloc rfl rfl rfl ty_ze_67 fun b13 => ?_)
      refine lO (W_storeAll rfl rfl rfl rfl ty_ag_67 ((cp.getD txrz).ok.cellsLen) (Tx.one _) .h0 ((cp.getD txrz).ok.cellsLen) (lA (k:=?_)))
      refine lQ (cE 0 rfl (cE 7 rfl (cE 8 rfl (cE 13 rfl (cE 14 rfl .nil))))) (rS (rT (lMv (k:=lP pO (k:=lMv (k:=?_))))))
      refine E_bool (t := 74) rfl (fun hn => ?_) (fun hn => ?_)
      ·skip
       have hlow : ∀ c0, cp = some c0 → x.t.fee ≤ c0.t.fee := fun c0 h9 => by rw [h9] at hn; cases hn
       refine lN (k:=lN (k:=lN (k:=lN (k:=lN (k:=lP pK (k:=?_))))))
       refine lQ (cE 0 rfl (cE 7 rfl (cE 8 rfl (cE 13 rfl (cE 80 rfl .nil))))) (kT (k:=rT (lA (k:=?_))))
       refine lQ (cE 0 rfl (cE 7 rfl (cE 8 rfl (cE 13 rfl .nil)))) (R_ret (Q_then_ret (Q_then_ret ?_)))
       exact R_end (rs2 := _) rfl rfl (.tmp rfl .nil) (⟨by rw [(addE_low ha0 hnr hlow).1]; rfl, rfl⟩) (by rw [(addE_low ha0 hnr hlow).2]; exact Weak.pick (p := [_]) (Weak.pick (p := [_]) (Weak.nil _)))
      ·skip
       obtain ⟨c0, hc9⟩ : ∃ c0, cp = some c0 := by cases cp with | none => cases hn | some x => exact ⟨x, rfl⟩
       have hcm : c0 ∈ H := by rw [hc9] at hC; exact hC.1
       refine lP (pF ty_fl_67_4) (k:=lV (vB ty_sc_23 .h3) (k:=lP (pF ty_fl_67_4) (k:=lV (vB ty_sc_23 .h0) (k:=?_))))
       refine E_as (t := 78) (v' := .int .u64 (c0.t.fee)) rfl (by rw [hc9]; rfl) (lP pLe (k:=lP pK (k:=?_)))
       refine lQ (cE 0 rfl (cE 7 rfl (cE 8 rfl (cE 13 rfl (cE 80 rfl .nil))))) ?_
       refine R_condP rfl (fun hlw => ?_) (fun hlw => ?_)
       ·skip
        have hlow : ∀ c0, cp = some c0 → x.t.fee ≤ c0.t.fee := fun c2 h9 => by rw [hc9] at h9; cases h9; exact hlw
        refine rT (lA (k:=?_))
        refine lQ (cE 0 rfl (cE 7 rfl (cE 8 rfl (cE 13 rfl .nil)))) (R_ret (Q_then_ret (Q_then_ret ?_)))
        exact R_end (rs2 := _) rfl rfl (.tmp rfl .nil) (⟨by rw [(addE_low ha0 hnr hlow).1]; rfl, rfl⟩) (by rw [(addE_low ha0 hnr hlow).2]; exact Weak.pick (p := [_]) (Weak.pick (p := [_]) (Weak.nil _)))
       ·skip
        refine R_skip (qT (rR (lMv (k:=?_))))
        refine lV (V_loadAgg rfl rfl ty_ag_67 (Rds.blk .h0) ((cp.getD txrz).ok.cellsLen)) (k:=?_)
        refine E_as (t := 82) (v' := .agg c0.t.cells.toArray) rfl (by rw [hc9]; rfl) ?_
        refine lO (W_callR rfl rfl rfl rfl fn_ca_114 (pdrop_ok p most H hG hP c0 hcm) (Split.one (p := [_])) (fun _ _ _ _ _ _ _ => trivial) ?_)
        refine lE (cE 0 rfl (cE 7 rfl (cE 8 rfl .nil))) ?_
        exact Q_meet (dropH (keyT c0) H) (by show addE rc s.ch H l most x cp = 0 ∧ (addH rc s.ch H l most x cp) = putH x (dropH (keyT c0) H) ∧ PoolOk (dropH (keyT c0) H) ∧ hasId (dropH (keyT c0) H) (idH x.t) = false; exact ⟨(addE_put ha0 hnr hc9 hlw).1, (addE_put ha0 hnr hc9 hlw).2, hP.sub (dropH_sub _ _), hasId_sub (dropH_sub _ _) hid⟩) (by repeat (first | exact .nil | refine .cons rfl ?_ | refine .consE rfl (by first | rfl | (congr 1; omega) | (congr 1; push_cast; omega)) ?_)) (Weak.keep (Weak.pick (p := [_]) (Weak.pick (p := [_]) (Weak.pick (p := [_]) (Weak.nil _)))))
     ·skip
      refine R_skip ?_
      exact Q_meet (H) (by show addE rc s.ch H l most x cp = 0 ∧ (addH rc s.ch H l most x cp) = putH x (H) ∧ PoolOk (H) ∧ hasId (H) (idH x.t) = false; exact ⟨(addE_room (most := most) (c := cp) ha0 (.inr (by rw [hM_len] at h4; omega))).1, (addE_room (most := most) (c := cp) ha0 (.inr (by rw [hM_len] at h4; omega))).2, hP, hid⟩) (by repeat (first | exact .nil | refine .cons rfl ?_ | refine .consE rfl (by first | rfl | (congr 1; omega) | (congr 1; push_cast; omega)) ?_)) (Weak.trans (Weak.pick (p := [_]) (Weak.pick (p := [_]) (Weak.pick (p := [_]) (Weak.pick (p := [_]) (Weak.pick (p := [_]) (Weak.pick (p := [_]) (Weak.nil _))))))) (pool_close (rs := [_, _, _])))
   ·intro H1 hinv
    replace hinv : addE rc s.ch H l most x cp = 0 ∧ (addH rc s.ch H l most x cp) = putH x H1 ∧ PoolOk H1 ∧ hasId H1 (idH x.t) = false := hinv
    show St (cx gl) _ _ [POOL p most (H1), REG q sg rc, blk b7 x.t.cells 67, blk b5 (s.cells (.slice base l.length c) v) 63] _
    obtain ⟨hae, hah, hP1, hid1⟩ := hinv
    refine rT (lMv (k:=?_))
    refine lV (V_loadAgg rfl rfl ty_ag_67 (Rds.blk .h2) (x.ok.cellsLen)) (k:=?_)
    refine lO (W_callR rfl rfl rfl rfl fn_ca_115 (pput_ok p most H1 hG hP1 x hid1) (Split.one (p := [])) (fun _ _ _ _ _ _ _ => trivial) ?_)
    refine lQ (cE 8 rfl .nil) (rT (lA (k:=?_)))
    refine L_nil (qT (R_ret ?_))
    exact R_end (rs2 := _) rfl rfl (.tmp rfl .nil) (⟨by rw [hae]; rfl, rfl⟩) (by rw [hah]; exact Weak.keep (Weak.keep (Weak.nil _)))
end Go.Proofs.YtcngmkjdpoiiaaaGreatDoor

/- A pool: Recheck. Printed by gen.py. -/
set_option maxRecDepth 100000
namespace Go.Proofs.YtcngmkjdpoiiaaaGreatDoor
open Go Go.RowKit Go.Proofs Go.Sort
/-- Can it not come any more? -/
def goneT (l : List Acc) (y : TxR) : Bool := decide (findE l y.t.frm = 0) && decide (y.t.non < (findX l y.t.frm).non)
def goneL (l : List Acc) (V : List TxR) : List TxR := V.filter (goneT l)
def keptH (l : List Acc) (H : List TxR) : List TxR := H.filter fun y => !goneT l y
def restH (G H : List TxR) : List TxR := H.filter fun x => !(G.any fun g => decide (keyT g = keyT x))
theorem gone_yes {l : List Acc} {H : List TxR} {I : List Nat} {i : Nat} {y : TxR} (h : H[i]? = some y) (hg : goneT l y = true) : goneL l (vis H (I ++ [i])) = goneL l (vis H I) ++ [y] := by
 rw [vis_snoc h]; unfold goneL; rw [List.filter_append, List.filter_cons_of_pos hg, List.filter_nil]
theorem gone_no {l : List Acc} {H : List TxR} {I : List Nat} {i : Nat} {y : TxR} (h : H[i]? = some y) (hg : goneT l y = false) : goneL l (vis H (I ++ [i])) = goneL l (vis H I) := by
 rw [vis_snoc h]; unfold goneL; rw [List.filter_append, List.filter_cons_of_neg (by rw [hg]; decide), List.filter_nil, List.append_nil]
theorem gone_len (l : List Acc) (V : List TxR) : (goneL l V).length ≤ V.length := List.length_filter_le _ _
theorem dropH_filter {k : Int × Int} : ∀ {H : List TxR}, (H.map keyT).Nodup → dropH k H = H.filter fun x => !decide (k = keyT x)
 | [], _ => rfl
 | x :: H, h => by
  rw [List.map_cons, List.nodup_cons] at h
  unfold dropH
  rw [List.eraseP_cons, List.filter_cons]
  by_cases e : keyT x = k
  ·rw [decide_eq_true e, decide_eq_true e.symm]
   refine ((List.filter_eq_self).2 fun y hy => ?_).symm
   have : ¬ k = keyT y := fun e2 => h.1 (List.mem_map.2 ⟨y, hy, by rw [← e2, e]⟩)
   rw [decide_eq_false this]; rfl
  ·have e2 : ¬ k = keyT x := fun e3 => e e3.symm
   rw [decide_eq_false e, decide_eq_false e2]
   exact congrArg (x :: ·) (dropH_filter h.2)
theorem rest_nil (H : List TxR) : restH [] H = H := List.filter_eq_self.2 fun _ _ => rfl
theorem rest_sub (G H : List TxR) : (restH G H).Sublist H := List.filter_sublist
theorem rest_snoc {G H : List TxR} (hP : PoolOk H) (g : TxR) : dropH (keyT g) (restH G H) = restH (G ++ [g]) H := by
 rw [dropH_filter (hP.sub (rest_sub G H)).keys]
 unfold restH
 rw [List.filter_filter]
 refine List.filter_congr fun x _ => ?_
 rw [List.any_append, List.any_cons, List.any_nil, Bool.or_false, Bool.not_or, Bool.and_comm]
theorem rest_next {G H : List TxR} (hP : PoolOk H) {j : Nat} {g : TxR} (h : G[j]? = some g) : dropH (keyT g) (restH (G.take j) H) = restH (G.take (j + 1)) H := by
 rw [rest_snoc hP, List.take_add_one, h]; rfl
theorem rest_in {G H : List TxR} (hk : (G.map keyT).Nodup) (hs : ∀ g ∈ G, g ∈ H) {j : Nat} {g : TxR} (h : G[j]? = some g) : g ∈ restH (G.take j) H := by
 unfold restH
 rw [List.mem_filter]
 refine ⟨hs g (List.mem_of_getElem? h), ?_⟩
 rw [Bool.not_eq_true', List.any_eq_false]
 intro z hz
 rw [decide_eq_true_eq]
 intro e
 obtain ⟨m, hm, e2⟩ := List.mem_take_iff_getElem.1 hz
 obtain ⟨hj, e3⟩ := List.getElem?_eq_some_iff.1 h
 have h4 := List.pairwise_iff_getElem.1 hk m j (by rw [List.length_map]; omega) (by rw [List.length_map]; omega) (by omega)
 rw [List.getElem_map, List.getElem_map, e2, e3] at h4
 exact h4 e
theorem rest_all {l : List Acc} {G H : List TxR} (hP : PoolOk H) (hG : ∀ g, g ∈ G ↔ g ∈ H ∧ goneT l g = true) : restH G H = keptH l H := by
 unfold restH keptH
 refine List.filter_congr fun x hx => ?_
 congr 1
 rw [Bool.eq_iff_iff, List.any_eq_true]
 constructor
 ·rintro ⟨g, hg, e⟩
  obtain ⟨h1, h2⟩ := (hG g).1 hg
  rw [← nodup_inj hP.keys h1 hx (of_decide_eq_true e)]; exact h2
 ·exact fun h => ⟨x, (hG x).2 ⟨hx, h⟩, decide_eq_true rfl⟩
set_option maxHeartbeats 1000000 in
theorem precheck_ok {gl : Nat → Obj} (hG : Globs gl) (p : Nat) (most : Int) (H : List TxR) (hP : PoolOk H) (hl : H.length ≤ 65536) (base : Option Addr) (c : Nat) (l : List Acc) (hc : l.length ≤ c) (hm : l.length ≤ 5000000000000)(hok : ∀ x ∈ l, x.ok) (v : Value) (hv : v.oneCell' = true) (s : StR) : Spec (cx gl) 45 [.pointer (some ⟨p, 0, none⟩), .agg (s.cells (.slice base l.length c) v).toArray] (fun w hp => Seen w hp base (Go.Proofs.YtcngmkjdpoiiaaaGreatDoor.rc l)) [POOL p most (H)] (fun v rs => ∃ (L : List TxR) (b : Option Addr) (c : Nat), v = .slice b L.length c ∧ Dear (goneL l H) L ∧ rs = [POOL p most (keptH l H), ownS 67 22 (.slice b L.length c) (L.length) (rc L)]) := by
 refine Spec.enter (C := cx gl) Tryz.func45 rfl 58 rfl rfl fun w0 h0 hsep hsub hpre => ?_
 show St (cx gl) _ [(0, .pointer (some ⟨p, 0, none⟩)), (1, .agg (s.cells (.slice base l.length c) v).toArray)] _ _
 refine St.openP [] fun ⟨mh, mi⟩ _ => ?_
 refine St.unbundle [] (rT ?_)
 refine lO (W_box ((s.cells (.slice base l.length c) v)) rfl rfl rfl rfl rfl fun b3 => lA (k:=?_))
 refine lQ (cE 0 rfl (cE 3 rfl (cE 4 rfl .nil))) (rS (rT (lMv (k:=?_))))
 refine lO (W_callR rfl rfl rfl rfl fn_ca_109 (pmissing_ok p mh mi most) (Split.one (p := [_])) (fun _ _ _ _ _ _ _ => trivial) ?_)
 refine E_false (t := 13) rfl (rfl) ?_
 refine lQ (cE 0 rfl (cE 3 rfl (cE 4 rfl (cE 13 rfl .nil)))) (kF (k:=R_skip (qT (rT (lA (k:=?_))))))
 refine lQ (cE 0 rfl (cE 3 rfl (cE 4 rfl (cE 5 rfl .nil)))) (rS (rS ?_))
 refine St.res (rs' := [blk p (poolC mh mi most) 78, mapK rec2K mh (hM (H)), mapK iK mi (iM (H)), blk b3 (s.cells (.slice base l.length c) v) 63]) (Weak.keep (Weak.pick (p := [_]) (Weak.pick (p := [_]) (Weak.keep (Weak.nil _))))) ?_
 refine St.openMap [_] fun es ck he hbo => ?_
 refine St.res (rs' := [blk p (poolC mh mi most) 78, mapH mh es ck, mapK iK mi (iM (H)), blk b3 (s.cells (.slice base l.length c) v) 63]) (Weak.refl _) (rR (lMv (k:=lP pN (k:=lP (pF ty_fl_78_1) (k:=lV (vB ty_sc_75 .h0) (k:=?_))))))
 refine lO (W_range rfl rfl rfl ty_map_75 rfl .h1 fun it => ?_)
 refine lQ (cE 0 rfl (cE 3 rfl (cE 4 rfl (cE 5 rfl (cE 18 rfl .nil))))) (R_block ?_)
 refine R_loopE (G := List Nat × Value) (cE 0 rfl (cE 3 rfl (cE 4 rfl (cE 18 rfl .nil)))) (fun g => [(5, g.2)]) (fun g => [ownS 67 22 (g.2) ((goneL l (vis H g.1)).length) (rc (goneL l (vis H g.1))), iterH it mh ck es (g.1), blk p (poolC mh mi most) 78, mapH mh es ck, mapK iK mi (iM (H)), blk b3 (s.cells (.slice base l.length c) v) 63]) (fun g => g.1.Nodup ∧ (∀ q9 ∈ g.1, q9 < H.length) ∧ g.1.length + leftN H.length g.1 ≤ H.length) (fun g => leftN H.length g.1) ([], .slice none 0 0) (by show ([]).Nodup ∧ (∀ q9 ∈ ([]), q9 < H.length) ∧ ([]).length + leftN H.length ([]) ≤ H.length; exact ⟨List.nodup_nil, fun _ h => (nomatch h), by have := left_nil H.length; simpa using this⟩) (by repeat (first | exact .nil | refine .cons rfl ?_ | refine .consE rfl (by first | rfl | (congr 1; omega) | (congr 1; push_cast; omega)) ?_)) (Weak.newNil) ?_
 rintro ⟨I, vo⟩ hinv
 replace hinv : I.Nodup ∧ (∀ q9 ∈ I, q9 < H.length) ∧ I.length + leftN H.length I ≤ H.length := hinv
 show St (cx gl) _ ((5, vo) :: _) [ownS 67 22 (vo) ((goneL l (vis H I)).length) (rc (goneL l (vis H I))), iterH it mh ck es (I), blk p (poolC mh mi most) 78, mapH mh es ck, mapK iK mi (iM (H)), blk b3 (s.cells (.slice base l.length c) v) 63] _
 obtain ⟨hI1, hI2, hI3⟩ := hinv
 refine rT ?_
 refine lO (W_next (key := rec2K) (L := hM H) he hbo (fun i hi => by rw [hM_len]; exact hI2 i hi) rfl rfl rfl rfl .h3 .h1 (fun I' => .h1) fun r hst => ?_)
 refine lP (P_more rfl rfl (fun i h => (hst.new i h).1)) (k:=?_)
 refine L_nil (qT (rS ?_))
 refine R_cond rfl (fun hr => ?_) (fun hr => ?_)
 ·skip
  obtain ⟨i, hr9⟩ := Option.isSome_iff_exists.1 hr
  subst hr9
  obtain ⟨hil, hin⟩ := hst.new i rfl
  rw [hM_len] at hil
  obtain ⟨y, hy⟩ : ∃ y, H[i]? = some y := ⟨_, List.getElem?_eq_getElem hil⟩
  have hvl := vis_len H I
  have hgl := gone_len l (vis H I)
  refine R_skip (qT (R_block (rT ?_)))
  refine lV (V_entry (key := rec2K) (L := hM H) he hbo (hM_at hy) rfl rfl .h3 .h1) (k:=lP pX (k:=lP pX (k:=?_)))
  refine lO (W_alloc rfl rfl rfl ty_ze_207 fun b6 => ?_)
  refine lO (W_alloc rfl rfl rfl ty_ze_67 fun b7 => ?_)
  refine lO (W_storeAll rfl rfl rfl rfl ty_ag_207 (rfl) (by intro v hv; simp only [List.mem_cons, List.not_mem_nil, or_false] at hv; rcases hv with rfl | rfl <;> rfl) .h1 (rfl) ?_)
  refine lO (W_storeAll rfl rfl rfl rfl ty_ag_67 (y.ok.cellsLen) (Tx.one _) .h0 (y.ok.cellsLen) ?_)
  refine L_nil (qT (rT (lP (pF ty_fl_63_9) (k:=?_))))
  refine lV (V_loadAgg rfl rfl ty_ag_30 ((Rds.blk .h7).part 51 (st_led s _ _)) (rfl)) (k:=lP (pF ty_fl_207_0) (k:=lV (vB ty_sc_26 .h1) (k:=?_)))
  refine lO (W_callV rfl rfl rfl rfl fn_ca_75 (find_ok base c l hc (by omega) v hv s.bu s.su y.t.frm) (fun w nw => (Sn.old hpre).rw_ w nw) (lMv (k:=lP pX (k:=lP pX (k:=?_)))))
  refine lO (W_alloc rfl rfl rfl ty_ze_50 fun b8 => ?_)
  refine lO (W_storeAll rfl rfl rfl rfl ty_ag_50 (rfl) (Rec.one (findX l y.t.frm)) .h0 (rfl) (lA (k:=?_)))
  refine L_nil (qT (rT (lMv (k:=lP pEq (k:=lMv (k:=?_))))))
  refine E_bool (t := 34) rfl (fun h1 => ?_) (fun h1 => ?_)
  ·skip
   have h1 := of_decide_eq_true h1
   refine lP (pF ty_fl_50_3) (k:=lV (vB ty_sc_23 .h0) (k:=lP (pF ty_fl_207_1) (k:=lV (vB ty_sc_23 .h2) (k:=?_))))
   refine E_as (t := 38) (v' := .int .u64 (y.t.non)) rfl (rfl) (lP pGt (k:=lP pK (k:=?_)))
   refine L_nil (qT ?_)
   refine R_condP rfl (fun h2 => ?_) (fun h2 => ?_)
   ·skip
    refine rR (lMv (k:=?_))
    refine lV (V_loadAgg rfl rfl ty_ag_67 (Rds.blk .h1) (y.ok.cellsLen)) (k:=?_)
    refine lO (W_lit (z := .nilIface) (y.t.cells) rfl rfl rfl ty_sl_92 ty_lz_92 rfl rfl rfl (by decide) (by decide) (by intro v hv; simp only [List.mem_singleton] at hv; subst hv; exact y.ok.cellsLen) (by simp [Value.cells]) fun b43 => ?_)
    refine lO (W_append (p := [_, _, _, _]) rfl rfl rfl ty_sl_92 ty_ap_92 ty_src_92 rfl rfl rfl (Src.slice (sz := 22) (m := 1) (news := y.t.cells) (Rds.blk .h0) y.ok.cellsLen (Tx.one _)) (by omega) (by simp only [maxLen]; omega) fun v44 => lA (k:=?_))
    refine L_nil (Q_block ?_)
    exact Q_round (I ++ [i], v44) (by show (I ++ [i]).Nodup ∧ (∀ q9 ∈ (I ++ [i]), q9 < H.length) ∧ (I ++ [i]).length + leftN H.length (I ++ [i]) ≤ H.length; exact ⟨nodup_snoc hI1 hin, bound_snoc hI2 hil, by have := leftN_lt hil hin; rw [List.length_append]; show I.length + 1 + _ ≤ _; omega⟩) (leftN_lt hil hin) (by repeat (first | exact .nil | refine .cons rfl ?_ | refine .consE rfl (by first | rfl | (congr 1; omega) | (congr 1; push_cast; omega)) ?_)) (Weak.drop (Weak.drop (Weak.drop (Weak.drop (by rw [gone_yes hy (by unfold goneT; rw [decide_eq_true h1, decide_eq_true h2]; rfl), List.length_append, rc_append, rc_tx]; exact Weak.refl _)))))
   ·skip
    refine R_skip (Q_block ?_)
    exact Q_round (I ++ [i], vo) (by show (I ++ [i]).Nodup ∧ (∀ q9 ∈ (I ++ [i]), q9 < H.length) ∧ (I ++ [i]).length + leftN H.length (I ++ [i]) ≤ H.length; exact ⟨nodup_snoc hI1 hin, bound_snoc hI2 hil, by have := leftN_lt hil hin; rw [List.length_append]; show I.length + 1 + _ ≤ _; omega⟩) (leftN_lt hil hin) (by repeat (first | exact .nil | refine .cons rfl ?_ | refine .consE rfl (by first | rfl | (congr 1; omega) | (congr 1; push_cast; omega)) ?_)) (Weak.drop (Weak.drop (Weak.drop (by rw [gone_no hy (by unfold goneT; rw [decide_eq_false h2, Bool.and_false])]; exact Weak.refl _))))
  ·skip
   have h1 := of_decide_eq_false h1
   refine lN (k:=lN (k:=lN (k:=lN (k:=lN (k:=lP pK (k:=?_))))))
   refine L_nil (qT (kF (k:=R_skip (Q_block ?_))))
   exact Q_round (I ++ [i], vo) (by show (I ++ [i]).Nodup ∧ (∀ q9 ∈ (I ++ [i]), q9 < H.length) ∧ (I ++ [i]).length + leftN H.length (I ++ [i]) ≤ H.length; exact ⟨nodup_snoc hI1 hin, bound_snoc hI2 hil, by have := leftN_lt hil hin; rw [List.length_append]; show I.length + 1 + _ ≤ _; omega⟩) (leftN_lt hil hin) (by repeat (first | exact .nil | refine .cons rfl ?_ | refine .consE rfl (by first | rfl | (congr 1; omega) | (congr 1; push_cast; omega)) ?_)) (Weak.drop (Weak.drop (Weak.drop (by rw [gone_no hy (by unfold goneT; rw [decide_eq_false h1, Bool.false_and])]; exact Weak.refl _))))
 ·skip
  have hr9 : r = none := by cases r with | none => rfl | some i => cases hr
  subst hr9
  have hvp := vis_perm hI1 hI2 (fun i hi => hst.over rfl i (by rw [hM_len]; exact hi))
  have hvl := vis_len H I
  have hgl := gone_len l (vis H I)
  obtain ⟨G, hG9⟩ : ∃ G, G = (goneL l (vis H I)) := ⟨_, rfl⟩
  rw [← hG9] at hgl ⊢
  have hgp : G.Perm (goneL l H) := by rw [hG9]; exact hvp.filter _
  have hgm : ∀ g, g ∈ G ↔ g ∈ H ∧ goneT l g = true := fun g => by rw [hgp.mem_iff]; exact List.mem_filter
  have hgk : (G.map keyT).Nodup := (hgp.map keyT).nodup_iff.2 (hP.keys.sublist (List.filter_sublist.map _))
  refine St.ownForm (p := []) fun ub uc huv huc => ?_
  subst huv
  refine St.res (rs' := [ownS 67 22 (.slice ub G.length uc) (G.length) (rc G), POOL p most (restH (G.take 0) H), blk b3 (s.cells (.slice base l.length c) v) 63]) (by rw [List.take_zero, rest_nil]; exact Weak.keep (Weak.trans (Weak.pick (p := [_, _]) (Weak.pick (p := [_]) (Weak.pick (p := [_]) (Weak.pick (p := [_]) (Weak.nil _))))) (Weak.trans (Weak.closeMap he hbo) (Weak.trans (Weak.pick (p := [_]) (Weak.keep (Weak.keep (Weak.keep (Weak.nil _))))) (pool_close (rs := [_])))))) (R_exit (Q_then_exit (Q_then_exit (Q_block_eq ?_))))
  refine St.env (cE 0 rfl (cE 4 rfl (cE 5 rfl .nil))) (qT (rS (rT (lMv (k:=lP (pL ty_sl_92) (k:=lMv (k:=?_)))))))
  refine L_nil (qT (R_block ?_))
  refine R_loopE (G := Nat) (cE 0 rfl (cE 4 rfl (cE 5 rfl (cE 45 rfl (cE 46 rfl .nil))))) (fun g => [(47, .int .i64 ((g : Int)))]) (fun g => [ownS 67 22 (.slice ub G.length uc) (G.length) (rc G), POOL p most (restH (G.take g) H), blk b3 (s.cells (.slice base l.length c) v) 63]) (fun g => g ≤ G.length) (fun g => G.length - g) (0) (Nat.zero_le _) (by repeat (first | exact .nil | refine .cons rfl ?_ | refine .consE rfl (by first | rfl | (congr 1; omega) | (congr 1; push_cast; omega)) ?_)) (Weak.refl _) ?_
  intro j hinv
  replace hinv : j ≤ G.length := hinv
  show St (cx gl) _ ((47, .int .i64 ((j : Int))) :: _) [ownS 67 22 (.slice ub G.length uc) (G.length) (rc G), POOL p most (restH (G.take j) H), blk b3 (s.cells (.slice base l.length c) v) 63] _
  refine rT (lP pLt (k:=?_))
  refine L_nil (qT (rS ?_))
  refine R_condP rfl (fun hj => ?_) (fun hj => ?_)
  ·skip
   have hj : j < G.length := by omega
   obtain ⟨g, hg⟩ : ∃ g, G[j]? = some g := ⟨_, List.getElem?_eq_getElem hj⟩
   have hgin := rest_in hgk (fun g h => ((hgm g).1 h).1) hg
   refine St.ownSome (p := []) (by omega) fun pb pc huv2 huc2 => ?_
   obtain ⟨rfl, rfl⟩ : ub = some ⟨pb, 0, none⟩ ∧ uc = pc := by injection huv2 with h1 h2 h3; exact ⟨h1, h3⟩
   refine R_skip (qT (rS (R_block (rT ?_))))
   refine lP (P_ixs (j) rfl ty_sl_92 rfl rfl (by first | rfl | omega) (by omega)) (k:=?_)
   refine lV (V_loadAgg rfl rfl ty_ag_67 (rds_rc (rds_own .h0) hg) (g.ok.cellsLen)) (k:=?_)
   refine lO (W_alloc rfl rfl rfl ty_ze_67 fun b11 => ?_)
   refine lO (W_storeAll rfl rfl rfl rfl ty_ag_67 (g.ok.cellsLen) (Tx.one _) .h0 (g.ok.cellsLen) ?_)
   refine L_nil (qT (rR (lMv (k:=?_))))
   refine lV (V_loadAgg rfl rfl ty_ag_67 (Rds.blk .h0) (g.ok.cellsLen)) (k:=?_)
   refine lO (W_callR rfl rfl rfl rfl fn_ca_114 (pdrop_ok p most (restH (G.take j) H) hG (hP.sub (rest_sub _ _)) g hgin) (Split.one (p := [_, _])) (fun _ _ _ _ _ _ _ => trivial) ?_)
   refine lE (cE 0 rfl (cE 4 rfl (cE 5 rfl (cE 11 rfl (cE 45 rfl (cE 46 rfl (cE 47 rfl (cE 48 rfl (cE 49 rfl (cE 50 rfl (cE 51 rfl (cE 52 rfl .nil)))))))))))) (Q_block (qT (rR ?_)))
   first | (refine L_val rfl rfl rfl (OpP.v (P_addN rfl rfl rfl (by simp only [fits]; omega))) ?_) | (refine L_val rfl rfl rfl (OpP.v (P_add rfl rfl rfl)) ?_)
   refine lMv (k:=?_)
   refine L_nil ?_
   exact Q_round (j + 1) (by show j + 1 ≤ G.length; omega) (by show G.length - (j + 1) < G.length - j; omega) (by repeat (first | exact .nil | refine .cons rfl ?_ | refine .consE rfl (by first | rfl | (congr 1; omega) | (congr 1; push_cast; omega)) ?_)) (by rw [← rest_next hP hg]; exact Weak.pick (p := [_, _]) (Weak.keep (Weak.pick (p := [_]) (Weak.nil _))))
  ·skip
   have hj9 : j = G.length := by have : j ≤ G.length := hinv; omega
   subst hj9
   rw [List.take_length, rest_all hP hgm]
   refine St.res (rs' := [ownS 67 22 (.slice ub G.toArray.size uc) (G.toArray.size) (rc G.toArray.toList), POOL p most (keptH l H), blk b3 (s.cells (.slice base l.length c) v) 63]) (Weak.refl _) (R_exit (Q_then_exit (Q_then_exit (Q_block_eq ?_))))
   refine St.env (cE 4 rfl (cE 5 rfl .nil)) (qT (rT (lMv (k:=?_))))
   refine lO (W_call rfl rfl rfl rfl fn_ca_141 (sortT_ok ub uc G.toArray (by show G.length < _; omega)) (Split.one (p := [])) (fun _ _ _ _ _ _ _ => trivial) fun vv rs1 ⟨z1, d2, hp2, hs2, z2⟩ => ?_)
   subst z1; subst z2
   have hde := dear_of (d := G.toArray) hgp hp2 hs2
   refine lQ (cE 4 rfl (cE 5 rfl .nil)) (rT (lMv (k:=lA (k:=?_))))
   refine lQ (cE 4 rfl .nil) (R_ret ?_)
   exact R_end (rs2 := [POOL p most (keptH l H), ownS 67 22 (.slice ub d2.toList.length uc) (d2.toList.length) (rc d2.toList)]) rfl rfl (.tmp rfl .nil) (⟨d2.toList, ub, uc, by rw [show d2.toList.length = G.toArray.size from hp2.1]; rfl, hde, rfl⟩) (by rw [show d2.toList.length = G.toArray.size from hp2.1]; exact Weak.pick (p := [_]) (Weak.keep (Weak.nil _)))
end Go.Proofs.YtcngmkjdpoiiaaaGreatDoor

/- What an Add changes. Printed by gen.py. -/
set_option maxRecDepth 100000
namespace Go.Proofs.YtcngmkjdpoiiaaaGreatDoor
open Go Go.RowKit Go.Proofs Go.Sort
theorem mem_dropH {H : List TxR} (hk : (H.map keyT).Nodup) {k : Int × Int} {y : TxR} : y ∈ dropH k H ↔ y ∈ H ∧ keyT y ≠ k := by
 rw [dropH_filter hk, List.mem_filter]
 refine ⟨fun ⟨h1, h2⟩ => ⟨h1, fun e => by rw [e] at h2; simp at h2⟩, fun ⟨h1, h2⟩ => ⟨h1, by rw [decide_eq_false (fun e => h2 e.symm)]; rfl⟩⟩
theorem mem_putH {H : List TxR} (hk : (H.map keyT).Nodup) {x y : TxR} : y ∈ putH x H ↔ (y ∈ H ∧ keyT y ≠ keyT x) ∨ y = x := by
 unfold putH
 rw [List.mem_append, mem_dropH hk, List.mem_singleton]
theorem dropH_len {H : List TxR} {k : Int × Int} {y : TxR} (hy : y ∈ H) (e : keyT y = k) : (dropH k H).length = H.length - 1 := List.length_eraseP_of_mem hy (by simp [e])
theorem dropH_le (k : Int × Int) (H : List TxR) : (dropH k H).length ≤ H.length := (dropH_sub k H).length_le
theorem putH_len (x : TxR) (H : List TxR) : (putH x H).length = (dropH (keyT x) H).length + 1 := by unfold putH; rw [List.length_append]; rfl
/-- What an Add that is answered OK tells. -/
structure AddOk (rc : List Rcd) (ch : List Int) (H : List TxR) (l : List Acc) (most : Int) (x : TxR) (c : Option TxR) (N : List TxR) : Prop where
 look : LookFine rc ch H x.t
 fit : fitE H l x = 0
 how : ((heldAt H (keyT x)).isSome = true ∨ (H.length : Int) < most) ∧ N = putH x H ∧ (∀ y, heldAt H (keyT x) = some y → y.t.fee < x.t.fee) ∨
  ¬ ((heldAt H (keyT x)).isSome = true ∨ (H.length : Int) < most) ∧ ∃ c0, c = some c0 ∧ c0.t.fee < x.t.fee ∧ N = putH x (dropH (keyT c0) H)
theorem addOk_of {rc : List Rcd} {ch : List Int} {H : List TxR} {l : List Acc} {most : Int} {x : TxR} {c : Option TxR} (he : addE rc ch H l most x c = 0) : AddOk rc ch H l most x c (addH rc ch H l most x c) := by
 have h0 : addE0 rc ch H l x = 0 := by
  unfold addE at he
  split at he
  ·rename_i h1; exact absurd he h1
  ·rename_i h1; exact Classical.not_not.1 h1
 have h1 : lookE rc ch H x.t = 0 := by
  unfold addE0 at h0
  split at h0
  ·rename_i h1; exact absurd h0 h1
  ·rename_i h1; exact Classical.not_not.1 h1
 have h2 : fitE H l x = 0 := by
  unfold addE0 at h0
  rw [if_neg (by rw [h1]; simp)] at h0
  split at h0
  ·rename_i h2; exact absurd h0 h2
  ·rename_i h2; exact Classical.not_not.1 h2
 have h3 : ∀ y, heldAt H (keyT x) = some y → y.t.fee < x.t.fee := fun y hy => by
  unfold addE0 at h0
  rw [if_neg (by rw [h1]; simp), if_neg (by rw [h2]; simp), hy] at h0
  split at h0
  ·omega
  ·rename_i h4
   have : ¬ x.t.fee ≤ y.t.fee := fun h5 => h4 ⟨rfl, h5⟩
   omega
 refine ⟨lookFine_of h1, h2, ?_⟩
 by_cases hr : (heldAt H (keyT x)).isSome = true ∨ (H.length : Int) < most
 ·exact .inl ⟨hr, (addE_room (c := c) h0 hr).2, h3⟩
 ·refine .inr ⟨hr, ?_⟩
  cases c with
  | none => rw [(addE_low (c := none) h0 hr (fun _ h => nomatch h)).1] at he; cases he
  | some c0 =>
   by_cases hl : x.t.fee ≤ c0.t.fee
   ·rw [(addE_low (c := some c0) h0 hr (fun c1 h => by cases h; exact hl)).1] at he; cases he
   ·exact ⟨c0, rfl, by omega, (addE_put h0 hr rfl hl).2⟩
theorem AddFacts.perm {L L' N N' : List TxR} {x : TxR} {most : Int} (h : AddFacts L N x most) (hL : L'.Perm L) (hN : N'.Perm N) : AddFacts L' N' x most := by
 have m1 : ∀ y, y ∈ L' ↔ y ∈ L := fun y => hL.mem_iff
 have m2 : ∀ y, y ∈ N' ↔ y ∈ N := fun y => hN.mem_iff
 refine ⟨(m2 x).2 h.new, fun y hy hn => ?_, fun y hy hn z hz hn2 => h.one y ((m1 y).1 hy) (fun e => hn ((m2 y).2 e)) z ((m1 z).1 hz) (fun e => hn2 ((m2 z).2 e)), fun ha => ?_, fun ⟨y, hy, hn⟩ => ?_⟩
 ·obtain ⟨g1, g2⟩ := h.gone y ((m1 y).1 hy) (fun e => hn ((m2 y).2 e))
  exact ⟨g1, g2.imp id fun ⟨q1, q2, q3⟩ => ⟨by rw [hL.length_eq]; exact q1, q2, fun z hz => q3 z ((m1 z).1 hz)⟩⟩
 ·rw [hL.length_eq, hN.length_eq]; exact h.all fun y hy => (m2 y).1 (ha y ((m1 y).2 hy))
 ·rw [hL.length_eq, hN.length_eq]; exact h.some_ ⟨y, (m1 y).1 hy, fun e => hn ((m2 y).2 e)⟩
/-- What holds of a pool all the time. -/
structure PoolInv (most : Int) (H : List TxR) : Prop where
 ok : PoolOk H
 top : TopOk H
 few : (H.length : Int) ≤ most
theorem PoolInv.nil {most : Int} (h : 1 ≤ most) : PoolInv most [] := ⟨PoolOk.nil, TopOk.nil, by show (0 : Int) ≤ most; omega⟩
theorem TopOk.put {H : List TxR} (h : TopOk H) {x : TxR} (hx : x.t.non < 18446744073709551615) : TopOk (putH x H) := fun y hy => by
 unfold putH at hy
 rcases List.mem_append.1 hy with hy | hy
 ·exact h y ((dropH_sub _ _).subset hy)
 ·rw [List.mem_singleton] at hy; subst hy; exact hx
theorem AddOk.inv {rc : List Rcd} {ch : List Int} {H : List TxR} {l : List Acc} {most : Int} {x : TxR} {c : Option TxR} {N : List TxR} (a : AddOk rc ch H l most x c N) (h : PoolInv most H) (hC : CheapOf H x.t.frm c) : PoolInv most N := by
 have hx := fitE_top a.fit
 have hp := a.look.plain
 have hi := a.look.new
 rcases a.how with ⟨hr, rfl, hf⟩ | ⟨hr, c0, rfl, hf, rfl⟩
 ·refine ⟨h.ok.put hp hi, h.top.put hx, ?_⟩
  rw [putH_len]
  cases h9 : heldAt H (keyT x) with
  | none =>
   have hl := hr.resolve_left (by rw [h9]; decide)
   rw [dropH_none (held_none h9)]; omega
  | some y =>
   obtain ⟨h1, h2⟩ := held_mem h9
   rw [dropH_len h1 h2]
   have := List.length_pos_of_mem h1; have := h.few; omega
 ·have hd := h.ok.sub (dropH_sub (keyT c0) H)
  refine ⟨hd.put hp (hasId_sub (dropH_sub _ _) hi), (h.top.sub (dropH_sub _ _)).put hx, ?_⟩
  rw [putH_len]
  have h1 := dropH_le (keyT x) (dropH (keyT c0) H)
  have h2 := dropH_len hC.1 (rfl : keyT c0 = keyT c0)
  have h3 := List.length_pos_of_mem hC.1
  have := h.few; omega
theorem add_inv {rc : List Rcd} {ch : List Int} {H : List TxR} {l : List Acc} {most : Int} {x : TxR} {c : Option TxR} (h : PoolInv most H) (hC : CheapOf H x.t.frm c) : PoolInv most (addH rc ch H l most x c) := by
 by_cases he : addE rc ch H l most x c = 0
 ·exact (addOk_of he).inv h hC
 ·rw [addE_no he]; exact h
theorem PoolInv.sub {most : Int} {H H' : List TxR} (h : PoolInv most H) (s : H'.Sublist H) : PoolInv most H' := ⟨h.ok.sub s, h.top.sub s, by have := s.length_le; have := h.few; omega⟩
theorem PoolInv.kept {most : Int} {H : List TxR} (h : PoolInv most H) (l : List Acc) : PoolInv most (keptH l H) := h.sub List.filter_sublist
/-! ### The list, the dearest first -/
theorem Dear.keys {H L : List TxR} (h : Dear H L) (hP : (H.map keyT).Nodup) : (L.map keyT).Nodup := (h.perm.map keyT).nodup_iff.2 hP
theorem Dear.lt {H L : List TxR} (h : Dear H L) (hP : (H.map keyT).Nodup) {i j : Nat} {x y : TxR} (hi : L[i]? = some x) (hj : L[j]? = some y) (hij : i < j) : cmpT x.t y.t < 0 := by
 obtain ⟨q1, q2⟩ := List.getElem?_eq_some_iff.1 hi
 obtain ⟨q3, q4⟩ := List.getElem?_eq_some_iff.1 hj
 have h1 := List.pairwise_iff_getElem.1 h.sorted i j q1 q3 hij
 rw [q2, q4] at h1
 unfold nearer at h1
 have h2 := List.pairwise_iff_getElem.1 (h.keys hP) i j (by rw [List.length_map]; exact q1) (by rw [List.length_map]; exact q3) hij
 rw [List.getElem_map, List.getElem_map, q2, q4] at h2
 rw [cmpT_neg] at h1 ⊢
 refine Classical.byContradiction fun h3 => h2 (Prod.ext (show x.t.frm = y.t.frm by omega) (show x.t.non = y.t.non by omega))
theorem Dear.filter {H L : List TxR} (h : Dear H L) (p : TxR → Bool) : Dear (H.filter p) (L.filter p) := ⟨h.perm.filter p, h.sorted.sublist List.filter_sublist⟩
end Go.Proofs.YtcngmkjdpoiiaaaGreatDoor

/- The outright statements: sign. Printed by gen.py. -/
set_option maxRecDepth 100000
namespace Go.Proofs.YtcngmkjdpoiiaaaGreatDoor
open Go Go.RowKit Go.Proofs Go.Sort
/-- What sign answers, and what is signed behind it. -/
def sigX (ch : List Int) (x : Tx) : Tx := if txbE ch x = 0 ∧ x.frm ≠ 0 then withSeal x (sealH x.frm (txbB ch x)) else x
def sigR (ch : List Int) (x : Tx) (rc : List Rcd) : List Rcd := if txbE ch x = 0 ∧ x.frm ≠ 0 then addR rc (x.frm, txbB ch x) else rc
theorem sigX_no {ch : List Int} {x : Tx} (h : txbE ch x ≠ 0 ∨ x.frm = 0) : sigX ch x = x := if_neg fun h1 => h.elim (fun h2 => h2 h1.1) fun h2 => h1.2 h2
theorem sigR_no {ch : List Int} {x : Tx} {rc : List Rcd} (h : txbE ch x ≠ 0 ∨ x.frm = 0) : sigR ch x rc = rc := if_neg fun h1 => h.elim (fun h2 => h2 h1.1) fun h2 => h1.2 h2
theorem sigX_yes {ch : List Int} {x : Tx} (h : txbE ch x = 0) (h0 : x.frm ≠ 0) : sigX ch x = withSeal x (sealH x.frm (txbB ch x)) := if_pos ⟨h, h0⟩
theorem sigR_yes {ch : List Int} {x : Tx} {rc : List Rcd} (h : txbE ch x = 0) (h0 : x.frm ≠ 0) : sigR ch x rc = addR rc (x.frm, txbB ch x) := if_pos ⟨h, h0⟩
theorem sigX_ok (ch : List Int) {x : Tx} (h : x.ok) : (sigX ch x).ok := by
 unfold sigX; split
 ·exact ⟨h.kind, h.frm, h.to, h.amt, h.fee, h.non, sealH_b _ _, sealH_length _ _⟩
 ·exact h
theorem sigR_len (ch : List Int) (x : Tx) (rc : List Rcd) : (sigR ch x rc).length ≤ rc.length + 1 := by
 unfold sigR; split
 ·exact addR_length _ _
 ·omega
/-- Nobody without an address is entered. -/
def SgOk (sg : List (Int × Nat)) : Prop := ∀ y ∈ sg, y.1 ≠ 0
theorem SgOk.nil : SgOk [] := fun _ h => (nomatch h)
theorem SgOk.snoc {sg : List (Int × Nat)} (h : SgOk sg) {a : Int} (ha : a ≠ 0) (s : Nat) : SgOk (sg ++ [(a, s)]) := fun y hy => by
 rcases List.mem_append.1 hy with hy | hy
 ·exact h y hy
 ·rw [List.mem_singleton] at hy; subst hy; exact ha
theorem notIn {sg : List (Int × Nat)} {a : Int} (h : ∀ (j : Nat) (y : Int × Nat), j < sg.length → sg[j]? = some y → y.1 ≠ a) : isIn sg a = false := by
 unfold isIn sgP
 have : sg.find? (fun x => decide (x.1 = a)) = none := List.find?_eq_none.2 fun x hx => by
  obtain ⟨j, hj, e⟩ := List.mem_iff_getElem.1 hx
  have := h j x hj (by rw [List.getElem?_eq_getElem hj, e])
  simpa using this
 rw [this]; rfl
theorem kk_zero {sg : List (Int × Nat)} (hso : SgOk sg) {a : Int} (hz : a = 0) {i : Nat} {kk : Int} (h : (kk = -1 ∧ ∀ (j : Nat) (q9 : Int × Nat), j < i → sg[j]? = some q9 → q9.1 ≠ a) ∨ (∃ (j : Nat) (s9 : Nat), kk = (j : Int) ∧ sg[j]? = some (a, s9))) : kk < 0 := by
 rcases h with ⟨h8, _⟩ | ⟨j, s9, h7, h8⟩
 ·omega
 ·exact absurd hz (hso _ (List.mem_of_getElem? h8))
theorem kk_none {sg : List (Int × Nat)} {a : Int} {i : Nat} {kk : Int} (h : (kk = -1 ∧ ∀ (j : Nat) (q9 : Int × Nat), j < i → sg[j]? = some q9 → q9.1 ≠ a) ∨ (∃ (j : Nat) (s9 : Nat), kk = (j : Int) ∧ sg[j]? = some (a, s9))) (hk : kk < 0) : ∀ (j : Nat) (q9 : Int × Nat), j < i → sg[j]? = some q9 → q9.1 ≠ a := by
 rcases h with ⟨_, h8⟩ | ⟨j, s9, h7, h8⟩
 ·exact h8
 ·omega
theorem kk_some {sg : List (Int × Nat)} {a : Int} {i : Nat} {kk : Int} (h : (kk = -1 ∧ ∀ (j : Nat) (q9 : Int × Nat), j < i → sg[j]? = some q9 → q9.1 ≠ a) ∨ (∃ (j : Nat) (s9 : Nat), kk = (j : Int) ∧ sg[j]? = some (a, s9))) (hk : ¬ kk < 0) : ∃ (j : Nat) (s9 : Nat), kk = (j : Int) ∧ sg[j]? = some (a, s9) := by
 rcases h with ⟨h8, _⟩ | h8
 ·omega
 ·exact h8
set_option maxHeartbeats 1000000 in
theorem sign_zero {gl : Nat → Obj} (hG : Globs gl) (w p q : Nat) (sv : Value) (at_ : Int) (nb : Option Addr) (nc : Nat) (sts : List StK) (hnc : sts.length ≤ nc) (hns : sts.length ≤ 439804651110) (hat : AtOk sts at_) (sg : List (Int × Nat)) (rc : List Rcd) (hgl : sg.length ≤ 4398046511104) (hrc : rc.length ≤ 4398046511104) (hso : SgOk sg) (x : Tx) (hx : x.ok) (hz : x.frm = 0) : Spec (cx gl) 58 [.pointer (some ⟨w, 0, none⟩), .agg x.cells.toArray] (fun wd hp => Seen wd hp nb (Go.Proofs.YtcngmkjdpoiiaaaGreatDoor.rc sts)) [blk w (sightC p q (sv) (.slice nb sts.length nc) (at_)) 135, REG q sg rc, ownS 220 1 (sv) (sg).length (ptrs (sg))] (fun v rs => ∃ sg' sv', v = .agg (sigX (curS sts at_).j.ch x).cells.toArray ∧ sg'.length ≤ sg.length + 1 ∧ SgOk sg' ∧ rs = [blk w (sightC p q (sv') (.slice nb sts.length nc) (at_)) 135, REG q sg' (sigR (curS sts at_).j.ch x rc), ownS 220 1 (sv') (sg').length (ptrs (sg'))]) := by
 refine Spec.enter (C := cx gl) Tryz.func58 rfl 94 rfl rfl fun w0 h0 hsep hsub hpre => ?_
 show St (cx gl) _ [(0, .pointer (some ⟨w, 0, none⟩)), (1, .agg x.cells.toArray)] _ _
 refine rT ?_
 refine lO (W_box (x.cells) rfl rfl rfl rfl rfl fun b3 => ?_)
 refine lO (W_alloc rfl rfl rfl ty_ze_67 fun b4 => ?_)
 refine lQ (cE 0 rfl (cE 3 rfl (cE 4 rfl .nil))) (rS ?_)
 refine St.res (rs' := [blk w (sightC p q (sv) (.slice nb sts.length nc) (at_)) 135, REG q sg rc, ownS 220 1 (sv) (sg).length (ptrs (sg)), blk b3 x.cells 67, blk b4 txz.cells 67]) (Weak.pick (p := [_, _]) (Weak.pick (p := [_, _]) (Weak.pick (p := [_, _]) (Weak.pick (p := [_]) (Weak.keep (Weak.nil _)))))) ?_
 refine R_open [(0, 0), (3, 1), (1, 2), (2, 0), (4, 2), (5, 0), (6, 0), (7, 0), (8, 0), (9, 0)] mixed (by kernel_rfl) (QOk.then QOk.body) (oP rfl pM (k:=?_))
 refine oV rfl (V_loadAgg rfl rfl ty_ag_67 (Rds.blk .h3) (hx.cellsLen)) (k:=?_)
 refine O_keep rfl rfl (W_callR rfl rfl rfl rfl fn_ca_59 (state_ok w p q sv at_ nb nc sts hnc hns hat) (Split.one (p := [])) (Sn.pre (Sn.old hpre)) (K_keep (Weak.refl _) ?_))
 refine oP rfl (P_field rfl ty_fld_63_0 ty_sc_9 rfl (rfl)) (k:=?_)
 refine O_keep rfl rfl (W_call rfl rfl rfl rfl fn_ca_144 (txBytes_ok (curS sts at_).j.ch (curS sts at_).ch x hx) (Split.nil _) (fun _ _ _ _ _ _ _ => trivial) fun v1 rs1 ⟨u, e1, e2⟩ => ?_)
 subst e1; subst e2
 refine St.ownForm (p := []) fun ub uc huv huc => ?_
 subst huv
 refine K_keep (Weak.drop (Weak.refl _)) (oP rfl pM (k:=oP rfl pX (k:=oP rfl pX (k:=oP rfl pA (k:=oP rfl pA (k:=O_nil ?_))))))
 refine St.env (cE 0 rfl (cE 3 rfl (cE 4 rfl (cE 5 rfl (cE 6 rfl .nil))))) (qT (rS (rS ?_)))
 refine St.res (rs' := [blk w (sightC p q (sv) (.slice nb sts.length nc) (at_)) 135, REG q sg rc, ownS 220 1 (sv) (sg).length (ptrs (sg)), blk b3 x.cells 67, blk b4 txz.cells 67, ownS 5 1 (.slice ub (txbB (curS sts at_).j.ch x).length uc) ((txbB (curS sts at_).j.ch x).length) (ints .u8 (txbB (curS sts at_).j.ch x))]) (Weak.pick (p := [_]) (Weak.pick (p := [_]) (Weak.pick (p := [_]) (Weak.pick (p := [_]) (Weak.pick (p := [_]) (Weak.keep (Weak.nil _))))))) (rR (lMv (k:=?_)))
 refine lO (W_callV rfl rfl rfl rfl fn_ca_33 (num_ok (txbE (curS sts at_).j.ch x)) (fun _ _ => trivial) (lP pNe (k:=?_)))
 refine E_bool (t := 21) rfl (fun he => ?_) (fun he => ?_)
 ·skip
  have he : (txbE (curS sts at_).j.ch x) ≠ 0 := of_decide_eq_true he
  refine lQ (cE 0 rfl (cE 3 rfl (cE 4 rfl (cE 5 rfl (cE 21 rfl .nil))))) (kT (k:=rT ?_))
  refine lV (V_loadAgg rfl rfl ty_ag_67 (Rds.blk .h3) (hx.cellsLen)) (k:=?_)
  refine lO (W_storeAll rfl rfl rfl rfl ty_ag_67 (hx.cellsLen) (Tx.one x) .h4 (hx.cellsLen) ?_)
  refine lQ (cE 0 rfl (cE 3 rfl (cE 4 rfl (cE 5 rfl .nil)))) (R_ret (Q_then_ret ?_))
  exact R_end (rs2 := _) rfl rfl (.cell rfl (Rds.loadVar ty_ag_67 (Rds.blk .h4) hx.cellsLen) .nil) (⟨sg, sv, by rw [sigX_no (.inl he)]; rfl, Nat.le_succ _, hso, rfl⟩) (by rw [sigR_no (.inl he)]; exact Weak.keep (Weak.keep (Weak.keep (Weak.nil _))))
 ·skip
  have he : (txbE (curS sts at_).j.ch x) = 0 := by have h9 := of_decide_eq_false he; omega
  have htl := txbB_len (curS sts at_).j.ch x
  refine lQ (cE 0 rfl (cE 3 rfl (cE 4 rfl (cE 5 rfl (cE 21 rfl .nil))))) (kF (k:=R_skip (qT (rT (lA (k:=?_))))))
  refine lQ (cE 0 rfl (cE 3 rfl (cE 4 rfl (cE 5 rfl (cE 7 rfl .nil))))) (rS (rT (lA (k:=?_))))
  refine L_nil (qT (R_block ?_))
  refine R_loopE (G := Nat × Int) (cE 0 rfl (cE 3 rfl (cE 4 rfl (cE 5 rfl .nil)))) (fun g => [(7, .int .i64 (g.2)), (8, .int .i64 ((g.1 : Nat) : Int))]) (fun g => [blk w (sightC p q (sv) (.slice nb sts.length nc) (at_)) 135, REG q sg rc, ownS 220 1 (sv) (sg).length (ptrs (sg)), blk b3 x.cells 67, blk b4 txz.cells 67, ownS 5 1 (.slice ub (txbB (curS sts at_).j.ch x).length uc) ((txbB (curS sts at_).j.ch x).length) (ints .u8 (txbB (curS sts at_).j.ch x))]) (fun g => g.1 ≤ sg.length ∧ ((g.2 = -1 ∧ ∀ (j : Nat) (q9 : Int × Nat), j < g.1 → sg[j]? = some q9 → q9.1 ≠ x.frm) ∨ (∃ (j : Nat) (s9 : Nat), g.2 = (j : Int) ∧ sg[j]? = some (x.frm, s9)))) (fun g => sg.length - g.1) (0, -1) (by show (0) ≤ sg.length ∧ (((-1) = -1 ∧ ∀ (j : Nat) (q9 : Int × Nat), j < (0) → sg[j]? = some q9 → q9.1 ≠ x.frm) ∨ (∃ (j : Nat) (s9 : Nat), (-1) = (j : Int) ∧ sg[j]? = some (x.frm, s9))); exact ⟨Nat.zero_le _, .inl ⟨rfl, fun j _ h => absurd h (Nat.not_lt_zero j)⟩⟩) (by repeat (first | exact .nil | refine .cons rfl ?_ | refine .consE rfl (by first | rfl | (congr 1; omega) | (congr 1; push_cast; omega)) ?_)) (Weak.refl _) ?_
  rintro ⟨i, kk⟩ hinv
  replace hinv : i ≤ sg.length ∧ ((kk = -1 ∧ ∀ (j : Nat) (q9 : Int × Nat), j < i → sg[j]? = some q9 → q9.1 ≠ x.frm) ∨ (∃ (j : Nat) (s9 : Nat), kk = (j : Int) ∧ sg[j]? = some (x.frm, s9))) := hinv
  show St (cx gl) _ ((7, .int .i64 (kk)) :: (8, .int .i64 ((i : Nat) : Int)) :: _) [blk w (sightC p q (sv) (.slice nb sts.length nc) (at_)) 135, REG q sg rc, ownS 220 1 (sv) (sg).length (ptrs (sg)), blk b3 x.cells 67, blk b4 txz.cells 67, ownS 5 1 (.slice ub (txbB (curS sts at_).j.ch x).length uc) ((txbB (curS sts at_).j.ch x).length) (ints .u8 (txbB (curS sts at_).j.ch x))] _
  obtain ⟨hi, hkk⟩ := hinv
  refine rS (rT (lMv (k:=lMv (k:=lP pN (k:=lP (pF ty_fl_135_2) (k:=lV (vB ty_sc_104 .h0) (k:=?_)))))))
  refine lV (V_lenOwn .h2 rfl ty_sl_104 rfl) (k:=lP pLt (k:=?_))
  refine L_nil (qT ?_)
  refine R_condP rfl (fun hlt => ?_) (fun hlt => ?_)
  ·skip
   have hil : i < sg.length := by omega
   obtain ⟨⟨a, s⟩, hs⟩ : ∃ y, sg[i]? = some y := ⟨_, List.getElem?_eq_getElem hil⟩
   refine St.ownSome (p := [_, _]) (by omega) fun svb svc hq _ => ?_
   subst hq
   refine R_skip (qT (rS (R_block (rS ?_))))
   refine R_open [(0, 0), (1, 0), (2, 0), (3, 1), (4, 0), (5, 0), (6, 1), (8, 0), (9, 1), (7, 2), (10, 0)] mixed (by kernel_rfl) (QOk.then (QOk.block (QOk.then (QOk.then (QOk.block (QOk.then QOk.body)))))) (oP rfl pM (k:=oP rfl pN (k:=oP rfl (pF ty_fl_135_2) (k:=oV rfl (vB ty_sc_104 .h0) (k:=oP rfl pM (k:=?_))))))
   refine oP rfl (P_ixs (i) rfl ty_sl_104 rfl rfl (by first | rfl | omega) (by omega)) (k:=?_)
   refine oV rfl (V_load rfl rfl ty_sc_220 (rd_own1 .h2 (ptrs_at hs))) (k:=oP rfl (pF ty_fl_67_1) (k:=oV rfl (vB ty_sc_26 .h3) (k:=?_)))
   refine O_keep rfl rfl (W_callR rfl rfl rfl rfl fn_ca_145 (addr_ok q sg rc i a s hs) (Split.one (p := [_])) (fun _ _ _ _ _ _ _ => trivial) (K_keep (Weak.pick (p := [_]) (Weak.keep (Weak.keep (Weak.keep (Weak.keep (Weak.keep (Weak.nil _))))))) (oP rfl pEq (k:=O_nil (qT ?_)))))
   refine R_condP rfl (fun hne => ?_) (fun hne => ?_)
   ·skip
    refine rR (lMv (k:=lA (k:=?_)))
    refine L_nil (Q_block (qT (rR (lMv (k:=?_)))))
    first | (refine L_val rfl rfl rfl (OpP.v (P_addN rfl rfl rfl (by simp only [fits]; omega))) ?_) | (refine L_val rfl rfl rfl (OpP.v (P_add rfl rfl rfl)) ?_)
    refine lA (k:=?_)
    refine L_nil ?_
    exact Q_round (i + 1, (i : Int)) (by show (i + 1) ≤ sg.length ∧ ((((i : Int)) = -1 ∧ ∀ (j : Nat) (q9 : Int × Nat), j < (i + 1) → sg[j]? = some q9 → q9.1 ≠ x.frm) ∨ (∃ (j : Nat) (s9 : Nat), ((i : Int)) = (j : Int) ∧ sg[j]? = some (x.frm, s9))); exact ⟨by omega, .inr ⟨i, s, rfl, by rw [hs, hne]⟩⟩) (by show sg.length - (i + 1) < sg.length - i; omega) (by repeat (first | exact .nil | refine .cons rfl ?_ | refine .consE rfl (by first | rfl | (congr 1; omega) | (congr 1; push_cast; omega)) ?_)) (Weak.pick (p := [_]) (Weak.keep (Weak.keep (Weak.keep (Weak.keep (Weak.keep (Weak.nil _)))))))
   ·skip
    refine R_skip (Q_block (qT (rR (lMv (k:=?_)))))
    first | (refine L_val rfl rfl rfl (OpP.v (P_addN rfl rfl rfl (by simp only [fits]; omega))) ?_) | (refine L_val rfl rfl rfl (OpP.v (P_add rfl rfl rfl)) ?_)
    refine lA (k:=?_)
    refine L_nil ?_
    exact Q_round (i + 1, kk) (by show (i + 1) ≤ sg.length ∧ (((kk) = -1 ∧ ∀ (j : Nat) (q9 : Int × Nat), j < (i + 1) → sg[j]? = some q9 → q9.1 ≠ x.frm) ∨ (∃ (j : Nat) (s9 : Nat), (kk) = (j : Int) ∧ sg[j]? = some (x.frm, s9))); exact ⟨by omega, hkk.imp (fun ⟨h8, h9⟩ => ⟨h8, fun j q9 hj hq => by rcases Nat.lt_succ_iff_lt_or_eq.1 hj with h7 | h7; exact h9 j q9 h7 hq; subst h7; rw [hs] at hq; cases hq; exact hne⟩) id⟩) (by show sg.length - (i + 1) < sg.length - i; omega) (by repeat (first | exact .nil | refine .cons rfl ?_ | refine .consE rfl (by first | rfl | (congr 1; omega) | (congr 1; push_cast; omega)) ?_)) (Weak.pick (p := [_]) (Weak.keep (Weak.keep (Weak.keep (Weak.keep (Weak.keep (Weak.nil _)))))))
  ·skip
   obtain rfl : i = sg.length := by omega
   refine R_exit (Q_then_exit (Q_then_exit (Q_block_eq ?_)))
   refine St.env (cE 0 rfl (cE 3 rfl (cE 4 rfl (cE 5 rfl (cE 7 rfl .nil))))) (qT (rS (rT (lMv (k:=lP pLt (k:=?_))))))
   refine lQ (cE 0 rfl (cE 3 rfl (cE 4 rfl (cE 5 rfl (cE 7 rfl (cE 45 rfl .nil)))))) ?_
   refine R_condP rfl (fun _ => rS ?_) (fun hx => absurd (kk_zero hso hz hkk) hx)
   refine R_open [(0, 0), (1, 0), (2, 0), (3, 1), (4, 0), (5, 1), (6, 2), (7, 0), (8, 0), (9, 0), (10, 0), (11, 0)] mixed (by kernel_rfl) (QOk.then (QOk.then QOk.body)) (oP rfl pM (k:=oP rfl pN (k:=oP rfl (pF ty_fl_135_1) (k:=oV rfl (vB ty_sc_69 .h0) (k:=oP rfl (pF ty_fl_67_1) (k:=oV rfl (vB ty_sc_26 .h3) (k:=?_)))))))
   refine E_as (t := 52) (v' := .int .u64 (0)) rfl (by rw [hz]) ?_
   refine O_keep rfl rfl (W_callR rfl rfl rfl rfl fn_ca_146 (enter_zero q sg rc) (Split.one (p := [_])) (fun _ _ _ _ _ _ _ => trivial) (K_keep (Weak.pick (p := [_]) (Weak.keep (Weak.keep (Weak.keep (Weak.keep (Weak.keep (Weak.nil _))))))) (oP rfl pM (k:=oP rfl pX (k:=oP rfl pX (k:=oP rfl pA (k:=oP rfl pA (k:=O_nil ?_))))))))
   refine St.env (cE 0 rfl (cE 3 rfl (cE 4 rfl (cE 5 rfl (cE 7 rfl (cE 9 rfl (cE 10 rfl .nil))))))) (qT (rS (rT (lMv (k:=?_)))))
   refine lP (P_eqNil0 rfl ty_ptr_220 rfl rfl) (k:=lMv (k:=lN (k:=lN (k:=lN (k:=lP pK (k:=?_))))))
   refine lQ (cE 0 rfl (cE 3 rfl (cE 4 rfl (cE 5 rfl (cE 7 rfl (cE 9 rfl (cE 62 rfl .nil))))))) (kT (k:=rS ?_))
   refine St.res (rs' := [blk w (sightC p q (sv) (.slice nb sts.length nc) (at_)) 135, REG q sg rc, ownS 220 1 (sv) (sg).length (ptrs (sg)), blk b3 x.cells 67, blk b4 txz.cells 67, ownS 5 1 (.slice ub (txbB (curS sts at_).j.ch x).length uc) ((txbB (curS sts at_).j.ch x).length) (ints .u8 (txbB (curS sts at_).j.ch x))]) (Weak.pick (p := [_]) (Weak.keep (Weak.keep (Weak.keep (Weak.keep (Weak.keep (Weak.nil _))))))) (rR ?_)
   refine lV (V_loadAgg rfl rfl ty_ag_67 (Rds.blk .h3) (hx.cellsLen)) (k:=?_)
   refine lO (W_storeAll rfl rfl rfl rfl ty_ag_67 (hx.cellsLen) (Tx.one x) .h4 (hx.cellsLen) ?_)
   refine lQ (cE 0 rfl (cE 3 rfl (cE 4 rfl (cE 5 rfl (cE 7 rfl (cE 9 rfl .nil)))))) (R_ret (Q_then_ret (Q_then_ret ?_)))
   exact R_end (rs2 := _) rfl rfl (.cell rfl (Rds.loadVar ty_ag_67 (Rds.blk .h4) hx.cellsLen) .nil) (⟨sg, sv, by rw [sigX_no (.inr hz)]; rfl, Nat.le_succ _, hso, rfl⟩) (by rw [sigR_no (.inr hz)]; exact Weak.keep (Weak.keep (Weak.keep (Weak.nil _))))
set_option maxHeartbeats 1000000 in
theorem sign_pos {gl : Nat → Obj} (hG : Globs gl) (w p q : Nat) (sv : Value) (at_ : Int) (nb : Option Addr) (nc : Nat) (sts : List StK) (hnc : sts.length ≤ nc) (hns : sts.length ≤ 439804651110) (hat : AtOk sts at_) (sg : List (Int × Nat)) (rc : List Rcd) (hgl : sg.length ≤ 4398046511104) (hrc : rc.length ≤ 4398046511104) (hso : SgOk sg) (x : Tx) (hx : x.ok) (hz : x.frm ≠ 0) : Spec (cx gl) 58 [.pointer (some ⟨w, 0, none⟩), .agg x.cells.toArray] (fun wd hp => Seen wd hp nb (Go.Proofs.YtcngmkjdpoiiaaaGreatDoor.rc sts)) [blk w (sightC p q (sv) (.slice nb sts.length nc) (at_)) 135, REG q sg rc, ownS 220 1 (sv) (sg).length (ptrs (sg))] (fun v rs => ∃ sg' sv', v = .agg (sigX (curS sts at_).j.ch x).cells.toArray ∧ sg'.length ≤ sg.length + 1 ∧ SgOk sg' ∧ rs = [blk w (sightC p q (sv') (.slice nb sts.length nc) (at_)) 135, REG q sg' (sigR (curS sts at_).j.ch x rc), ownS 220 1 (sv') (sg').length (ptrs (sg'))]) := by
 refine Spec.enter (C := cx gl) Tryz.func58 rfl 94 rfl rfl fun w0 h0 hsep hsub hpre => ?_
 show St (cx gl) _ [(0, .pointer (some ⟨w, 0, none⟩)), (1, .agg x.cells.toArray)] _ _
 refine rT ?_
 refine lO (W_box (x.cells) rfl rfl rfl rfl rfl fun b3 => ?_)
 refine lO (W_alloc rfl rfl rfl ty_ze_67 fun b4 => ?_)
 refine lQ (cE 0 rfl (cE 3 rfl (cE 4 rfl .nil))) (rS ?_)
 refine St.res (rs' := [blk w (sightC p q (sv) (.slice nb sts.length nc) (at_)) 135, REG q sg rc, ownS 220 1 (sv) (sg).length (ptrs (sg)), blk b3 x.cells 67, blk b4 txz.cells 67]) (Weak.pick (p := [_, _]) (Weak.pick (p := [_, _]) (Weak.pick (p := [_, _]) (Weak.pick (p := [_]) (Weak.keep (Weak.nil _)))))) ?_
 refine R_open [(0, 0), (3, 1), (1, 2), (2, 0), (4, 2), (5, 0), (6, 0), (7, 0), (8, 0), (9, 0)] mixed (by kernel_rfl) (QOk.then QOk.body) (oP rfl pM (k:=?_))
 refine oV rfl (V_loadAgg rfl rfl ty_ag_67 (Rds.blk .h3) (hx.cellsLen)) (k:=?_)
 refine O_keep rfl rfl (W_callR rfl rfl rfl rfl fn_ca_59 (state_ok w p q sv at_ nb nc sts hnc hns hat) (Split.one (p := [])) (Sn.pre (Sn.old hpre)) (K_keep (Weak.refl _) ?_))
 refine oP rfl (P_field rfl ty_fld_63_0 ty_sc_9 rfl (rfl)) (k:=?_)
 refine O_keep rfl rfl (W_call rfl rfl rfl rfl fn_ca_144 (txBytes_ok (curS sts at_).j.ch (curS sts at_).ch x hx) (Split.nil _) (fun _ _ _ _ _ _ _ => trivial) fun v1 rs1 ⟨u, e1, e2⟩ => ?_)
 subst e1; subst e2
 refine St.ownForm (p := []) fun ub uc huv huc => ?_
 subst huv
 refine K_keep (Weak.drop (Weak.refl _)) (oP rfl pM (k:=oP rfl pX (k:=oP rfl pX (k:=oP rfl pA (k:=oP rfl pA (k:=O_nil ?_))))))
 refine St.env (cE 0 rfl (cE 3 rfl (cE 4 rfl (cE 5 rfl (cE 6 rfl .nil))))) (qT (rS (rS ?_)))
 refine St.res (rs' := [blk w (sightC p q (sv) (.slice nb sts.length nc) (at_)) 135, REG q sg rc, ownS 220 1 (sv) (sg).length (ptrs (sg)), blk b3 x.cells 67, blk b4 txz.cells 67, ownS 5 1 (.slice ub (txbB (curS sts at_).j.ch x).length uc) ((txbB (curS sts at_).j.ch x).length) (ints .u8 (txbB (curS sts at_).j.ch x))]) (Weak.pick (p := [_]) (Weak.pick (p := [_]) (Weak.pick (p := [_]) (Weak.pick (p := [_]) (Weak.pick (p := [_]) (Weak.keep (Weak.nil _))))))) (rR (lMv (k:=?_)))
 refine lO (W_callV rfl rfl rfl rfl fn_ca_33 (num_ok (txbE (curS sts at_).j.ch x)) (fun _ _ => trivial) (lP pNe (k:=?_)))
 refine E_bool (t := 21) rfl (fun he => ?_) (fun he => ?_)
 ·skip
  have he : (txbE (curS sts at_).j.ch x) ≠ 0 := of_decide_eq_true he
  refine lQ (cE 0 rfl (cE 3 rfl (cE 4 rfl (cE 5 rfl (cE 21 rfl .nil))))) (kT (k:=rT ?_))
  refine lV (V_loadAgg rfl rfl ty_ag_67 (Rds.blk .h3) (hx.cellsLen)) (k:=?_)
  refine lO (W_storeAll rfl rfl rfl rfl ty_ag_67 (hx.cellsLen) (Tx.one x) .h4 (hx.cellsLen) ?_)
  refine lQ (cE 0 rfl (cE 3 rfl (cE 4 rfl (cE 5 rfl .nil)))) (R_ret (Q_then_ret ?_))
  exact R_end (rs2 := _) rfl rfl (.cell rfl (Rds.loadVar ty_ag_67 (Rds.blk .h4) hx.cellsLen) .nil) (⟨sg, sv, by rw [sigX_no (.inl he)]; rfl, Nat.le_succ _, hso, rfl⟩) (by rw [sigR_no (.inl he)]; exact Weak.keep (Weak.keep (Weak.keep (Weak.nil _))))
 ·skip
  have he : (txbE (curS sts at_).j.ch x) = 0 := by have h9 := of_decide_eq_false he; omega
  have htl := txbB_len (curS sts at_).j.ch x
  refine lQ (cE 0 rfl (cE 3 rfl (cE 4 rfl (cE 5 rfl (cE 21 rfl .nil))))) (kF (k:=R_skip (qT (rT (lA (k:=?_))))))
  refine lQ (cE 0 rfl (cE 3 rfl (cE 4 rfl (cE 5 rfl (cE 7 rfl .nil))))) (rS (rT (lA (k:=?_))))
  refine L_nil (qT (R_block ?_))
  refine R_loopE (G := Nat × Int) (cE 0 rfl (cE 3 rfl (cE 4 rfl (cE 5 rfl .nil)))) (fun g => [(7, .int .i64 (g.2)), (8, .int .i64 ((g.1 : Nat) : Int))]) (fun g => [blk w (sightC p q (sv) (.slice nb sts.length nc) (at_)) 135, REG q sg rc, ownS 220 1 (sv) (sg).length (ptrs (sg)), blk b3 x.cells 67, blk b4 txz.cells 67, ownS 5 1 (.slice ub (txbB (curS sts at_).j.ch x).length uc) ((txbB (curS sts at_).j.ch x).length) (ints .u8 (txbB (curS sts at_).j.ch x))]) (fun g => g.1 ≤ sg.length ∧ ((g.2 = -1 ∧ ∀ (j : Nat) (q9 : Int × Nat), j < g.1 → sg[j]? = some q9 → q9.1 ≠ x.frm) ∨ (∃ (j : Nat) (s9 : Nat), g.2 = (j : Int) ∧ sg[j]? = some (x.frm, s9)))) (fun g => sg.length - g.1) (0, -1) (by show (0) ≤ sg.length ∧ (((-1) = -1 ∧ ∀ (j : Nat) (q9 : Int × Nat), j < (0) → sg[j]? = some q9 → q9.1 ≠ x.frm) ∨ (∃ (j : Nat) (s9 : Nat), (-1) = (j : Int) ∧ sg[j]? = some (x.frm, s9))); exact ⟨Nat.zero_le _, .inl ⟨rfl, fun j _ h => absurd h (Nat.not_lt_zero j)⟩⟩) (by repeat (first | exact .nil | refine .cons rfl ?_ | refine .consE rfl (by first | rfl | (congr 1; omega) | (congr 1; push_cast; omega)) ?_)) (Weak.refl _) ?_
  rintro ⟨i, kk⟩ hinv
  replace hinv : i ≤ sg.length ∧ ((kk = -1 ∧ ∀ (j : Nat) (q9 : Int × Nat), j < i → sg[j]? = some q9 → q9.1 ≠ x.frm) ∨ (∃ (j : Nat) (s9 : Nat), kk = (j : Int) ∧ sg[j]? = some (x.frm, s9))) := hinv
  show St (cx gl) _ ((7, .int .i64 (kk)) :: (8, .int .i64 ((i : Nat) : Int)) :: _) [blk w (sightC p q (sv) (.slice nb sts.length nc) (at_)) 135, REG q sg rc, ownS 220 1 (sv) (sg).length (ptrs (sg)), blk b3 x.cells 67, blk b4 txz.cells 67, ownS 5 1 (.slice ub (txbB (curS sts at_).j.ch x).length uc) ((txbB (curS sts at_).j.ch x).length) (ints .u8 (txbB (curS sts at_).j.ch x))] _
  obtain ⟨hi, hkk⟩ := hinv
  refine rS (rT (lMv (k:=lMv (k:=lP pN (k:=lP (pF ty_fl_135_2) (k:=lV (vB ty_sc_104 .h0) (k:=?_)))))))
  refine lV (V_lenOwn .h2 rfl ty_sl_104 rfl) (k:=lP pLt (k:=?_))
  refine L_nil (qT ?_)
  refine R_condP rfl (fun hlt => ?_) (fun hlt => ?_)
  ·skip
   have hil : i < sg.length := by omega
   obtain ⟨⟨a, s⟩, hs⟩ : ∃ y, sg[i]? = some y := ⟨_, List.getElem?_eq_getElem hil⟩
   refine St.ownSome (p := [_, _]) (by omega) fun svb svc hq _ => ?_
   subst hq
   refine R_skip (qT (rS (R_block (rS ?_))))
   refine R_open [(0, 0), (1, 0), (2, 0), (3, 1), (4, 0), (5, 0), (6, 1), (8, 0), (9, 1), (7, 2), (10, 0)] mixed (by kernel_rfl) (QOk.then (QOk.block (QOk.then (QOk.then (QOk.block (QOk.then QOk.body)))))) (oP rfl pM (k:=oP rfl pN (k:=oP rfl (pF ty_fl_135_2) (k:=oV rfl (vB ty_sc_104 .h0) (k:=oP rfl pM (k:=?_))))))
   refine oP rfl (P_ixs (i) rfl ty_sl_104 rfl rfl (by first | rfl | omega) (by omega)) (k:=?_)
   refine oV rfl (V_load rfl rfl ty_sc_220 (rd_own1 .h2 (ptrs_at hs))) (k:=oP rfl (pF ty_fl_67_1) (k:=oV rfl (vB ty_sc_26 .h3) (k:=?_)))
   refine O_keep rfl rfl (W_callR rfl rfl rfl rfl fn_ca_145 (addr_ok q sg rc i a s hs) (Split.one (p := [_])) (fun _ _ _ _ _ _ _ => trivial) (K_keep (Weak.pick (p := [_]) (Weak.keep (Weak.keep (Weak.keep (Weak.keep (Weak.keep (Weak.nil _))))))) (oP rfl pEq (k:=O_nil (qT ?_)))))
   refine R_condP rfl (fun hne => ?_) (fun hne => ?_)
   ·skip
    refine rR (lMv (k:=lA (k:=?_)))
    refine L_nil (Q_block (qT (rR (lMv (k:=?_)))))
    first | (refine L_val rfl rfl rfl (OpP.v (P_addN rfl rfl rfl (by simp only [fits]; omega))) ?_) | (refine L_val rfl rfl rfl (OpP.v (P_add rfl rfl rfl)) ?_)
    refine lA (k:=?_)
    refine L_nil ?_
    exact Q_round (i + 1, (i : Int)) (by show (i + 1) ≤ sg.length ∧ ((((i : Int)) = -1 ∧ ∀ (j : Nat) (q9 : Int × Nat), j < (i + 1) → sg[j]? = some q9 → q9.1 ≠ x.frm) ∨ (∃ (j : Nat) (s9 : Nat), ((i : Int)) = (j : Int) ∧ sg[j]? = some (x.frm, s9))); exact ⟨by omega, .inr ⟨i, s, rfl, by rw [hs, hne]⟩⟩) (by show sg.length - (i + 1) < sg.length - i; omega) (by repeat (first | exact .nil | refine .cons rfl ?_ | refine .consE rfl (by first | rfl | (congr 1; omega) | (congr 1; push_cast; omega)) ?_)) (Weak.pick (p := [_]) (Weak.keep (Weak.keep (Weak.keep (Weak.keep (Weak.keep (Weak.nil _)))))))
   ·skip
    refine R_skip (Q_block (qT (rR (lMv (k:=?_)))))
    first | (refine L_val rfl rfl rfl (OpP.v (P_addN rfl rfl rfl (by simp only [fits]; omega))) ?_) | (refine L_val rfl rfl rfl (OpP.v (P_add rfl rfl rfl)) ?_)
    refine lA (k:=?_)
    refine L_nil ?_
    exact Q_round (i + 1, kk) (by show (i + 1) ≤ sg.length ∧ (((kk) = -1 ∧ ∀ (j : Nat) (q9 : Int × Nat), j < (i + 1) → sg[j]? = some q9 → q9.1 ≠ x.frm) ∨ (∃ (j : Nat) (s9 : Nat), (kk) = (j : Int) ∧ sg[j]? = some (x.frm, s9))); exact ⟨by omega, hkk.imp (fun ⟨h8, h9⟩ => ⟨h8, fun j q9 hj hq => by rcases Nat.lt_succ_iff_lt_or_eq.1 hj with h7 | h7; exact h9 j q9 h7 hq; subst h7; rw [hs] at hq; cases hq; exact hne⟩) id⟩) (by show sg.length - (i + 1) < sg.length - i; omega) (by repeat (first | exact .nil | refine .cons rfl ?_ | refine .consE rfl (by first | rfl | (congr 1; omega) | (congr 1; push_cast; omega)) ?_)) (Weak.pick (p := [_]) (Weak.keep (Weak.keep (Weak.keep (Weak.keep (Weak.keep (Weak.nil _)))))))
  ·skip
   obtain rfl : i = sg.length := by omega
   refine R_exit (Q_then_exit (Q_then_exit (Q_block_eq ?_)))
   refine St.env (cE 0 rfl (cE 3 rfl (cE 4 rfl (cE 5 rfl (cE 7 rfl .nil))))) (qT ?_)
   refine R_joinE (G := List (Int × Nat) × Value × Nat × Nat) (cE 0 rfl (cE 3 rfl (cE 4 rfl (cE 5 rfl .nil)))) (fun g => [(7, .int .i64 ((g.2.2.1 : Nat) : Int))]) (fun g => [blk w (sightC p q (g.2.1) (.slice nb sts.length nc) (at_)) 135, REG q g.1 rc, ownS 220 1 (g.2.1) (g.1).length (ptrs (g.1)), blk b3 x.cells 67, blk b4 txz.cells 67, ownS 5 1 (.slice ub (txbB (curS sts at_).j.ch x).length uc) ((txbB (curS sts at_).j.ch x).length) (ints .u8 (txbB (curS sts at_).j.ch x))]) (fun g => g.1[g.2.2.1]? = some (x.frm, g.2.2.2) ∧ g.1.length ≤ sg.length + 1 ∧ SgOk g.1) ?_ ?_
   ·skip
    refine rT (lMv (k:=lP pLt (k:=?_)))
    refine lQ (cE 0 rfl (cE 3 rfl (cE 4 rfl (cE 5 rfl (cE 7 rfl (cE 45 rfl .nil)))))) ?_
    refine R_condP rfl (fun hk => ?_) (fun hk => ?_)
    ·skip
     have hno : ∀ (j : Nat) (y : Int × Nat), j < sg.length → sg[j]? = some y → y.1 ≠ x.frm := kk_none hkk hk
     refine rS ?_
     refine R_open [(0, 0), (1, 0), (2, 0), (3, 1), (4, 0), (5, 1), (6, 3), (7, 0), (8, 0), (9, 0), (10, 0), (11, 0)] mixed (by kernel_rfl) (QOk.then (QOk.then QOk.body)) (oP rfl pM (k:=oP rfl pN (k:=oP rfl (pF ty_fl_135_1) (k:=oV rfl (vB ty_sc_69 .h0) (k:=oP rfl (pF ty_fl_67_1) (k:=oV rfl (vB ty_sc_26 .h3) (k:=?_)))))))
     refine O_new rfl rfl (W_call rfl rfl rfl rfl fn_ca_146 (enter_new q sg rc x.frm hz (notIn hno)) (Split.one (p := [_])) (fun _ _ _ _ _ _ _ => trivial) fun v2 rs2 ⟨s, e1, e2⟩ => ?_)
     subst e1; subst e2
     refine K_new (oP rfl pM (k:=oP rfl pX (k:=oP rfl pX (k:=oP rfl pA (k:=oP rfl pA (k:=O_nil ?_))))))
     refine St.env (cE 0 rfl (cE 3 rfl (cE 4 rfl (cE 5 rfl (cE 7 rfl (cE 9 rfl (cE 10 rfl .nil))))))) (qT (rS (rT (lMv (k:=?_)))))
     refine lP (P_eqNil rfl ty_ptr_220 rfl rfl) (k:=lMv (k:=lMv (k:=?_)))
     refine lO (W_callV rfl rfl rfl rfl fn_ca_33 (num_ok 0) (fun _ _ => trivial) (lP pNe (k:=?_)))
     refine E_false (t := 61) rfl (rfl) (lP pK (k:=?_))
     refine lQ (cE 0 rfl (cE 3 rfl (cE 4 rfl (cE 5 rfl (cE 7 rfl (cE 9 rfl (cE 62 rfl .nil))))))) (kF (k:=R_skip (qT (rS ?_))))
     refine St.res (rs' := [blk w (sightC p q (sv) (.slice nb sts.length nc) (at_)) 135, REG q (sg ++ [(x.frm, s)]) rc, ownS 220 1 (sv) (sg).length (ptrs (sg)), blk b3 x.cells 67, blk b4 txz.cells 67, ownS 5 1 (.slice ub (txbB (curS sts at_).j.ch x).length uc) ((txbB (curS sts at_).j.ch x).length) (ints .u8 (txbB (curS sts at_).j.ch x))]) (Weak.pick (p := [_]) (Weak.keep (Weak.keep (Weak.keep (Weak.keep (Weak.keep (Weak.nil _))))))) (rR (lMv (k:=lMv (k:=lP pN (k:=lP (pF ty_fl_135_2) (k:=lV (vB ty_sc_104 .h0) (k:=lMv (k:=?_))))))))
     refine lO (W_lit (z := .nilIface) ([.pointer (some ⟨s, 0, none⟩)]) rfl rfl rfl ty_sl_104 ty_lz_104 rfl rfl rfl (by decide) (by decide) (by simp [Value.cells]) (rfl) fun b70 => ?_)
     refine lO (W_append (p := [_, _, _]) rfl rfl rfl ty_sl_104 ty_ap_104 ty_src_104 rfl rfl rfl (Src.slice (sz := 1) (m := 1) (news := [.pointer (some ⟨s, 0, none⟩)]) (Rds.blk .h0) rfl (by intro v hv; rw [List.mem_singleton] at hv; subst hv; rfl)) (by omega) (by simp only [maxLen]; omega) fun v71 => ?_)
     refine St.ownForm (p := [_, _, _]) fun mb mc hmv hmc => ?_
     subst hmv
     refine lP pN (k:=lP (pF ty_fl_135_2) (k:=?_))
     refine lO (W_store rfl rfl rfl rfl ty_sc_104 rfl .h1 (by show (2 : Nat) < 5; decide) ?_)
     refine lQ (cE 0 rfl (cE 3 rfl (cE 4 rfl (cE 5 rfl (cE 7 rfl .nil))))) ?_
     refine St.res (rs' := [blk w (sightC p q (.slice mb (sg.length + 1) mc) (.slice nb sts.length nc) (at_)) 135, REG q (sg ++ [(x.frm, s)]) rc, ownS 220 1 (.slice mb (sg.length + 1) mc) (sg ++ [(x.frm, s)]).length (ptrs (sg ++ [(x.frm, s)])), blk b3 x.cells 67, blk b4 txz.cells 67, ownS 5 1 (.slice ub (txbB (curS sts at_).j.ch x).length uc) ((txbB (curS sts at_).j.ch x).length) (ints .u8 (txbB (curS sts at_).j.ch x))]) (Weak.drop (Weak.keep (Weak.keep (ownS.to1 (by rw [List.length_append]; rfl) (by unfold ptrs; rw [List.map_append]; rfl))))) (rR (lMv (k:=lP pN (k:=lP (pF ty_fl_135_2) (k:=lV (vB ty_sc_104 .h0) (k:=?_))))))
     refine lV (V_lenOwn .h2 rfl ty_sl_104 rfl) (k:=?_)
     refine lP (P_subN rfl rfl rfl (by simp only [fits, List.length_append, List.length_singleton]; omega)) (k:=?_)
     refine E_as (t := 79) (v' := .int .i64 ((sg.length : Nat) : Int)) rfl (by congr 1; rw [List.length_append, List.length_singleton]; omega) (lA (k:=?_))
     refine lE (cE 0 rfl (cE 3 rfl (cE 4 rfl (cE 5 rfl (cE 7 rfl .nil))))) ?_
     exact Q_meet (sg ++ [(x.frm, s)], .slice mb (sg.length + 1) mc, sg.length, s) (by show (sg ++ [(x.frm, s)])[(sg.length)]? = some (x.frm, (s)) ∧ (sg ++ [(x.frm, s)]).length ≤ sg.length + 1 ∧ SgOk (sg ++ [(x.frm, s)]); exact ⟨by rw [List.getElem?_append_right (Nat.le_refl _), Nat.sub_self]; rfl, Nat.le_of_eq (by rw [List.length_append, List.length_singleton]), hso.snoc hz s⟩) (by repeat (first | exact .nil | refine .cons rfl ?_ | refine .consE rfl (by first | rfl | (congr 1; omega) | (congr 1; push_cast; omega)) ?_)) (Weak.refl _)
    ·skip
     obtain ⟨ix, s2, hkx, hs2⟩ : ∃ (j : Nat) (s9 : Nat), kk = (j : Int) ∧ sg[j]? = some (x.frm, s9) := kk_some hkk hk
     refine R_skip ?_
     refine E_as (t := 7) (v' := .int .i64 ((ix : Nat) : Int)) rfl (by rw [hkx]) ?_
     exact Q_meet (sg, sv, ix, s2) (by show (sg)[(ix)]? = some (x.frm, (s2)) ∧ (sg).length ≤ sg.length + 1 ∧ SgOk (sg); exact ⟨hs2, by omega, hso⟩) (by repeat (first | exact .nil | refine .cons rfl ?_ | refine .consE rfl (by first | rfl | (congr 1; omega) | (congr 1; push_cast; omega)) ?_)) (Weak.refl _)
   ·rintro ⟨sg2, sv2, ix, s2⟩ hinv
    replace hinv : sg2[ix]? = some (x.frm, s2) ∧ sg2.length ≤ sg.length + 1 ∧ SgOk sg2 := hinv
    show St (cx gl) _ ((7, .int .i64 ((ix : Nat) : Int)) :: _) [blk w (sightC p q (sv2) (.slice nb sts.length nc) (at_)) 135, REG q sg2 rc, ownS 220 1 (sv2) (sg2).length (ptrs (sg2)), blk b3 x.cells 67, blk b4 txz.cells 67, ownS 5 1 (.slice ub (txbB (curS sts at_).j.ch x).length uc) ((txbB (curS sts at_).j.ch x).length) (ints .u8 (txbB (curS sts at_).j.ch x))] _
    obtain ⟨hs2, hsl, hso2⟩ := hinv
    have hix := (List.getElem?_eq_some_iff.1 hs2).1
    refine St.ownSome (p := [_, _]) (by omega) fun svb svc hq _ => ?_
    subst hq
    refine rT (lMv (k:=lP pN (k:=lP (pF ty_fl_135_2) (k:=lV (vB ty_sc_104 .h0) (k:=lMv (k:=?_))))))
    refine lP (P_ixs (ix) rfl ty_sl_104 rfl rfl (by first | rfl | omega) (by omega)) (k:=?_)
    refine lV (V_load rfl rfl ty_sc_220 (rd_own1 .h2 (ptrs_at hs2))) (k:=lMv (k:=?_))
    refine lO (W_callR rfl rfl rfl rfl fn_ca_125 (sign_any hG q sg2 rc ix x.frm s2 hs2 ub uc (txbB (curS sts at_).j.ch x) (txbB_b (curS sts at_).ch hx) (by omega) hrc) (Split.one (p := [_])) (Sn.pre (Sn.own .h4 rfl)) (lMv (k:=lP pX (k:=lP pX (k:=lP (pF ty_fl_67_6) (k:=?_))))))
    refine lO (W_storeAgg rfl rfl rfl rfl ty_ag_65 (by rw [ints_length, sealH_length]) (ints_one) .h3 (by rw [ints_length, sealH_length, hx.cellsLen]; decide) ?_)
    refine lQ (cE 3 rfl (cE 4 rfl .nil)) (rS ?_)
    have hxo := sigX_ok (curS sts at_).j.ch hx
    have hso9 := sigX_yes he hz
    refine St.res (rs' := [blk w (sightC p q (.slice (some ⟨svb, 0, none⟩) sg2.length svc) (.slice nb sts.length nc) (at_)) 135, REG q sg2 (sigR (curS sts at_).j.ch x rc), ownS 220 1 (.slice (some ⟨svb, 0, none⟩) sg2.length svc) (sg2).length (ptrs (sg2)), blk b3 (sigX (curS sts at_).j.ch x).cells 67, blk b4 txz.cells 67, ownS 5 1 (.slice ub (txbB (curS sts at_).j.ch x).length uc) ((txbB (curS sts at_).j.ch x).length) (ints .u8 (txbB (curS sts at_).j.ch x))]) (by rw [sigR_yes he hz, sigX_yes he hz, ← withSeal_cells x _ hx.len (sealH_length _ _)]; exact Weak.pick (p := [_]) (Weak.keep (Weak.keep (Weak.keep (Weak.keep (Weak.keep (Weak.nil _))))))) (rR ?_)
    refine lV (V_loadAgg rfl rfl ty_ag_67 (Rds.blk .h3) (hxo.cellsLen)) (k:=?_)
    refine lO (W_storeAll rfl rfl rfl rfl ty_ag_67 (hxo.cellsLen) (Tx.one _) .h4 (hxo.cellsLen) ?_)
    refine lQ (cE 4 rfl .nil) (R_ret ?_)
    exact R_end (rs2 := _) rfl rfl (.cell rfl (Rds.loadVar ty_ag_67 (Rds.blk .h4) hxo.cellsLen) .nil) (⟨sg2, _, rfl, hsl, hso2, rfl⟩) (Weak.keep (Weak.keep (Weak.keep (Weak.nil _))))
theorem sign_ok {gl : Nat → Obj} (hG : Globs gl) (w p q : Nat) (sv : Value) (at_ : Int) (nb : Option Addr) (nc : Nat) (sts : List StK) (hnc : sts.length ≤ nc) (hns : sts.length ≤ 439804651110) (hat : AtOk sts at_) (sg : List (Int × Nat)) (rc : List Rcd) (hgl : sg.length ≤ 4398046511104) (hrc : rc.length ≤ 4398046511104) (hso : SgOk sg) (x : Tx) (hx : x.ok) : Spec (cx gl) 58 [.pointer (some ⟨w, 0, none⟩), .agg x.cells.toArray] (fun wd hp => Seen wd hp nb (Go.Proofs.YtcngmkjdpoiiaaaGreatDoor.rc sts)) [blk w (sightC p q (sv) (.slice nb sts.length nc) (at_)) 135, REG q sg rc, ownS 220 1 (sv) (sg).length (ptrs (sg))] (fun v rs => ∃ sg' sv', v = .agg (sigX (curS sts at_).j.ch x).cells.toArray ∧ sg'.length ≤ sg.length + 1 ∧ SgOk sg' ∧ rs = [blk w (sightC p q (sv') (.slice nb sts.length nc) (at_)) 135, REG q sg' (sigR (curS sts at_).j.ch x rc), ownS 220 1 (sv') (sg').length (ptrs (sg'))]) := by
 by_cases hz : x.frm = 0
 ·exact sign_zero hG w p q sv at_ nb nc sts hnc hns hat sg rc hgl hrc hso x hx hz
 ·exact sign_pos hG w p q sv at_ nb nc sts hnc hns hat sg rc hgl hrc hso x hx hz
end Go.Proofs.YtcngmkjdpoiiaaaGreatDoor

/- What is picked goes. Printed by gen.py. -/
set_option maxRecDepth 100000
namespace Go.Proofs.YtcngmkjdpoiiaaaGreatDoor
open Go Go.RowKit Go.Proofs Go.Sort
/-- One behind the other is taken. -/
inductive Chain {σ : Type} (app : σ → TxR → Option σ) : σ → List TxR → Prop
 | nil {s : σ} : Chain app s []
 | cons {s s' : σ} {x : TxR} {l : List TxR} (h : app s x = some s') (k : Chain app s' l) : Chain app s (x :: l)
theorem PickR.chain {H : List TxR} {σ : Type} {app : σ → TxR → Option σ} {ρ : Nx} {s : σ} {n : Nat} {o : List TxR} (h : PickR H app ρ s n o) : Chain app s o := by
 induction h with
 | full => exact .nil
 | over _ => exact .nil
 | take _ ha _ ih => exact .cons ha ih
 | skip _ _ _ ih => exact ih
theorem Chain.at_ {σ : Type} {app : σ → TxR → Option σ} {s : σ} {l : List TxR} {i : Nat} {x : TxR} (h : Chain app s (l.drop i)) (hx : l[i]? = some x) : ∃ s', app s x = some s' ∧ Chain app s' (l.drop (i + 1)) := by
 obtain ⟨hi, e⟩ := List.getElem?_eq_some_iff.1 hx
 rw [List.drop_eq_getElem_cons hi, e] at h
 cases h with
 | cons h1 h2 => exact ⟨_, h1, h2⟩
theorem PickR.ge {H : List TxR} {σ : Type} {app : σ → TxR → Option σ} {ρ : Nx} {s : σ} {n : Nat} {o : List TxR} (h : PickR H app ρ s n o) : ∀ y ∈ o, ∃ m, ρ y.t.frm = some m ∧ m ≤ y.t.non := by
 induction h with
 | full => exact fun _ h => (nomatch h)
 | over _ => exact fun _ h => (nomatch h)
 | @take ρ s s' n x out hb ha k ih =>
  intro y hy
  rcases List.mem_cons.1 hy with rfl | hy
  ·exact ⟨_, hb.next, Int.le_refl _⟩
  ·obtain ⟨m, h1, h2⟩ := ih y hy
   by_cases e : y.t.frm = x.t.frm
   ·rw [e, setN_same] at h1
    cases h1
    exact ⟨x.t.non, by rw [e]; exact hb.next, by omega⟩
   ·rw [setN_other e] at h1; exact ⟨m, h1, h2⟩
 | @skip ρ s n x out hb ha k ih =>
  intro y hy
  obtain ⟨m, h1, h2⟩ := ih y hy
  by_cases e : y.t.frm = x.t.frm
  ·rw [e, setN_same] at h1; cases h1
  ·rw [setN_other e] at h1; exact ⟨m, h1, h2⟩
theorem PickR.nodup {H : List TxR} {σ : Type} {app : σ → TxR → Option σ} {ρ : Nx} {s : σ} {n : Nat} {o : List TxR} (h : PickR H app ρ s n o) : o.Nodup := by
 induction h with
 | full => exact List.nodup_nil
 | over _ => exact List.nodup_nil
 | @take ρ s s' n x out hb ha k ih =>
  refine List.nodup_cons.2 ⟨fun hm => ?_, ih⟩
  obtain ⟨m, h1, h2⟩ := k.ge x hm
  rw [setN_same] at h1
  cases h1
  omega
 | skip _ _ _ ih => exact ih
theorem nodup_sub_len {r H : List TxR} (hn : r.Nodup) (hm : ∀ x ∈ r, x ∈ H) : r.length ≤ H.length := nodup_len (fun x => x) (by rw [List.map_id']; exact hn) hm
/-- What is picked, in short. -/
structure Picked (rc : List Rcd) (ch : List Int) (p : Par) (h by_ : Int) (H : List TxR) (L : Led) (O : List TxR) : Prop where
 pick : O ≠ [] → h < 1099511627776 ∧ Chain (appF rc ch p (h + 1) by_) (payL L (h + 1)) O
 mem : ∀ x ∈ O, x ∈ H
 nodup : O.Nodup
 len : (O.length : Int) ≤ p.p5 ∨ O = []
theorem PickOf.picked {rc : List Rcd} {ch : List Int} {p : Par} {h by_ : Int} {H : List TxR} {L : Led} {O : List TxR} (k : PickOf rc ch p h by_ H L O) : Picked rc ch p h by_ H L O := by
 unfold PickOf at k
 split at k
 ·subst k; exact ⟨fun h => absurd rfl h, fun _ h => (nomatch h), List.nodup_nil, .inr rfl⟩
 ·refine ⟨fun _ => ⟨by omega, k.chain⟩, k.mem, k.nodup, ?_⟩
  have := k.len
  cases O with
  | nil => exact .inr rfl
  | cons x l => exact .inl (by rw [List.length_cons] at *; omega)
theorem PickOf.one {rc : List Rcd} {ch : List Int} {p : Par} {h by_ : Int} {H : List TxR} {L : Led} {O O' : List TxR} (hk : (H.map keyT).Nodup) (k : PickOf rc ch p h by_ H L O) (k' : PickOf rc ch p h by_ H L O') : O = O' := by
 unfold PickOf at k k'
 split at k
 ·rename_i h1; rw [if_pos h1] at k'; rw [k, k']
 ·rename_i h1; rw [if_neg h1] at k'; exact k.one hk k'
theorem appF_some {rc : List Rcd} {ch : List Int} {p : Par} {h b : Int} {L M : Led} {x : TxR} (e : appF rc ch p h b L x = some M) : chkE rc ch L p h x.t = 0 ∧ M = appP L p h b x.t := by
 unfold appF at e
 split at e
 ·rename_i h1; exact ⟨h1, (Option.some.inj e).symm⟩
 ·cases e
/-- All of a state's block but the signers. -/
def sightP (w p q : Nat) (nv : Value) (a : Int) : HP := fun h => ∃ sv, blk w (sightC p q sv nv a) 135 h
section
variable {C : Cx} {F : Fx} {rs : List HP}
theorem rd_sightP {w p q : Nat} {nv v : Value} {a : Int} {i : Nat} (m : Has rs (sightP w p q nv a) (sightP w p q nv a) rs) (hi : ∀ sv, (sightC p q sv nv a)[i]? = some v) : Rd C F rs ⟨w, i, none⟩ v := fun wd n => by
 obtain ⟨h, s, mv⟩ := n
 obtain ⟨c, d, ⟨sv, ha⟩, dj, rfl, _⟩ := Sep.take m s
 exact Rd.blk (rs := [blk w (sightC p q sv nv a) 135]) .h0 (hi sv) wd ⟨c, Sep.single.2 ha, mv.le (Heap.le_join_left _ _)⟩
theorem Weak.sightP {w p q : Nat} {sv nv : Value} {a : Int} {rs : List HP} : Weak (blk w (sightC p q sv nv a) 135 :: rs) (Go.Proofs.YtcngmkjdpoiiaaaGreatDoor.sightP w p q nv a :: rs) := Weak.turn .h0 fun _ h => ⟨sv, h⟩
end
end Go.Proofs.YtcngmkjdpoiiaaaGreatDoor

/- Plain: what an address has; a sound ledger; rows. Printed by gen.py. -/
set_option maxRecDepth 100000
namespace Go.Proofs.YtcngmkjdpoiiaaaGreatDoor
open Go Go.RowKit Go.Proofs
/-! ### What an address has -/
def nilA (a : Int) : Acc := ⟨a, 0, 0, 0, false⟩
def getA : List Acc → Int → Acc
 | [], a => nilA a
 | x :: l, a => if x.a = a then x else if a < x.a then nilA a else getA l a
def hasA (l : List Acc) (a : Int) : Prop := ∃ x ∈ l, x.a = a
theorem getA_a : ∀ (l : List Acc) (a : Int), (getA l a).a = a
 | [], a => rfl
 | x :: l, a => by
  rw [getA]
  split
  ·assumption
  ·split
   ·rfl
   ·exact getA_a l a
theorem getA_of {l : List Acc} (h : Up l) {x : Acc} (hx : x ∈ l) : getA l x.a = x := by
 induction l with
 | nil => cases hx
 | cons y l ih =>
  obtain ⟨h1, h2⟩ := List.pairwise_cons.1 h
  rw [getA]
  rcases List.mem_cons.1 hx with rfl | hx
  ·rw [if_pos rfl]
  ·have := h1 x hx
   rw [if_neg (by omega), if_neg (by omega)]
   exact ih h2 hx
theorem getA_mem {l : List Acc} (h : Up l) {a : Int} (hh : hasA l a) : getA l a ∈ l := by
 obtain ⟨x, hx, rfl⟩ := hh
 rw [getA_of h hx]; exact hx
theorem getA_none {l : List Acc} {a : Int} (hh : ¬ hasA l a) : getA l a = nilA a := by
 induction l with
 | nil => rfl
 | cons x l ih =>
  rw [getA, if_neg (fun e => hh ⟨x, List.mem_cons_self .., e⟩)]
  split
  ·rfl
  ·exact ih fun ⟨y, hy, e⟩ => hh ⟨y, List.mem_cons_of_mem _ hy, e⟩
theorem sumA_updR (f : Acc → Acc) (a : Int) : ∀ l, sumA (updR l a f) = sumA l + ((f (getA l a)).bal + (f (getA l a)).bond) - ((getA l a).bal + (getA l a).bond)
 | [] => by simp [updR, getA, sumA, nilA]
 | x :: l => by
  rw [updR, getA]
  split
  ·rw [sumA_cons, sumA_cons]; omega
  ·split
   ·rw [sumA_cons, sumA_cons]; unfold nilA; simp only; omega
   ·rw [sumA_cons, sumA_cons, sumA_updR f a l]; omega
theorem mem_updR {f : Acc → Acc} (hf : Keeps f) {a : Int} : ∀ {l : List Acc}, Up l → ∀ {y : Acc}, y ∈ updR l a f ↔ (y ∈ l ∧ y.a ≠ a) ∨ y = f (getA l a)
 | [], _, y => by simp [updR, getA, nilA]
 | x :: l, h, y => by
  obtain ⟨h1, h2⟩ := List.pairwise_cons.1 h
  rw [updR, getA]
  split
  ·rename_i e
   refine ⟨fun hy => ?_, fun hy => ?_⟩
   ·rcases List.mem_cons.1 hy with rfl | hy
    ·exact .inr rfl
    ·exact .inl ⟨List.mem_cons_of_mem _ hy, by have := h1 y hy; omega⟩
   ·rcases hy with ⟨hy, hn⟩ | rfl
    ·rcases List.mem_cons.1 hy with rfl | hy
     ·exact absurd e hn
     ·exact List.mem_cons_of_mem _ hy
    ·exact List.mem_cons_self ..
  ·split
   ·rename_i e e2
    refine ⟨fun hy => ?_, fun hy => ?_⟩
    ·rcases List.mem_cons.1 hy with rfl | hy
     ·exact .inr rfl
     ·refine .inl ⟨hy, ?_⟩
      rcases List.mem_cons.1 hy with rfl | hy
      ·exact e
      ·have := h1 y hy; omega
    ·rcases hy with ⟨hy, hn⟩ | rfl
     ·exact List.mem_cons_of_mem _ hy
     ·exact List.mem_cons_self ..
   ·rename_i e e2
    rw [List.mem_cons, List.mem_cons, mem_updR hf h2]
    refine ⟨fun hy => ?_, fun hy => ?_⟩
    ·rcases hy with rfl | ⟨hy, hn⟩ | rfl
     ·exact .inl ⟨.inl rfl, e⟩
     ·exact .inl ⟨.inr hy, hn⟩
     ·exact .inr rfl
    ·rcases hy with ⟨rfl | hy, hn⟩ | rfl
     ·exact .inl rfl
     ·exact .inr (.inl ⟨hy, hn⟩)
     ·exact .inr (.inr rfl)
theorem getA_updR {f : Acc → Acc} (hf : Keeps f) {l : List Acc} (h : Up l) (a b : Int) : getA (updR l a f) b = if b = a then f (getA l a) else getA l b := by
 have hu := updR_up hf (a := a) h
 split
 ·rename_i e
  subst e
  have hm : f (getA l b) ∈ updR l b f := (mem_updR hf h).2 (.inr rfl)
  have := getA_of hu hm
  rw [hf, getA_a] at this; exact this
 ·rename_i e
  cases Classical.em (hasA l b) with
  | inl hb =>
   obtain ⟨x, hx, rfl⟩ := hb
   rw [getA_of h hx]; exact getA_of hu ((mem_updR hf h).2 (.inl ⟨hx, e⟩))
  | inr hb =>
   rw [getA_none hb, getA_none]
   rintro ⟨y, hy, e2⟩
   rcases (mem_updR hf h).1 hy with ⟨h1, _⟩ | rfl
   ·exact hb ⟨y, h1, e2⟩
   ·rw [hf, getA_a] at e2; exact e e2.symm
theorem hasA_updR {f : Acc → Acc} (hf : Keeps f) {l : List Acc} (h : Up l) {a b : Int} : hasA (updR l a f) b ↔ hasA l b ∨ b = a := by
 refine ⟨fun ⟨y, hy, e⟩ => ?_, fun hh => ?_⟩
 ·rcases (mem_updR hf h).1 hy with ⟨h1, _⟩ | rfl
  ·exact .inl ⟨y, h1, e⟩
  ·rw [hf, getA_a] at e; exact .inr e.symm
 ·rcases hh with hh | rfl
  ·exact updR_has hf hh
  ·exact ⟨_, (mem_updR hf h).2 (.inr rfl), by rw [hf, getA_a]⟩
theorem updR_len {f : Acc → Acc} {a : Int} : ∀ l, (updR l a f).length ≤ l.length + 1
 | [] => by simp [updR]
 | x :: l => by
  rw [updR]
  split
  ·simp
  ·split
   ·simp
   ·have := updR_len (f := f) (a := a) l; simp; omega
theorem updR_len_has {f : Acc → Acc} {l : List Acc} (h : Up l) {a : Int} (hh : hasA l a) : (updR l a f).length = l.length := by
 rw [← upd_yes h ((spotB_has h).2 hh), List.length_set]
theorem mem_sumA {l : List Acc} (hok : ∀ x ∈ l, x.ok) {x : Acc} (hx : x ∈ l) : x.bal + x.bond ≤ sumA l := by
 induction l with
 | nil => cases hx
 | cons y l ih =>
  rw [sumA_cons]
  have h2 : ∀ x ∈ l, x.ok := fun z hz => hok z (List.mem_cons_of_mem _ hz)
  have h0 := sumA_nn h2
  obtain ⟨_, ⟨h3, _⟩, ⟨h4, _⟩, _⟩ := hok y (List.mem_cons_self ..)
  rcases List.mem_cons.1 hx with rfl | hx
  ·omega
  ·have := ih h2 hx; omega
theorem mem_sumR {l : List Rel} (hok : ∀ x ∈ l, x.ok) {x : Rel} (hx : x ∈ l) : x.amt ≤ sumR l := by
 induction l with
 | nil => cases hx
 | cons y l ih =>
  rw [sumR_cons]
  have h2 : ∀ x ∈ l, x.ok := fun z hz => hok z (List.mem_cons_of_mem _ hz)
  have h0 := sumR_nn h2
  obtain ⟨_, _, _, ⟨h4, _⟩⟩ := hok y (List.mem_cons_self ..)
  rcases List.mem_cons.1 hx with rfl | hx
  ·omega
  ·have := ih h2 hx; omega
theorem getA_ok {l : List Acc} (h : Up l) (hok : ∀ x ∈ l, x.ok) {a : Int} (ha : u64 a) : (getA l a).ok := by
 cases Classical.em (hasA l a) with
 | inl hh => exact hok _ (getA_mem h hh)
 | inr hh => rw [getA_none hh]; exact ⟨ha, ⟨Int.le_refl 0, show (0 : Int) ≤ 18446744073709551615 by decide⟩, ⟨Int.le_refl 0, show (0 : Int) ≤ 18446744073709551615 by decide⟩, ⟨Int.le_refl 0, show (0 : Int) ≤ 18446744073709551615 by decide⟩⟩
theorem getA_le {l : List Acc} (h : Up l) (hok : ∀ x ∈ l, x.ok) (a : Int) : 0 ≤ (getA l a).bal ∧ 0 ≤ (getA l a).bond ∧ (getA l a).bal + (getA l a).bond ≤ sumA l := by
 cases Classical.em (hasA l a) with
 | inl hh =>
  have hm := getA_mem h hh
  obtain ⟨_, ⟨h3, _⟩, ⟨h4, _⟩, _⟩ := hok _ hm
  exact ⟨h3, h4, mem_sumA hok hm⟩
 | inr hh => rw [getA_none hh]; have := sumA_nn hok; exact ⟨Int.le_refl 0, Int.le_refl 0, by show (0 : Int) + 0 ≤ _; omega⟩
theorem accAt_getA {l : List Acc} (h : Up l) {a : Int} (hb : spotB l a = true) : accAt l (spotI l a) = getA l a := by
 have h1 := spotB_at hb
 have := getA_of h (accAt_mem h1.1)
 rw [h1.2] at this; exact this.symm
theorem findA_getA {l : List Acc} (h : Up l) {a : Int} (hh : hasA l a) : findA l a = getA l a := by
 rcases idxG_cases (isAc a) l with h1 | ⟨i, hi, e⟩
 ·exfalso
  obtain ⟨x, hx, e⟩ := hh
  unfold idxG at h1
  split at h1
  ·omega
  ·rename_i hn
   rw [List.findIdx?_eq_none_iff] at hn
   have := hn x hx
   unfold isAc at this
   rw [decide_eq_false_iff_not] at this
   exact this e
 ·have h2 := findA_at e
  rw [h2]
  unfold idxG at e
  split at e
  ·rename_i j hj
   obtain ⟨hj1, hj2, _⟩ := List.findIdx?_eq_some_iff_getElem.1 hj
   have hij : j = i := by omega
   subst hij
   have e3 : (accAt l j).a = a := by rw [accAt_of (List.getElem?_eq_getElem hj1)]; exact of_decide_eq_true hj2
   have := getA_of h (accAt_mem hj1)
   rw [e3] at this; exact this.symm
  ·omega
/-- A sound ledger, in words that are easily kept. -/
def RUp (r : List Rel) : Prop := r.Pairwise fun x y => x.h < y.h ∨ (x.h = y.h ∧ x.a < y.a)
structure RowOk (l : List Acc) (y : Rel) : Prop where
 has : hasA l y.a
 born : y.born ≤ 1099511627776
 le : y.born ≤ y.h
 last : y.h ≤ 1103806595072
 some_ : y.amt ≠ 0
structure LF (L : Led) : Prop where
 ok : ∀ x ∈ L.acc, x.ok
 ok' : ∀ y ∈ L.rel, y.ok
 few : L.acc.length ≤ 65536
 few' : L.rel.length ≤ 65536
 up : Up L.acc
 no0 : ∀ x ∈ L.acc, x.a ≠ 0
 rup : RUp L.rel
 rows : ∀ y ∈ L.rel, RowOk L.acc y
 b0 : 0 ≤ L.burnt
 sup : L.sup ≤ MS
 sum : L.burnt + sumA L.acc + sumR L.rel = L.sup
theorem LF.new {l : List Acc} (h : newE l = 0) (hok : ∀ x ∈ l, x.ok) : LF ⟨l, [], 0, sumA l⟩ := by
 obtain ⟨h1, h2, h3⟩ := newE_zero h
 have hf := accFine_of h2
 refine ⟨hok, fun y hy => (by cases hy), h1, Nat.zero_le _, accFine_up hf, fun x hx => ?_, List.Pairwise.nil, fun y hy => (by cases hy), Int.le_refl 0, h3, by simp [sumR]⟩
 obtain ⟨i, hi, e⟩ := List.mem_iff_getElem.1 hx
 have := hf.no0 i hi
 rw [accAt_of (List.getElem?_eq_getElem hi), e] at this; exact this
/-! ### Rows -/
def updW : List Rel → Int → Int → Int → Int → List Rel
 | [], h, a, b, n => [addAmt n ⟨h, a, b, 0⟩]
 | y :: r, h, a, b, n => if y.h = h ∧ y.a = a then addAmt n y :: r else if h < y.h ∨ (h = y.h ∧ a < y.a) then addAmt n ⟨h, a, b, 0⟩ :: y :: r else y :: updW r h a b n
theorem later_key (y : Rel) (h a : Int) : (laterI y (rowK h a) < 0 ↔ y.h < h ∨ (y.h = h ∧ y.a < a)) ∧ (laterI y (rowK h a) = 0 ↔ y.h = h ∧ y.a = a) := by
 have e : laterI y (rowK h a) = orI (cmpI y.h h) (cmpI y.a a) := rfl
 rw [e]
 unfold orI cmpI
 by_cases h1 : y.h < h
 ·simp [h1]; omega
 ·by_cases h2 : h < y.h
  ·simp [h1, h2]; omega
  ·have h3 : y.h = h := by omega
   by_cases h4 : y.a < a
   ·simp [h3, h4]; omega
   ·by_cases h5 : a < y.a
    ·simp [h3, h4, h5]; omega
    ·have h6 : y.a = a := by omega
     simp [h3, h6]
theorem row_up {r : List Rel} (hr : RUp r) (h a : Int) : (∀ i, i < rowI r h a → (relAt r i).h < h ∨ ((relAt r i).h = h ∧ (relAt r i).a < a)) ∧ (∀ i, rowI r h a ≤ i → i < r.length → h < (relAt r i).h ∨ (h = (relAt r i).h ∧ a ≤ (relAt r i).a)) := by
 obtain ⟨h1, h2⟩ := bsN_spec (p := fun i => decide (laterI (relAt r i) (rowK h a) < 0)) r.length 0 r.length (Nat.le_refl _) (Nat.zero_le _) fun i j _ hij hj hp => by
  have h3 := List.pairwise_iff_getElem.1 hr i j (by omega) hj hij
  rw [← relAt_of (List.getElem?_eq_getElem (show i < r.length by omega)), ← relAt_of (List.getElem?_eq_getElem hj)] at h3
  have hp := (later_key _ h a).1.1 (of_decide_eq_true hp)
  exact decide_eq_true ((later_key _ h a).1.2 (by omega))
 refine ⟨fun i hi => (later_key _ h a).1.1 (of_decide_eq_true (h1 i (Nat.zero_le _) hi)), fun i hi hn => ?_⟩
 have h3 := of_decide_eq_false (h2 i hi hn)
 rw [(later_key _ h a).1] at h3
 omega
theorem updW_set {h a b n : Int} : ∀ {r : List Rel} {i : Nat}, (∀ j, j < i → (relAt r j).h < h ∨ ((relAt r j).h = h ∧ (relAt r j).a < a)) → i < r.length → (relAt r i).h = h → (relAt r i).a = a → r.set i (addAmt n (relAt r i)) = updW r h a b n
 | [], i, _, hi, _, _ => by simp at hi
 | x :: r, 0, _, _, e, e2 => by rw [updW, if_pos (show x.h = h ∧ x.a = a from ⟨e, e2⟩)]; rfl
 | x :: r, i + 1, hl, hi, e, e2 => by
  have h0 : x.h < h ∨ (x.h = h ∧ x.a < a) := hl 0 (Nat.succ_pos _)
  rw [updW, if_neg (by omega), if_neg (by omega)]
  exact congrArg (x :: ·) (updW_set (r := r) (i := i) (fun j hj => hl (j + 1) (by omega)) (by simpa using hi) e e2)
theorem updW_ins {h a b n : Int} : ∀ {r : List Rel} {i : Nat}, (∀ j, j < i → (relAt r j).h < h ∨ ((relAt r j).h = h ∧ (relAt r j).a < a)) → (∀ j, i ≤ j → j < r.length → h < (relAt r j).h ∨ (h = (relAt r j).h ∧ a < (relAt r j).a)) → i ≤ r.length → insL r i (addAmt n ⟨h, a, b, 0⟩) = updW r h a b n
 | [], i, _, _, hi => by
  obtain rfl : i = 0 := by simpa using hi
  rfl
 | x :: r, 0, _, h2, _ => by
  have h0 : h < x.h ∨ (h = x.h ∧ a < x.a) := h2 0 (Nat.le_refl _) (Nat.succ_pos _)
  rw [updW, if_neg (by omega), if_pos h0]; rfl
 | x :: r, i + 1, hl, h2, hi => by
  have h0 : x.h < h ∨ (x.h = h ∧ x.a < a) := hl 0 (Nat.succ_pos _)
  rw [updW, if_neg (by omega), if_neg (by omega)]
  exact congrArg (x :: ·) (updW_ins (r := r) (i := i) (fun j hj => hl (j + 1) (by omega)) (fun j h3 h4 => h2 (j + 1) (by omega) (by simpa using h4)) (by simpa using hi))
theorem rowB_at {r : List Rel} {h a : Int} (e : rowB r h a = true) : rowI r h a < r.length ∧ (relAt r (rowI r h a)).h = h ∧ (relAt r (rowI r h a)).a = a := by
 unfold rowB at e
 rw [Bool.and_eq_true, decide_eq_true_eq, decide_eq_true_eq, (later_key _ h a).2] at e
 exact e
theorem relP_eq {r : List Rel} (hr : RUp r) (h a b n : Int) : relP r h a b n = updW r h a b n := by
 obtain ⟨h1, h2⟩ := row_up hr h a
 have hi := rowI_le r h a
 unfold relP
 cases e : rowB r h a with
 | true =>
  obtain ⟨q1, q2, q3⟩ := rowB_at e
  rw [midR_yes e]
  exact updW_set h1 q1 q2 q3
 | false =>
  rw [midR_no e]
  have e2 : (insL r (rowI r h a) ⟨h, a, b, 0⟩)[rowI r h a]? = some ⟨h, a, b, 0⟩ := by
   unfold insL; rw [List.getElem?_append_right (by rw [List.length_take]; omega), List.length_take, Nat.min_eq_left hi, Nat.sub_self]; rfl
  rw [relAt_of e2, ← updW_ins h1 (fun j h3 h4 => ?_) hi]
  ·unfold insL
   rw [List.set_append_right _ _ (by rw [List.length_take]; omega), List.length_take, Nat.min_eq_left hi, Nat.sub_self]; rfl
  ·rcases h2 j h3 h4 with h5 | ⟨h5, h6⟩
   ·exact .inl h5
   ·refine .inr ⟨h5, ?_⟩
    rcases Int.lt_or_eq_of_le h6 with h7 | h7
    ·exact h7
    ·exfalso
     have e3 : rowI r h a = j := by
      rcases Nat.lt_or_ge (rowI r h a) j with h8 | h8
      ·have h9 := List.pairwise_iff_getElem.1 hr _ j (by omega) h4 h8
       rw [← relAt_of (List.getElem?_eq_getElem (show rowI r h a < r.length by omega)), ← relAt_of (List.getElem?_eq_getElem h4)] at h9
       have := h2 _ (Nat.le_refl _) (show rowI r h a < r.length by omega)
       omega
      ·omega
     have : rowB r h a = true := by
      unfold rowB
      rw [Bool.and_eq_true, decide_eq_true_eq, decide_eq_true_eq, (later_key _ h a).2, e3]
      exact ⟨h4, h5.symm, h7.symm⟩
     rw [e] at this; cases this
theorem updW_mem {h a b n : Int} : ∀ {r : List Rel} {z : Rel}, z ∈ updW r h a b n → z ∈ r ∨ ∃ y, (y ∈ r ∨ y = ⟨h, a, b, 0⟩) ∧ y.h = h ∧ y.a = a ∧ z = addAmt n y
 | [], z, hz => .inr ⟨_, .inr rfl, rfl, rfl, by simpa [updW] using hz⟩
 | x :: r, z, hz => by
  rw [updW] at hz
  split at hz
  ·rename_i e
   rcases List.mem_cons.1 hz with rfl | hz
   ·exact .inr ⟨x, .inl (List.mem_cons_self ..), e.1, e.2, rfl⟩
   ·exact .inl (List.mem_cons_of_mem _ hz)
  ·split at hz
   ·rcases List.mem_cons.1 hz with rfl | hz
    ·exact .inr ⟨_, .inr rfl, rfl, rfl, rfl⟩
    ·exact .inl hz
   ·rcases List.mem_cons.1 hz with rfl | hz
    ·exact .inl (List.mem_cons_self ..)
    ·rcases updW_mem hz with hz | ⟨y, h1, h2⟩
     ·exact .inl (List.mem_cons_of_mem _ hz)
     ·exact .inr ⟨y, h1.imp (List.mem_cons_of_mem _) id, h2⟩
theorem updW_up {h a b n : Int} : ∀ {r : List Rel}, RUp r → RUp (updW r h a b n)
 | [], _ => List.pairwise_singleton ..
 | x :: r, hr => by
  obtain ⟨h1, h2⟩ := List.pairwise_cons.1 hr
  rw [updW]
  split
  ·exact List.pairwise_cons.2 ⟨fun y hy => h1 y hy, h2⟩
  ·split
   ·rename_i e
    refine List.pairwise_cons.2 ⟨fun y hy => ?_, hr⟩
    show h < y.h ∨ (h = y.h ∧ a < y.a)
    rcases List.mem_cons.1 hy with rfl | hy
    ·exact e
    ·have := h1 y hy; omega
   ·refine List.pairwise_cons.2 ⟨fun y hy => ?_, updW_up h2⟩
    rcases updW_mem hy with hy | ⟨z, _, e1, e2, rfl⟩
    ·exact h1 y hy
    ·show x.h < z.h ∨ (x.h = z.h ∧ x.a < z.a); omega
theorem sumR_updW {h a b n : Int} (hn : 0 ≤ n) (hn2 : n ≤ MS) : ∀ {r : List Rel}, (∀ y ∈ r, y.ok) → sumR r ≤ MS → sumR (updW r h a b n) = sumR r + n
 | [], _, _ => by
  have : w64 (0 + n) = n := by rw [w64_eq]; have : MS = 1152921504606846975 := rfl; omega
  show sumR [addAmt n ⟨h, a, b, 0⟩] = sumR [] + n
  simp [sumR, addAmt, w64_eq]; have : MS = 1152921504606846975 := rfl; omega
 | x :: r, hok, hs => by
  have hms : MS = 1152921504606846975 := rfl
  have hok2 : ∀ y ∈ r, y.ok := fun y hy => hok y (List.mem_cons_of_mem _ hy)
  have h0 := sumR_nn hok2
  obtain ⟨_, _, _, ⟨h4, _⟩⟩ := hok x (List.mem_cons_self ..)
  rw [sumR_cons] at hs
  rw [updW]
  split
  ·rw [sumR_cons, sumR_cons]
   show w64 (x.amt + n) + _ = _
   rw [w64_eq]; omega
  ·split
   ·rw [sumR_cons, sumR_cons]
    show w64 (0 + n) + _ = _
    rw [w64_eq]; omega
   ·rw [sumR_cons, sumR_cons, sumR_updW hn hn2 hok2 (by omega)]; omega
theorem updW_len_has {r : List Rel} {h a b n : Int} (hr : RUp r) (e : rowB r h a = true) : (updW r h a b n).length = r.length := by
 rw [← relP_eq hr]; unfold relP; rw [List.length_set, midR_yes e]
end Go.Proofs.YtcngmkjdpoiiaaaGreatDoor

/- Plain: what Apply keeps. Printed by gen.py. -/
set_option maxRecDepth 100000
namespace Go.Proofs.YtcngmkjdpoiiaaaGreatDoor
open Go Go.RowKit Go.Proofs
set_option maxHeartbeats 2000000
structure Nice (l : List Acc) : Prop where
 up : Up l
 ok : ∀ x ∈ l, x.ok
 no0 : ∀ x ∈ l, x.a ≠ 0
theorem Nice.upd {f : Acc → Acc} (hf : Keeps f) (hok : ∀ x, x.ok → (f x).ok) {a : Int} (ha : u64 a) (h0 : a ≠ 0) {l : List Acc} (h : Nice l) : Nice (updR l a f) :=
 ⟨updR_up hf h.up, updR_ok hok ha h.ok, fun x hx => by
  rcases (mem_updR hf h.up).1 hx with ⟨h1, _⟩ | rfl
  ·exact h.no0 x h1
  ·rw [hf, getA_a]; exact h0⟩
theorem u64_of_sum {x : Int} (h0 : 0 ≤ x) (h1 : x ≤ 2305843009213693951) : w64 x = x := w64_id ⟨h0, by omega⟩
theorem sum_addBal {l : List Acc} (h : Nice l) (hs : sumA l ≤ MS) {n : Int} (h0 : 0 ≤ n) (h1 : n ≤ MS) (a : Int) : sumA (updR l a (addBal n)) = sumA l + n := by
 have hms : MS = 1152921504606846975 := rfl
 obtain ⟨q1, q2, q3⟩ := getA_le h.up h.ok a
 rw [sumA_updR]
 show _ + (w64 ((getA l a).bal + n) + (getA l a).bond) - _ = _
 rw [u64_of_sum (by omega) (by omega)]; omega
theorem non_addBal {l : List Acc} (h : Up l) (a n b : Int) : (getA (updR l a (addBal n)) b).non = (getA l b).non := by
 rw [getA_updR (keeps_add n) h]
 split
 ·rename_i e; rw [e]; rfl
 ·rfl
/-- What every call keeps. -/
structure Kept (L M : Led) : Prop where
 lf : LF M
 sup : M.sup = L.sup
 has : ∀ a, hasA L.acc a → hasA M.acc a
 non : ∀ a, hasA L.acc a → (getA L.acc a).non ≤ (getA M.acc a).non
theorem find_self {L : Led} (hL : LF L) {z : Acc} (hz : z ∈ L.acc) : z = findA L.acc z.a := by
 rw [findA_getA hL.up ⟨z, hz, rfl⟩, getA_of hL.up hz]
/-! ### Apply -/
structure AppKept (L M : Led) (x : Tx) (b : Int) : Prop where
 kept : Kept L M
 oth : ∀ z ∈ M.acc, z.a ≠ x.frm → z.a ≠ x.to → z.a ≠ b → z = findA L.acc z.a
 nonc : (findA M.acc x.frm).non = (findA L.acc x.frm).non + 1
 one : (findA L.acc x.frm).non = x.non
 frm : hasA L.acc x.frm
theorem sender_getA {rc : List Rcd} {ch : List Int} {L : Led} {p : Par} {h : Int} {x : Tx} (hu : Up L.acc) (hc : ChkFine rc ch L p h x) : senderA L x = getA L.acc x.frm := accAt_getA hu hc.frm
theorem bond_pay {x : Tx} {A : Acc} (hA : A.ok) (hk : x.kind = 3 → x.amt ≤ A.bond) (hx : x.ok) (hb : A.bond ≤ MS) (ha : x.amt ≤ MS) : (payK x A).bond = if x.kind = 2 then A.bond + x.amt else if x.kind = 3 then A.bond - x.amt else A.bond := by
 have hms : MS = 1152921504606846975 := rfl
 obtain ⟨_, _, ⟨b0, b1⟩, _⟩ := hA
 have := hx.amt.1
 show (if x.kind = 2 then w64 (A.bond + x.amt) else if x.kind = 3 then w64 (A.bond - x.amt) else A.bond) = _
 split
 ·rw [u64_of_sum (by omega) (by omega)]
 ·split
  ·rename_i h1 h2; have := hk h2; rw [u64_of_sum (by omega) (by omega)]
  ·rfl
theorem keep_app {rc : List Rcd} {ch : List Int} {L : Led} {p : Par} {h b : Int} {x : Tx} (hL : LF L) (hx : x.ok) (hbu : u64 b) (hh : u64 h) (hp3 : u64 p.p3) (hc : ChkFine rc ch L p h x) : AppKept L (appP L p h b x) x b := by
 have hms : MS = 1152921504606846975 := rfl
 have hF := txFine_of (txbE_fine hc.tx).2
 have hs := hL.sum; have hsu := hL.sup; have hb0 := hL.b0; have hR := sumR_nn hL.ok'; have hS := sumA_nn hL.ok
 have hsa := sender_getA hL.up hc
 have hfrm : hasA L.acc x.frm := (spotB_has hL.up).1 hc.frm
 have hkd := hc.kind
 have hbal := hc.bal
 have hnon := hc.non
 have htop := hc.top
 rw [hsa] at hkd hbal hnon
 have hAok := getA_ok hL.up hL.ok hx.frm
 obtain ⟨a0, a1, a2⟩ := getA_le hL.up hL.ok x.frm
 have hamt := hx.amt.1; have hfee := hx.fee.1
 have hamt1 := hF.amt; have hfee1 := hF.fee
 have hnz := (hx.non).1
 have hA := accK_eq hL.up hL.ok hx hc
 have hkb : x.kind = 3 → x.amt ≤ (getA L.acc x.frm).bond := fun k3 => by
  unfold kindE at hkd; rw [if_neg (by omega), if_pos k3] at hkd; split at hkd <;> omega
 have hpb := bond_pay (x := x) hAok hkb hx (by omega) hamt1
 have hcost : costI x = if x.kind = 1 ∨ x.kind = 2 then x.fee + x.amt else x.fee := rfl
 have hpl : (payK x (getA L.acc x.frm)).bal = (getA L.acc x.frm).bal - costI x := by
  have hc0 : 0 ≤ costI x := by rw [hcost]; split <;> omega
  show w64 (_ + -costI x) = _
  rw [u64_of_sum (by omega) (by omega)]; omega
 have hpn : (payK x (getA L.acc x.frm)).non = (getA L.acc x.frm).non + 1 := by
  show w64 (_ + 1) = _
  obtain ⟨_, _, _, n0, n1⟩ := hAok
  exact w64_id ⟨by omega, by omega⟩
 have n0 : Nice L.acc := ⟨hL.up, hL.ok, hL.no0⟩
 have n1 : Nice (updR L.acc x.frm (payK x)) := n0.upd (keeps_pay x) (ok_pay x) hx.frm hF.frm
 have s1 := sumA_updR (payK x) x.frm L.acc
 rw [hpl, hpb] at s1
 have l1 := updR_len_has (f := payK x) hL.up hfrm
 have m1 : ∀ z ∈ updR L.acc x.frm (payK x), z.a ≠ x.frm → z ∈ L.acc := fun z hz hn => by
  rcases (mem_updR (keeps_pay x) hL.up).1 hz with ⟨h1, _⟩ | rfl
  ·exact h1
  ·exact absurd (show (payK x (getA L.acc x.frm)).a = x.frm from getA_a _ _) hn
 have g1 := getA_updR (keeps_pay x) hL.up x.frm
 have h1 : ∀ a, hasA L.acc a → hasA (updR L.acc x.frm (payK x)) a := fun a ha => (hasA_updR (keeps_pay x) hL.up).2 (.inl ha)
 generalize updR L.acc x.frm (payK x) = T1 at *
 have hsum1 : sumA T1 = sumA L.acc - x.fee - (if x.kind = 1 then x.amt else 0) - (if x.kind = 3 then x.amt else 0) := by
  rw [s1, hcost]
  have := hF.k1; have := hF.k2
  by_cases k1 : x.kind = 1
  ·rw [if_pos (.inl k1), if_neg (by omega), if_neg (by omega), if_pos k1, if_neg (by omega)]; omega
  ·by_cases k2 : x.kind = 2
   ·rw [if_pos (.inr k2), if_pos k2, if_neg k1, if_neg (by omega)]; omega
   ·by_cases k3 : x.kind = 3
    ·rw [if_neg (by omega), if_neg k2, if_pos k3, if_neg k1, if_pos k3]; omega
    ·rw [if_neg (by omega), if_neg k2, if_neg k3, if_neg k1, if_neg k3]; omega
 have hx3 : 0 ≤ (if x.kind = 3 then x.amt else 0) := by split <;> omega
 have hx1 : 0 ≤ (if x.kind = 1 then x.amt else 0) := by split <;> omega
 -- the second list
 have key2 : Nice (toK x T1) ∧ sumA (toK x T1) = sumA L.acc - x.fee - (if x.kind = 3 then x.amt else 0) ∧ (toK x T1).length ≤ 65536 ∧ (∀ z ∈ toK x T1, z.a ≠ x.to → z ∈ T1) ∧ (∀ a, (getA (toK x T1) a).non = (getA T1 a).non) ∧ (∀ a, hasA T1 a → hasA (toK x T1) a) := by
  unfold toK
  by_cases k1 : x.kind = 1
  ·rw [if_pos k1] at hsum1
   rw [if_pos k1]
   refine ⟨n1.upd (keeps_add _) (ok_add _) hx.to (hF.to.1 k1), by rw [sum_addBal n1 (by omega) hamt hamt1, hsum1]; omega, ?_, fun z hz hn => ?_, fun a => non_addBal n1.up _ _ _, fun a ha => updR_has (keeps_add _) ha⟩
   ·cases Classical.em (hasA T1 x.to) with
    | inl ht => rw [updR_len_has n1.up ht, l1]; exact hL.few
    | inr ht =>
     have := updR_len (f := addBal x.amt) (a := x.to) T1
     have ht2 : spotB L.acc x.to = false := by
      cases hq : spotB L.acc x.to with
      | false => rfl
      | true => exact absurd (h1 _ ((spotB_has hL.up).1 hq)) ht
     unfold kindE at hkd
     rw [if_pos k1] at hkd
     split at hkd
     ·omega
     ·rename_i hq
      have : ¬ 65536 ≤ L.acc.length := fun h9 => hq ⟨ht2, h9⟩
      omega
   ·rcases (mem_updR (keeps_add _) n1.up).1 hz with ⟨h2, _⟩ | rfl
    ·exact h2
    ·exact absurd (show (addBal x.amt (getA T1 x.to)).a = x.to from getA_a _ _) hn
  ·rw [if_neg k1] at hsum1
   rw [if_neg k1]
   exact ⟨n1, by omega, by rw [l1]; exact hL.few, fun z hz _ => hz, fun _ => rfl, fun _ ha => ha⟩
 obtain ⟨n2, hsum2, l2, m2, g2, h2⟩ := key2
 -- the third
 have hM : appP L p h b x = if spotB (toK x T1) b = true then ⟨updR (toK x T1) b (addBal x.fee), relK L p h x, L.burnt, L.sup⟩ else ⟨toK x T1, relK L p h x, w64 (L.burnt + x.fee), L.sup⟩ := by
  unfold appP
  rw [hA]
  cases hq : spotB (toK x T1) b with
  | true => rw [if_pos rfl, if_pos rfl, upd_yes n2.up hq]
  | false => rw [if_neg (by decide), if_neg (by decide)]
 have key3 : ∃ T3 bu, appP L p h b x = ⟨T3, relK L p h x, bu, L.sup⟩ ∧ Nice T3 ∧ bu + sumA T3 = L.burnt + sumA L.acc - (if x.kind = 3 then x.amt else 0) ∧ 0 ≤ bu ∧ T3.length ≤ 65536 ∧ (∀ z ∈ T3, z.a ≠ b → z ∈ toK x T1) ∧ (∀ a, (getA T3 a).non = (getA (toK x T1) a).non) ∧ (∀ a, hasA (toK x T1) a → hasA T3 a) := by
  rw [hM]
  split
  ·rename_i hb
   replace hb := (spotB_has n2.up).1 hb
   have hb2 : b ≠ 0 := by obtain ⟨z, hz, e⟩ := hb; rw [← e]; exact n2.no0 z hz
   refine ⟨_, _, rfl, n2.upd (keeps_add _) (ok_add _) hbu hb2, by rw [sum_addBal n2 (by omega) hfee hfee1, hsum2]; omega, hb0, by rw [updR_len_has n2.up hb]; exact l2, fun z hz hn => ?_, fun a => non_addBal n2.up _ _ _, fun a ha => updR_has (keeps_add _) ha⟩
   rcases (mem_updR (keeps_add _) n2.up).1 hz with ⟨h3, _⟩ | rfl
   ·exact h3
   ·exact absurd (show (addBal x.fee (getA (toK x T1) b)).a = b from getA_a _ _) hn
  ·have e : w64 (L.burnt + x.fee) = L.burnt + x.fee := u64_of_sum (by omega) (by omega)
   exact ⟨_, _, rfl, n2, by rw [e, hsum2]; omega, by rw [e]; omega, l2, fun z hz _ => hz, fun _ => rfl, fun _ ha => ha⟩
 obtain ⟨T3, bu, e3, n3, hsum3, hbu3, l3, m3, g3, h3⟩ := key3
 have hasM : ∀ a, hasA L.acc a → hasA T3 a := fun a ha => h3 a (h2 a (h1 a ha))
 have nonM : ∀ a, (getA T3 a).non = if a = x.frm then (getA L.acc x.frm).non + 1 else (getA L.acc a).non := fun a => by
  rw [g3, g2, g1]; split
  ·exact hpn
  ·rfl
 -- the rows
 have keyR : RUp (relK L p h x) ∧ (∀ y ∈ relK L p h x, y.ok) ∧ (∀ y ∈ relK L p h x, RowOk T3 y) ∧ sumR (relK L p h x) = sumR L.rel + (if x.kind = 3 then x.amt else 0) ∧ (relK L p h x).length ≤ 65536 := by
  have hrows : ∀ y ∈ L.rel, RowOk T3 y := fun y hy => ⟨hasM _ (hL.rows y hy).has, (hL.rows y hy).born, (hL.rows y hy).le, (hL.rows y hy).last, (hL.rows y hy).some_⟩
  unfold relK
  by_cases k3 : x.kind = 3
  ·have ht := hc.time
   unfold timeB at ht
   obtain ⟨q1, q2⟩ := hp3
   obtain ⟨q3, q4⟩ := hh
   unfold kindE at hkd
   rw [if_neg (by omega), if_pos k3] at hkd
   have ha0 : x.amt ≠ 0 := by intro h9; rw [if_pos (.inl h9)] at hkd; omega
   rw [if_neg (by have := hkb k3; omega)] at hkd
   rw [if_pos k3, if_pos k3, relP_eq hL.rup]
   have hnew : ∀ y, (y ∈ L.rel ∨ y = ⟨h + p.p3, x.frm, h, 0⟩) → y.h = h + p.p3 → y.a = x.frm → u64 y.amt ∧ y.amt ≤ MS ∧ u64 y.born ∧ y.born ≤ 1099511627776 ∧ y.born ≤ y.h := fun y hy e1 e2 => by
    rcases hy with hy | rfl
    ·have h5 := hL.ok' y hy
     have h6 := mem_sumR hL.ok' hy
     have h7 := hL.rows y hy
     exact ⟨h5.2.2.2, by omega, h5.2.2.1, h7.born, h7.le⟩
    ·exact ⟨⟨Int.le_refl 0, show (0 : Int) ≤ 18446744073709551615 by decide⟩, show (0 : Int) ≤ MS by omega, ⟨q3, q4⟩, show h ≤ 1099511627776 by omega, show h ≤ h + p.p3 by omega⟩
   refine ⟨updW_up hL.rup, fun z hz => ?_, fun z hz => ?_, sumR_updW hamt hamt1 hL.ok' (by omega), ?_⟩
   ·rcases updW_mem hz with hz | ⟨y, hy, e1, e2, rfl⟩
    ·exact hL.ok' z hz
    ·obtain ⟨w1, w2, w3, w4, w5⟩ := hnew y hy e1 e2
     exact ⟨by show u64 y.h; rw [e1]; exact ⟨by omega, by omega⟩, by show u64 y.a; rw [e2]; exact hx.frm, w3, w64_ok _⟩
   ·rcases updW_mem hz with hz | ⟨y, hy, e1, e2, rfl⟩
    ·exact hrows z hz
    ·obtain ⟨⟨w0, w1⟩, w2, w3, w4, w5⟩ := hnew y hy e1 e2
     refine ⟨by show hasA T3 y.a; rw [e2]; exact hasM _ hfrm, w4, w5, by show y.h ≤ _; omega, ?_⟩
     show w64 (y.amt + x.amt) ≠ 0
     rw [u64_of_sum (by omega) (by omega)]; omega
   ·cases hq : rowB L.rel (h + p.p3) x.frm with
    | true => rw [updW_len_has hL.rup hq]; exact hL.few'
    | false =>
     rw [← relP_eq hL.rup]
     have := midR_le L.rel (h + p.p3) x.frm h
     unfold relP
     rw [List.length_set]
     split at hkd
     ·omega
     ·rename_i h9
      have : ¬ 65536 ≤ L.rel.length := fun h8 => h9 ⟨hq, h8⟩
      omega
  ·rw [if_neg k3, if_neg k3]
   exact ⟨hL.rup, hL.ok', hrows, by omega, hL.few'⟩
 obtain ⟨r1, r2, r3, r4, r5⟩ := keyR
 rw [e3]
 have hLF : LF ⟨T3, relK L p h x, bu, L.sup⟩ := ⟨n3.ok, r2, l3, r5, n3.up, n3.no0, r1, r3, hbu3, hsu, by show bu + sumA T3 + sumR (relK L p h x) = L.sup; omega⟩
 refine ⟨⟨hLF, rfl, hasM, fun a ha => ?_⟩, fun z hz hn1 hn2 hn3 => find_self hL (m1 z (m2 z (m3 z hz hn3) hn2) hn1), ?_, ?_, hfrm⟩
 ·show _ ≤ (getA T3 a).non
  rw [nonM]; split
  ·rename_i e; rw [e]; omega
  ·exact Int.le_refl _
 ·show (findA T3 x.frm).non = _
  rw [findA_getA n3.up (hasM _ hfrm), findA_getA hL.up hfrm, nonM, if_pos rfl]
 ·rw [findA_getA hL.up hfrm]; exact hnon.symm
end Go.Proofs.YtcngmkjdpoiiaaaGreatDoor

/- Plain: what Punish and Pay keep; what was taken. Printed by gen.py. -/
set_option maxRecDepth 100000
namespace Go.Proofs.YtcngmkjdpoiiaaaGreatDoor
open Go Go.RowKit Go.Proofs
set_option maxHeartbeats 2000000
/-! ### Punish -/
/-! ### Pay -/
theorem paidK_sub (h : Int) : ∀ (r : List Rel) (l : List Acc), (paidK h l r).Sublist r
 | [], _ => List.Sublist.slnil
 | y :: r, l => by
  unfold paidK
  rw [keptS]
  split
  ·exact (paidK_sub h r _).cons _
  ·exact (paidK_sub h r _).cons_cons _
structure PaidOk (l l' : List Acc) (t : Int) : Prop where
 nice : Nice l'
 has : ∀ a, hasA l' a ↔ hasA l a
 non : ∀ a, (getA l' a).non = (getA l a).non
 sum : sumA l' = t
theorem paid_ok (h : Int) : ∀ {r : List Rel} {l : List Acc}, Nice l → (∀ y ∈ r, hasA l y.a) → (∀ y ∈ r, y.ok) → sumA l + sumR r ≤ MS → PaidOk l (paidA h l r) (sumA l + sumR r - sumR (paidK h l r))
 | [], l, hn, _, _, _ => ⟨hn, fun _ => Iff.rfl, fun _ => rfl, by show sumA l = _; unfold paidK keptS; omega⟩
 | y :: r, l, hn, hh, hok, hs => by
  have hms : MS = 1152921504606846975 := rfl
  have hy := hh y (List.mem_cons_self ..)
  have hyo := hok y (List.mem_cons_self ..)
  have hok2 : ∀ z ∈ r, z.ok := fun z hz => hok z (List.mem_cons_of_mem _ hz)
  have hR := sumR_nn hok2
  have hA := sumA_nn hn.ok
  have hb : spotB l y.a = true := (spotB_has hn.up).2 hy
  rw [sumR_cons] at hs
  have eA : paidA h l (y :: r) = paidA h (payY h l y) r := rfl
  rw [eA, sumR_cons]
  by_cases hd : h < y.h
  ·have hdue : dueB h l y = false := by unfold dueB; rw [decide_eq_true hd]; rfl
   have e1 : payY h l y = l := if_neg (by rw [hdue]; decide)
   have e2 : paidK h l (y :: r) = y :: paidK h l r := by
    show (if dueB h l y = true then _ else _) = _
    rw [if_neg (by rw [hdue]; decide)]
    show y :: paidK h (payY h l y) r = _
    rw [e1]
   rw [e1, e2, sumR_cons]
   have h0 := hyo.2.2.2.1
   obtain ⟨i1, i2, i3, i4⟩ := paid_ok h hn (fun z hz => hh z (List.mem_cons_of_mem _ hz)) hok2 (by omega)
   exact ⟨i1, i2, i3, by rw [i4]; omega⟩
  ·have hdue : dueB h l y = true := by unfold dueB; rw [decide_eq_false hd, hb]; rfl
   have e1 : payY h l y = updR l y.a (addBal y.amt) := by
    unfold payY; rw [if_pos hdue]; exact upd_yes hn.up hb (addBal y.amt)
   have e2 : paidK h l (y :: r) = paidK h (payY h l y) r := by
    show (if dueB h l y = true then _ else _) = _
    rw [if_pos hdue]; rfl
   have hy0 : y.a ≠ 0 := by obtain ⟨z, hz, e⟩ := hy; rw [← e]; exact hn.no0 z hz
   have hn2 := hn.upd (keeps_add y.amt) (ok_add y.amt) hyo.2.1 hy0
   have h0 := hyo.2.2.2.1
   have hsum := sum_addBal hn (by omega) h0 (by omega) y.a
   have hhas : ∀ a, hasA (updR l y.a (addBal y.amt)) a ↔ hasA l a := fun a => by
    rw [hasA_updR (keeps_add y.amt) hn.up]
    exact ⟨fun h9 => h9.elim id fun e => by rw [e]; exact hy, .inl⟩
   rw [e2, e1]
   obtain ⟨i1, i2, i3, i4⟩ := paid_ok h hn2 (fun z hz => (hhas _).2 (hh z (List.mem_cons_of_mem _ hz))) hok2 (by rw [hsum]; omega)
   exact ⟨i1, fun a => (i2 a).trans (hhas a), fun a => (i3 a).trans (non_addBal hn.up _ _ _), by rw [i4, hsum]; omega⟩
theorem keep_pay {L : Led} (hL : LF L) (h : Int) : Kept L ⟨paidA h L.acc L.rel, paidK h L.acc L.rel, L.burnt, L.sup⟩ := by
 have hs := hL.sum; have hsu := hL.sup; have hb0 := hL.b0
 obtain ⟨i1, i2, i3, i4⟩ := paid_ok h (r := L.rel) ⟨hL.up, hL.ok, hL.no0⟩ (fun y hy => (hL.rows y hy).has) hL.ok' (by omega)
 have hsub := paidK_sub h L.rel L.acc
 refine ⟨⟨i1.ok, fun y hy => hL.ok' y (hsub.subset hy), by show (paidA _ _ _).length ≤ _; rw [paidA_len]; exact hL.few, Nat.le_trans hsub.length_le hL.few', i1.up, i1.no0, hL.rup.sublist hsub, fun y hy => ?_, hb0, hsu, by show L.burnt + sumA (paidA _ _ _) + sumR (paidK _ _ _) = L.sup; rw [i4]; omega⟩, rfl, fun a ha => (i2 a).2 ha, fun a _ => by show _ ≤ (getA (paidA _ _ _) a).non; rw [i3]; exact Int.le_refl _⟩
 obtain ⟨q1, q2, q3, q4, q5⟩ := hL.rows y (hsub.subset hy)
 exact ⟨(i2 _).2 q1, q2, q3, q4, q5⟩
/-! ### What was taken -/
structure DoneOk (rc : List Rcd) (ch : List Int) (p : Par) (l : List Acc) (x : Tx) (h : Int) : Prop where
 time : ¬ timeB p h
 tx : txbE ch x = 0
 sealed : seald rc ch x = true
 has : hasA l x.frm
 non : x.non < (getA l x.frm).non
theorem DoneOk.keep {rc : List Rcd} {ch : List Int} {p : Par} {L M : Led} {x : Tx} {h : Int} (d : DoneOk rc ch p L.acc x h) (hk : Kept L M) : DoneOk rc ch p M.acc x h := ⟨d.time, d.tx, d.sealed, hk.has _ d.has, Int.lt_of_lt_of_le d.non (hk.non _ d.has)⟩
theorem DoneOk.new {rc : List Rcd} {ch : List Int} {p : Par} {L M : Led} {x : Tx} {h b : Int} (hL : LF L) (hc : ChkFine rc ch L p h x) (hk : AppKept L M x b) : DoneOk rc ch p M.acc x h := by
 refine ⟨hc.time, hc.tx, hc.sealed, hk.kept.has _ hk.frm, ?_⟩
 have h1 := hk.nonc
 have h2 := hk.one
 rw [findA_getA hk.kept.lf.up (hk.kept.has _ hk.frm)] at h1
 omega
end Go.Proofs.YtcngmkjdpoiiaaaGreatDoor

/- Along a chain. Printed by gen.py. -/
set_option maxRecDepth 100000
namespace Go.Proofs.YtcngmkjdpoiiaaaGreatDoor
open Go Go.RowKit Go.Proofs Go.Sort
/-! ### A sound ledger -/
theorem rel_lt {l : List Acc} {r : List Rel} (h : relE l r = 0) (up : Up l) : RUp r ∧ ∀ y ∈ r, RowOk l y := by
 have hf : ∀ i, i < r.length → relBad l r i = 0 := fun i hi => firstE_at (firstE_down h (i + 1) (by omega)) (Nat.lt_succ_self i)
 have hb : ∀ i, i < r.length → spotB l (relAt r i).a = true ∧ ¬ (1099511627776 < (relAt r i).born ∨ (relAt r i).h < (relAt r i).born ∨ 1103806595072 < (relAt r i).h) ∧ ¬ (0 < i ∧ laterB (relAt r i) (relAt r (i - 1)) = false) ∧ (relAt r i).amt ≠ 0 := fun i hi => by
  have h1 := hf i hi
  unfold relBad at h1
  split at h1
  ·omega
  ·split at h1
   ·omega
   ·split at h1
    ·omega
    ·split at h1
     ·omega
     ·rename_i a b c d
      exact ⟨by simpa using a, b, c, fun e => d (.inl e)⟩
 have step : ∀ i, i + 1 < r.length → (relAt r i).h < (relAt r (i + 1)).h ∨ ((relAt r i).h = (relAt r (i + 1)).h ∧ (relAt r i).a < (relAt r (i + 1)).a) := fun i hi => by
  have h1 := (hb (i + 1) hi).2.2.1
  have h2 : laterB (relAt r (i + 1)) (relAt r i) = true := by
   cases h9 : laterB (relAt r (i + 1)) (relAt r i) with
   | true => rfl
   | false => exact absurd ⟨Nat.succ_pos i, h9⟩ h1
  unfold laterB at h2
  rw [Bool.or_eq_true, Bool.and_eq_true, decide_eq_true_eq, decide_eq_true_eq, decide_eq_true_eq] at h2
  omega
 have far : ∀ d i, i + d + 1 < r.length → (relAt r i).h < (relAt r (i + d + 1)).h ∨ ((relAt r i).h = (relAt r (i + d + 1)).h ∧ (relAt r i).a < (relAt r (i + d + 1)).a) := by
  intro d
  induction d with
  | zero => intro i hi; exact step i hi
  | succ d ih =>
   intro i hi
   have h1 := ih i (by omega)
   have h2 := step (i + d + 1) (by omega)
   rw [show i + (d + 1) + 1 = i + d + 1 + 1 by omega]
   omega
 refine ⟨List.pairwise_iff_getElem.2 fun i j hi hj hij => ?_, fun y hy => ?_⟩
 ·have h1 := far (j - i - 1) i (by omega)
  rw [show i + (j - i - 1) + 1 = j by omega, relAt_of (List.getElem?_eq_getElem hi), relAt_of (List.getElem?_eq_getElem hj)] at h1
  exact h1
 ·obtain ⟨i, hi, e⟩ := List.mem_iff_getElem.1 hy
  have h1 := hb i hi
  rw [relAt_of (List.getElem?_eq_getElem hi), e] at h1
  obtain ⟨q1, q2, _, q4⟩ := h1
  exact ⟨(spotB_has up).1 q1, by omega, by omega, by omega, q4⟩
theorem LF.of {L : Led} (h : LedFine L) (ok : ∀ x ∈ L.acc, x.ok) (ok' : ∀ y ∈ L.rel, y.ok) (b0 : 0 ≤ L.burnt) : LF L := by
 have hf := accFine_of h.acc
 have up := accFine_up hf
 obtain ⟨h1, h2⟩ := rel_lt h.rel up
 refine ⟨ok, ok', h.few, h.few', up, fun x hx => ?_, h1, h2, b0, h.sup, h.sum⟩
 obtain ⟨i, hi, e⟩ := List.mem_iff_getElem.1 hx
 have := hf.no0 i hi
 rw [accAt_of (List.getElem?_eq_getElem hi), e] at this
 exact this
theorem LF.lok {L : Led} (h : LF L) : LOk L := ⟨h.ok, h.ok', ⟨h.b0, by
 have h1 := h.sum; have h2 := h.sup; have h3 := sumA_nn h.ok; have h4 := sumR_nn h.ok'; have : MS = 1152921504606846975 := rfl; omega⟩⟩
/-! ### Found -/
theorem findE_has {l : List Acc} (up : Up l) {a : Int} : findE l a = 0 ↔ hasA l a ∧ a ≠ 0 := by
 unfold findE
 constructor
 ·intro h
  split at h
  ·omega
  ·rename_i hn
   refine ⟨?_, fun e => hn (.inr e)⟩
   rcases idxG_cases (isAc a) l with h1 | ⟨i, hi, e⟩
   ·exact absurd (.inl (by omega)) hn
   ·unfold idxG at e
    split at e
    ·rename_i j hj
     obtain ⟨hj1, hj2, _⟩ := List.findIdx?_eq_some_iff_getElem.1 hj
     exact ⟨_, List.getElem_mem hj1, of_decide_eq_true hj2⟩
    ·omega
 ·rintro ⟨⟨x, hx, e⟩, h0⟩
  rw [if_neg]
  rintro (h1 | h1)
  ·unfold idxG at h1
   split at h1
   ·omega
   ·rename_i hn
    rw [List.findIdx?_eq_none_iff] at hn
    have := hn x hx
    unfold isAc at this
    rw [decide_eq_false_iff_not] at this
    exact this e
  ·exact h0 h1
theorem findX_get {l : List Acc} (up : Up l) {a : Int} (h : findE l a = 0) : findX l a = getA l a := by
 obtain ⟨hh, h0⟩ := (findE_has up).1 h
 rw [← findA_getA up hh]
 have h1 : ¬ (idxG (isAc a) l < 0 ∨ a = 0) := fun h9 => by
  unfold findE at h
  rw [if_pos h9] at h; omega
 rcases idxG_cases (isAc a) l with h2 | ⟨i, hi, e⟩
 ·exact absurd (.inl (by omega)) h1
 ·unfold findX
  rw [if_neg h1, findA_at e, e]; rfl
/-! ### The nonces of each account -/
/-- What is held of each account follows on from it. -/
def RowsOk (H : List TxR) (l : List Acc) : Prop := ∀ y ∈ H, findE l y.t.frm = 0 ∧ (findX l y.t.frm).non ≤ y.t.non ∧ y.t.non - (findX l y.t.frm).non < 16 ∧ (y.t.non = (findX l y.t.frm).non ∨ ∃ z ∈ H, z.t.frm = y.t.frm ∧ z.t.non = y.t.non - 1)
theorem RowsOk.nil {l : List Acc} : RowsOk [] l := fun _ h => (nomatch h)
theorem fitL_held {H : List TxR} {x : TxR} : ∀ (k : Nat) (n left : Int) (poor : Bool), fitL H x k n left poor = 0 → ∀ j : Nat, j < k → (yAt H x (n + j)).isSome = true
 | 0, _, _, _, _, j, hj => absurd hj (Nat.not_lt_zero j)
 | k + 1, n, left, poor, h, j, hj => by
  rw [fitL] at h
  split at h
  ·omega
  ·rename_i y hy
   cases j with
   | zero => rw [show n + ((0 : Nat) : Int) = n by simp, hy]; rfl
   | succ j =>
    have := fitL_held k (n + 1) _ _ h j (by omega)
    rw [show n + ((j + 1 : Nat) : Int) = n + 1 + (j : Int) by push_cast; omega]; exact this
theorem fit_rows {H : List TxR} {l : List Acc} {x : TxR} (h : fitE H l x = 0) : findE l x.t.frm = 0 ∧ (findX l x.t.frm).non ≤ x.t.non ∧ x.t.non - (findX l x.t.frm).non < 16 ∧ (x.t.non = (findX l x.t.frm).non ∨ ∃ z ∈ H, z.t.frm = x.t.frm ∧ z.t.non = x.t.non - 1) := by
 unfold fitE at h
 split at h
 ·omega
 ·rename_i h1
  split at h
  ·omega
  ·rename_i h2
   split at h
   ·omega
   ·rename_i h3
    refine ⟨Classical.not_not.1 h1, by omega, by omega, ?_⟩
    by_cases e : x.t.non = (findX l x.t.frm).non
    ·exact .inl e
    ·refine .inr ?_
     have h4 := fitL_held _ _ _ _ h (x.t.non - 1 - (findX l x.t.frm).non).toNat (by omega)
     rw [show (findX l x.t.frm).non + (((x.t.non - 1 - (findX l x.t.frm).non).toNat : Nat) : Int) = x.t.non - 1 by omega, yAt_other (by omega)] at h4
     obtain ⟨z, hz⟩ := Option.isSome_iff_exists.1 h4
     obtain ⟨q1, q2⟩ := held_mem hz
     exact ⟨z, q1, congrArg Prod.fst q2, congrArg Prod.snd q2⟩
theorem RowsOk.add {rc : List Rcd} {ch : List Int} {H : List TxR} {l : List Acc} {most : Int} {x : TxR} {c : Option TxR} {N : List TxR} (r : RowsOk H l) (a : AddOk rc ch H l most x c N) (hP : PoolOk H) (hC : CheapOf H x.t.frm c) : RowsOk N l := by
 have hk := hP.keys
 have hx := fit_rows a.fit
 rcases a.how with ⟨hr, rfl, hf⟩ | ⟨hr, c0, rfl, hf, rfl⟩
 ·have up : ∀ z ∈ H, ∃ z' ∈ putH x H, z'.t.frm = z.t.frm ∧ z'.t.non = z.t.non := fun z hz => by
   by_cases e : keyT z = keyT x
   ·exact ⟨x, (mem_putH hk).2 (.inr rfl), (congrArg Prod.fst e).symm, (congrArg Prod.snd e).symm⟩
   ·exact ⟨z, (mem_putH hk).2 (.inl ⟨hz, e⟩), rfl, rfl⟩
  have go : ∀ y : TxR, (y.t.non = (findX l y.t.frm).non ∨ ∃ z ∈ H, z.t.frm = y.t.frm ∧ z.t.non = y.t.non - 1) → (y.t.non = (findX l y.t.frm).non ∨ ∃ z ∈ putH x H, z.t.frm = y.t.frm ∧ z.t.non = y.t.non - 1) := fun y h => h.imp id fun ⟨z, hz, e1, e2⟩ => by
   obtain ⟨z', q1, q2, q3⟩ := up z hz
   exact ⟨z', q1, by omega, by omega⟩
  intro y hy
  rcases (mem_putH hk).1 hy with ⟨h1, _⟩ | rfl
  ·obtain ⟨g1, g2, g3, g4⟩ := r y h1
   exact ⟨g1, g2, g3, go y g4⟩
  ·exact ⟨hx.1, hx.2.1, hx.2.2.1, go y hx.2.2.2⟩
 ·obtain ⟨c1, c2, c3, c4⟩ := hC
  have hk2 : ((dropH (keyT c0) H).map keyT).Nodup := (hP.sub (dropH_sub _ _)).keys
  have hno : ∀ y ∈ H, keyT y ≠ keyT x := by
   refine held_none (k := keyT x) ?_
   cases h9 : heldAt H (keyT x) with
   | none => rfl
   | some y => exact absurd (.inl (by rw [h9]; rfl)) hr
  have up : ∀ z ∈ H, z ≠ c0 → z ∈ putH x (dropH (keyT c0) H) := fun z hz hne => (mem_putH hk2).2 (.inl ⟨(mem_dropH hk).2 ⟨hz, fun e => hne (nodup_inj hk hz c1 e)⟩, hno z hz⟩)
  intro y hy
  rcases (mem_putH hk2).1 hy with ⟨h1, _⟩ | rfl
  ·obtain ⟨h5, h6⟩ := (mem_dropH hk).1 h1
   obtain ⟨g1, g2, g3, g4⟩ := r y h5
   refine ⟨g1, g2, g3, g4.imp id fun ⟨z, hz, e1, e2⟩ => ⟨z, up z hz fun e => ?_, e1, e2⟩⟩
   have := c3 y h5 (by rw [← e1, e])
   rw [← e] at this
   omega
  ·refine ⟨hx.1, hx.2.1, hx.2.2.1, hx.2.2.2.imp id fun ⟨z, hz, e1, e2⟩ => ⟨z, up z hz fun e => ?_, e1, e2⟩⟩
   subst e
   exact c2 e1
theorem add_rows {rc : List Rcd} {ch : List Int} {H : List TxR} {l : List Acc} {most : Int} {x : TxR} {c : Option TxR} (r : RowsOk H l) (hP : PoolOk H) (hC : CheapOf H x.t.frm c) : RowsOk (addH rc ch H l most x c) l := by
 by_cases he : addE rc ch H l most x c = 0
 ·exact r.add (addOk_of he) hP hC
 ·rw [addE_no he]; exact r
/-- Behind a ledger in which nobody went back. -/
theorem RowsOk.on {H : List TxR} {L M : Led} (r : RowsOk H L.acc) (hL : LF L) (k : Kept L M) : RowsOk (keptH M.acc H) M.acc := by
 have hM := k.lf
 have look : ∀ a, findE L.acc a = 0 → findE M.acc a = 0 ∧ (findX L.acc a).non ≤ (findX M.acc a).non := fun a h => by
  obtain ⟨h1, h0⟩ := (findE_has hL.up).1 h
  have h2 := (findE_has hM.up).2 ⟨k.has a h1, h0⟩
  exact ⟨h2, by rw [findX_get hL.up h, findX_get hM.up h2]; exact k.non a h1⟩
 intro y hy
 obtain ⟨h1, h2⟩ := List.mem_filter.1 hy
 obtain ⟨g1, g2, g3, g4⟩ := r y h1
 obtain ⟨e1, e2⟩ := look _ g1
 have h3 : ¬ y.t.non < (findX M.acc y.t.frm).non := fun h9 => by
  unfold goneT at h2
  rw [decide_eq_true e1, decide_eq_true h9] at h2; cases h2
 refine ⟨e1, by omega, by omega, ?_⟩
 by_cases e : y.t.non = (findX M.acc y.t.frm).non
 ·exact .inl e
 ·rcases g4 with g4 | ⟨z, hz, q1, q2⟩
  ·omega
  ·refine .inr ⟨z, List.mem_filter.2 ⟨hz, ?_⟩, q1, q2⟩
   unfold goneT
   rw [q1, decide_eq_false (show ¬ z.t.non < (findX M.acc y.t.frm).non by omega), Bool.and_false]; rfl
/-- A block of a chain: from a ledger to the one behind it. -/
theorem Kept.refl {L : Led} (h : LF L) : Kept L L := ⟨h, rfl, fun _ h => h, fun _ _ => Int.le_refl _⟩
theorem Kept.trans {L M N : Led} (h : Kept L M) (k : Kept M N) : Kept L N := ⟨k.lf, k.sup.trans h.sup, fun a x => k.has a (h.has a x), fun a x => Int.le_trans (h.non a x) (k.non a (h.has a x))⟩
theorem pay_kept {L : Led} (h : LF L) {n : Int} (he : payE n = 0) : Kept L (payL L n) := by
 rw [show payL L n = ⟨paidA n L.acc L.rel, paidK n L.acc L.rel, L.burnt, L.sup⟩ from if_pos he]
 exact keep_pay h n
theorem app_kept {rc : List Rcd} {ch : List Int} {L M : Led} {p : Par} {h b : Int} {x : TxR} (hL : LF L) (hb : u64 b) (hh : u64 h) (hp3 : u64 p.p3) (e : appF rc ch p h b L x = some M) : Kept L M := by
 obtain ⟨h1, rfl⟩ := appF_some e
 exact (keep_app hL x.ok hb hh hp3 (chkFine_of h1)).kept
theorem Chain.take {σ : Type} {app : σ → TxR → Option σ} {s : σ} {l : List TxR} (h : Chain app s l) (k : Nat) : Chain app s (l.take k) := by
 induction h generalizing k with
 | nil => rw [List.take_nil]; exact .nil
 | cons h1 _ ih => cases k with
  | zero => exact .nil
  | succ k => exact .cons h1 (ih k)
end Go.Proofs.YtcngmkjdpoiiaaaGreatDoor

/- PoolGoes: the walk. Printed by gen.py. -/
set_option maxRecDepth 100000
namespace Go.Proofs.YtcngmkjdpoiiaaaGreatDoor
open Go Go.RowKit Go.Proofs Go.Sort
theorem Sn.takeT {C : Cx} {F : Fx} {rs : List HP} {base : Option Addr} {l : List TxR} (s : Sn C F rs base (rc l)) (k : Nat) : Sn C F rs base (rc (l.take k)) := fun w h hs mv j v hv => by
 refine s w h hs mv j v ?_
 have e : rc l = rc (l.take k) ++ rc (l.drop k) := by rw [← rc_append, List.take_append_drop]
 rw [e, List.getElem?_append_left (List.getElem?_eq_some_iff.1 hv).1]; exact hv
end Go.Proofs.YtcngmkjdpoiiaaaGreatDoor

/- Along a chain: a block. Printed by gen.py. -/
set_option maxRecDepth 100000
namespace Go.Proofs.YtcngmkjdpoiiaaaGreatDoor
open Go Go.RowKit Go.Proofs Go.Sort
/-- From where to where a row of transactions leads. -/
inductive Ends {σ : Type} (app : σ → TxR → Option σ) : σ → List TxR → σ → Prop
 | nil {s : σ} : Ends app s [] s
 | cons {s s' t : σ} {x : TxR} {l : List TxR} (h : app s x = some s') (k : Ends app s' l t) : Ends app s (x :: l) t
theorem Ends.snoc {σ : Type} {app : σ → TxR → Option σ} {s t u : σ} {l : List TxR} {x : TxR} (h : Ends app s l t) (e : app t x = some u) : Ends app s (l ++ [x]) u := by
 induction h with
 | nil => exact .cons e .nil
 | cons h1 _ ih => exact .cons h1 (ih e)
theorem Ends.next {σ : Type} {app : σ → TxR → Option σ} {s t u : σ} {l : List TxR} {i : Nat} {x : TxR} (h : Ends app s (l.take i) t) (hx : l[i]? = some x) (e : app t x = some u) : Ends app s (l.take (i + 1)) u := by
 rw [List.take_add_one, hx]; exact h.snoc e
theorem Ends.kept {rc : List Rcd} {ch : List Int} {p : Par} {h b : Int} {L M : Led} {O : List TxR} (e : Ends (appF rc ch p h b) L O M) (hL : LF L) (hb : u64 b) (hh : u64 h) (hp3 : u64 p.p3) : Kept L M := by
 induction e with
 | nil => exact Kept.refl hL
 | cons h1 _ ih =>
  have k := app_kept hL hb hh hp3 h1
  exact k.trans (ih k.lf)
theorem st_setLed (s : StR) (u v u' v' : Value) (b : Int) : splice (s.cells u v) 51 (ledV u' v' b s.su) = ({ s with bu := b } : StR).cells u' v' := by
 have h1 : s.p.cells.length = 12 := rfl
 have h2 : s.cells u v = (.string (strOfNums s.ch) :: (s.p.cells ++ (.int .u64 s.h :: s.mid))) ++ ledV u v s.bu s.su ++ [] := by unfold StR.cells; simp
 have h3 : ({ s with bu := b } : StR).cells u' v' = (.string (strOfNums s.ch) :: (s.p.cells ++ (.int .u64 s.h :: s.mid))) ++ ledV u' v' b s.su ++ [] := by unfold StR.cells; simp
 have h4 : (Value.string (strOfNums s.ch) :: (s.p.cells ++ (.int .u64 s.h :: s.mid))).length = 51 := by
  rw [List.length_cons, List.length_append, List.length_cons, s.hmid, h1]
 rw [h2, h3, ← h4]
 exact splice_at rfl
theorem st_setH (s : StR) (u v : Value) (n : Int) : (s.cells u v).set 13 (.int .u64 n) = ({ s with h := n } : StR).cells u v := by
 have h1 : s.p.cells.length = 12 := rfl
 unfold StR.cells
 rw [show 13 = 12 + 1 from rfl, List.set_cons_succ, List.set_append_right _ _ (by rw [h1]; omega), h1]
 rfl
/-- A row of an argument, or one of the call's own. -/
def argOr (w0 : World) (T sz : Nat) (b : Option Addr) (n c : Nat) (cs : List Value) : HP := fun h => (h = Heap.none ∧ Row w0 b cs) ∨ ownS T sz (.slice b n c) n cs h
section
variable {C : Cx} {F : Fx} {rs : List HP}
theorem Sn.argOr {T sz n c : Nat} {b : Option Addr} {cs : List Value} (m : Has rs (argOr F.w T sz b n c cs) (argOr F.w T sz b n c cs) rs) (hF : F.h = Heap.none) : Sn C F rs b cs := fun w h hs mv j u hu => by
 obtain ⟨p, q, e1, e2⟩ := m
 obtain ⟨a, c', hv, dj, rfl, back⟩ := Sep.take (s := ownS T sz (.slice b n c) n cs) (rs' := p ++ ownS T sz (.slice b n c) n cs :: q) ⟨p, q, e1, rfl⟩ hs
 rcases hv with ⟨rfl, hr⟩ | hv
 ·exact (Sn.row (C := C) (rs := rs) hr hF) w _ hs mv j u hu
 ·exact (Sn.own (C := C) (F := F) (rs := p ++ ownS T sz (.slice b n c) n cs :: q) Has.at_ rfl) w _ (back a hv dj) mv j u hu
theorem Weak.toArg {w0 : World} {T sz n c : Nat} {b : Option Addr} {cs : List Value} {rs : List HP} (h : Row w0 b cs) : Weak rs (Go.Proofs.YtcngmkjdpoiiaaaGreatDoor.argOr w0 T sz b n c cs :: rs) := fun k s => ⟨Heap.none.join k, ⟨Heap.none, k, .inl ⟨rfl, h⟩, s, Heap.disj_none k, rfl⟩, by rw [Heap.none_join]; exact Heap.Le.refl k⟩
theorem Weak.ownArg {w0 : World} {T sz n c : Nat} {b : Option Addr} {cs : List Value} {rs : List HP} : Weak (ownS T sz (.slice b n c) n cs :: rs) (Go.Proofs.YtcngmkjdpoiiaaaGreatDoor.argOr w0 T sz b n c cs :: rs) := Weak.turn .h0 fun _ h => .inr h
end
set_option maxHeartbeats 2000000 in
theorem lblock_ok {gl : Nat → Obj} (hG : Globs gl) (w p q : Nat) (sv nv : Value) (at_ : Int) (cur : StK) (sg : List (Int × Nat)) (rc : List Rcd) (pr : Int) (ob : Option Addr) (oc : Nat) (O : List TxR) (hoc : O.length ≤ oc) (hol9 : O.length ≤ 65536) (hh : cur.r.h < 1099511627776) (hch : Chain (appF rc cur.r.ch cur.r.p (cur.r.h + 1) pr) (payL cur.j.l.led (cur.r.h + 1)) O) : Spec (cx gl) 73 [.pointer (some ⟨w, 0, none⟩), .agg cur.j.cells.toArray, .slice ob O.length oc, .int .u64 (pr)] (fun wd hp => Seen wd hp cur.j.l.s.b (Go.Proofs.YtcngmkjdpoiiaaaGreatDoor.rc cur.j.l.s.xs) ∧ Seen wd hp cur.j.l.r.b (Go.Proofs.YtcngmkjdpoiiaaaGreatDoor.rc cur.j.l.r.xs) ∧ Seen wd hp ob (Go.Proofs.YtcngmkjdpoiiaaaGreatDoor.rc O)) [blk w (sightC p q sv nv at_) 135, REG q sg rc] (fun v rs => ∃ (la : List Acc) (ra : List Rel) (bu : Int) (ab : Option Addr) (ac : Nat) (rb : Option Addr) (rk : Nat), v = .tuple #[.agg (({ cur.r with bu := bu, h := cur.r.h + 1 } : StR).cells (.slice ab la.length ac) (.slice rb ra.length rk)).toArray, .bool true] ∧ Ends (appF rc cur.r.ch cur.r.p (cur.r.h + 1) pr) (payL cur.j.l.led (cur.r.h + 1)) O (⟨la, ra, bu, cur.j.l.su⟩ : Led) ∧ LOk (⟨la, ra, bu, cur.j.l.su⟩ : Led) ∧ la.length ≤ ac ∧ ra.length ≤ rk ∧ rs = [blk w (sightC p q sv nv at_) 135, REG q sg rc, ownS 50 5 (.slice ab la.length ac) (la.length) (Go.Proofs.YtcngmkjdpoiiaaaGreatDoor.rc (la)), ownS 175 4 (.slice rb ra.length rk) (ra.length) (Go.Proofs.YtcngmkjdpoiiaaaGreatDoor.rc (ra))]) := by
 refine Spec.enter (C := cx gl) Tryz.func73 rfl 64 rfl rfl fun w0 h0 hsep hsub hpre => ?_
 show St (cx gl) _ [(0, .pointer (some ⟨w, 0, none⟩)), (1, .agg (cur.r.cells (.slice cur.j.l.s.b cur.j.l.s.xs.length cur.j.l.s.c) (.slice cur.j.l.r.b cur.j.l.r.xs.length cur.j.l.r.c)).toArray), (2, .slice ob O.length oc), (3, .int .u64 (pr))] _ _
 obtain ⟨hh0, hh1⟩ := cur.h
 replace hh0 : 0 ≤ cur.r.h := hh0
 have hpe : payE (cur.r.h + 1) = 0 := by unfold payE; rw [if_neg (by omega)]
 have hlm := cur.hm
 have hrm := cur.hm'
 refine rT ?_
 refine lO (W_box ((cur.r.cells (.slice cur.j.l.s.b cur.j.l.s.xs.length cur.j.l.s.c) (.slice cur.j.l.r.b cur.j.l.r.xs.length cur.j.l.r.c))) rfl rfl rfl rfl rfl fun b5 => ?_)
 refine lO (W_alloc rfl rfl rfl ty_ze_63 fun b8 => lA (k:=?_))
 refine lQ (cE 0 rfl (cE 2 rfl (cE 3 rfl (cE 5 rfl (cE 8 rfl (cE 9 rfl .nil)))))) (rS ?_)
 refine St.res (rs' := [blk b8 stz.j.cells 63, blk b5 (cur.r.cells (.slice cur.j.l.s.b cur.j.l.s.xs.length cur.j.l.s.c) (.slice cur.j.l.r.b cur.j.l.r.xs.length cur.j.l.r.c)) 63, blk w (sightC p q sv nv at_) 135, REG q sg rc]) (Weak.refl _) (rR (lP (pF ty_fl_63_9) (k:=?_)))
 refine lV (V_loadAgg rfl rfl ty_ag_30 ((Rds.blk .h1).part 51 (st_led cur.r _ _)) (rfl)) (k:=lP (pF ty_fl_63_2) (k:=?_))
 refine lV (V_load rfl rfl ty_sc_23 (Rd.blk .h1 (st_h cur.r _ _))) (k:=?_)
 refine lP (P_addN rfl rfl rfl (by simp only [fits]; omega)) (k:=?_)
 refine lO (W_call rfl rfl rfl rfl fn_ca_19 (pay_ok cur.j.l.s.b cur.j.l.s.c cur.j.l.s.xs cur.hc (by omega) cur.ok cur.j.l.r.b cur.j.l.r.c cur.j.l.r.xs cur.hc' (by omega) cur.j.l.bu cur.j.l.su (cur.r.h + 1) ⟨by omega, by omega⟩) (Split.nil _) (fun wd a b ha hb dj m => ⟨Sn.pre (Sn.old hpre.1) wd a b ha hb dj m, Sn.pre (Sn.old hpre.2.1) wd a b ha hb dj m⟩) fun v1 rs1 ⟨u, u', e1, e2⟩ => ?_)
 subst e1; subst e2
 refine St.ownForm (p := []) fun ab ac huv hac => ?_
 subst huv
 refine St.ownForm (p := [_]) fun rb rk huv hrk => ?_
 subst huv
 refine lMv (k:=lP pX (k:=lP pX (k:=?_)))
 refine lO (W_alloc rfl rfl rfl ty_ze_30 fun b10 => ?_)
 refine lO (W_storeAll rfl rfl rfl rfl ty_ag_30 (rfl) (ledV_one _ _ _ _ rfl rfl) .h0 (rfl) (lA (k:=?_)))
 refine lQ (cE 0 rfl (cE 2 rfl (cE 3 rfl (cE 5 rfl (cE 8 rfl (cE 9 rfl (cE 10 rfl (cE 11 rfl .nil)))))))) (rS (rS ?_))
 obtain ⟨hLO, hLa, hLr, hLs⟩ := payL_lok (L := cur.j.l.led) ⟨cur.ok, cur.ok', cur.bu⟩ hpe
 replace hLa : (payL cur.j.l.led (cur.r.h + 1)).acc.length = cur.j.l.s.xs.length := hLa
 replace hLr : (payL cur.j.l.led (cur.r.h + 1)).rel.length ≤ cur.j.l.r.xs.length := hLr
 replace hLs : (payL cur.j.l.led (cur.r.h + 1)).sup = cur.j.l.su := hLs
 replace hac : (payL cur.j.l.led (cur.r.h + 1)).acc.length ≤ ac := hac
 replace hrk : (payL cur.j.l.led (cur.r.h + 1)).rel.length ≤ rk := hrk
 obtain ⟨M0, hM0⟩ : ∃ M0, M0 = (payL cur.j.l.led (cur.r.h + 1)) := ⟨_, rfl⟩
 rw [← hM0] at hch hLO hLa hLr hLs hac hrk
 refine St.res (rs' := [blk b10 (ledV (.slice ab M0.acc.length ac) (.slice rb M0.rel.length rk) M0.burnt M0.sup) 30, ownS 50 5 (.slice ab M0.acc.length ac) (M0.acc.length) (Go.Proofs.YtcngmkjdpoiiaaaGreatDoor.rc (M0.acc)), ownS 175 4 (.slice rb M0.rel.length rk) (M0.rel.length) (Go.Proofs.YtcngmkjdpoiiaaaGreatDoor.rc (M0.rel)), blk b8 stz.j.cells 63, blk b5 (cur.r.cells (.slice cur.j.l.s.b cur.j.l.s.xs.length cur.j.l.s.c) (.slice cur.j.l.r.b cur.j.l.r.xs.length cur.j.l.r.c)) 63, blk w (sightC p q sv nv at_) 135, REG q sg rc]) (by rw [hM0]; exact Weak.refl _) ?_
 obtain ⟨l0, r0, bu0, su0⟩ := M0
 replace hLa : l0.length = cur.j.l.s.xs.length := hLa
 replace hLr : r0.length ≤ cur.j.l.r.xs.length := hLr
 obtain rfl : su0 = cur.j.l.su := hLs
 replace hac : l0.length ≤ ac := hac
 replace hrk : r0.length ≤ rk := hrk
 refine rR (lMv (k:=?_))
 refine lO (W_callV rfl rfl rfl rfl fn_ca_33 (num_ok (payE (cur.r.h + 1))) (fun _ _ => trivial) (lP pNe (k:=?_)))
 refine E_false (t := 24) rfl (decide_eq_false (fun h9 => h9 hpe)) ?_
 refine lQ (cE 0 rfl (cE 2 rfl (cE 3 rfl (cE 5 rfl (cE 8 rfl (cE 9 rfl (cE 10 rfl (cE 11 rfl (cE 24 rfl .nil))))))))) (kF (k:=R_skip (qT (rS (rT (lA (k:=?_)))))))
 refine lQ (cE 0 rfl (cE 2 rfl (cE 3 rfl (cE 5 rfl (cE 8 rfl (cE 9 rfl (cE 10 rfl (cE 11 rfl (cE 12 rfl .nil))))))))) (R_block ?_)
 refine R_loopE (G := Nat × List Acc × List Rel × Int × Option Addr × Nat × Option Addr × Nat × Int) (cE 0 rfl (cE 2 rfl (cE 3 rfl (cE 5 rfl (cE 8 rfl (cE 9 rfl (cE 10 rfl .nil))))))) (fun g => [(11, .int .i64 (g.2.2.2.2.2.2.2.2)), (12, .int .i64 ((g.1 : Nat) : Int))]) (fun g => [REG q sg rc, blk b10 (ledV (.slice g.2.2.2.2.1 g.2.1.length g.2.2.2.2.2.1) (.slice g.2.2.2.2.2.2.1 g.2.2.1.length g.2.2.2.2.2.2.2.1) g.2.2.2.1 cur.j.l.su) 30, ownS 50 5 (.slice g.2.2.2.2.1 g.2.1.length g.2.2.2.2.2.1) (g.2.1.length) (Go.Proofs.YtcngmkjdpoiiaaaGreatDoor.rc (g.2.1)), ownS 175 4 (.slice g.2.2.2.2.2.2.1 g.2.2.1.length g.2.2.2.2.2.2.2.1) (g.2.2.1.length) (Go.Proofs.YtcngmkjdpoiiaaaGreatDoor.rc (g.2.2.1)), blk b8 stz.j.cells 63, blk b5 (cur.r.cells (.slice cur.j.l.s.b cur.j.l.s.xs.length cur.j.l.s.c) (.slice cur.j.l.r.b cur.j.l.r.xs.length cur.j.l.r.c)) 63, blk w (sightC p q sv nv at_) 135]) (fun g => g.1 ≤ O.length ∧ Chain (appF rc cur.r.ch cur.r.p (cur.r.h + 1) pr) (⟨g.2.1, g.2.2.1, g.2.2.2.1, cur.j.l.su⟩ : Led) (O.drop g.1) ∧ Ends (appF rc cur.r.ch cur.r.p (cur.r.h + 1) pr) (⟨l0, r0, bu0, cur.j.l.su⟩ : Led) (O.take g.1) (⟨g.2.1, g.2.2.1, g.2.2.2.1, cur.j.l.su⟩ : Led) ∧ LOk (⟨g.2.1, g.2.2.1, g.2.2.2.1, cur.j.l.su⟩ : Led) ∧ g.2.1.length ≤ g.2.2.2.2.2.1 ∧ g.2.2.1.length ≤ g.2.2.2.2.2.2.2.1 ∧ g.2.1.length ≤ cur.j.l.s.xs.length + g.1 ∧ g.2.2.1.length ≤ cur.j.l.r.xs.length + g.1) (fun g => O.length - g.1) (0, l0, r0, bu0, ab, ac, rb, rk, payE (cur.r.h + 1)) (by show (0) ≤ O.length ∧ Chain (appF rc cur.r.ch cur.r.p (cur.r.h + 1) pr) (⟨(l0), (r0), (bu0), cur.j.l.su⟩ : Led) (O.drop (0)) ∧ Ends (appF rc cur.r.ch cur.r.p (cur.r.h + 1) pr) (⟨l0, r0, bu0, cur.j.l.su⟩ : Led) (O.take (0)) (⟨(l0), (r0), (bu0), cur.j.l.su⟩ : Led) ∧ LOk (⟨(l0), (r0), (bu0), cur.j.l.su⟩ : Led) ∧ (l0).length ≤ (ac) ∧ (r0).length ≤ (rk) ∧ (l0).length ≤ cur.j.l.s.xs.length + (0) ∧ (r0).length ≤ cur.j.l.r.xs.length + (0); exact ⟨Nat.zero_le _, hch, .nil, hLO, hac, hrk, by omega, by omega⟩) (by repeat (first | exact .nil | refine .cons rfl ?_ | refine .consE rfl (by first | rfl | (congr 1; omega) | (congr 1; push_cast; omega)) ?_)) (Weak.pick (p := [_, _, _, _, _, _]) (Weak.keep (Weak.keep (Weak.keep (Weak.keep (Weak.keep (Weak.keep (Weak.nil _)))))))) ?_
 rintro ⟨i, la, ra, bu, ab, ac, rb, rk, e9⟩ hinv
 replace hinv : i ≤ O.length ∧ Chain (appF rc cur.r.ch cur.r.p (cur.r.h + 1) pr) (⟨la, ra, bu, cur.j.l.su⟩ : Led) (O.drop i) ∧ Ends (appF rc cur.r.ch cur.r.p (cur.r.h + 1) pr) (⟨l0, r0, bu0, cur.j.l.su⟩ : Led) (O.take i) (⟨la, ra, bu, cur.j.l.su⟩ : Led) ∧ LOk (⟨la, ra, bu, cur.j.l.su⟩ : Led) ∧ la.length ≤ ac ∧ ra.length ≤ rk ∧ la.length ≤ cur.j.l.s.xs.length + i ∧ ra.length ≤ cur.j.l.r.xs.length + i := hinv
 show St (cx gl) _ ((11, .int .i64 (e9)) :: (12, .int .i64 ((i : Nat) : Int)) :: _) [REG q sg rc, blk b10 (ledV (.slice ab la.length ac) (.slice rb ra.length rk) bu cur.j.l.su) 30, ownS 50 5 (.slice ab la.length ac) (la.length) (Go.Proofs.YtcngmkjdpoiiaaaGreatDoor.rc (la)), ownS 175 4 (.slice rb ra.length rk) (ra.length) (Go.Proofs.YtcngmkjdpoiiaaaGreatDoor.rc (ra)), blk b8 stz.j.cells 63, blk b5 (cur.r.cells (.slice cur.j.l.s.b cur.j.l.s.xs.length cur.j.l.s.c) (.slice cur.j.l.r.b cur.j.l.r.xs.length cur.j.l.r.c)) 63, blk w (sightC p q sv nv at_) 135] _
 obtain ⟨hi, hch, hen, hLO, hac, hrk, hlb, hrb⟩ := hinv
 refine rS (rT (lMv (k:=lMv (k:=lP (pL ty_sl_92) (k:=lP pLt (k:=?_))))))
 refine L_nil (qT ?_)
 refine R_condP rfl (fun hlt => ?_) (fun hlt => ?_)
 ·skip
  have him : i < O.length := by omega
  obtain ⟨x, hx⟩ : ∃ y, O[i]? = some y := ⟨_, List.getElem?_eq_getElem him⟩
  obtain ⟨obb, obj, rfl, hrow⟩ := hpre.2.2.row.some_ (by rw [rc_length]; show 0 < _ * 22; omega)
  obtain ⟨M, hap, hch2⟩ := hch.at_ hx
  obtain ⟨hce, hMe⟩ := appF_some hap
  refine R_skip (qT (rS (R_block (rS ?_))))
  refine R_open [(0, 1), (1, 0), (2, 0), (3, 0), (4, 1), (5, 0), (6, 1), (7, 0), (8, 1), (9, 0), (10, 1), (11, 0), (12, 0), (13, 0), (14, 0), (15, 0), (16, 1), (17, 2), (18, 0), (19, 0), (20, 0), (21, 3), (22, 0)] mixed (by kernel_rfl) (QOk.then (QOk.block (QOk.then (QOk.then (QOk.block (QOk.then QOk.body)))))) (oV rfl (vG ty_ag_30 .h1) (k:=oP rfl pM (k:=oP rfl pN (k:=oP rfl (pF ty_fl_135_1) (k:=oV rfl (vB ty_sc_69 .h6) (k:=oP rfl (pF ty_fl_63_0) (k:=oV rfl (vB ty_sc_9 .h5) (k:=oP rfl (pF ty_fl_63_1) (k:=?_)))))))))
  refine oV rfl (V_loadAgg rfl rfl ty_ag_25 ((Rds.blk .h5).part 1 (st_par cur.r _ _)) (rfl)) (k:=oP rfl (pF ty_fl_63_2) (k:=?_))
  refine oV rfl (V_load rfl rfl ty_sc_23 (Rd.blk .h5 (st_h cur.r _ _))) (k:=?_)
  refine oP rfl (P_addN rfl rfl rfl (by simp only [fits]; omega)) (k:=oP rfl pM (k:=oP rfl pM (k:=oP rfl pM (k:=?_))))
  refine oP rfl (P_ixs (i) rfl ty_sl_92 rfl rfl (by first | rfl | omega) (by omega)) (k:=?_)
  refine oV rfl (V_loadAgg rfl rfl ty_ag_67 (rds_rc (rds_seen hpre.2.2) hx) (x.ok.cellsLen)) (k:=?_)
  refine O_keep rfl rfl (W_call rfl rfl rfl rfl fn_ca_67 (apply_ok hG q sg rc ab ac la hac (by omega) hLO.acc rb rk ra hrk (by omega) hLO.rel bu cur.j.l.su hLO.bu cur.r.ch cur.ch cur.r.p cur.p.p3 (cur.r.h + 1) pr ⟨by omega, by omega⟩ x.t x.ok) (Split.one (p := [])) (fun wd a b ha hb dj m => ⟨Sn.pre (Sn.own .h1 rfl) wd a b ha hb dj m, Sn.pre (Sn.own .h2 rfl) wd a b ha hb dj m⟩) fun v4 rs4 ⟨u, u', e1, e2⟩ => ?_)
  subst e1; subst e2
  refine St.ownForm (p := []) fun ua uc huv huc => ?_
  subst huv
  refine St.ownForm (p := [_]) fun va vc huv hvc => ?_
  subst huv
  refine K_keep (Weak.drop (Weak.drop (Weak.refl _))) (oP rfl pM (k:=oP rfl pX (k:=oP rfl pX (k:=?_))))
  refine O_new rfl rfl (W_storeAll rfl rfl rfl rfl ty_ag_30 (rfl) (ledV_one _ _ _ _ rfl rfl) .h3 (rfl) (K_new (oP rfl pA (k:=O_nil (qT (rS ?_))))))
  have hMO : LOk (appP (⟨la, ra, bu, cur.j.l.su⟩ : Led) cur.r.p (cur.r.h + 1) pr x.t) := appP_lok (b := pr) hLO x.ok (h := (cur.r.h + 1)) ⟨by omega, by omega⟩ cur.p.p3 (chkFine_of hce)
  obtain ⟨hMl, hMr⟩ := app_len (⟨la, ra, bu, cur.j.l.su⟩ : Led) cur.r.p (cur.r.h + 1) pr x.t
  have hMs := appP_sup (⟨la, ra, bu, cur.j.l.su⟩ : Led) cur.r.p (cur.r.h + 1) pr x.t
  rw [appL_zero hce, ← hMe] at huc hvc ⊢
  rw [← hMe] at hMO hMl hMr hMs
  obtain ⟨lm, rm, bm, sm⟩ := M
  obtain rfl : sm = cur.j.l.su := hMs
  replace hMl : lm.length ≤ la.length + 1 := hMl
  replace hMr : rm.length ≤ ra.length + 1 := hMr
  replace huc : lm.length ≤ uc := huc
  replace hvc : rm.length ≤ vc := hvc
  refine rR (lMv (k:=?_))
  refine lO (W_callV rfl rfl rfl rfl fn_ca_33 (num_ok (chkE rc cur.r.ch (⟨la, ra, bu, cur.j.l.su⟩ : Led) cur.r.p (cur.r.h + 1) x.t)) (fun _ _ => trivial) (lP pNe (k:=?_)))
  refine E_false (t := 55) rfl (decide_eq_false (fun h9 => h9 hce)) ?_
  refine L_nil (qT (kF (k:=R_skip (Q_block (qT (rR (lMv (k:=?_))))))))
  first | (refine L_val rfl rfl rfl (OpP.v (P_addN rfl rfl rfl (by simp only [fits]; omega))) ?_) | (refine L_val rfl rfl rfl (OpP.v (P_add rfl rfl rfl)) ?_)
  refine lA (k:=?_)
  refine L_nil ?_
  exact Q_round (i + 1, lm, rm, bm, ua, uc, va, vc, chkE rc cur.r.ch (⟨la, ra, bu, cur.j.l.su⟩ : Led) cur.r.p (cur.r.h + 1) x.t) (by show (i + 1) ≤ O.length ∧ Chain (appF rc cur.r.ch cur.r.p (cur.r.h + 1) pr) (⟨(lm), (rm), (bm), cur.j.l.su⟩ : Led) (O.drop (i + 1)) ∧ Ends (appF rc cur.r.ch cur.r.p (cur.r.h + 1) pr) (⟨l0, r0, bu0, cur.j.l.su⟩ : Led) (O.take (i + 1)) (⟨(lm), (rm), (bm), cur.j.l.su⟩ : Led) ∧ LOk (⟨(lm), (rm), (bm), cur.j.l.su⟩ : Led) ∧ (lm).length ≤ (uc) ∧ (rm).length ≤ (vc) ∧ (lm).length ≤ cur.j.l.s.xs.length + (i + 1) ∧ (rm).length ≤ cur.j.l.r.xs.length + (i + 1); exact ⟨by omega, hch2, hen.next hx hap, hMO, huc, hvc, by omega, by omega⟩) (by show O.length - (i + 1) < O.length - i; omega) (by repeat (first | exact .nil | refine .cons rfl ?_ | refine .consE rfl (by first | rfl | (congr 1; omega) | (congr 1; push_cast; omega)) ?_)) (Weak.pick (p := [_, _]) (Weak.pick (p := [_, _]) (Weak.keep (Weak.keep (Weak.pick (p := [_, _]) (Weak.pick (p := [_, _]) (Weak.pick (p := [_, _]) (Weak.nil _))))))))
 ·skip
  obtain rfl : i = O.length := by omega
  rw [List.take_length] at hen
  refine R_exit (Q_then_exit (Q_then_exit (Q_block_eq ?_)))
  refine St.env (cE 5 rfl (cE 8 rfl (cE 9 rfl (cE 10 rfl .nil)))) (qT (rT (lV (vG ty_ag_30 .h1) (k:=lP (pF ty_fl_63_9) (k:=?_)))))
  refine lO (W_storeAgg rfl rfl rfl rfl ty_ag_30 (rfl) (ledV_one _ _ _ _ rfl rfl) .h5 (by rw [StR.len]; show 51 + 4 ≤ 55; decide) ?_)
  refine lQ (cE 5 rfl (cE 8 rfl (cE 9 rfl .nil))) (rS ?_)
  refine St.res (rs' := [REG q sg rc, blk b10 (ledV (.slice ab la.length ac) (.slice rb ra.length rk) bu cur.j.l.su) 30, ownS 50 5 (.slice ab la.length ac) (la.length) (Go.Proofs.YtcngmkjdpoiiaaaGreatDoor.rc (la)), ownS 175 4 (.slice rb ra.length rk) (ra.length) (Go.Proofs.YtcngmkjdpoiiaaaGreatDoor.rc (ra)), blk b8 stz.j.cells 63, blk b5 (({ cur.r with bu := bu } : StR).cells (.slice ab la.length ac) (.slice rb ra.length rk)) 63, blk w (sightC p q sv nv at_) 135]) (by rw [show (({ cur.r with bu := bu } : StR).cells (.slice ab la.length ac) (.slice rb ra.length rk)) = splice (cur.r.cells (.slice cur.j.l.s.b cur.j.l.s.xs.length cur.j.l.s.c) (.slice cur.j.l.r.b cur.j.l.r.xs.length cur.j.l.r.c)) 51 (ledV (.slice ab la.length ac) (.slice rb ra.length rk) bu cur.j.l.su) from (st_setLed cur.r (.slice cur.j.l.s.b cur.j.l.s.xs.length cur.j.l.s.c) (.slice cur.j.l.r.b cur.j.l.r.xs.length cur.j.l.r.c) (.slice ab la.length ac) (.slice rb ra.length rk) bu).symm]; exact Weak.refl _) (rR (lP (pF ty_fl_63_2) (k:=?_)))
  refine lV (V_load rfl rfl ty_sc_23 (Rd.blk .h5 (st_h ({ cur.r with bu := bu } : StR) _ _))) (k:=?_)
  refine lP (P_addN rfl rfl rfl (by simp only [fits]; omega)) (k:=lP (pF ty_fl_63_2) (k:=?_))
  refine lO (W_store rfl rfl rfl rfl ty_sc_23 rfl .h5 (by rw [StR.len]; decide) ?_)
  refine lQ (cE 5 rfl (cE 8 rfl (cE 9 rfl .nil))) (rS ?_)
  refine St.res (rs' := [REG q sg rc, blk b10 (ledV (.slice ab la.length ac) (.slice rb ra.length rk) bu cur.j.l.su) 30, ownS 50 5 (.slice ab la.length ac) (la.length) (Go.Proofs.YtcngmkjdpoiiaaaGreatDoor.rc (la)), ownS 175 4 (.slice rb ra.length rk) (ra.length) (Go.Proofs.YtcngmkjdpoiiaaaGreatDoor.rc (ra)), blk b8 stz.j.cells 63, blk b5 (({ cur.r with bu := bu, h := cur.r.h + 1 } : StR).cells (.slice ab la.length ac) (.slice rb ra.length rk)) 63, blk w (sightC p q sv nv at_) 135]) (by rw [show (({ cur.r with bu := bu, h := cur.r.h + 1 } : StR).cells (.slice ab la.length ac) (.slice rb ra.length rk)) = (({ cur.r with bu := bu } : StR).cells (.slice ab la.length ac) (.slice rb ra.length rk)).set 13 (.int .u64 (cur.r.h + 1)) from (st_setH ({ cur.r with bu := bu } : StR) _ _ _).symm]; exact Weak.refl _) (rR ?_)
  refine lV (V_loadAgg rfl rfl ty_ag_63 (Rds.blk .h5) (StR.len _ _ _)) (k:=?_)
  refine lO (W_storeAll rfl rfl rfl rfl ty_ag_63 (StR.len _ _ _) (StR.one _ rfl rfl) .h4 ((StR.len _ _ _).trans (StJ.len stz.last).symm) (lA (k:=?_)))
  refine lQ (cE 8 rfl (cE 9 rfl .nil)) (R_ret ?_)
  exact R_end (rs2 := _) rfl rfl (.cell rfl (Rds.loadVar ty_ag_63 (Rds.blk .h4) (StR.len _ _ _)) (.tmp rfl .nil)) (⟨la, ra, bu, ab, ac, rb, rk, rfl, by rw [← hM0]; exact hen, hLO, hac, hrk, rfl⟩) (Weak.pick (p := [_, _, _, _, _, _]) (Weak.keep (Weak.pick (p := [_]) (Weak.pick (p := [_]) (Weak.nil _)))))
end Go.Proofs.YtcngmkjdpoiiaaaGreatDoor

/- Along a chain: the nonces of each account. Printed by gen.py. -/
set_option maxRecDepth 100000
namespace Go.Proofs.YtcngmkjdpoiiaaaGreatDoor
open Go Go.RowKit Go.Proofs Go.Sort
set_option maxHeartbeats 2000000 in
theorem lrows_ok {gl : Nat → Obj} (lb : Option Addr) (lc : Nat) (L : List TxR) (hl : L.length ≤ 65536) (cur : StK) (hR : RowsOk L cur.j.l.s.xs) : SpecV (cx gl) 74 [.slice lb L.length lc, .agg cur.j.cells.toArray] (fun wd => Row wd lb (Go.Proofs.YtcngmkjdpoiiaaaGreatDoor.rc L) ∧ Row wd cur.j.l.s.b (Go.Proofs.YtcngmkjdpoiiaaaGreatDoor.rc cur.j.l.s.xs)) (.bool true) := by
 refine Spec.enter (C := cx gl) Tryz.func74 rfl 114 rfl rfl fun w0 h0 hsep hsub hpre => ?_
 obtain rfl : h0 = Heap.none := hsep
 show St (cx gl) _ [(0, .slice lb L.length lc), (1, .agg (cur.r.cells (.slice cur.j.l.s.b cur.j.l.s.xs.length cur.j.l.s.c) (.slice cur.j.l.r.b cur.j.l.r.xs.length cur.j.l.r.c)).toArray)] _ _
 refine rT ?_
 refine lO (W_box ((cur.r.cells (.slice cur.j.l.s.b cur.j.l.s.xs.length cur.j.l.s.c) (.slice cur.j.l.r.b cur.j.l.r.xs.length cur.j.l.r.c))) rfl rfl rfl rfl rfl fun b3 => lA (k:=?_))
 refine lQ (cE 0 rfl (cE 3 rfl (cE 4 rfl .nil))) (rS (rT (lA (k:=?_))))
 refine L_nil (qT (R_block ?_))
 refine R_loopE (G := Nat) (cE 0 rfl (cE 3 rfl (cE 4 rfl .nil))) (fun g => [(5, .int .i64 ((g : Nat) : Int))]) (fun g => [blk b3 (cur.r.cells (.slice cur.j.l.s.b cur.j.l.s.xs.length cur.j.l.s.c) (.slice cur.j.l.r.b cur.j.l.r.xs.length cur.j.l.r.c)) 63]) (fun g => g ≤ L.length) (fun g => L.length - g) (0) (Nat.zero_le _) (by repeat (first | exact .nil | refine .cons rfl ?_ | refine .consE rfl (by first | rfl | (congr 1; omega) | (congr 1; push_cast; omega)) ?_)) (Weak.refl _) ?_
 intro i hinv
 replace hinv : i ≤ L.length := hinv
 show St (cx gl) _ ((5, .int .i64 ((i : Nat) : Int)) :: _) [blk b3 (cur.r.cells (.slice cur.j.l.s.b cur.j.l.s.xs.length cur.j.l.s.c) (.slice cur.j.l.r.b cur.j.l.r.xs.length cur.j.l.r.c)) 63] _
 have hi := hinv
 refine rS (rT (lMv (k:=lMv (k:=lP (pL ty_sl_92) (k:=lP pLt (k:=?_))))))
 refine L_nil (qT ?_)
 refine R_condP rfl (fun hlt => ?_) (fun hlt => ?_)
 ·skip
  have him : i < L.length := by omega
  obtain ⟨x, hx⟩ : ∃ q, L[i]? = some q := ⟨_, List.getElem?_eq_getElem (by omega)⟩
  obtain ⟨hf1, hf2, hf3, hf4⟩ := hR x (List.mem_of_getElem? hx)
  obtain ⟨lbb, lbj, rfl, hrow⟩ := hpre.1.some_ (by rw [rc_length]; show 0 < _ * 22; omega)
  have hfx := findX_ok (l := cur.j.l.s.xs) cur.ok x.t.frm
  obtain ⟨hx0, hx1⟩ := x.ok.non
  obtain ⟨_, _, _, ⟨hn0, hn1⟩⟩ := hfx
  refine R_skip (qT (rS (R_block ?_)))
  refine R_joinE (G := Nat) (cE 0 rfl (cE 3 rfl (cE 4 rfl (cE 5 rfl (cE 11 rfl (cE 12 rfl (cE 13 rfl (cE 14 rfl .nil)))))))) (fun g => [(6, .pointer (some ⟨g, 0, none⟩)), (7, .int .i64 (findE cur.j.l.s.xs x.t.frm))]) (fun g => [blk g (findX cur.j.l.s.xs x.t.frm).cells 50, blk b3 (cur.r.cells (.slice cur.j.l.s.b cur.j.l.s.xs.length cur.j.l.s.c) (.slice cur.j.l.r.b cur.j.l.r.xs.length cur.j.l.r.c)) 63]) (fun g => True) ?_ ?_
  ·skip
   refine T_open (.op 0 0 (.op 1 1 (.op 2 0 (.op 3 0 (.op 4 0 (.op 5 0 (.op 6 1 (.two 7 11 (.op 8 0 (.op 9 0 (.op 10 0 (.op 11 2 (.op 12 3 (.op 13 0 .nil)))))) (.op 7 2 (.op 8 0 (.op 9 0 (.op 10 0 (.op 12 3 (.op 13 0 .nil)))))))))))))) mixed (by kernel_rfl) (QOk.then (QOk.block (QOk.then (QOk.then (QOk.block (QOk.then QOk.body)))))) ?_
   refine T_pure rfl rfl rfl rfl (P_fld0 rfl ty_fl_63_9 rfl) ?_
   refine T_val rfl rfl rfl rfl (V_loadAgg rfl rfl ty_ag_30 ((Rds.blk .h0).part 51 (st_led cur.r _ _)) (rfl)) ?_
   refine T_pure rfl rfl rfl rfl (P_move rfl rfl) ?_
   refine T_pure rfl rfl rfl rfl (P_move rfl rfl) ?_
   refine T_pure rfl rfl rfl rfl (P_ixs (i) rfl ty_sl_92 rfl rfl (by first | rfl | omega) (by omega)) ?_
   refine T_pure rfl rfl rfl rfl (P_fld rfl ty_fl_67_1 rfl) ?_
   refine T_val rfl rfl rfl rfl (V_load rfl rfl ty_sc_26 (rd_rc (Rds.row hrow rfl) hx rfl)) ?_
   refine T_two ?_ ?_
   ·skip
    refine T_keep rfl rfl (W_callV rfl rfl rfl rfl fn_ca_75 (find_ok cur.j.l.s.b cur.j.l.s.c cur.j.l.s.xs cur.hc (by have := cur.hm; omega) (.slice cur.j.l.r.b cur.j.l.r.xs.length cur.j.l.r.c) rfl cur.j.l.bu cur.j.l.su x.t.frm) (fun wd nw => (Sn.row hpre.2 rfl).rw_ wd nw) (K_keepT (Weak.refl _) ?_))
    refine T_pure rfl rfl rfl rfl (P_move rfl rfl) ?_
    refine T_pure rfl rfl rfl rfl (P_extract rfl rfl rfl) ?_
    refine T_pure rfl rfl rfl rfl (P_extract rfl rfl rfl) ?_
    refine T_keep rfl rfl (W_alloc rfl rfl rfl ty_ze_50 fun b6 => (K_keepT (Weak.drop (Weak.refl _)) ?_))
    first | (refine T_new rfl rfl (W_storeAll rfl rfl rfl rfl ty_ag_50 (rfl) (Rec.one (findX cur.j.l.s.xs x.t.frm)) .h0 (rfl) (K_newT ?_))) | (refine T_new rfl rfl (W_storeAll rfl rfl rfl rfl ty_ag_50 (rfl) (Rec.one (findX cur.j.l.s.xs x.t.frm)) .h1 (rfl) (K_newT ?_))) | (refine T_new rfl rfl (W_storeAll rfl rfl rfl rfl ty_ag_50 (rfl) (Rec.one (findX cur.j.l.s.xs x.t.frm)) .h2 (rfl) (K_newT ?_))) | (refine T_new rfl rfl (W_storeAll rfl rfl rfl rfl ty_ag_50 (rfl) (Rec.one (findX cur.j.l.s.xs x.t.frm)) .h3 (rfl) (K_newT ?_))) | (refine T_new rfl rfl (W_storeAll rfl rfl rfl rfl ty_ag_50 (rfl) (Rec.one (findX cur.j.l.s.xs x.t.frm)) .h4 (rfl) (K_newT ?_))) | (refine T_new rfl rfl (W_storeAll rfl rfl rfl rfl ty_ag_50 (rfl) (Rec.one (findX cur.j.l.s.xs x.t.frm)) .h5 (rfl) (K_newT ?_))) | (refine T_new rfl rfl (W_storeAll rfl rfl rfl rfl ty_ag_50 (rfl) (Rec.one (findX cur.j.l.s.xs x.t.frm)) .h6 (rfl) (K_newT ?_))) | (refine T_new rfl rfl (W_storeAll rfl rfl rfl rfl ty_ag_50 (rfl) (Rec.one (findX cur.j.l.s.xs x.t.frm)) .h7 (rfl) (K_newT ?_)))
    refine T_pure rfl rfl rfl rfl (P_assign rfl rfl) ?_
    refine T_nil ?_
    exact Q_meet (b6) (trivial) (by repeat (first | exact .nil | refine .cons rfl ?_ | refine .consE rfl (by first | rfl | (congr 1; omega) | (congr 1; push_cast; omega)) ?_)) (Weak.refl _)
   ·skip
    refine T_keep rfl rfl (W_alloc rfl rfl rfl ty_ze_50 fun b6 => (K_keepT (Weak.drop (Weak.refl _)) ?_))
    refine T_keep rfl rfl (W_callV rfl rfl rfl rfl fn_ca_75 (find_ok cur.j.l.s.b cur.j.l.s.c cur.j.l.s.xs cur.hc (by have := cur.hm; omega) (.slice cur.j.l.r.b cur.j.l.r.xs.length cur.j.l.r.c) rfl cur.j.l.bu cur.j.l.su x.t.frm) (fun wd nw => (Sn.row hpre.2 rfl).rw_ wd nw) (K_keepT (Weak.refl _) ?_))
    refine T_pure rfl rfl rfl rfl (P_move rfl rfl) ?_
    refine T_pure rfl rfl rfl rfl (P_extract rfl rfl rfl) ?_
    refine T_pure rfl rfl rfl rfl (P_extract rfl rfl rfl) ?_
    first | (refine T_new rfl rfl (W_storeAll rfl rfl rfl rfl ty_ag_50 (rfl) (Rec.one (findX cur.j.l.s.xs x.t.frm)) .h0 (rfl) (K_newT ?_))) | (refine T_new rfl rfl (W_storeAll rfl rfl rfl rfl ty_ag_50 (rfl) (Rec.one (findX cur.j.l.s.xs x.t.frm)) .h1 (rfl) (K_newT ?_))) | (refine T_new rfl rfl (W_storeAll rfl rfl rfl rfl ty_ag_50 (rfl) (Rec.one (findX cur.j.l.s.xs x.t.frm)) .h2 (rfl) (K_newT ?_))) | (refine T_new rfl rfl (W_storeAll rfl rfl rfl rfl ty_ag_50 (rfl) (Rec.one (findX cur.j.l.s.xs x.t.frm)) .h3 (rfl) (K_newT ?_))) | (refine T_new rfl rfl (W_storeAll rfl rfl rfl rfl ty_ag_50 (rfl) (Rec.one (findX cur.j.l.s.xs x.t.frm)) .h4 (rfl) (K_newT ?_))) | (refine T_new rfl rfl (W_storeAll rfl rfl rfl rfl ty_ag_50 (rfl) (Rec.one (findX cur.j.l.s.xs x.t.frm)) .h5 (rfl) (K_newT ?_))) | (refine T_new rfl rfl (W_storeAll rfl rfl rfl rfl ty_ag_50 (rfl) (Rec.one (findX cur.j.l.s.xs x.t.frm)) .h6 (rfl) (K_newT ?_))) | (refine T_new rfl rfl (W_storeAll rfl rfl rfl rfl ty_ag_50 (rfl) (Rec.one (findX cur.j.l.s.xs x.t.frm)) .h7 (rfl) (K_newT ?_)))
    refine T_pure rfl rfl rfl rfl (P_assign rfl rfl) ?_
    refine T_nil ?_
    exact Q_meet (b6) (trivial) (by repeat (first | exact .nil | refine .cons rfl ?_ | refine .consE rfl (by first | rfl | (congr 1; omega) | (congr 1; push_cast; omega)) ?_)) (Weak.refl _)
  ·intro b6 hinv
   replace hinv : True := hinv
   show St (cx gl) _ ((6, .pointer (some ⟨b6, 0, none⟩)) :: (7, .int .i64 (findE cur.j.l.s.xs x.t.frm)) :: _) [blk b6 (findX cur.j.l.s.xs x.t.frm).cells 50, blk b3 (cur.r.cells (.slice cur.j.l.s.b cur.j.l.s.xs.length cur.j.l.s.c) (.slice cur.j.l.r.b cur.j.l.r.xs.length cur.j.l.r.c)) 63] _
   refine rS (rS ?_)
   refine R_open [(0, 0), (1, 2), (2, 0), (3, 0), (4, 0), (5, 0), (6, 0), (7, 0), (8, 1), (9, 0), (10, 1), (11, 0), (12, 0), (13, 0), (14, 0), (15, 0), (16, 0), (17, 0), (18, 1), (19, 0), (20, 1), (21, 0), (22, 0), (23, 0)] mixed (by kernel_rfl) (QOk.then (QOk.then (QOk.block (QOk.then (QOk.then (QOk.block (QOk.then QOk.body))))))) (oP rfl pM (k:=?_))
   refine O_keep rfl rfl (W_callV rfl rfl rfl rfl fn_ca_33 (num_ok (findE cur.j.l.s.xs x.t.frm)) (fun _ _ => trivial) (K_keep (Weak.refl _) (oP rfl pNe (k:=?_))))
   refine E_false (t := 30) rfl (decide_eq_false (fun h9 => h9 hf1)) (oP rfl pM (k:=oP rfl pM (k:=oP rfl pM (k:=?_))))
   refine oP rfl (P_ixs (i) rfl ty_sl_92 rfl rfl (by first | rfl | omega) (by omega)) (k:=oP rfl (pG ty_fl_67_5) (k:=?_))
   refine oV rfl (V_load rfl rfl ty_sc_23 (rd_rc (Rds.row hrow rfl) hx rfl)) (k:=oP rfl (pF ty_fl_50_3) (k:=oV rfl (vB ty_sc_23 .h0) (k:=oP rfl pLt (k:=?_))))
   refine E_false (t := 39) rfl (decide_eq_false (by omega)) (oP rfl pK (k:=oP rfl pM (k:=oP rfl pM (k:=oP rfl pM (k:=?_)))))
   refine oP rfl (P_ixs (i) rfl ty_sl_92 rfl rfl (by first | rfl | omega) (by omega)) (k:=oP rfl (pG ty_fl_67_5) (k:=?_))
   refine oV rfl (V_load rfl rfl ty_sc_23 (rd_rc (Rds.row hrow rfl) hx rfl)) (k:=oP rfl (pF ty_fl_50_3) (k:=oV rfl (vB ty_sc_23 .h0) (k:=?_)))
   refine oP rfl (P_subN rfl rfl rfl (by simp only [fits]; omega)) (k:=oP rfl pGe (k:=?_))
   refine E_false (t := 50) rfl (decide_eq_false (by omega)) (oP rfl pK (k:=O_nil (qT (kF (k:=R_skip (qT (rT (lA (k:=?_)))))))))
   refine L_nil (qT (rT (lA (k:=?_))))
   refine L_nil (qT (rS (rT (lA (k:=?_)))))
   refine L_nil (qT (R_block ?_))
   refine R_loopE (G := Nat × Bool × Bool) (cE 0 rfl (cE 3 rfl (cE 4 rfl (cE 5 rfl (cE 6 rfl (cE 7 rfl (cE 11 rfl (cE 12 rfl (cE 13 rfl (cE 14 rfl (cE 28 rfl (cE 29 rfl (cE 30 rfl (cE 31 rfl (cE 32 rfl (cE 33 rfl (cE 34 rfl (cE 35 rfl (cE 36 rfl (cE 37 rfl (cE 38 rfl (cE 39 rfl (cE 40 rfl (cE 41 rfl (cE 42 rfl (cE 43 rfl (cE 44 rfl (cE 45 rfl (cE 46 rfl (cE 47 rfl (cE 48 rfl (cE 49 rfl (cE 50 rfl (cE 51 rfl .nil)))))))))))))))))))))))))))))))))) (fun g => [(8, .bool g.2.1), (9, .bool g.2.2), (10, .int .i64 ((g.1 : Nat) : Int))]) (fun g => [blk b6 (findX cur.j.l.s.xs x.t.frm).cells 50, blk b3 (cur.r.cells (.slice cur.j.l.s.b cur.j.l.s.xs.length cur.j.l.s.c) (.slice cur.j.l.r.b cur.j.l.r.xs.length cur.j.l.r.c)) 63]) (fun g => g.1 ≤ L.length ∧ (g.2.1 = false → (∃ z ∈ L, z.t.frm = x.t.frm ∧ z.t.non < x.t.non)) ∧ (g.2.1 = true → ∀ q9 ∈ L.take g.1, ¬ (q9.t.frm = x.t.frm ∧ q9.t.non < x.t.non)) ∧ (g.2.2 = false → ∀ q9 ∈ L.take g.1, q9.t.frm = x.t.frm → q9.t.non < x.t.non → q9.t.non ≠ x.t.non - 1)) (fun g => L.length - g.1) (0, true, false) (by show (0) ≤ L.length ∧ ((true) = false → (∃ z ∈ L, z.t.frm = x.t.frm ∧ z.t.non < x.t.non)) ∧ ((true) = true → ∀ q9 ∈ L.take (0), ¬ (q9.t.frm = x.t.frm ∧ q9.t.non < x.t.non)) ∧ ((false) = false → ∀ q9 ∈ L.take (0), q9.t.frm = x.t.frm → q9.t.non < x.t.non → q9.t.non ≠ x.t.non - 1); exact ⟨Nat.zero_le _, fun h => (by cases h), fun _ q9 hq => (by rw [List.take_zero] at hq; cases hq), fun _ q9 hq => (by rw [List.take_zero] at hq; cases hq)⟩) (by repeat (first | exact .nil | refine .cons rfl ?_ | refine .consE rfl (by first | rfl | (congr 1; omega) | (congr 1; push_cast; omega)) ?_)) (Weak.refl _) ?_
   rintro ⟨j, fi, ah⟩ hinv
   replace hinv : j ≤ L.length ∧ (fi = false → (∃ z ∈ L, z.t.frm = x.t.frm ∧ z.t.non < x.t.non)) ∧ (fi = true → ∀ q9 ∈ L.take j, ¬ (q9.t.frm = x.t.frm ∧ q9.t.non < x.t.non)) ∧ (ah = false → ∀ q9 ∈ L.take j, q9.t.frm = x.t.frm → q9.t.non < x.t.non → q9.t.non ≠ x.t.non - 1) := hinv
   show St (cx gl) _ ((8, .bool fi) :: (9, .bool ah) :: (10, .int .i64 ((j : Nat) : Int)) :: _) [blk b6 (findX cur.j.l.s.xs x.t.frm).cells 50, blk b3 (cur.r.cells (.slice cur.j.l.s.b cur.j.l.s.xs.length cur.j.l.s.c) (.slice cur.j.l.r.b cur.j.l.r.xs.length cur.j.l.r.c)) 63] _
   obtain ⟨hj, hfi, hft, hah⟩ := hinv
   refine rS (rT (lMv (k:=lMv (k:=lP (pL ty_sl_92) (k:=lP pLt (k:=?_))))))
   refine L_nil (qT ?_)
   refine R_condP rfl (fun hlt2 => ?_) (fun hlt2 => ?_)
   ·skip
    have hjm : j < L.length := by omega
    obtain ⟨z, hz⟩ : ∃ q, L[j]? = some q := ⟨_, List.getElem?_eq_getElem (by omega)⟩
    obtain ⟨hz0, hz1⟩ := z.ok.non
    refine R_skip (qT (rS (R_block (rS ?_))))
    refine R_open [(0, 0), (1, 0), (2, 0), (3, 0), (4, 1), (5, 0), (6, 0), (7, 0), (8, 0), (9, 1), (10, 0), (11, 0), (12, 0), (13, 0), (14, 0), (15, 0), (16, 1), (17, 0), (18, 0), (19, 0), (20, 0), (21, 1), (22, 0), (23, 0)] mixed (by kernel_rfl) (QOk.then (QOk.block (QOk.then (QOk.then (QOk.block (QOk.then (QOk.block (QOk.then (QOk.then (QOk.block (QOk.then QOk.body))))))))))) (oP rfl pM (k:=oP rfl pM (k:=?_)))
    refine oP rfl (P_ixs (j) rfl ty_sl_92 rfl rfl (by first | rfl | omega) (by omega)) (k:=oP rfl (pG ty_fl_67_1) (k:=?_))
    refine oV rfl (V_load rfl rfl ty_sc_26 (rd_rc (Rds.row hrow rfl) hz rfl)) (k:=oP rfl pM (k:=oP rfl pM (k:=?_)))
    refine oP rfl (P_ixs (i) rfl ty_sl_92 rfl rfl (by first | rfl | omega) (by omega)) (k:=oP rfl (pG ty_fl_67_1) (k:=?_))
    refine oV rfl (V_load rfl rfl ty_sc_26 (rd_rc (Rds.row hrow rfl) hx rfl)) (k:=oP rfl pEq (k:=?_))
    refine E_bool (t := 68) rfl (fun q1 => ?_) (fun q1 => ?_)
    ·skip
     have q1 := of_decide_eq_true q1
     refine oP rfl pM (k:=oP rfl pM (k:=oP rfl pM (k:=?_)))
     refine oP rfl (P_ixs (j) rfl ty_sl_92 rfl rfl (by first | rfl | omega) (by omega)) (k:=oP rfl (pG ty_fl_67_5) (k:=?_))
     refine oV rfl (V_load rfl rfl ty_sc_23 (rd_rc (Rds.row hrow rfl) hz rfl)) (k:=oP rfl pM (k:=oP rfl pM (k:=?_)))
     refine oP rfl (P_ixs (i) rfl ty_sl_92 rfl rfl (by first | rfl | omega) (by omega)) (k:=oP rfl (pG ty_fl_67_5) (k:=?_))
     refine oV rfl (V_load rfl rfl ty_sc_23 (rd_rc (Rds.row hrow rfl) hx rfl)) (k:=oP rfl pLt (k:=?_))
     refine E_bool (t := 80) rfl (fun q2 => ?_) (fun q2 => ?_)
     ·skip
      have q2 := of_decide_eq_true q2
      refine oP rfl pK (k:=O_nil (qT (kT (k:=rT (lA (k:=?_))))))
      refine L_nil (qT ?_)
      refine R_open [(0, 0), (1, 0), (2, 0), (3, 0), (4, 0), (5, 0), (6, 1), (7, 0), (8, 0), (9, 0), (10, 0), (11, 1), (12, 0), (13, 0), (14, 0), (15, 0)] mixed (by kernel_rfl) (QOk.block (QOk.then (QOk.then (QOk.block (QOk.then (QOk.block (QOk.then (QOk.then (QOk.block (QOk.then QOk.body)))))))))) (oP rfl pM (k:=?_))
      refine E_bool (t := 82) rfl (fun q3 => ?_) (fun q3 => ?_)
      ·skip
       refine oP rfl pM (k:=?_)
       refine O_no rfl rfl rfl rfl ?_
       refine O_no rfl rfl rfl rfl ?_
       refine O_no rfl rfl rfl rfl ?_
       refine O_no rfl rfl rfl rfl ?_
       refine O_noX rfl rfl rfl rfl ?_
       refine O_no rfl rfl rfl rfl ?_
       refine O_no rfl rfl rfl rfl ?_
       refine O_no rfl rfl rfl rfl ?_
       refine O_no rfl rfl rfl rfl ?_
       refine O_noX rfl rfl rfl rfl ?_
       refine O_no rfl rfl rfl rfl ?_
       refine O_no rfl rfl rfl rfl (oP rfl pK (k:=oP rfl pA (k:=O_nil (Q_block (qT (rR (lMv (k:=?_))))))))
       first | (refine L_val rfl rfl rfl (OpP.v (P_addN rfl rfl rfl (by simp only [fits]; omega))) ?_) | (refine L_val rfl rfl rfl (OpP.v (P_add rfl rfl rfl)) ?_)
       refine lA (k:=?_)
       refine L_nil ?_
       exact Q_round (j + 1, false, true) (by show (j + 1) ≤ L.length ∧ ((false) = false → (∃ z ∈ L, z.t.frm = x.t.frm ∧ z.t.non < x.t.non)) ∧ ((false) = true → ∀ q9 ∈ L.take (j + 1), ¬ (q9.t.frm = x.t.frm ∧ q9.t.non < x.t.non)) ∧ ((true) = false → ∀ q9 ∈ L.take (j + 1), q9.t.frm = x.t.frm → q9.t.non < x.t.non → q9.t.non ≠ x.t.non - 1); exact ⟨by omega, fun _ => ⟨z, List.mem_of_getElem? hz, q1, q2⟩, fun h => (by cases h), fun h => (by cases h)⟩) (by show L.length - (j + 1) < L.length - j; omega) (by repeat (first | exact .nil | refine .cons rfl ?_ | refine .consE rfl (by first | rfl | (congr 1; omega) | (congr 1; push_cast; omega)) ?_)) (Weak.refl _)
      ·skip
       refine oP rfl pM (k:=oP rfl pM (k:=oP rfl pM (k:=?_)))
       refine oP rfl (P_ixs (j) rfl ty_sl_92 rfl rfl (by first | rfl | omega) (by omega)) (k:=oP rfl (pG ty_fl_67_5) (k:=?_))
       refine oV rfl (V_load rfl rfl ty_sc_23 (rd_rc (Rds.row hrow rfl) hz rfl)) (k:=oP rfl pM (k:=oP rfl pM (k:=?_)))
       refine oP rfl (P_ixs (i) rfl ty_sl_92 rfl rfl (by first | rfl | omega) (by omega)) (k:=oP rfl (pG ty_fl_67_5) (k:=?_))
       refine oV rfl (V_load rfl rfl ty_sc_23 (rd_rc (Rds.row hrow rfl) hx rfl)) (k:=?_)
       refine oP rfl (P_subN rfl rfl rfl (by simp only [fits]; omega)) (k:=oP rfl pEq (k:=?_))
       refine E_bool (t := 95) rfl (fun q4 => ?_) (fun q4 => ?_)
       ·skip
        have q4 := of_decide_eq_true q4
        refine oP rfl pK (k:=oP rfl pA (k:=O_nil (Q_block (qT (rR (lMv (k:=?_)))))))
        first | (refine L_val rfl rfl rfl (OpP.v (P_addN rfl rfl rfl (by simp only [fits]; omega))) ?_) | (refine L_val rfl rfl rfl (OpP.v (P_add rfl rfl rfl)) ?_)
        refine lA (k:=?_)
        refine L_nil ?_
        exact Q_round (j + 1, false, true) (by show (j + 1) ≤ L.length ∧ ((false) = false → (∃ z ∈ L, z.t.frm = x.t.frm ∧ z.t.non < x.t.non)) ∧ ((false) = true → ∀ q9 ∈ L.take (j + 1), ¬ (q9.t.frm = x.t.frm ∧ q9.t.non < x.t.non)) ∧ ((true) = false → ∀ q9 ∈ L.take (j + 1), q9.t.frm = x.t.frm → q9.t.non < x.t.non → q9.t.non ≠ x.t.non - 1); exact ⟨by omega, fun _ => ⟨z, List.mem_of_getElem? hz, q1, q2⟩, fun h => (by cases h), fun h => (by cases h)⟩) (by show L.length - (j + 1) < L.length - j; omega) (by repeat (first | exact .nil | refine .cons rfl ?_ | refine .consE rfl (by first | rfl | (congr 1; omega) | (congr 1; push_cast; omega)) ?_)) (Weak.refl _)
       ·skip
        have q4 := of_decide_eq_false q4
        refine oP rfl pK (k:=oP rfl pA (k:=O_nil (Q_block (qT (rR (lMv (k:=?_)))))))
        first | (refine L_val rfl rfl rfl (OpP.v (P_addN rfl rfl rfl (by simp only [fits]; omega))) ?_) | (refine L_val rfl rfl rfl (OpP.v (P_add rfl rfl rfl)) ?_)
        refine lA (k:=?_)
        refine L_nil ?_
        exact Q_round (j + 1, false, false) (by show (j + 1) ≤ L.length ∧ ((false) = false → (∃ z ∈ L, z.t.frm = x.t.frm ∧ z.t.non < x.t.non)) ∧ ((false) = true → ∀ q9 ∈ L.take (j + 1), ¬ (q9.t.frm = x.t.frm ∧ q9.t.non < x.t.non)) ∧ ((false) = false → ∀ q9 ∈ L.take (j + 1), q9.t.frm = x.t.frm → q9.t.non < x.t.non → q9.t.non ≠ x.t.non - 1); exact ⟨by omega, fun _ => ⟨z, List.mem_of_getElem? hz, q1, q2⟩, fun h => (by cases h), fun h q9 hq => (by rw [take_snoc hz] at hq; rcases List.mem_append.1 hq with hq | hq; exact hah (by simpa using q3) q9 hq; rw [List.mem_singleton] at hq; subst hq; exact fun _ _ => q4)⟩) (by show L.length - (j + 1) < L.length - j; omega) (by repeat (first | exact .nil | refine .cons rfl ?_ | refine .consE rfl (by first | rfl | (congr 1; omega) | (congr 1; push_cast; omega)) ?_)) (Weak.refl _)
     ·skip
      have q2 := of_decide_eq_false q2
      refine oP rfl pK (k:=O_nil (qT (kF (k:=R_skip (Q_block (qT (rR (lMv (k:=?_)))))))))
      first | (refine L_val rfl rfl rfl (OpP.v (P_addN rfl rfl rfl (by simp only [fits]; omega))) ?_) | (refine L_val rfl rfl rfl (OpP.v (P_add rfl rfl rfl)) ?_)
      refine lA (k:=?_)
      refine L_nil ?_
      exact Q_round (j + 1, fi, ah) (by show (j + 1) ≤ L.length ∧ ((fi) = false → (∃ z ∈ L, z.t.frm = x.t.frm ∧ z.t.non < x.t.non)) ∧ ((fi) = true → ∀ q9 ∈ L.take (j + 1), ¬ (q9.t.frm = x.t.frm ∧ q9.t.non < x.t.non)) ∧ ((ah) = false → ∀ q9 ∈ L.take (j + 1), q9.t.frm = x.t.frm → q9.t.non < x.t.non → q9.t.non ≠ x.t.non - 1); exact ⟨by omega, hfi, fun h q9 hq => (by rw [take_snoc hz] at hq; rcases List.mem_append.1 hq with hq | hq; exact hft h q9 hq; rw [List.mem_singleton] at hq; subst hq; exact fun h8 => q2 h8.2), fun h q9 hq => (by rw [take_snoc hz] at hq; rcases List.mem_append.1 hq with hq | hq; exact hah h q9 hq; rw [List.mem_singleton] at hq; subst hq; exact fun _ h8 => absurd h8 q2)⟩) (by show L.length - (j + 1) < L.length - j; omega) (by repeat (first | exact .nil | refine .cons rfl ?_ | refine .consE rfl (by first | rfl | (congr 1; omega) | (congr 1; push_cast; omega)) ?_)) (Weak.refl _)
    ·skip
     have q1 := of_decide_eq_false q1
     refine oP rfl pM (k:=?_)
     refine O_no rfl rfl rfl rfl ?_
     refine O_no rfl rfl rfl rfl ?_
     refine O_no rfl rfl rfl rfl ?_
     refine O_no rfl rfl rfl rfl ?_
     refine O_noX rfl rfl rfl rfl ?_
     refine O_no rfl rfl rfl rfl ?_
     refine O_no rfl rfl rfl rfl ?_
     refine O_no rfl rfl rfl rfl ?_
     refine O_no rfl rfl rfl rfl ?_
     refine O_noX rfl rfl rfl rfl ?_
     refine O_no rfl rfl rfl rfl (oP rfl pK (k:=O_nil (qT (kF (k:=R_skip (Q_block (qT (rR (lMv (k:=?_))))))))))
     first | (refine L_val rfl rfl rfl (OpP.v (P_addN rfl rfl rfl (by simp only [fits]; omega))) ?_) | (refine L_val rfl rfl rfl (OpP.v (P_add rfl rfl rfl)) ?_)
     refine lA (k:=?_)
     refine L_nil ?_
     exact Q_round (j + 1, fi, ah) (by show (j + 1) ≤ L.length ∧ ((fi) = false → (∃ z ∈ L, z.t.frm = x.t.frm ∧ z.t.non < x.t.non)) ∧ ((fi) = true → ∀ q9 ∈ L.take (j + 1), ¬ (q9.t.frm = x.t.frm ∧ q9.t.non < x.t.non)) ∧ ((ah) = false → ∀ q9 ∈ L.take (j + 1), q9.t.frm = x.t.frm → q9.t.non < x.t.non → q9.t.non ≠ x.t.non - 1); exact ⟨by omega, hfi, fun h q9 hq => (by rw [take_snoc hz] at hq; rcases List.mem_append.1 hq with hq | hq; exact hft h q9 hq; rw [List.mem_singleton] at hq; subst hq; exact fun h8 => q1 h8.1), fun h q9 hq => (by rw [take_snoc hz] at hq; rcases List.mem_append.1 hq with hq | hq; exact hah h q9 hq; rw [List.mem_singleton] at hq; subst hq; exact fun h8 => absurd h8 q1)⟩) (by show L.length - (j + 1) < L.length - j; omega) (by repeat (first | exact .nil | refine .cons rfl ?_ | refine .consE rfl (by first | rfl | (congr 1; omega) | (congr 1; push_cast; omega)) ?_)) (Weak.refl _)
   ·skip
    obtain rfl : j = L.length := by omega
    rw [List.take_length] at hft hah
    have hF : fi = true → x.t.non = (findX cur.j.l.s.xs x.t.frm).non := fun h => hf4.elim id fun ⟨z, hz, e1, e2⟩ => absurd ⟨e1, by omega⟩ (hft h z hz)
    have hA : fi = false → ah = true := fun h => by cases h9 : ah with | true => rfl | false => obtain ⟨z, hz, e1, e2⟩ := hfi h; rcases hf4 with h8 | ⟨y, hy, e3, e4⟩; obtain ⟨_, g2, _, _⟩ := hR z hz; rw [e1] at g2; omega; exact absurd e4 (hah h9 y hy e3 (by omega))
    refine R_exit (Q_then_exit (Q_then_exit (Q_block_eq (qT (rS (rS ?_))))))
    refine R_open [(0, 0), (1, 0), (2, 0), (3, 0), (4, 0), (5, 0), (6, 1), (7, 0), (8, 1), (9, 0), (10, 0)] mixed (by kernel_rfl) (QOk.then (QOk.then (QOk.block (QOk.then (QOk.then (QOk.block (QOk.then QOk.body))))))) (oP rfl pM (k:=?_))
    refine E_bool (t := 97) rfl (fun f1 => ?_) (fun f1 => ?_)
    ·skip
     refine oP rfl pM (k:=oP rfl pM (k:=oP rfl pM (k:=?_)))
     refine oP rfl (P_ixs (i) rfl ty_sl_92 rfl rfl (by first | rfl | omega) (by omega)) (k:=oP rfl (pG ty_fl_67_5) (k:=?_))
     refine oV rfl (V_load rfl rfl ty_sc_23 (rd_rc (Rds.row hrow rfl) hx rfl)) (k:=oP rfl (pF ty_fl_50_3) (k:=oV rfl (vB ty_sc_23 .h0) (k:=oP rfl pNe (k:=?_))))
     refine E_false (t := 106) rfl (decide_eq_false (fun h9 => h9 (hF f1))) (oP rfl pK (k:=O_nil (qT (kF (k:=R_skip (qT (rT (lMv (k:=?_)))))))))
     refine E_bool (t := 108) rfl (fun f2 => ?_) (fun f2 => ?_)
     ·skip
      refine lP pO (k:=lMv (k:=lN (k:=lN (k:=lP pK (k:=?_)))))
      refine L_nil (qT (kF (k:=R_skip (Q_block (qT (rR (lMv (k:=?_))))))))
      first | (refine L_val rfl rfl rfl (OpP.v (P_addN rfl rfl rfl (by simp only [fits]; omega))) ?_) | (refine L_val rfl rfl rfl (OpP.v (P_add rfl rfl rfl)) ?_)
      refine lA (k:=?_)
      refine L_nil ?_
      exact Q_round (i + 1) (by show i + 1 ≤ L.length; omega) (by show L.length - (i + 1) < L.length - i; omega) (by repeat (first | exact .nil | refine .cons rfl ?_ | refine .consE rfl (by first | rfl | (congr 1; omega) | (congr 1; push_cast; omega)) ?_)) (Weak.drop (Weak.refl _))
     ·skip
      refine lP pO (k:=lMv (k:=lMv (k:=?_)))
      refine E_true (t := 111) rfl (hA f2) (lP pO (k:=lP pK (k:=?_)))
      refine L_nil (qT (kF (k:=R_skip (Q_block (qT (rR (lMv (k:=?_))))))))
      first | (refine L_val rfl rfl rfl (OpP.v (P_addN rfl rfl rfl (by simp only [fits]; omega))) ?_) | (refine L_val rfl rfl rfl (OpP.v (P_add rfl rfl rfl)) ?_)
      refine lA (k:=?_)
      refine L_nil ?_
      exact Q_round (i + 1) (by show i + 1 ≤ L.length; omega) (by show L.length - (i + 1) < L.length - i; omega) (by repeat (first | exact .nil | refine .cons rfl ?_ | refine .consE rfl (by first | rfl | (congr 1; omega) | (congr 1; push_cast; omega)) ?_)) (Weak.drop (Weak.refl _))
    ·skip
     refine oP rfl pM (k:=?_)
     refine O_no rfl rfl rfl rfl ?_
     refine O_no rfl rfl rfl rfl ?_
     refine O_no rfl rfl rfl rfl ?_
     refine O_no rfl rfl rfl rfl ?_
     refine O_noX rfl rfl rfl rfl ?_
     refine O_no rfl rfl rfl rfl ?_
     refine O_noX rfl rfl rfl rfl ?_
     refine O_no rfl rfl rfl rfl (oP rfl pK (k:=O_nil (qT (kF (k:=R_skip (qT (rT (lMv (k:=?_)))))))))
     refine E_bool (t := 108) rfl (fun f2 => ?_) (fun f2 => ?_)
     ·skip
      refine lP pO (k:=lMv (k:=lN (k:=lN (k:=lP pK (k:=?_)))))
      refine L_nil (qT (kF (k:=R_skip (Q_block (qT (rR (lMv (k:=?_))))))))
      first | (refine L_val rfl rfl rfl (OpP.v (P_addN rfl rfl rfl (by simp only [fits]; omega))) ?_) | (refine L_val rfl rfl rfl (OpP.v (P_add rfl rfl rfl)) ?_)
      refine lA (k:=?_)
      refine L_nil ?_
      exact Q_round (i + 1) (by show i + 1 ≤ L.length; omega) (by show L.length - (i + 1) < L.length - i; omega) (by repeat (first | exact .nil | refine .cons rfl ?_ | refine .consE rfl (by first | rfl | (congr 1; omega) | (congr 1; push_cast; omega)) ?_)) (Weak.drop (Weak.refl _))
     ·skip
      refine lP pO (k:=lMv (k:=lMv (k:=?_)))
      refine E_true (t := 111) rfl (hA f2) (lP pO (k:=lP pK (k:=?_)))
      refine L_nil (qT (kF (k:=R_skip (Q_block (qT (rR (lMv (k:=?_))))))))
      first | (refine L_val rfl rfl rfl (OpP.v (P_addN rfl rfl rfl (by simp only [fits]; omega))) ?_) | (refine L_val rfl rfl rfl (OpP.v (P_add rfl rfl rfl)) ?_)
      refine lA (k:=?_)
      refine L_nil ?_
      exact Q_round (i + 1) (by show i + 1 ≤ L.length; omega) (by show L.length - (i + 1) < L.length - i; omega) (by repeat (first | exact .nil | refine .cons rfl ?_ | refine .consE rfl (by first | rfl | (congr 1; omega) | (congr 1; push_cast; omega)) ?_)) (Weak.drop (Weak.refl _))
 ·skip
  refine R_exit (Q_then_exit (Q_then_exit (Q_block_eq ?_)))
  refine St.env (cE 4 rfl .nil) (qT (rT (lA (k:=?_))))
  refine L_nil (qT (R_ret ?_))
  exact R_endV rfl rfl (.tmp rfl .nil) (rfl)
end Go.Proofs.YtcngmkjdpoiiaaaGreatDoor
