/- LedgerSeated: the walk. Printed by gen.py. -/
import Derived.Test.YtfhjhaogmdaepaaL8E
import Derived.Test.YtfhjhaogmdaepaaL9B
set_option linter.unusedVariables false
set_option linter.unusedSimpArgs false
set_option maxRecDepth 100000
namespace Go.Proofs.Ytfhjhaogmdaepaa
open Go Go.RowKit Go.Proofs
theorem seated_find {mb : Int} {l : List Acc} {m : Mem} (hf : AccFine l) (h : m ∈ candM mb l) : ∃ x, m = memA x ∧ x ∈ l ∧ sits mb x = true ∧ findA l m.a = x := by
  unfold candM at h
  obtain ⟨x, hx, rfl⟩ := List.mem_map.1 h
  obtain ⟨hxl, hs⟩ := List.mem_filter.1 hx
  obtain ⟨i, hi, e⟩ := List.mem_iff_getElem.1 hxl
  have hxi : l[i]? = some x := by rw [List.getElem?_eq_getElem hi, e]
  refine ⟨x, rfl, hxl, hs, ?_⟩
  have h1 : idxG (isAc (memA x).a) l = (i : Int) := idxG_hit (fun j m' hj hm' => decide_eq_false fun e2 => by
    have h2 := hf.mono j i hj hi
    rw [accAt_of hxi, accAt_of hm'] at h2
    have e3 : m'.a = x.a := e2
    omega) hxi (decide_eq_true rfl)
  rw [findA_at h1, accAt_of hxi]
theorem sits_iff {mb : Int} {x : Acc} : sits mb x = true ↔ x.jail = false ∧ mb ≤ x.bond ∧ 1 ≤ x.bond := by
  unfold sits; rw [Bool.and_eq_true, Bool.and_eq_true, decide_eq_true_eq, decide_eq_true_eq, Bool.not_eq_true']
theorem cand_mem {mb : Int} {l : List Acc} {x : Acc} (hx : x ∈ l) (hs : sits mb x = true) : memA x ∈ candM mb l := List.mem_map.2 ⟨x, List.mem_filter.2 ⟨hx, hs⟩, rfl⟩
theorem SeatsOf.full {mb seats : Int} {l : List Acc} {R : List Mem} (h : SeatsOf mb seats l R) {y : Mem} (hy : y ∈ candM mb l) (hn : y ∉ R) : R.length = min seats.toNat 64 := by
  have hnd : (y :: R).Nodup := List.nodup_cons.2 ⟨hn, nodup_up h.up⟩
  have h1 := hnd.length_le_of_subset (l₂ := candM mb l) fun z hz => by
    rcases List.mem_cons.1 hz with rfl | hz
    · exact hy
    · exact h.mem z hz
  rw [List.length_cons] at h1
  have h2 := h.len; unfold mostN at h2; omega
theorem SeatsOf.few {mb seats : Int} {l : List Acc} {R : List Mem} (h : SeatsOf mb seats l R) : R.length ≤ 64 ∧ (0 < R.length → (R.length : Int) ≤ seats) := by
  have h2 := h.len; unfold mostN at h2; omega
theorem SeatsOf.next {mb seats : Int} {l : List Acc} {R : List Mem} (h : SeatsOf mb seats l R) {i : Nat} {m m' : Mem} (hi : 0 < i) (hm : R[i]? = some m) (hm' : R[i - 1]? = some m') : m'.a < m.a := by
  obtain ⟨h1, e1⟩ := List.getElem?_eq_some_iff.1 hm
  obtain ⟨h2, e2⟩ := List.getElem?_eq_some_iff.1 hm'
  rw [← e1, ← e2]
  exact List.pairwise_iff_getElem.1 h.up (i - 1) i h2 h1 (by omega)
def sameA (x : Acc) (m : Mem) : Bool := decide (m.a = x.a)
theorem any_next {R : List Mem} {x : Acc} {j : Nat} {m : Mem} (h : R[j]? = some m) : (R.take (j + 1)).any (sameA x) = ((R.take j).any (sameA x) || decide (m.a = x.a)) := by
  rw [List.take_add_one, h, List.any_append]; simp [sameA]
theorem any_no {R : List Mem} {x : Acc} (h : R.any (sameA x) = false) : memA x ∉ R := fun hm => by
  have : R.any (sameA x) = true := List.any_eq_true.2 ⟨_, hm, decide_eq_true rfl⟩
  rw [h] at this; cases this
theorem bt_use {x : Acc} {y : Mem} (h : bt y (memA x) = true) : x.bond < y.p ∨ (y.p = x.bond ∧ y.a < x.a) := bt_iff.1 h
set_option maxHeartbeats 4000000 in
theorem ledgerSeated_walk {gl : Nat → Obj} (base : Option Addr) (c : Nat) (l : List Acc) (hc : l.length ≤ c) (hm : l.length ≤ 3518437208800)(hok : ∀ x ∈ l, x.ok) (p : Par) : SpecV (cx gl) 3 [.slice base l.length c, .agg p.cells.toArray] (fun w => Row w base (rc l)) (.bool true) := by
  refine Spec.enter (C := cx gl) Try.func3 rfl 224 rfl rfl fun w0 h0 hsep hsub hpre => ?_
  obtain rfl : h0 = Heap.none := hsep
  show St (cx gl) _ [(0, .slice base l.length c), (1, .agg p.cells.toArray)] _ _
  refine R_seq ?_
  refine R_region ?_
  refine L_op rfl (W_box (p.cells) rfl rfl rfl rfl rfl fun b3 => ?_)
  refine L_val rfl rfl rfl (OpP.v (P_assign rfl rfl)) ?_
  refine L_nil ?_
  refine St.env (.cons (t := 0) rfl (.cons (t := 3) rfl (.cons (t := 4) rfl .nil))) ?_
  refine Q_then ?_
  refine R_seq ?_
  refine R_region ?_
  refine L_op rfl (W_callV rfl rfl rfl rfl fn_ca_5 (alive8) (fun _ _ => trivial) ?_)
  refine L_val rfl rfl rfl (OpP.v (P_assign rfl rfl)) ?_
  refine L_nil ?_
  refine St.env (.cons (t := 0) rfl (.cons (t := 3) rfl (.cons (t := 4) rfl (.cons (t := 5) rfl .nil)))) ?_
  refine Q_then ?_
  refine R_seq ?_
  refine R_seq ?_
  refine R_region ?_
  refine L_val rfl rfl rfl (OpP.v (P_move rfl rfl)) ?_
  refine L_val rfl rfl rfl (OpP.v (P_not rfl rfl)) ?_
  refine E_false (t := 20) rfl (rfl) ?_
  refine L_nil ?_
  refine St.env (.cons (t := 0) rfl (.cons (t := 3) rfl (.cons (t := 4) rfl (.cons (t := 20) rfl .nil)))) ?_
  refine Q_then ?_
  refine R_condF rfl ?_
  refine R_skip ?_
  refine Q_then ?_
  refine R_seq ?_
  refine R_region ?_
  refine L_val rfl rfl rfl (OpP.v (P_move rfl rfl)) ?_
  refine L_op rfl (W_call rfl rfl rfl rfl fn_ca_6 (lnew_ok base c l hc (by omega) hok) (Split.nil _) (fun w a b _ hb dj m => (Sn.row hpre rfl).rw_ w ⟨_, hb, m.le (Heap.le_join_right dj)⟩) fun v1 rs1 ⟨u, z1, z2⟩ => ?_)
  subst z1; subst z2
  refine St.ownForm (p := []) fun ub uc huv huc => ?_
  subst huv
  refine L_val rfl rfl rfl (OpP.v (P_move rfl rfl)) ?_
  refine L_val rfl rfl rfl (OpP.v (P_extract rfl rfl rfl)) ?_
  refine L_val rfl rfl rfl (OpP.v (P_extract rfl rfl rfl)) ?_
  refine L_op rfl (W_alloc rfl rfl rfl ty_ze_29 fun b6 => ?_)
  refine L_op rfl (W_storeAll rfl rfl rfl rfl ty_ag_29 (rfl) (ledV_one _ _ _ _ rfl rfl) .h0 (rfl) ?_)
  refine L_val rfl rfl rfl (OpP.v (P_assign rfl rfl)) ?_
  refine L_nil ?_
  refine St.env (.cons (t := 0) rfl (.cons (t := 3) rfl (.cons (t := 4) rfl (.cons (t := 6) rfl (.cons (t := 7) rfl .nil))))) ?_
  refine Q_then ?_
  refine R_seq ?_
  refine R_region ?_
  refine L_val rfl rfl rfl (OpP.v (P_move rfl rfl)) ?_
  refine L_op rfl (W_call rfl rfl rfl rfl fn_ca_7 (rnew_ok base c l hc (by omega) hok) (Split.nil _) (fun w a b _ hb dj m => (Sn.row hpre rfl).rw_ w ⟨_, hb, m.le (Heap.le_join_right dj)⟩) fun v2 rs2 ⟨u2, z1, z2⟩ => ?_)
  subst z1; subst z2
  refine St.ownForm (p := []) fun ub2 uc2 huv huc2 => ?_
  subst huv
  refine L_val rfl rfl rfl (OpP.v (P_move rfl rfl)) ?_
  refine L_val rfl rfl rfl (OpP.v (P_extract rfl rfl rfl)) ?_
  refine L_val rfl rfl rfl (OpP.v (P_extract rfl rfl rfl)) ?_
  refine L_op rfl (W_alloc rfl rfl rfl ty_ze_29 fun b8 => ?_)
  refine L_op rfl (W_storeAll rfl rfl rfl rfl ty_ag_29 (rfl) (ledV_one _ _ _ _ rfl rfl) .h0 (rfl) ?_)
  refine L_val rfl rfl rfl (OpP.v (P_assign rfl rfl)) ?_
  refine L_nil ?_
  refine St.env (.cons (t := 3) rfl (.cons (t := 4) rfl (.cons (t := 6) rfl (.cons (t := 7) rfl (.cons (t := 9) rfl .nil))))) ?_
  refine Q_then ?_
  refine R_seq ?_
  refine R_seq ?_
  refine R_region ?_
  refine L_val rfl rfl rfl (OpP.v (P_move rfl rfl)) ?_
  refine L_val rfl rfl rfl (OpP.v (P_move rfl rfl)) ?_
  refine L_val rfl rfl rfl (OpP.v (P_neq rfl rfl rfl)) ?_
  refine E_false (t := 33) rfl (by simp) ?_
  refine L_nil ?_
  refine St.env (.cons (t := 3) rfl (.cons (t := 4) rfl (.cons (t := 6) rfl (.cons (t := 9) rfl (.cons (t := 33) rfl .nil))))) ?_
  refine Q_then ?_
  refine R_condF rfl ?_
  refine R_skip ?_
  refine Q_then ?_
  refine R_seq ?_
  refine R_seq ?_
  refine R_region ?_
  refine L_val rfl rfl rfl (OpP.v (P_move rfl rfl)) ?_
  refine L_val rfl rfl rfl (OpP.v (P_neq rfl rfl rfl)) ?_
  refine L_nil ?_
  refine St.env (.cons (t := 3) rfl (.cons (t := 4) rfl (.cons (t := 6) rfl (.cons (t := 35) rfl .nil)))) ?_
  refine Q_then ?_
  refine R_condP rfl (fun he => ?_) (fun he => ?_)
  · skip
    refine R_seq ?_
    refine R_region ?_
    refine L_val rfl rfl rfl (OpP.v (P_assign rfl rfl)) ?_
    refine L_nil ?_
    refine St.env (.cons (t := 3) rfl (.cons (t := 4) rfl (.cons (t := 6) rfl .nil))) ?_
    refine Q_then ?_
    refine R_ret ?_
    refine Q_then_ret ?_
    exact R_endV rfl rfl (.tmp rfl .nil) (rfl)
  · skip
    have h9 : newE l = 0 := Classical.not_not.1 he
    obtain ⟨hfew, hae, hsu⟩ := newE_zero h9
    have hf : AccFine l := accFine_of hae
    rw [newL8_fine h9] at huc ⊢
    have huc : l.length ≤ uc := huc
    refine R_skip ?_
    refine Q_then ?_
    refine R_seq ?_
    refine St.res (rs' := [blk b6 (ledV (.slice ub l.length uc) (.slice none 0 0) 0 (sumA l)) 29, ownS 39 5 (.slice ub l.length uc) (l.length) (rc (l)), blk b3 p.cells 25]) (Weak.pick (p := [_, _]) (Weak.pick (p := [_, _]) (Weak.pick (p := [_, _]) (Weak.nil _)))) ?_
    refine R_region ?_
    refine L_val rfl rfl rfl (V_loadAgg rfl rfl ty_ag_29 (Rds.blk .h0) (rfl)) ?_
    refine L_val rfl rfl rfl (V_loadAgg rfl rfl ty_ag_25 (Rds.blk .h2) (rfl)) ?_
    refine L_op rfl (W_call rfl rfl rfl rfl fn_ca_8 (seats_ok ub uc l huc hfew hf (.slice none 0 0) rfl 0 (sumA l) p) (Split.nil _) (fun w a b _ hb dj m => (Sn.own .h1 rfl).rw_ w ⟨_, hb, m.le (Heap.le_join_right dj)⟩) fun v3 rs3 ⟨R, sb, sc, z1, hR, z2⟩ => ?_)
    subst z1; subst z2
    refine St.hasFact .h0 (p := R.length ≤ sc) (fun h hh => by obtain ⟨_, _, e, hle⟩ := hh.form; simp only [Value.slice.injEq] at e; omega) ?_
    intro hsc
    obtain ⟨hf64, hfs⟩ := hR.few
    refine L_val rfl rfl rfl (OpP.v (P_assign rfl rfl)) ?_
    refine L_nil ?_
    refine St.env (.cons (t := 3) rfl (.cons (t := 4) rfl (.cons (t := 6) rfl (.cons (t := 10) rfl .nil)))) ?_
    refine Q_then ?_
    refine R_seq ?_
    refine R_region ?_
    refine L_val rfl rfl rfl (OpP.v (P_buildStruct rfl ty_pl_37 ty_ze_37 rfl rfl (rfl))) ?_
    refine L_op rfl (W_alloc rfl rfl rfl ty_ze_37 fun b11 => ?_)
    refine L_op rfl (W_storeAll rfl rfl rfl rfl ty_ag_37 (rfl) (Mem.cells_one (⟨0, 0, 0⟩ : Mem)) .h0 (rfl) ?_)
    refine L_nil ?_
    refine St.env (.cons (t := 3) rfl (.cons (t := 4) rfl (.cons (t := 6) rfl (.cons (t := 10) rfl (.cons (t := 11) rfl .nil))))) ?_
    refine Q_then ?_
    refine R_seq ?_
    refine R_seq ?_
    refine R_region ?_
    refine L_val rfl rfl rfl (OpP.v (P_assign rfl rfl)) ?_
    refine L_nil ?_
    refine Q_then ?_
    refine R_block ?_
    refine R_loopE (G := Nat × Mem) (.cons (t := 3) rfl (.cons (t := 4) rfl (.cons (t := 6) rfl (.cons (t := 10) rfl (.cons (t := 11) rfl .nil))))) (fun g => [(12, .int .i64 (g.1 : Int))]) (fun g => [blk b11 (g.2.cells) 37, ownS 37 3 (.slice sb R.length sc) (R.length) (rc (R)), blk b6 (ledV (.slice ub l.length uc) (.slice none 0 0) 0 (sumA l)) 29, ownS 39 5 (.slice ub l.length uc) (l.length) (rc (l)), blk b3 p.cells 25]) (fun g => g.1 ≤ R.length ∧ (0 < g.1 → g.2 ∈ R)) (fun g => R.length - g.1) (0, (⟨0, 0, 0⟩ : Mem)) (by show (0) ≤ R.length ∧ (0 < (0) → ((⟨0, 0, 0⟩ : Mem)) ∈ R); exact ⟨Nat.zero_le _, fun h => absurd h (Nat.lt_irrefl 0)⟩) (by repeat (first | exact .nil | refine .cons rfl ?_ | refine .consE rfl (by first | rfl | (congr 1; omega) | (congr 1; push_cast; omega)) ?_)) (Weak.refl _) ?_
    rintro ⟨i, lst⟩ hinv
    replace hinv : i ≤ R.length ∧ (0 < i → lst ∈ R) := hinv
    show St (cx gl) _ ((12, .int .i64 (i : Int)) :: _) [blk b11 (lst.cells) 37, ownS 37 3 (.slice sb R.length sc) (R.length) (rc (R)), blk b6 (ledV (.slice ub l.length uc) (.slice none 0 0) 0 (sumA l)) 29, ownS 39 5 (.slice ub l.length uc) (l.length) (rc (l)), blk b3 p.cells 25] _
    obtain ⟨hi, hl0⟩ := hinv
    refine R_seq ?_
    refine R_seq ?_
    refine R_region ?_
    refine L_val rfl rfl rfl (OpP.v (P_move rfl rfl)) ?_
    refine L_val rfl rfl rfl (OpP.v (P_move rfl rfl)) ?_
    refine L_val rfl rfl rfl (OpP.v (P_len rfl ty_sl_33 rfl)) ?_
    refine L_val rfl rfl rfl (OpP.v (P_lss rfl rfl rfl)) ?_
    refine L_nil ?_
    refine Q_then ?_
    refine R_condP rfl (fun hlt => ?_) (fun hlt => ?_)
    · skip
      have hlt : i < R.length := by omega
      obtain ⟨m, hm0⟩ : ∃ m, R[i]? = some m := ⟨_, List.getElem?_eq_getElem hlt⟩
      have hmem : m ∈ R := List.mem_of_getElem? hm0
      obtain ⟨x, hmx, hxl, hsx, hfx⟩ := seated_find hf (hR.mem m hmem)
      obtain ⟨hjl, hbd, hb1⟩ := sits_iff.1 hsx
      have hma : x.a = m.a := by rw [hmx]; rfl
      have hmp : x.bond = m.p := by rw [hmx]; rfl
      have hmq : m.q = 0 := by rw [hmx]; rfl
      refine St.ownSome (p := [_]) (by omega) fun sp sc' hsv hsc' => ?_
      obtain rfl : sb = some ⟨sp, 0, none⟩ := by simp only [Value.slice.injEq] at hsv; exact hsv.1
      refine R_skip ?_
      refine Q_then ?_
      refine R_seq ?_
      refine R_block ?_
      refine R_seq ?_
      refine T_open (.op 0 1 (.op 1 0 (.op 2 0 (.op 3 0 (.op 4 0 (.op 5 1 (.two 6 7 (.op 7 2 (.op 8 3 .nil)) (.op 6 2 (.op 8 3 .nil))))))))) mixed (by kernel_rfl) (QOk.then (QOk.block (QOk.then (QOk.then (QOk.block (QOk.then QOk.body)))))) ?_
      refine T_val rfl rfl rfl rfl (V_loadAgg rfl rfl ty_ag_29 (Rds.blk .h2) (rfl)) ?_
      refine T_pure rfl rfl rfl rfl (P_move rfl rfl) ?_
      refine T_pure rfl rfl rfl rfl (P_move rfl rfl) ?_
      refine T_pure rfl rfl rfl rfl (P_ixs (i) rfl ty_sl_33 rfl rfl (by first | rfl | omega) (by omega)) ?_
      refine T_pure rfl rfl rfl rfl (P_fld rfl ty_fl_37_0 rfl) ?_
      refine T_val rfl rfl rfl rfl (V_load rfl rfl ty_sc_35 (rd_rc (rds_own .h1) hm0 rfl)) ?_
      refine T_two ?_ ?_
      · skip
        refine T_keep rfl rfl (W_callV rfl rfl rfl rfl fn_ca_9 (lfind_ok ub uc l huc (by omega) (.slice none 0 0) rfl 0 (sumA l) m.a) (by first | exact (Sn.own .h3 rfl).rw_ | exact (Sn.own .h4 rfl).rw_) (K_keepT (Weak.refl _) ?_))
        rw [hfx]
        refine T_keep rfl rfl (W_alloc rfl rfl rfl ty_ze_39 fun b13 => (K_keepT (Weak.drop (Weak.refl _)) ?_))
        refine T_new rfl rfl (W_storeAll rfl rfl rfl rfl ty_ag_39 (rfl) (Rec.one x) .h0 (rfl) (K_newT ?_))
        refine T_nil ?_
        refine Q_then ?_
        refine R_seq ?_
        refine R_seq ?_
        refine R_open [(0, 0), (1, 0), (2, 0), (3, 0), (4, 0), (5, 0), (6, 0), (7, 1), (8, 0), (9, 0), (10, 0), (11, 0), (12, 0), (13, 1), (14, 0), (15, 0), (16, 0), (17, 0), (18, 0), (19, 0), (20, 0), (21, 1), (22, 0), (23, 0), (24, 0), (25, 0), (26, 1), (27, 0), (28, 0), (29, 0), (30, 0), (31, 1), (32, 0), (33, 0), (34, 0), (35, 0), (36, 1), (37, 0), (38, 0), (39, 0), (40, 1), (41, 0), (42, 0), (43, 0), (44, 0), (45, 1), (46, 0), (47, 0), (48, 0), (49, 0), (50, 1), (51, 0), (52, 1), (53, 0), (54, 0), (55, 0), (56, 0), (57, 1), (58, 0), (59, 0)] mixed (by kernel_rfl) (QOk.then (QOk.then (QOk.block (QOk.then (QOk.then (QOk.block (QOk.then QOk.body))))))) ?_
        refine O_pure rfl rfl rfl rfl (P_move rfl rfl) ?_
        refine O_pure rfl rfl rfl rfl (P_gtr rfl rfl rfl) ?_
        refine E_bool (t := 54) rfl (fun q => ?_) (fun q => ?_)
        · skip
          have q : 0 < i := by have := of_decide_eq_true q; omega
          obtain ⟨m', hm'⟩ : ∃ m', R[i - 1]? = some m' := ⟨_, List.getElem?_eq_getElem (by omega)⟩
          have hup := hR.next q hm0 hm'
          refine O_pure rfl rfl rfl rfl (P_move rfl rfl) ?_
          refine O_pure rfl rfl rfl rfl (P_move rfl rfl) ?_
          refine O_pure rfl rfl rfl rfl (P_move rfl rfl) ?_
          refine O_pure rfl rfl rfl rfl (P_ixs (i) rfl ty_sl_33 rfl rfl (by first | rfl | omega) (by omega)) ?_
          refine O_pure rfl rfl rfl rfl (P_fld rfl ty_fl_37_0 rfl) ?_
          refine O_val rfl rfl rfl rfl (V_load rfl rfl ty_sc_35 (rd_rc (rds_own .h2) hm0 rfl)) ?_
          refine O_pure rfl rfl rfl rfl (P_move rfl rfl) ?_
          refine O_pure rfl rfl rfl rfl (P_move rfl rfl) ?_
          first | (refine O_pure rfl rfl rfl rfl (P_subN rfl rfl rfl (by simp only [fits]; omega)) ?_) | (refine O_pure rfl rfl rfl rfl (P_sub rfl rfl rfl) ?_)
          refine O_pure rfl rfl rfl rfl (P_ixs (i - 1) rfl ty_sl_33 rfl rfl (by first | rfl | omega) (by omega)) ?_
          refine O_pure rfl rfl rfl rfl (P_fld rfl ty_fl_37_0 rfl) ?_
          refine O_val rfl rfl rfl rfl (V_load rfl rfl ty_sc_35 (rd_rc (rds_own .h2) hm' rfl)) ?_
          refine O_pure rfl rfl rfl rfl (P_leq rfl rfl rfl) ?_
          refine E_false (t := 67) rfl (decide_eq_false (by omega)) ?_
          refine O_pure rfl rfl rfl rfl (P_pick rfl rfl rfl) ?_
          refine O_pure rfl rfl rfl rfl (P_move rfl rfl) ?_
          refine O_pure rfl rfl rfl rfl (P_move rfl rfl) ?_
          refine O_pure rfl rfl rfl rfl (P_move rfl rfl) ?_
          refine O_pure rfl rfl rfl rfl (P_ixs (i) rfl ty_sl_33 rfl rfl (by first | rfl | omega) (by omega)) ?_
          refine O_pure rfl rfl rfl rfl (P_fld rfl ty_fl_37_2 rfl) ?_
          refine O_val rfl rfl rfl rfl (V_load rfl rfl ty_sc_2 (rd_rc (rds_own .h2) hm0 rfl)) ?_
          refine O_pure rfl rfl rfl rfl (P_neq rfl rfl rfl) ?_
          refine E_false (t := 75) rfl (decide_eq_false (fun h9 => h9 hmq)) ?_
          refine O_pure rfl rfl rfl rfl (P_pick rfl rfl rfl) ?_
          refine O_pure rfl rfl rfl rfl (P_move rfl rfl) ?_
          refine O_pure rfl rfl rfl rfl (P_fld0 rfl ty_fl_39_0 rfl) ?_
          refine O_val rfl rfl rfl rfl (V_load rfl rfl ty_sc_35 (Rd.blk .h0 rfl)) ?_
          refine O_pure rfl rfl rfl rfl (P_move rfl rfl) ?_
          refine O_pure rfl rfl rfl rfl (P_move rfl rfl) ?_
          refine O_pure rfl rfl rfl rfl (P_ixs (i) rfl ty_sl_33 rfl rfl (by first | rfl | omega) (by omega)) ?_
          refine O_pure rfl rfl rfl rfl (P_fld rfl ty_fl_37_0 rfl) ?_
          refine O_val rfl rfl rfl rfl (V_load rfl rfl ty_sc_35 (rd_rc (rds_own .h2) hm0 rfl)) ?_
          refine O_pure rfl rfl rfl rfl (P_neq rfl rfl rfl) ?_
          refine E_false (t := 85) rfl (decide_eq_false (fun h9 => h9 hma)) ?_
          refine O_pure rfl rfl rfl rfl (P_pick rfl rfl rfl) ?_
          refine O_pure rfl rfl rfl rfl (P_move rfl rfl) ?_
          refine O_pure rfl rfl rfl rfl (P_fld0 rfl ty_fl_39_4 rfl) ?_
          refine O_val rfl rfl rfl rfl (V_load rfl rfl ty_sc_4 (Rd.blk .h0 rfl)) ?_
          refine E_false (t := 89) rfl (hjl) ?_
          refine O_pure rfl rfl rfl rfl (P_pick rfl rfl rfl) ?_
          refine O_pure rfl rfl rfl rfl (P_move rfl rfl) ?_
          refine O_pure rfl rfl rfl rfl (P_fld0 rfl ty_fl_39_2 rfl) ?_
          refine O_val rfl rfl rfl rfl (V_load rfl rfl ty_sc_23 (Rd.blk .h0 rfl)) ?_
          refine O_pure rfl rfl rfl rfl (P_move rfl rfl) ?_
          refine O_pure rfl rfl rfl rfl (P_move rfl rfl) ?_
          refine O_pure rfl rfl rfl rfl (P_ixs (i) rfl ty_sl_33 rfl rfl (by first | rfl | omega) (by omega)) ?_
          refine O_pure rfl rfl rfl rfl (P_fld rfl ty_fl_37_1 rfl) ?_
          refine O_val rfl rfl rfl rfl (V_load rfl rfl ty_sc_23 (rd_rc (rds_own .h2) hm0 rfl)) ?_
          refine O_pure rfl rfl rfl rfl (P_neq rfl rfl rfl) ?_
          refine E_false (t := 99) rfl (decide_eq_false (fun h9 => h9 hmp)) ?_
          refine O_pure rfl rfl rfl rfl (P_pick rfl rfl rfl) ?_
          refine O_pure rfl rfl rfl rfl (P_move rfl rfl) ?_
          refine O_pure rfl rfl rfl rfl (P_fld0 rfl ty_fl_39_2 rfl) ?_
          refine O_val rfl rfl rfl rfl (V_load rfl rfl ty_sc_23 (Rd.blk .h0 rfl)) ?_
          refine O_pure rfl rfl rfl rfl (P_fld0 rfl ty_fl_25_0 rfl) ?_
          refine O_val rfl rfl rfl rfl (V_load rfl rfl ty_sc_23 (Rd.blk .h5 rfl)) ?_
          refine O_pure rfl rfl rfl rfl (P_lss rfl rfl rfl) ?_
          refine E_false (t := 106) rfl (decide_eq_false (by omega)) ?_
          refine O_pure rfl rfl rfl rfl (P_pick rfl rfl rfl) ?_
          refine O_pure rfl rfl rfl rfl (P_move rfl rfl) ?_
          refine O_pure rfl rfl rfl rfl (P_fld0 rfl ty_fl_39_2 rfl) ?_
          refine O_val rfl rfl rfl rfl (V_load rfl rfl ty_sc_23 (Rd.blk .h0 rfl)) ?_
          refine O_pure rfl rfl rfl rfl (P_eql rfl rfl rfl) ?_
          refine E_false (t := 111) rfl (decide_eq_false (by omega)) ?_
          refine O_pure rfl rfl rfl rfl (P_pick rfl rfl rfl) ?_
          refine O_nil ?_
          refine Q_then ?_
          refine R_condF rfl ?_
          refine R_skip ?_
          refine Q_then ?_
          refine R_seq ?_
          refine R_open [(0, 0), (1, 0), (2, 0), (3, 0), (4, 0), (5, 0), (6, 0), (7, 1), (8, 0), (9, 1), (10, 0), (11, 0)] mixed (by kernel_rfl) (QOk.then (QOk.block (QOk.then (QOk.then (QOk.block (QOk.then QOk.body)))))) ?_
          refine O_pure rfl rfl rfl rfl (P_move rfl rfl) ?_
          refine O_pure rfl rfl rfl rfl (P_eql rfl rfl rfl) ?_
          refine E_bool (t := 114) rfl (fun w => ?_) (fun w => ?_)
          · skip
            refine O_pure rfl rfl rfl rfl (P_move rfl rfl) ?_
            refine O_no rfl rfl rfl rfl ?_
            refine O_no rfl rfl rfl rfl ?_
            refine O_no rfl rfl rfl rfl ?_
            refine O_no rfl rfl rfl rfl ?_
            refine O_noX rfl rfl rfl rfl ?_
            refine O_no rfl rfl rfl rfl ?_
            refine O_noX rfl rfl rfl rfl ?_
            refine O_no rfl rfl rfl rfl ?_
            refine O_pure rfl rfl rfl rfl (P_pick rfl rfl rfl) ?_
            refine O_nil ?_
            refine Q_then ?_
            refine R_condT rfl ?_
            refine R_region ?_
            refine L_val rfl rfl rfl (OpP.v (P_move rfl rfl)) ?_
            refine L_val rfl rfl rfl (OpP.v (P_move rfl rfl)) ?_
            refine L_val rfl rfl rfl (OpP.v (P_ixs (i) rfl ty_sl_33 rfl rfl (by first | rfl | omega) (by omega))) ?_
            refine L_val rfl rfl rfl (V_loadAgg rfl rfl ty_ag_37 (rds_rc (rds_own .h2) hm0) (rfl)) ?_
            refine L_op rfl (W_storeAll rfl rfl rfl rfl ty_ag_37 (rfl) (Mem.cells_one _) .h1 (rfl) ?_)
            refine L_nil ?_
            refine Q_block ?_
            refine Q_then ?_
            refine R_region ?_
            refine L_val rfl rfl rfl (OpP.v (P_move rfl rfl)) ?_
            first | (refine L_val rfl rfl rfl (OpP.v (P_addN rfl rfl rfl (by simp only [fits]; omega))) ?_) | (refine L_val rfl rfl rfl (OpP.v (P_add rfl rfl rfl)) ?_)
            refine L_val rfl rfl rfl (OpP.v (P_assign rfl rfl)) ?_
            refine L_nil ?_
            exact Q_round (i + 1, m) (by show (i + 1) ≤ R.length ∧ (0 < (i + 1) → (m) ∈ R); exact ⟨by omega, fun _ => hmem⟩) (by show R.length - (i + 1) < R.length - i; omega) (by repeat (first | exact .nil | refine .cons rfl ?_ | refine .consE rfl (by first | rfl | (congr 1; omega) | (congr 1; push_cast; omega)) ?_)) (Weak.drop (Weak.refl _))
          · skip
            have w := of_decide_eq_false w
            refine O_pure rfl rfl rfl rfl (P_move rfl rfl) ?_
            refine O_pure rfl rfl rfl rfl (P_move rfl rfl) ?_
            refine O_pure rfl rfl rfl rfl (P_move rfl rfl) ?_
            refine O_pure rfl rfl rfl rfl (P_ixs (i) rfl ty_sl_33 rfl rfl (by first | rfl | omega) (by omega)) ?_
            refine O_pure rfl rfl rfl rfl (P_fld rfl ty_fl_37_1 rfl) ?_
            refine O_val rfl rfl rfl rfl (V_load rfl rfl ty_sc_23 (rd_rc (rds_own .h2) hm0 rfl)) ?_
            refine O_pure rfl rfl rfl rfl (P_fld0 rfl ty_fl_37_1 rfl) ?_
            refine O_val rfl rfl rfl rfl (V_load rfl rfl ty_sc_23 (Rd.blk .h1 rfl)) ?_
            refine O_pure rfl rfl rfl rfl (P_leq rfl rfl rfl) ?_
            refine O_pure rfl rfl rfl rfl (P_pick rfl rfl rfl) ?_
            refine O_nil ?_
            refine Q_then ?_
            refine R_condP rfl (fun w2 => ?_) (fun w2 => ?_)
            · skip
              refine R_region ?_
              refine L_val rfl rfl rfl (OpP.v (P_move rfl rfl)) ?_
              refine L_val rfl rfl rfl (OpP.v (P_move rfl rfl)) ?_
              refine L_val rfl rfl rfl (OpP.v (P_ixs (i) rfl ty_sl_33 rfl rfl (by first | rfl | omega) (by omega))) ?_
              refine L_val rfl rfl rfl (V_loadAgg rfl rfl ty_ag_37 (rds_rc (rds_own .h2) hm0) (rfl)) ?_
              refine L_op rfl (W_storeAll rfl rfl rfl rfl ty_ag_37 (rfl) (Mem.cells_one _) .h1 (rfl) ?_)
              refine L_nil ?_
              refine Q_block ?_
              refine Q_then ?_
              refine R_region ?_
              refine L_val rfl rfl rfl (OpP.v (P_move rfl rfl)) ?_
              first | (refine L_val rfl rfl rfl (OpP.v (P_addN rfl rfl rfl (by simp only [fits]; omega))) ?_) | (refine L_val rfl rfl rfl (OpP.v (P_add rfl rfl rfl)) ?_)
              refine L_val rfl rfl rfl (OpP.v (P_assign rfl rfl)) ?_
              refine L_nil ?_
              exact Q_round (i + 1, m) (by show (i + 1) ≤ R.length ∧ (0 < (i + 1) → (m) ∈ R); exact ⟨by omega, fun _ => hmem⟩) (by show R.length - (i + 1) < R.length - i; omega) (by repeat (first | exact .nil | refine .cons rfl ?_ | refine .consE rfl (by first | rfl | (congr 1; omega) | (congr 1; push_cast; omega)) ?_)) (Weak.drop (Weak.refl _))
            · skip
              refine R_skip ?_
              refine Q_block ?_
              refine Q_then ?_
              refine R_region ?_
              refine L_val rfl rfl rfl (OpP.v (P_move rfl rfl)) ?_
              first | (refine L_val rfl rfl rfl (OpP.v (P_addN rfl rfl rfl (by simp only [fits]; omega))) ?_) | (refine L_val rfl rfl rfl (OpP.v (P_add rfl rfl rfl)) ?_)
              refine L_val rfl rfl rfl (OpP.v (P_assign rfl rfl)) ?_
              refine L_nil ?_
              exact Q_round (i + 1, lst) (by show (i + 1) ≤ R.length ∧ (0 < (i + 1) → (lst) ∈ R); exact ⟨by omega, fun _ => hl0 (by omega)⟩) (by show R.length - (i + 1) < R.length - i; omega) (by repeat (first | exact .nil | refine .cons rfl ?_ | refine .consE rfl (by first | rfl | (congr 1; omega) | (congr 1; push_cast; omega)) ?_)) (Weak.drop (Weak.refl _))
        · skip
          refine O_pure rfl rfl rfl rfl (P_move rfl rfl) ?_
          refine O_no rfl rfl rfl rfl ?_
          refine O_no rfl rfl rfl rfl ?_
          refine O_no rfl rfl rfl rfl ?_
          refine O_no rfl rfl rfl rfl ?_
          refine O_noX rfl rfl rfl rfl ?_
          refine O_no rfl rfl rfl rfl ?_
          refine O_no rfl rfl rfl rfl ?_
          refine O_no rfl rfl rfl rfl ?_
          refine O_no rfl rfl rfl rfl ?_
          refine O_no rfl rfl rfl rfl ?_
          refine O_noX rfl rfl rfl rfl ?_
          refine O_no rfl rfl rfl rfl ?_
          refine O_pure rfl rfl rfl rfl (P_pick rfl rfl rfl) ?_
          refine O_pure rfl rfl rfl rfl (P_move rfl rfl) ?_
          refine O_pure rfl rfl rfl rfl (P_move rfl rfl) ?_
          refine O_pure rfl rfl rfl rfl (P_move rfl rfl) ?_
          refine O_pure rfl rfl rfl rfl (P_ixs (i) rfl ty_sl_33 rfl rfl (by first | rfl | omega) (by omega)) ?_
          refine O_pure rfl rfl rfl rfl (P_fld rfl ty_fl_37_2 rfl) ?_
          refine O_val rfl rfl rfl rfl (V_load rfl rfl ty_sc_2 (rd_rc (rds_own .h2) hm0 rfl)) ?_
          refine O_pure rfl rfl rfl rfl (P_neq rfl rfl rfl) ?_
          refine E_false (t := 75) rfl (decide_eq_false (fun h9 => h9 hmq)) ?_
          refine O_pure rfl rfl rfl rfl (P_pick rfl rfl rfl) ?_
          refine O_pure rfl rfl rfl rfl (P_move rfl rfl) ?_
          refine O_pure rfl rfl rfl rfl (P_fld0 rfl ty_fl_39_0 rfl) ?_
          refine O_val rfl rfl rfl rfl (V_load rfl rfl ty_sc_35 (Rd.blk .h0 rfl)) ?_
          refine O_pure rfl rfl rfl rfl (P_move rfl rfl) ?_
          refine O_pure rfl rfl rfl rfl (P_move rfl rfl) ?_
          refine O_pure rfl rfl rfl rfl (P_ixs (i) rfl ty_sl_33 rfl rfl (by first | rfl | omega) (by omega)) ?_
          refine O_pure rfl rfl rfl rfl (P_fld rfl ty_fl_37_0 rfl) ?_
          refine O_val rfl rfl rfl rfl (V_load rfl rfl ty_sc_35 (rd_rc (rds_own .h2) hm0 rfl)) ?_
          refine O_pure rfl rfl rfl rfl (P_neq rfl rfl rfl) ?_
          refine E_false (t := 85) rfl (decide_eq_false (fun h9 => h9 hma)) ?_
          refine O_pure rfl rfl rfl rfl (P_pick rfl rfl rfl) ?_
          refine O_pure rfl rfl rfl rfl (P_move rfl rfl) ?_
          refine O_pure rfl rfl rfl rfl (P_fld0 rfl ty_fl_39_4 rfl) ?_
          refine O_val rfl rfl rfl rfl (V_load rfl rfl ty_sc_4 (Rd.blk .h0 rfl)) ?_
          refine E_false (t := 89) rfl (hjl) ?_
          refine O_pure rfl rfl rfl rfl (P_pick rfl rfl rfl) ?_
          refine O_pure rfl rfl rfl rfl (P_move rfl rfl) ?_
          refine O_pure rfl rfl rfl rfl (P_fld0 rfl ty_fl_39_2 rfl) ?_
          refine O_val rfl rfl rfl rfl (V_load rfl rfl ty_sc_23 (Rd.blk .h0 rfl)) ?_
          refine O_pure rfl rfl rfl rfl (P_move rfl rfl) ?_
          refine O_pure rfl rfl rfl rfl (P_move rfl rfl) ?_
          refine O_pure rfl rfl rfl rfl (P_ixs (i) rfl ty_sl_33 rfl rfl (by first | rfl | omega) (by omega)) ?_
          refine O_pure rfl rfl rfl rfl (P_fld rfl ty_fl_37_1 rfl) ?_
          refine O_val rfl rfl rfl rfl (V_load rfl rfl ty_sc_23 (rd_rc (rds_own .h2) hm0 rfl)) ?_
          refine O_pure rfl rfl rfl rfl (P_neq rfl rfl rfl) ?_
          refine E_false (t := 99) rfl (decide_eq_false (fun h9 => h9 hmp)) ?_
          refine O_pure rfl rfl rfl rfl (P_pick rfl rfl rfl) ?_
          refine O_pure rfl rfl rfl rfl (P_move rfl rfl) ?_
          refine O_pure rfl rfl rfl rfl (P_fld0 rfl ty_fl_39_2 rfl) ?_
          refine O_val rfl rfl rfl rfl (V_load rfl rfl ty_sc_23 (Rd.blk .h0 rfl)) ?_
          refine O_pure rfl rfl rfl rfl (P_fld0 rfl ty_fl_25_0 rfl) ?_
          refine O_val rfl rfl rfl rfl (V_load rfl rfl ty_sc_23 (Rd.blk .h5 rfl)) ?_
          refine O_pure rfl rfl rfl rfl (P_lss rfl rfl rfl) ?_
          refine E_false (t := 106) rfl (decide_eq_false (by omega)) ?_
          refine O_pure rfl rfl rfl rfl (P_pick rfl rfl rfl) ?_
          refine O_pure rfl rfl rfl rfl (P_move rfl rfl) ?_
          refine O_pure rfl rfl rfl rfl (P_fld0 rfl ty_fl_39_2 rfl) ?_
          refine O_val rfl rfl rfl rfl (V_load rfl rfl ty_sc_23 (Rd.blk .h0 rfl)) ?_
          refine O_pure rfl rfl rfl rfl (P_eql rfl rfl rfl) ?_
          refine E_false (t := 111) rfl (decide_eq_false (by omega)) ?_
          refine O_pure rfl rfl rfl rfl (P_pick rfl rfl rfl) ?_
          refine O_nil ?_
          refine Q_then ?_
          refine R_condF rfl ?_
          refine R_skip ?_
          refine Q_then ?_
          refine R_seq ?_
          refine R_open [(0, 0), (1, 0), (2, 0), (3, 0), (4, 0), (5, 0), (6, 0), (7, 1), (8, 0), (9, 1), (10, 0), (11, 0)] mixed (by kernel_rfl) (QOk.then (QOk.block (QOk.then (QOk.then (QOk.block (QOk.then QOk.body)))))) ?_
          refine O_pure rfl rfl rfl rfl (P_move rfl rfl) ?_
          refine O_pure rfl rfl rfl rfl (P_eql rfl rfl rfl) ?_
          refine E_bool (t := 114) rfl (fun w => ?_) (fun w => ?_)
          · skip
            refine O_pure rfl rfl rfl rfl (P_move rfl rfl) ?_
            refine O_no rfl rfl rfl rfl ?_
            refine O_no rfl rfl rfl rfl ?_
            refine O_no rfl rfl rfl rfl ?_
            refine O_no rfl rfl rfl rfl ?_
            refine O_noX rfl rfl rfl rfl ?_
            refine O_no rfl rfl rfl rfl ?_
            refine O_noX rfl rfl rfl rfl ?_
            refine O_no rfl rfl rfl rfl ?_
            refine O_pure rfl rfl rfl rfl (P_pick rfl rfl rfl) ?_
            refine O_nil ?_
            refine Q_then ?_
            refine R_condT rfl ?_
            refine R_region ?_
            refine L_val rfl rfl rfl (OpP.v (P_move rfl rfl)) ?_
            refine L_val rfl rfl rfl (OpP.v (P_move rfl rfl)) ?_
            refine L_val rfl rfl rfl (OpP.v (P_ixs (i) rfl ty_sl_33 rfl rfl (by first | rfl | omega) (by omega))) ?_
            refine L_val rfl rfl rfl (V_loadAgg rfl rfl ty_ag_37 (rds_rc (rds_own .h2) hm0) (rfl)) ?_
            refine L_op rfl (W_storeAll rfl rfl rfl rfl ty_ag_37 (rfl) (Mem.cells_one _) .h1 (rfl) ?_)
            refine L_nil ?_
            refine Q_block ?_
            refine Q_then ?_
            refine R_region ?_
            refine L_val rfl rfl rfl (OpP.v (P_move rfl rfl)) ?_
            first | (refine L_val rfl rfl rfl (OpP.v (P_addN rfl rfl rfl (by simp only [fits]; omega))) ?_) | (refine L_val rfl rfl rfl (OpP.v (P_add rfl rfl rfl)) ?_)
            refine L_val rfl rfl rfl (OpP.v (P_assign rfl rfl)) ?_
            refine L_nil ?_
            exact Q_round (i + 1, m) (by show (i + 1) ≤ R.length ∧ (0 < (i + 1) → (m) ∈ R); exact ⟨by omega, fun _ => hmem⟩) (by show R.length - (i + 1) < R.length - i; omega) (by repeat (first | exact .nil | refine .cons rfl ?_ | refine .consE rfl (by first | rfl | (congr 1; omega) | (congr 1; push_cast; omega)) ?_)) (Weak.drop (Weak.refl _))
          · skip
            have w := of_decide_eq_false w
            refine O_pure rfl rfl rfl rfl (P_move rfl rfl) ?_
            refine O_pure rfl rfl rfl rfl (P_move rfl rfl) ?_
            refine O_pure rfl rfl rfl rfl (P_move rfl rfl) ?_
            refine O_pure rfl rfl rfl rfl (P_ixs (i) rfl ty_sl_33 rfl rfl (by first | rfl | omega) (by omega)) ?_
            refine O_pure rfl rfl rfl rfl (P_fld rfl ty_fl_37_1 rfl) ?_
            refine O_val rfl rfl rfl rfl (V_load rfl rfl ty_sc_23 (rd_rc (rds_own .h2) hm0 rfl)) ?_
            refine O_pure rfl rfl rfl rfl (P_fld0 rfl ty_fl_37_1 rfl) ?_
            refine O_val rfl rfl rfl rfl (V_load rfl rfl ty_sc_23 (Rd.blk .h1 rfl)) ?_
            refine O_pure rfl rfl rfl rfl (P_leq rfl rfl rfl) ?_
            refine O_pure rfl rfl rfl rfl (P_pick rfl rfl rfl) ?_
            refine O_nil ?_
            refine Q_then ?_
            refine R_condP rfl (fun w2 => ?_) (fun w2 => ?_)
            · skip
              refine R_region ?_
              refine L_val rfl rfl rfl (OpP.v (P_move rfl rfl)) ?_
              refine L_val rfl rfl rfl (OpP.v (P_move rfl rfl)) ?_
              refine L_val rfl rfl rfl (OpP.v (P_ixs (i) rfl ty_sl_33 rfl rfl (by first | rfl | omega) (by omega))) ?_
              refine L_val rfl rfl rfl (V_loadAgg rfl rfl ty_ag_37 (rds_rc (rds_own .h2) hm0) (rfl)) ?_
              refine L_op rfl (W_storeAll rfl rfl rfl rfl ty_ag_37 (rfl) (Mem.cells_one _) .h1 (rfl) ?_)
              refine L_nil ?_
              refine Q_block ?_
              refine Q_then ?_
              refine R_region ?_
              refine L_val rfl rfl rfl (OpP.v (P_move rfl rfl)) ?_
              first | (refine L_val rfl rfl rfl (OpP.v (P_addN rfl rfl rfl (by simp only [fits]; omega))) ?_) | (refine L_val rfl rfl rfl (OpP.v (P_add rfl rfl rfl)) ?_)
              refine L_val rfl rfl rfl (OpP.v (P_assign rfl rfl)) ?_
              refine L_nil ?_
              exact Q_round (i + 1, m) (by show (i + 1) ≤ R.length ∧ (0 < (i + 1) → (m) ∈ R); exact ⟨by omega, fun _ => hmem⟩) (by show R.length - (i + 1) < R.length - i; omega) (by repeat (first | exact .nil | refine .cons rfl ?_ | refine .consE rfl (by first | rfl | (congr 1; omega) | (congr 1; push_cast; omega)) ?_)) (Weak.drop (Weak.refl _))
            · skip
              refine R_skip ?_
              refine Q_block ?_
              refine Q_then ?_
              refine R_region ?_
              refine L_val rfl rfl rfl (OpP.v (P_move rfl rfl)) ?_
              first | (refine L_val rfl rfl rfl (OpP.v (P_addN rfl rfl rfl (by simp only [fits]; omega))) ?_) | (refine L_val rfl rfl rfl (OpP.v (P_add rfl rfl rfl)) ?_)
              refine L_val rfl rfl rfl (OpP.v (P_assign rfl rfl)) ?_
              refine L_nil ?_
              exact Q_round (i + 1, lst) (by show (i + 1) ≤ R.length ∧ (0 < (i + 1) → (lst) ∈ R); exact ⟨by omega, fun _ => hl0 (by omega)⟩) (by show R.length - (i + 1) < R.length - i; omega) (by repeat (first | exact .nil | refine .cons rfl ?_ | refine .consE rfl (by first | rfl | (congr 1; omega) | (congr 1; push_cast; omega)) ?_)) (Weak.drop (Weak.refl _))
      · skip
        refine T_keep rfl rfl (W_alloc rfl rfl rfl ty_ze_39 fun b13 => (K_keepT (Weak.drop (Weak.refl _)) ?_))
        refine T_keep rfl rfl (W_callV rfl rfl rfl rfl fn_ca_9 (lfind_ok ub uc l huc (by omega) (.slice none 0 0) rfl 0 (sumA l) m.a) (by first | exact (Sn.own .h3 rfl).rw_ | exact (Sn.own .h4 rfl).rw_) (K_keepT (Weak.refl _) ?_))
        rw [hfx]
        refine T_new rfl rfl (W_storeAll rfl rfl rfl rfl ty_ag_39 (rfl) (Rec.one x) .h0 (rfl) (K_newT ?_))
        refine T_nil ?_
        refine Q_then ?_
        refine R_seq ?_
        refine R_seq ?_
        refine R_open [(0, 0), (1, 0), (2, 0), (3, 0), (4, 0), (5, 0), (6, 0), (7, 1), (8, 0), (9, 0), (10, 0), (11, 0), (12, 0), (13, 1), (14, 0), (15, 0), (16, 0), (17, 0), (18, 0), (19, 0), (20, 0), (21, 1), (22, 0), (23, 0), (24, 0), (25, 0), (26, 1), (27, 0), (28, 0), (29, 0), (30, 0), (31, 1), (32, 0), (33, 0), (34, 0), (35, 0), (36, 1), (37, 0), (38, 0), (39, 0), (40, 1), (41, 0), (42, 0), (43, 0), (44, 0), (45, 1), (46, 0), (47, 0), (48, 0), (49, 0), (50, 1), (51, 0), (52, 1), (53, 0), (54, 0), (55, 0), (56, 0), (57, 1), (58, 0), (59, 0)] mixed (by kernel_rfl) (QOk.then (QOk.then (QOk.block (QOk.then (QOk.then (QOk.block (QOk.then QOk.body))))))) ?_
        refine O_pure rfl rfl rfl rfl (P_move rfl rfl) ?_
        refine O_pure rfl rfl rfl rfl (P_gtr rfl rfl rfl) ?_
        refine E_bool (t := 54) rfl (fun q => ?_) (fun q => ?_)
        · skip
          have q : 0 < i := by have := of_decide_eq_true q; omega
          obtain ⟨m', hm'⟩ : ∃ m', R[i - 1]? = some m' := ⟨_, List.getElem?_eq_getElem (by omega)⟩
          have hup := hR.next q hm0 hm'
          refine O_pure rfl rfl rfl rfl (P_move rfl rfl) ?_
          refine O_pure rfl rfl rfl rfl (P_move rfl rfl) ?_
          refine O_pure rfl rfl rfl rfl (P_move rfl rfl) ?_
          refine O_pure rfl rfl rfl rfl (P_ixs (i) rfl ty_sl_33 rfl rfl (by first | rfl | omega) (by omega)) ?_
          refine O_pure rfl rfl rfl rfl (P_fld rfl ty_fl_37_0 rfl) ?_
          refine O_val rfl rfl rfl rfl (V_load rfl rfl ty_sc_35 (rd_rc (rds_own .h2) hm0 rfl)) ?_
          refine O_pure rfl rfl rfl rfl (P_move rfl rfl) ?_
          refine O_pure rfl rfl rfl rfl (P_move rfl rfl) ?_
          first | (refine O_pure rfl rfl rfl rfl (P_subN rfl rfl rfl (by simp only [fits]; omega)) ?_) | (refine O_pure rfl rfl rfl rfl (P_sub rfl rfl rfl) ?_)
          refine O_pure rfl rfl rfl rfl (P_ixs (i - 1) rfl ty_sl_33 rfl rfl (by first | rfl | omega) (by omega)) ?_
          refine O_pure rfl rfl rfl rfl (P_fld rfl ty_fl_37_0 rfl) ?_
          refine O_val rfl rfl rfl rfl (V_load rfl rfl ty_sc_35 (rd_rc (rds_own .h2) hm' rfl)) ?_
          refine O_pure rfl rfl rfl rfl (P_leq rfl rfl rfl) ?_
          refine E_false (t := 67) rfl (decide_eq_false (by omega)) ?_
          refine O_pure rfl rfl rfl rfl (P_pick rfl rfl rfl) ?_
          refine O_pure rfl rfl rfl rfl (P_move rfl rfl) ?_
          refine O_pure rfl rfl rfl rfl (P_move rfl rfl) ?_
          refine O_pure rfl rfl rfl rfl (P_move rfl rfl) ?_
          refine O_pure rfl rfl rfl rfl (P_ixs (i) rfl ty_sl_33 rfl rfl (by first | rfl | omega) (by omega)) ?_
          refine O_pure rfl rfl rfl rfl (P_fld rfl ty_fl_37_2 rfl) ?_
          refine O_val rfl rfl rfl rfl (V_load rfl rfl ty_sc_2 (rd_rc (rds_own .h2) hm0 rfl)) ?_
          refine O_pure rfl rfl rfl rfl (P_neq rfl rfl rfl) ?_
          refine E_false (t := 75) rfl (decide_eq_false (fun h9 => h9 hmq)) ?_
          refine O_pure rfl rfl rfl rfl (P_pick rfl rfl rfl) ?_
          refine O_pure rfl rfl rfl rfl (P_move rfl rfl) ?_
          refine O_pure rfl rfl rfl rfl (P_fld0 rfl ty_fl_39_0 rfl) ?_
          refine O_val rfl rfl rfl rfl (V_load rfl rfl ty_sc_35 (Rd.blk .h0 rfl)) ?_
          refine O_pure rfl rfl rfl rfl (P_move rfl rfl) ?_
          refine O_pure rfl rfl rfl rfl (P_move rfl rfl) ?_
          refine O_pure rfl rfl rfl rfl (P_ixs (i) rfl ty_sl_33 rfl rfl (by first | rfl | omega) (by omega)) ?_
          refine O_pure rfl rfl rfl rfl (P_fld rfl ty_fl_37_0 rfl) ?_
          refine O_val rfl rfl rfl rfl (V_load rfl rfl ty_sc_35 (rd_rc (rds_own .h2) hm0 rfl)) ?_
          refine O_pure rfl rfl rfl rfl (P_neq rfl rfl rfl) ?_
          refine E_false (t := 85) rfl (decide_eq_false (fun h9 => h9 hma)) ?_
          refine O_pure rfl rfl rfl rfl (P_pick rfl rfl rfl) ?_
          refine O_pure rfl rfl rfl rfl (P_move rfl rfl) ?_
          refine O_pure rfl rfl rfl rfl (P_fld0 rfl ty_fl_39_4 rfl) ?_
          refine O_val rfl rfl rfl rfl (V_load rfl rfl ty_sc_4 (Rd.blk .h0 rfl)) ?_
          refine E_false (t := 89) rfl (hjl) ?_
          refine O_pure rfl rfl rfl rfl (P_pick rfl rfl rfl) ?_
          refine O_pure rfl rfl rfl rfl (P_move rfl rfl) ?_
          refine O_pure rfl rfl rfl rfl (P_fld0 rfl ty_fl_39_2 rfl) ?_
          refine O_val rfl rfl rfl rfl (V_load rfl rfl ty_sc_23 (Rd.blk .h0 rfl)) ?_
          refine O_pure rfl rfl rfl rfl (P_move rfl rfl) ?_
          refine O_pure rfl rfl rfl rfl (P_move rfl rfl) ?_
          refine O_pure rfl rfl rfl rfl (P_ixs (i) rfl ty_sl_33 rfl rfl (by first | rfl | omega) (by omega)) ?_
          refine O_pure rfl rfl rfl rfl (P_fld rfl ty_fl_37_1 rfl) ?_
          refine O_val rfl rfl rfl rfl (V_load rfl rfl ty_sc_23 (rd_rc (rds_own .h2) hm0 rfl)) ?_
          refine O_pure rfl rfl rfl rfl (P_neq rfl rfl rfl) ?_
          refine E_false (t := 99) rfl (decide_eq_false (fun h9 => h9 hmp)) ?_
          refine O_pure rfl rfl rfl rfl (P_pick rfl rfl rfl) ?_
          refine O_pure rfl rfl rfl rfl (P_move rfl rfl) ?_
          refine O_pure rfl rfl rfl rfl (P_fld0 rfl ty_fl_39_2 rfl) ?_
          refine O_val rfl rfl rfl rfl (V_load rfl rfl ty_sc_23 (Rd.blk .h0 rfl)) ?_
          refine O_pure rfl rfl rfl rfl (P_fld0 rfl ty_fl_25_0 rfl) ?_
          refine O_val rfl rfl rfl rfl (V_load rfl rfl ty_sc_23 (Rd.blk .h5 rfl)) ?_
          refine O_pure rfl rfl rfl rfl (P_lss rfl rfl rfl) ?_
          refine E_false (t := 106) rfl (decide_eq_false (by omega)) ?_
          refine O_pure rfl rfl rfl rfl (P_pick rfl rfl rfl) ?_
          refine O_pure rfl rfl rfl rfl (P_move rfl rfl) ?_
          refine O_pure rfl rfl rfl rfl (P_fld0 rfl ty_fl_39_2 rfl) ?_
          refine O_val rfl rfl rfl rfl (V_load rfl rfl ty_sc_23 (Rd.blk .h0 rfl)) ?_
          refine O_pure rfl rfl rfl rfl (P_eql rfl rfl rfl) ?_
          refine E_false (t := 111) rfl (decide_eq_false (by omega)) ?_
          refine O_pure rfl rfl rfl rfl (P_pick rfl rfl rfl) ?_
          refine O_nil ?_
          refine Q_then ?_
          refine R_condF rfl ?_
          refine R_skip ?_
          refine Q_then ?_
          refine R_seq ?_
          refine R_open [(0, 0), (1, 0), (2, 0), (3, 0), (4, 0), (5, 0), (6, 0), (7, 1), (8, 0), (9, 1), (10, 0), (11, 0)] mixed (by kernel_rfl) (QOk.then (QOk.block (QOk.then (QOk.then (QOk.block (QOk.then QOk.body)))))) ?_
          refine O_pure rfl rfl rfl rfl (P_move rfl rfl) ?_
          refine O_pure rfl rfl rfl rfl (P_eql rfl rfl rfl) ?_
          refine E_bool (t := 114) rfl (fun w => ?_) (fun w => ?_)
          · skip
            refine O_pure rfl rfl rfl rfl (P_move rfl rfl) ?_
            refine O_no rfl rfl rfl rfl ?_
            refine O_no rfl rfl rfl rfl ?_
            refine O_no rfl rfl rfl rfl ?_
            refine O_no rfl rfl rfl rfl ?_
            refine O_noX rfl rfl rfl rfl ?_
            refine O_no rfl rfl rfl rfl ?_
            refine O_noX rfl rfl rfl rfl ?_
            refine O_no rfl rfl rfl rfl ?_
            refine O_pure rfl rfl rfl rfl (P_pick rfl rfl rfl) ?_
            refine O_nil ?_
            refine Q_then ?_
            refine R_condT rfl ?_
            refine R_region ?_
            refine L_val rfl rfl rfl (OpP.v (P_move rfl rfl)) ?_
            refine L_val rfl rfl rfl (OpP.v (P_move rfl rfl)) ?_
            refine L_val rfl rfl rfl (OpP.v (P_ixs (i) rfl ty_sl_33 rfl rfl (by first | rfl | omega) (by omega))) ?_
            refine L_val rfl rfl rfl (V_loadAgg rfl rfl ty_ag_37 (rds_rc (rds_own .h2) hm0) (rfl)) ?_
            refine L_op rfl (W_storeAll rfl rfl rfl rfl ty_ag_37 (rfl) (Mem.cells_one _) .h1 (rfl) ?_)
            refine L_nil ?_
            refine Q_block ?_
            refine Q_then ?_
            refine R_region ?_
            refine L_val rfl rfl rfl (OpP.v (P_move rfl rfl)) ?_
            first | (refine L_val rfl rfl rfl (OpP.v (P_addN rfl rfl rfl (by simp only [fits]; omega))) ?_) | (refine L_val rfl rfl rfl (OpP.v (P_add rfl rfl rfl)) ?_)
            refine L_val rfl rfl rfl (OpP.v (P_assign rfl rfl)) ?_
            refine L_nil ?_
            exact Q_round (i + 1, m) (by show (i + 1) ≤ R.length ∧ (0 < (i + 1) → (m) ∈ R); exact ⟨by omega, fun _ => hmem⟩) (by show R.length - (i + 1) < R.length - i; omega) (by repeat (first | exact .nil | refine .cons rfl ?_ | refine .consE rfl (by first | rfl | (congr 1; omega) | (congr 1; push_cast; omega)) ?_)) (Weak.drop (Weak.refl _))
          · skip
            have w := of_decide_eq_false w
            refine O_pure rfl rfl rfl rfl (P_move rfl rfl) ?_
            refine O_pure rfl rfl rfl rfl (P_move rfl rfl) ?_
            refine O_pure rfl rfl rfl rfl (P_move rfl rfl) ?_
            refine O_pure rfl rfl rfl rfl (P_ixs (i) rfl ty_sl_33 rfl rfl (by first | rfl | omega) (by omega)) ?_
            refine O_pure rfl rfl rfl rfl (P_fld rfl ty_fl_37_1 rfl) ?_
            refine O_val rfl rfl rfl rfl (V_load rfl rfl ty_sc_23 (rd_rc (rds_own .h2) hm0 rfl)) ?_
            refine O_pure rfl rfl rfl rfl (P_fld0 rfl ty_fl_37_1 rfl) ?_
            refine O_val rfl rfl rfl rfl (V_load rfl rfl ty_sc_23 (Rd.blk .h1 rfl)) ?_
            refine O_pure rfl rfl rfl rfl (P_leq rfl rfl rfl) ?_
            refine O_pure rfl rfl rfl rfl (P_pick rfl rfl rfl) ?_
            refine O_nil ?_
            refine Q_then ?_
            refine R_condP rfl (fun w2 => ?_) (fun w2 => ?_)
            · skip
              refine R_region ?_
              refine L_val rfl rfl rfl (OpP.v (P_move rfl rfl)) ?_
              refine L_val rfl rfl rfl (OpP.v (P_move rfl rfl)) ?_
              refine L_val rfl rfl rfl (OpP.v (P_ixs (i) rfl ty_sl_33 rfl rfl (by first | rfl | omega) (by omega))) ?_
              refine L_val rfl rfl rfl (V_loadAgg rfl rfl ty_ag_37 (rds_rc (rds_own .h2) hm0) (rfl)) ?_
              refine L_op rfl (W_storeAll rfl rfl rfl rfl ty_ag_37 (rfl) (Mem.cells_one _) .h1 (rfl) ?_)
              refine L_nil ?_
              refine Q_block ?_
              refine Q_then ?_
              refine R_region ?_
              refine L_val rfl rfl rfl (OpP.v (P_move rfl rfl)) ?_
              first | (refine L_val rfl rfl rfl (OpP.v (P_addN rfl rfl rfl (by simp only [fits]; omega))) ?_) | (refine L_val rfl rfl rfl (OpP.v (P_add rfl rfl rfl)) ?_)
              refine L_val rfl rfl rfl (OpP.v (P_assign rfl rfl)) ?_
              refine L_nil ?_
              exact Q_round (i + 1, m) (by show (i + 1) ≤ R.length ∧ (0 < (i + 1) → (m) ∈ R); exact ⟨by omega, fun _ => hmem⟩) (by show R.length - (i + 1) < R.length - i; omega) (by repeat (first | exact .nil | refine .cons rfl ?_ | refine .consE rfl (by first | rfl | (congr 1; omega) | (congr 1; push_cast; omega)) ?_)) (Weak.drop (Weak.refl _))
            · skip
              refine R_skip ?_
              refine Q_block ?_
              refine Q_then ?_
              refine R_region ?_
              refine L_val rfl rfl rfl (OpP.v (P_move rfl rfl)) ?_
              first | (refine L_val rfl rfl rfl (OpP.v (P_addN rfl rfl rfl (by simp only [fits]; omega))) ?_) | (refine L_val rfl rfl rfl (OpP.v (P_add rfl rfl rfl)) ?_)
              refine L_val rfl rfl rfl (OpP.v (P_assign rfl rfl)) ?_
              refine L_nil ?_
              exact Q_round (i + 1, lst) (by show (i + 1) ≤ R.length ∧ (0 < (i + 1) → (lst) ∈ R); exact ⟨by omega, fun _ => hl0 (by omega)⟩) (by show R.length - (i + 1) < R.length - i; omega) (by repeat (first | exact .nil | refine .cons rfl ?_ | refine .consE rfl (by first | rfl | (congr 1; omega) | (congr 1; push_cast; omega)) ?_)) (Weak.drop (Weak.refl _))
        · skip
          refine O_pure rfl rfl rfl rfl (P_move rfl rfl) ?_
          refine O_no rfl rfl rfl rfl ?_
          refine O_no rfl rfl rfl rfl ?_
          refine O_no rfl rfl rfl rfl ?_
          refine O_no rfl rfl rfl rfl ?_
          refine O_noX rfl rfl rfl rfl ?_
          refine O_no rfl rfl rfl rfl ?_
          refine O_no rfl rfl rfl rfl ?_
          refine O_no rfl rfl rfl rfl ?_
          refine O_no rfl rfl rfl rfl ?_
          refine O_no rfl rfl rfl rfl ?_
          refine O_noX rfl rfl rfl rfl ?_
          refine O_no rfl rfl rfl rfl ?_
          refine O_pure rfl rfl rfl rfl (P_pick rfl rfl rfl) ?_
          refine O_pure rfl rfl rfl rfl (P_move rfl rfl) ?_
          refine O_pure rfl rfl rfl rfl (P_move rfl rfl) ?_
          refine O_pure rfl rfl rfl rfl (P_move rfl rfl) ?_
          refine O_pure rfl rfl rfl rfl (P_ixs (i) rfl ty_sl_33 rfl rfl (by first | rfl | omega) (by omega)) ?_
          refine O_pure rfl rfl rfl rfl (P_fld rfl ty_fl_37_2 rfl) ?_
          refine O_val rfl rfl rfl rfl (V_load rfl rfl ty_sc_2 (rd_rc (rds_own .h2) hm0 rfl)) ?_
          refine O_pure rfl rfl rfl rfl (P_neq rfl rfl rfl) ?_
          refine E_false (t := 75) rfl (decide_eq_false (fun h9 => h9 hmq)) ?_
          refine O_pure rfl rfl rfl rfl (P_pick rfl rfl rfl) ?_
          refine O_pure rfl rfl rfl rfl (P_move rfl rfl) ?_
          refine O_pure rfl rfl rfl rfl (P_fld0 rfl ty_fl_39_0 rfl) ?_
          refine O_val rfl rfl rfl rfl (V_load rfl rfl ty_sc_35 (Rd.blk .h0 rfl)) ?_
          refine O_pure rfl rfl rfl rfl (P_move rfl rfl) ?_
          refine O_pure rfl rfl rfl rfl (P_move rfl rfl) ?_
          refine O_pure rfl rfl rfl rfl (P_ixs (i) rfl ty_sl_33 rfl rfl (by first | rfl | omega) (by omega)) ?_
          refine O_pure rfl rfl rfl rfl (P_fld rfl ty_fl_37_0 rfl) ?_
          refine O_val rfl rfl rfl rfl (V_load rfl rfl ty_sc_35 (rd_rc (rds_own .h2) hm0 rfl)) ?_
          refine O_pure rfl rfl rfl rfl (P_neq rfl rfl rfl) ?_
          refine E_false (t := 85) rfl (decide_eq_false (fun h9 => h9 hma)) ?_
          refine O_pure rfl rfl rfl rfl (P_pick rfl rfl rfl) ?_
          refine O_pure rfl rfl rfl rfl (P_move rfl rfl) ?_
          refine O_pure rfl rfl rfl rfl (P_fld0 rfl ty_fl_39_4 rfl) ?_
          refine O_val rfl rfl rfl rfl (V_load rfl rfl ty_sc_4 (Rd.blk .h0 rfl)) ?_
          refine E_false (t := 89) rfl (hjl) ?_
          refine O_pure rfl rfl rfl rfl (P_pick rfl rfl rfl) ?_
          refine O_pure rfl rfl rfl rfl (P_move rfl rfl) ?_
          refine O_pure rfl rfl rfl rfl (P_fld0 rfl ty_fl_39_2 rfl) ?_
          refine O_val rfl rfl rfl rfl (V_load rfl rfl ty_sc_23 (Rd.blk .h0 rfl)) ?_
          refine O_pure rfl rfl rfl rfl (P_move rfl rfl) ?_
          refine O_pure rfl rfl rfl rfl (P_move rfl rfl) ?_
          refine O_pure rfl rfl rfl rfl (P_ixs (i) rfl ty_sl_33 rfl rfl (by first | rfl | omega) (by omega)) ?_
          refine O_pure rfl rfl rfl rfl (P_fld rfl ty_fl_37_1 rfl) ?_
          refine O_val rfl rfl rfl rfl (V_load rfl rfl ty_sc_23 (rd_rc (rds_own .h2) hm0 rfl)) ?_
          refine O_pure rfl rfl rfl rfl (P_neq rfl rfl rfl) ?_
          refine E_false (t := 99) rfl (decide_eq_false (fun h9 => h9 hmp)) ?_
          refine O_pure rfl rfl rfl rfl (P_pick rfl rfl rfl) ?_
          refine O_pure rfl rfl rfl rfl (P_move rfl rfl) ?_
          refine O_pure rfl rfl rfl rfl (P_fld0 rfl ty_fl_39_2 rfl) ?_
          refine O_val rfl rfl rfl rfl (V_load rfl rfl ty_sc_23 (Rd.blk .h0 rfl)) ?_
          refine O_pure rfl rfl rfl rfl (P_fld0 rfl ty_fl_25_0 rfl) ?_
          refine O_val rfl rfl rfl rfl (V_load rfl rfl ty_sc_23 (Rd.blk .h5 rfl)) ?_
          refine O_pure rfl rfl rfl rfl (P_lss rfl rfl rfl) ?_
          refine E_false (t := 106) rfl (decide_eq_false (by omega)) ?_
          refine O_pure rfl rfl rfl rfl (P_pick rfl rfl rfl) ?_
          refine O_pure rfl rfl rfl rfl (P_move rfl rfl) ?_
          refine O_pure rfl rfl rfl rfl (P_fld0 rfl ty_fl_39_2 rfl) ?_
          refine O_val rfl rfl rfl rfl (V_load rfl rfl ty_sc_23 (Rd.blk .h0 rfl)) ?_
          refine O_pure rfl rfl rfl rfl (P_eql rfl rfl rfl) ?_
          refine E_false (t := 111) rfl (decide_eq_false (by omega)) ?_
          refine O_pure rfl rfl rfl rfl (P_pick rfl rfl rfl) ?_
          refine O_nil ?_
          refine Q_then ?_
          refine R_condF rfl ?_
          refine R_skip ?_
          refine Q_then ?_
          refine R_seq ?_
          refine R_open [(0, 0), (1, 0), (2, 0), (3, 0), (4, 0), (5, 0), (6, 0), (7, 1), (8, 0), (9, 1), (10, 0), (11, 0)] mixed (by kernel_rfl) (QOk.then (QOk.block (QOk.then (QOk.then (QOk.block (QOk.then QOk.body)))))) ?_
          refine O_pure rfl rfl rfl rfl (P_move rfl rfl) ?_
          refine O_pure rfl rfl rfl rfl (P_eql rfl rfl rfl) ?_
          refine E_bool (t := 114) rfl (fun w => ?_) (fun w => ?_)
          · skip
            refine O_pure rfl rfl rfl rfl (P_move rfl rfl) ?_
            refine O_no rfl rfl rfl rfl ?_
            refine O_no rfl rfl rfl rfl ?_
            refine O_no rfl rfl rfl rfl ?_
            refine O_no rfl rfl rfl rfl ?_
            refine O_noX rfl rfl rfl rfl ?_
            refine O_no rfl rfl rfl rfl ?_
            refine O_noX rfl rfl rfl rfl ?_
            refine O_no rfl rfl rfl rfl ?_
            refine O_pure rfl rfl rfl rfl (P_pick rfl rfl rfl) ?_
            refine O_nil ?_
            refine Q_then ?_
            refine R_condT rfl ?_
            refine R_region ?_
            refine L_val rfl rfl rfl (OpP.v (P_move rfl rfl)) ?_
            refine L_val rfl rfl rfl (OpP.v (P_move rfl rfl)) ?_
            refine L_val rfl rfl rfl (OpP.v (P_ixs (i) rfl ty_sl_33 rfl rfl (by first | rfl | omega) (by omega))) ?_
            refine L_val rfl rfl rfl (V_loadAgg rfl rfl ty_ag_37 (rds_rc (rds_own .h2) hm0) (rfl)) ?_
            refine L_op rfl (W_storeAll rfl rfl rfl rfl ty_ag_37 (rfl) (Mem.cells_one _) .h1 (rfl) ?_)
            refine L_nil ?_
            refine Q_block ?_
            refine Q_then ?_
            refine R_region ?_
            refine L_val rfl rfl rfl (OpP.v (P_move rfl rfl)) ?_
            first | (refine L_val rfl rfl rfl (OpP.v (P_addN rfl rfl rfl (by simp only [fits]; omega))) ?_) | (refine L_val rfl rfl rfl (OpP.v (P_add rfl rfl rfl)) ?_)
            refine L_val rfl rfl rfl (OpP.v (P_assign rfl rfl)) ?_
            refine L_nil ?_
            exact Q_round (i + 1, m) (by show (i + 1) ≤ R.length ∧ (0 < (i + 1) → (m) ∈ R); exact ⟨by omega, fun _ => hmem⟩) (by show R.length - (i + 1) < R.length - i; omega) (by repeat (first | exact .nil | refine .cons rfl ?_ | refine .consE rfl (by first | rfl | (congr 1; omega) | (congr 1; push_cast; omega)) ?_)) (Weak.drop (Weak.refl _))
          · skip
            have w := of_decide_eq_false w
            refine O_pure rfl rfl rfl rfl (P_move rfl rfl) ?_
            refine O_pure rfl rfl rfl rfl (P_move rfl rfl) ?_
            refine O_pure rfl rfl rfl rfl (P_move rfl rfl) ?_
            refine O_pure rfl rfl rfl rfl (P_ixs (i) rfl ty_sl_33 rfl rfl (by first | rfl | omega) (by omega)) ?_
            refine O_pure rfl rfl rfl rfl (P_fld rfl ty_fl_37_1 rfl) ?_
            refine O_val rfl rfl rfl rfl (V_load rfl rfl ty_sc_23 (rd_rc (rds_own .h2) hm0 rfl)) ?_
            refine O_pure rfl rfl rfl rfl (P_fld0 rfl ty_fl_37_1 rfl) ?_
            refine O_val rfl rfl rfl rfl (V_load rfl rfl ty_sc_23 (Rd.blk .h1 rfl)) ?_
            refine O_pure rfl rfl rfl rfl (P_leq rfl rfl rfl) ?_
            refine O_pure rfl rfl rfl rfl (P_pick rfl rfl rfl) ?_
            refine O_nil ?_
            refine Q_then ?_
            refine R_condP rfl (fun w2 => ?_) (fun w2 => ?_)
            · skip
              refine R_region ?_
              refine L_val rfl rfl rfl (OpP.v (P_move rfl rfl)) ?_
              refine L_val rfl rfl rfl (OpP.v (P_move rfl rfl)) ?_
              refine L_val rfl rfl rfl (OpP.v (P_ixs (i) rfl ty_sl_33 rfl rfl (by first | rfl | omega) (by omega))) ?_
              refine L_val rfl rfl rfl (V_loadAgg rfl rfl ty_ag_37 (rds_rc (rds_own .h2) hm0) (rfl)) ?_
              refine L_op rfl (W_storeAll rfl rfl rfl rfl ty_ag_37 (rfl) (Mem.cells_one _) .h1 (rfl) ?_)
              refine L_nil ?_
              refine Q_block ?_
              refine Q_then ?_
              refine R_region ?_
              refine L_val rfl rfl rfl (OpP.v (P_move rfl rfl)) ?_
              first | (refine L_val rfl rfl rfl (OpP.v (P_addN rfl rfl rfl (by simp only [fits]; omega))) ?_) | (refine L_val rfl rfl rfl (OpP.v (P_add rfl rfl rfl)) ?_)
              refine L_val rfl rfl rfl (OpP.v (P_assign rfl rfl)) ?_
              refine L_nil ?_
              exact Q_round (i + 1, m) (by show (i + 1) ≤ R.length ∧ (0 < (i + 1) → (m) ∈ R); exact ⟨by omega, fun _ => hmem⟩) (by show R.length - (i + 1) < R.length - i; omega) (by repeat (first | exact .nil | refine .cons rfl ?_ | refine .consE rfl (by first | rfl | (congr 1; omega) | (congr 1; push_cast; omega)) ?_)) (Weak.drop (Weak.refl _))
            · skip
              refine R_skip ?_
              refine Q_block ?_
              refine Q_then ?_
              refine R_region ?_
              refine L_val rfl rfl rfl (OpP.v (P_move rfl rfl)) ?_
              first | (refine L_val rfl rfl rfl (OpP.v (P_addN rfl rfl rfl (by simp only [fits]; omega))) ?_) | (refine L_val rfl rfl rfl (OpP.v (P_add rfl rfl rfl)) ?_)
              refine L_val rfl rfl rfl (OpP.v (P_assign rfl rfl)) ?_
              refine L_nil ?_
              exact Q_round (i + 1, lst) (by show (i + 1) ≤ R.length ∧ (0 < (i + 1) → (lst) ∈ R); exact ⟨by omega, fun _ => hl0 (by omega)⟩) (by show R.length - (i + 1) < R.length - i; omega) (by repeat (first | exact .nil | refine .cons rfl ?_ | refine .consE rfl (by first | rfl | (congr 1; omega) | (congr 1; push_cast; omega)) ?_)) (Weak.drop (Weak.refl _))
    · skip
      have hin : i = R.length := by omega
      refine R_exit ?_
      refine Q_then_exit ?_
      refine Q_then_exit ?_
      refine Q_block_eq ?_
      refine St.env (.cons (t := 3) rfl (.cons (t := 4) rfl (.cons (t := 6) rfl (.cons (t := 10) rfl (.cons (t := 11) rfl .nil))))) ?_
      refine Q_then ?_
      refine R_seq ?_
      refine R_seq ?_
      refine R_region ?_
      refine L_val rfl rfl rfl (OpP.v (P_move rfl rfl)) ?_
      refine L_val rfl rfl rfl (OpP.v (P_len rfl ty_sl_33 rfl)) ?_
      refine L_val rfl rfl rfl (OpP.v (P_gtr rfl rfl rfl)) ?_
      refine E_false (t := 131) rfl (decide_eq_false (by omega)) ?_
      refine L_val rfl rfl rfl (OpP.v (P_move rfl rfl)) ?_
      refine L_val rfl rfl rfl (OpP.v (P_move rfl rfl)) ?_
      refine L_val rfl rfl rfl (OpP.v (P_len rfl ty_sl_33 rfl)) ?_
      refine L_val rfl rfl rfl (OpP.v (P_gtr rfl rfl rfl)) ?_
      refine E_bool (t := 135) rfl (fun v => ?_) (fun v => ?_)
      · skip
        have v : 0 < R.length := by have := of_decide_eq_true v; omega
        have hfs2 := hfs v
        refine L_val rfl rfl rfl (OpP.v (P_move rfl rfl)) ?_
        refine L_val rfl rfl rfl (OpP.v (P_move rfl rfl)) ?_
        refine L_val rfl rfl rfl (OpP.v (P_len rfl ty_sl_33 rfl)) ?_
        refine L_val rfl rfl rfl (OpP.v (P_fld0 rfl ty_fl_25_1 rfl)) ?_
        refine L_val rfl rfl rfl (V_load rfl rfl ty_sc_3 (Rd.blk .h4 rfl)) ?_
        refine L_val rfl rfl rfl (OpP.v (P_gtr rfl rfl rfl)) ?_
        refine E_false (t := 141) rfl (decide_eq_false (by omega)) ?_
        refine L_val rfl rfl rfl (OpP.v (P_pick rfl rfl rfl)) ?_
        refine L_val rfl rfl rfl (OpP.v (P_pick rfl rfl rfl)) ?_
        refine L_nil ?_
        refine St.env (.cons (t := 3) rfl (.cons (t := 4) rfl (.cons (t := 6) rfl (.cons (t := 10) rfl (.cons (t := 11) rfl (.cons (t := 143) rfl .nil)))))) ?_
        refine Q_then ?_
        refine R_condF rfl ?_
        refine R_skip ?_
        refine Q_then ?_
        refine R_seq ?_
        refine R_seq ?_
        refine R_region ?_
        refine L_val rfl rfl rfl (OpP.v (P_assign rfl rfl)) ?_
        refine L_nil ?_
        refine St.env (.cons (t := 3) rfl (.cons (t := 4) rfl (.cons (t := 6) rfl (.cons (t := 10) rfl (.cons (t := 11) rfl (.cons (t := 14) rfl .nil)))))) ?_
        refine Q_then ?_
        refine R_block ?_
        refine R_loopE (G := Nat) (.cons (t := 3) rfl (.cons (t := 4) rfl (.cons (t := 6) rfl (.cons (t := 10) rfl (.cons (t := 11) rfl .nil))))) (fun g => [(14, .int .i64 (g : Int))]) (fun _ => _) (fun g => g ≤ l.length) (fun g => l.length - g) (0) (Nat.zero_le _) (by repeat (first | exact .nil | refine .cons rfl ?_ | refine .consE rfl (by first | rfl | (congr 1; omega) | (congr 1; push_cast; omega)) ?_)) (Weak.refl _) ?_
        intro n hinv
        replace hinv : n ≤ l.length := hinv
        show St (cx gl) _ ((14, .int .i64 (n : Int)) :: _) _ _
        refine R_seq ?_
        refine R_seq ?_
        refine R_region ?_
        refine L_val rfl rfl rfl (OpP.v (P_move rfl rfl)) ?_
        refine L_val rfl rfl rfl (OpP.v (P_fld0 rfl ty_fl_29_0 rfl)) ?_
        refine L_val rfl rfl rfl (V_load rfl rfl ty_sc_22 (Rd.blk .h2 rfl)) ?_
        refine L_val rfl rfl rfl (OpP.v (P_len rfl ty_sl_22 rfl)) ?_
        refine L_val rfl rfl rfl (OpP.v (P_lss rfl rfl rfl)) ?_
        refine L_nil ?_
        refine Q_then ?_
        refine R_condP rfl (fun hlt2 => ?_) (fun hlt2 => ?_)
        · skip
          have hn0 : n ≤ l.length := hinv
          have hx0 := accAt_get (l := l) (i := n) (by omega)
          obtain ⟨x, ex⟩ : ∃ x, x = accAt l n := ⟨_, rfl⟩
          have hx : l[n]? = some x := by rw [ex]; exact hx0
          refine St.ownSome (p := [_, _, _]) (by omega) fun up uc' huv' huc' => ?_
          obtain rfl : ub = some ⟨up, 0, none⟩ := by simp only [Value.slice.injEq] at huv'; exact huv'.1
          refine R_skip ?_
          refine Q_then ?_
          refine R_seq ?_
          refine R_block ?_
          refine R_seq ?_
          refine R_region ?_
          refine L_val rfl rfl rfl (OpP.v (P_fld0 rfl ty_fl_29_0 rfl)) ?_
          refine L_val rfl rfl rfl (V_load rfl rfl ty_sc_22 (Rd.blk .h2 rfl)) ?_
          refine L_val rfl rfl rfl (OpP.v (P_move rfl rfl)) ?_
          refine L_val rfl rfl rfl (OpP.v (P_ixs (n) rfl ty_sl_22 rfl rfl (by first | rfl | omega) (by omega))) ?_
          refine L_val rfl rfl rfl (V_loadAgg rfl rfl ty_ag_39 (rds_rc (rds_own .h3) hx) (rfl)) ?_
          refine L_op rfl (W_alloc rfl rfl rfl ty_ze_39 fun b15 => ?_)
          refine L_op rfl (W_storeAll rfl rfl rfl rfl ty_ag_39 (rfl) (Rec.one x) .h0 (rfl) ?_)
          refine L_nil ?_
          refine Q_then ?_
          refine R_seq ?_
          refine R_region ?_
          refine L_val rfl rfl rfl (OpP.v (P_assign rfl rfl)) ?_
          refine L_nil ?_
          refine Q_then ?_
          refine R_seq ?_
          refine R_seq ?_
          refine R_region ?_
          refine L_val rfl rfl rfl (OpP.v (P_assign rfl rfl)) ?_
          refine L_nil ?_
          refine Q_then ?_
          refine R_block ?_
          refine R_loopE (G := Nat × Bool) (.cons (t := 3) rfl (.cons (t := 4) rfl (.cons (t := 6) rfl (.cons (t := 10) rfl (.cons (t := 11) rfl (.cons (t := 14) rfl (.cons (t := 15) rfl (.cons (t := 144) rfl (.cons (t := 145) rfl (.cons (t := 146) rfl (.cons (t := 147) rfl (.cons (t := 148) rfl (.cons (t := 151) rfl (.cons (t := 152) rfl (.cons (t := 153) rfl (.cons (t := 154) rfl (.cons (t := 155) rfl .nil))))))))))))))))) (fun g => [(16, .bool g.2), (17, .int .i64 (g.1 : Int))]) (fun _ => _) (fun g => g.1 ≤ R.length ∧ g.2 = (R.take g.1).any (sameA x)) (fun g => R.length - g.1) (0, false) (by show (0) ≤ R.length ∧ (false) = (R.take (0)).any (sameA x); exact ⟨Nat.zero_le _, rfl⟩) (by repeat (first | exact .nil | refine .cons rfl ?_ | refine .consE rfl (by first | rfl | (congr 1; omega) | (congr 1; push_cast; omega)) ?_)) (Weak.refl _) ?_
          rintro ⟨j, s⟩ hinv
          replace hinv : j ≤ R.length ∧ s = (R.take j).any (sameA x) := hinv
          show St (cx gl) _ ((16, .bool s) :: (17, .int .i64 (j : Int)) :: _) _ _
          obtain ⟨hj, hs0⟩ := hinv
          refine R_seq ?_
          refine R_seq ?_
          refine R_region ?_
          refine L_val rfl rfl rfl (OpP.v (P_move rfl rfl)) ?_
          refine L_val rfl rfl rfl (OpP.v (P_move rfl rfl)) ?_
          refine L_val rfl rfl rfl (OpP.v (P_len rfl ty_sl_33 rfl)) ?_
          refine L_val rfl rfl rfl (OpP.v (P_lss rfl rfl rfl)) ?_
          refine L_nil ?_
          refine Q_then ?_
          refine R_condP rfl (fun hlt3 => ?_) (fun hlt3 => ?_)
          · skip
            have hjl2 : j < R.length := by omega
            obtain ⟨mj, hmj⟩ : ∃ m, R[j]? = some m := ⟨_, List.getElem?_eq_getElem hjl2⟩
            refine St.ownSome (p := [_, _]) (by omega) fun sp sc' hsv hsc' => ?_
            obtain rfl : sb = some ⟨sp, 0, none⟩ := by simp only [Value.slice.injEq] at hsv; exact hsv.1
            refine R_skip ?_
            refine Q_then ?_
            refine R_seq ?_
            refine R_block ?_
            refine R_open [(0, 0), (1, 0), (2, 0), (3, 0), (4, 0), (5, 0), (6, 1), (7, 0), (8, 1), (9, 0), (10, 0), (11, 0)] mixed (by kernel_rfl) (QOk.block (QOk.then (QOk.then (QOk.block (QOk.then (QOk.block (QOk.then (QOk.then (QOk.block (QOk.then QOk.body)))))))))) ?_
            refine O_pure rfl rfl rfl rfl (P_move rfl rfl) ?_
            refine O_pure rfl rfl rfl rfl (P_move rfl rfl) ?_
            refine E_bool (t := 163) rfl (fun hs => ?_) (fun hs => ?_)
            · skip
              refine O_no rfl rfl rfl rfl ?_
              refine O_no rfl rfl rfl rfl ?_
              refine O_no rfl rfl rfl rfl ?_
              refine O_no rfl rfl rfl rfl ?_
              refine O_noX rfl rfl rfl rfl ?_
              refine O_no rfl rfl rfl rfl ?_
              refine O_noX rfl rfl rfl rfl ?_
              refine O_no rfl rfl rfl rfl ?_
              refine O_pure rfl rfl rfl rfl (P_pick rfl rfl rfl) ?_
              refine O_pure rfl rfl rfl rfl (P_assign rfl rfl) ?_
              refine O_nil ?_
              refine Q_block ?_
              refine Q_then ?_
              refine R_region ?_
              refine L_val rfl rfl rfl (OpP.v (P_move rfl rfl)) ?_
              first | (refine L_val rfl rfl rfl (OpP.v (P_addN rfl rfl rfl (by simp only [fits]; omega))) ?_) | (refine L_val rfl rfl rfl (OpP.v (P_add rfl rfl rfl)) ?_)
              refine L_val rfl rfl rfl (OpP.v (P_assign rfl rfl)) ?_
              refine L_nil ?_
              exact Q_round (j + 1, true) (by show (j + 1) ≤ R.length ∧ (true) = (R.take (j + 1)).any (sameA x); exact ⟨by omega, by rw [any_next hmj, ← hs0, hs]; rfl⟩) (by show R.length - (j + 1) < R.length - j; omega) (by repeat (first | exact .nil | refine .cons rfl ?_ | refine .consE rfl (by first | rfl | (congr 1; omega) | (congr 1; push_cast; omega)) ?_)) (Weak.refl _)
            · skip
              refine O_pure rfl rfl rfl rfl (P_move rfl rfl) ?_
              refine O_pure rfl rfl rfl rfl (P_move rfl rfl) ?_
              refine O_pure rfl rfl rfl rfl (P_ixs (j) rfl ty_sl_33 rfl rfl (by first | rfl | omega) (by omega)) ?_
              refine O_pure rfl rfl rfl rfl (P_fld rfl ty_fl_37_0 rfl) ?_
              refine O_val rfl rfl rfl rfl (V_load rfl rfl ty_sc_35 (rd_rc (rds_own .h2) hmj rfl)) ?_
              refine O_pure rfl rfl rfl rfl (P_fld0 rfl ty_fl_39_0 rfl) ?_
              refine O_val rfl rfl rfl rfl (V_load rfl rfl ty_sc_35 (Rd.blk .h0 rfl)) ?_
              refine O_pure rfl rfl rfl rfl (P_eql rfl rfl rfl) ?_
              refine O_pure rfl rfl rfl rfl (P_pick rfl rfl rfl) ?_
              refine O_pure rfl rfl rfl rfl (P_assign rfl rfl) ?_
              refine O_nil ?_
              refine Q_block ?_
              refine Q_then ?_
              refine R_region ?_
              refine L_val rfl rfl rfl (OpP.v (P_move rfl rfl)) ?_
              first | (refine L_val rfl rfl rfl (OpP.v (P_addN rfl rfl rfl (by simp only [fits]; omega))) ?_) | (refine L_val rfl rfl rfl (OpP.v (P_add rfl rfl rfl)) ?_)
              refine L_val rfl rfl rfl (OpP.v (P_assign rfl rfl)) ?_
              refine L_nil ?_
              exact Q_round (j + 1, decide (mj.a = x.a)) (by show (j + 1) ≤ R.length ∧ (decide (mj.a = x.a)) = (R.take (j + 1)).any (sameA x); exact ⟨by omega, by rw [any_next hmj, ← hs0, hs]; rfl⟩) (by show R.length - (j + 1) < R.length - j; omega) (by repeat (first | exact .nil | refine .cons rfl ?_ | refine .consE rfl (by first | rfl | (congr 1; omega) | (congr 1; push_cast; omega)) ?_)) (Weak.refl _)
          · skip
            have hjn : j = R.length := by omega
            rw [hjn, List.take_length] at hs0
            refine R_exit ?_
            refine Q_then_exit ?_
            refine Q_then_exit ?_
            refine Q_block_eq ?_
            refine Q_then ?_
            refine R_seq ?_
            refine R_seq ?_
            refine R_region ?_
            refine L_val rfl rfl rfl (OpP.v (P_move rfl rfl)) ?_
            refine L_val rfl rfl rfl (OpP.v (P_move rfl rfl)) ?_
            refine E_bool (t := 174) rfl (fun hs => ?_) (fun hs => ?_)
            · skip
              refine L_no rfl rfl rfl ?_
              refine L_no rfl rfl rfl ?_
              refine L_val rfl rfl rfl (OpP.v (P_pick rfl rfl rfl)) ?_
              refine L_val rfl rfl rfl (OpP.v (P_move rfl rfl)) ?_
              refine L_no rfl rfl rfl ?_
              refine L_no rfl rfl rfl ?_
              refine L_no rfl rfl rfl ?_
              refine L_no rfl rfl rfl ?_
              refine L_no rfl rfl rfl ?_
              refine L_val rfl rfl rfl (OpP.v (P_pick rfl rfl rfl)) ?_
              refine L_val rfl rfl rfl (OpP.v (P_move rfl rfl)) ?_
              refine L_no rfl rfl rfl ?_
              refine L_no rfl rfl rfl ?_
              refine L_no rfl rfl rfl ?_
              refine L_val rfl rfl rfl (OpP.v (P_pick rfl rfl rfl)) ?_
              refine L_nil ?_
              refine Q_then ?_
              refine R_condT rfl ?_
              refine R_exit ?_
              refine Q_then_exit ?_
              refine Q_block_eq ?_
              refine Q_then ?_
              refine R_region ?_
              refine L_val rfl rfl rfl (OpP.v (P_move rfl rfl)) ?_
              first | (refine L_val rfl rfl rfl (OpP.v (P_addN rfl rfl rfl (by simp only [fits]; omega))) ?_) | (refine L_val rfl rfl rfl (OpP.v (P_add rfl rfl rfl)) ?_)
              refine L_val rfl rfl rfl (OpP.v (P_assign rfl rfl)) ?_
              refine L_nil ?_
              exact Q_round (n + 1) (by show n + 1 ≤ l.length; omega) (by show l.length - (n + 1) < l.length - n; omega) (by repeat (first | exact .nil | refine .cons rfl ?_ | refine .consE rfl (by first | rfl | (congr 1; omega) | (congr 1; push_cast; omega)) ?_)) (Weak.drop (Weak.refl _))
            · skip
              refine L_val rfl rfl rfl (OpP.v (P_fld0 rfl ty_fl_39_4 rfl)) ?_
              refine L_val rfl rfl rfl (V_load rfl rfl ty_sc_4 (Rd.blk .h0 rfl)) ?_
              refine E_bool (t := 176) rfl (fun k1 => ?_) (fun k1 => ?_)
              · skip
                refine L_val rfl rfl rfl (OpP.v (P_pick rfl rfl rfl)) ?_
                refine L_val rfl rfl rfl (OpP.v (P_move rfl rfl)) ?_
                refine L_no rfl rfl rfl ?_
                refine L_no rfl rfl rfl ?_
                refine L_no rfl rfl rfl ?_
                refine L_no rfl rfl rfl ?_
                refine L_no rfl rfl rfl ?_
                refine L_val rfl rfl rfl (OpP.v (P_pick rfl rfl rfl)) ?_
                refine L_val rfl rfl rfl (OpP.v (P_move rfl rfl)) ?_
                refine L_no rfl rfl rfl ?_
                refine L_no rfl rfl rfl ?_
                refine L_no rfl rfl rfl ?_
                refine L_val rfl rfl rfl (OpP.v (P_pick rfl rfl rfl)) ?_
                refine L_nil ?_
                refine Q_then ?_
                refine R_condT rfl ?_
                refine R_exit ?_
                refine Q_then_exit ?_
                refine Q_block_eq ?_
                refine Q_then ?_
                refine R_region ?_
                refine L_val rfl rfl rfl (OpP.v (P_move rfl rfl)) ?_
                first | (refine L_val rfl rfl rfl (OpP.v (P_addN rfl rfl rfl (by simp only [fits]; omega))) ?_) | (refine L_val rfl rfl rfl (OpP.v (P_add rfl rfl rfl)) ?_)
                refine L_val rfl rfl rfl (OpP.v (P_assign rfl rfl)) ?_
                refine L_nil ?_
                exact Q_round (n + 1) (by show n + 1 ≤ l.length; omega) (by show l.length - (n + 1) < l.length - n; omega) (by repeat (first | exact .nil | refine .cons rfl ?_ | refine .consE rfl (by first | rfl | (congr 1; omega) | (congr 1; push_cast; omega)) ?_)) (Weak.drop (Weak.refl _))
              · skip
                refine L_val rfl rfl rfl (OpP.v (P_pick rfl rfl rfl)) ?_
                refine L_val rfl rfl rfl (OpP.v (P_move rfl rfl)) ?_
                refine L_val rfl rfl rfl (OpP.v (P_fld0 rfl ty_fl_39_2 rfl)) ?_
                refine L_val rfl rfl rfl (V_load rfl rfl ty_sc_23 (Rd.blk .h0 rfl)) ?_
                refine L_val rfl rfl rfl (OpP.v (P_fld0 rfl ty_fl_25_0 rfl)) ?_
                refine L_val rfl rfl rfl (V_load rfl rfl ty_sc_23 (Rd.blk .h5 rfl)) ?_
                refine L_val rfl rfl rfl (OpP.v (P_lss rfl rfl rfl)) ?_
                refine E_bool (t := 183) rfl (fun k2 => ?_) (fun k2 => ?_)
                · skip
                  refine L_val rfl rfl rfl (OpP.v (P_pick rfl rfl rfl)) ?_
                  refine L_val rfl rfl rfl (OpP.v (P_move rfl rfl)) ?_
                  refine L_no rfl rfl rfl ?_
                  refine L_no rfl rfl rfl ?_
                  refine L_no rfl rfl rfl ?_
                  refine L_val rfl rfl rfl (OpP.v (P_pick rfl rfl rfl)) ?_
                  refine L_nil ?_
                  refine Q_then ?_
                  refine R_condT rfl ?_
                  refine R_exit ?_
                  refine Q_then_exit ?_
                  refine Q_block_eq ?_
                  refine Q_then ?_
                  refine R_region ?_
                  refine L_val rfl rfl rfl (OpP.v (P_move rfl rfl)) ?_
                  first | (refine L_val rfl rfl rfl (OpP.v (P_addN rfl rfl rfl (by simp only [fits]; omega))) ?_) | (refine L_val rfl rfl rfl (OpP.v (P_add rfl rfl rfl)) ?_)
                  refine L_val rfl rfl rfl (OpP.v (P_assign rfl rfl)) ?_
                  refine L_nil ?_
                  exact Q_round (n + 1) (by show n + 1 ≤ l.length; omega) (by show l.length - (n + 1) < l.length - n; omega) (by repeat (first | exact .nil | refine .cons rfl ?_ | refine .consE rfl (by first | rfl | (congr 1; omega) | (congr 1; push_cast; omega)) ?_)) (Weak.drop (Weak.refl _))
                · skip
                  have k2 := of_decide_eq_false k2
                  refine L_val rfl rfl rfl (OpP.v (P_pick rfl rfl rfl)) ?_
                  refine L_val rfl rfl rfl (OpP.v (P_move rfl rfl)) ?_
                  refine L_val rfl rfl rfl (OpP.v (P_fld0 rfl ty_fl_39_2 rfl)) ?_
                  refine L_val rfl rfl rfl (V_load rfl rfl ty_sc_23 (Rd.blk .h0 rfl)) ?_
                  refine L_val rfl rfl rfl (OpP.v (P_eql rfl rfl rfl)) ?_
                  refine L_val rfl rfl rfl (OpP.v (P_pick rfl rfl rfl)) ?_
                  refine L_nil ?_
                  refine Q_then ?_
                  refine R_condP rfl (fun k3 => ?_) (fun k3 => ?_)
                  · skip
                    refine R_exit ?_
                    refine Q_then_exit ?_
                    refine Q_block_eq ?_
                    refine Q_then ?_
                    refine R_region ?_
                    refine L_val rfl rfl rfl (OpP.v (P_move rfl rfl)) ?_
                    first | (refine L_val rfl rfl rfl (OpP.v (P_addN rfl rfl rfl (by simp only [fits]; omega))) ?_) | (refine L_val rfl rfl rfl (OpP.v (P_add rfl rfl rfl)) ?_)
                    refine L_val rfl rfl rfl (OpP.v (P_assign rfl rfl)) ?_
                    refine L_nil ?_
                    exact Q_round (n + 1) (by show n + 1 ≤ l.length; omega) (by show l.length - (n + 1) < l.length - n; omega) (by repeat (first | exact .nil | refine .cons rfl ?_ | refine .consE rfl (by first | rfl | (congr 1; omega) | (congr 1; push_cast; omega)) ?_)) (Weak.drop (Weak.refl _))
                  · skip
                    have hxm := List.mem_of_getElem? hx
                    obtain ⟨⟨_, _⟩, _, ⟨hbd0, _⟩, _⟩ := hok x hxm
                    have hsx : sits p.mb x = true := sits_iff.2 ⟨k1, by omega, by omega⟩
                    have hcm := cand_mem hxm hsx
                    have hnR := any_no (hs0.symm.trans hs)
                    have hful := hR.full hcm hnR
                    refine R_skip ?_
                    refine Q_then ?_
                    refine R_seq ?_
                    refine R_seq ?_
                    refine R_region ?_
                    refine L_val rfl rfl rfl (OpP.v (P_move rfl rfl)) ?_
                    refine L_val rfl rfl rfl (OpP.v (P_len rfl ty_sl_33 rfl)) ?_
                    refine L_val rfl rfl rfl (OpP.v (P_lss rfl rfl rfl)) ?_
                    refine E_bool (t := 192) rfl (fun c0 => ?_) (fun c0 => ?_)
                    · skip
                      have c0 := of_decide_eq_true c0
                      refine L_val rfl rfl rfl (OpP.v (P_move rfl rfl)) ?_
                      refine L_val rfl rfl rfl (OpP.v (P_move rfl rfl)) ?_
                      refine L_val rfl rfl rfl (OpP.v (P_len rfl ty_sl_33 rfl)) ?_
                      refine L_val rfl rfl rfl (OpP.v (P_fld0 rfl ty_fl_25_1 rfl)) ?_
                      refine L_val rfl rfl rfl (V_load rfl rfl ty_sc_3 (Rd.blk .h5 rfl)) ?_
                      refine L_val rfl rfl rfl (OpP.v (P_lss rfl rfl rfl)) ?_
                      refine L_val rfl rfl rfl (OpP.v (P_pick rfl rfl rfl)) ?_
                      refine L_nil ?_
                      refine Q_then ?_
                      refine R_condP rfl (fun c1 => ?_) (fun c1 => ?_)
                      · skip
                        exfalso; omega
                      · skip
                        refine R_skip ?_
                        refine Q_then ?_
                        refine R_seq ?_
                        refine R_region ?_
                        refine L_val rfl rfl rfl (OpP.v (P_move rfl rfl)) ?_
                        refine L_val rfl rfl rfl (OpP.v (P_len rfl ty_sl_33 rfl)) ?_
                        refine L_val rfl rfl rfl (OpP.v (P_gtr rfl rfl rfl)) ?_
                        refine E_bool (t := 202) rfl (fun c2 => ?_) (fun c2 => ?_)
                        · skip
                          have c2 : 0 < R.length := by have := of_decide_eq_true c2; omega
                          have hbb := bt_use (hR.best lst (hl0 (by omega)) _ hcm hnR)
                          refine L_val rfl rfl rfl (OpP.v (P_move rfl rfl)) ?_
                          refine L_val rfl rfl rfl (OpP.v (P_fld0 rfl ty_fl_39_2 rfl)) ?_
                          refine L_val rfl rfl rfl (V_load rfl rfl ty_sc_23 (Rd.blk .h0 rfl)) ?_
                          refine L_val rfl rfl rfl (OpP.v (P_fld0 rfl ty_fl_37_1 rfl)) ?_
                          refine L_val rfl rfl rfl (V_load rfl rfl ty_sc_23 (Rd.blk .h1 rfl)) ?_
                          refine L_val rfl rfl rfl (OpP.v (P_gtr rfl rfl rfl)) ?_
                          refine E_false (t := 208) rfl (decide_eq_false (by omega)) ?_
                          refine L_val rfl rfl rfl (OpP.v (P_move rfl rfl)) ?_
                          refine L_val rfl rfl rfl (OpP.v (P_fld0 rfl ty_fl_39_2 rfl)) ?_
                          refine L_val rfl rfl rfl (V_load rfl rfl ty_sc_23 (Rd.blk .h0 rfl)) ?_
                          refine L_val rfl rfl rfl (OpP.v (P_fld0 rfl ty_fl_37_1 rfl)) ?_
                          refine L_val rfl rfl rfl (V_load rfl rfl ty_sc_23 (Rd.blk .h1 rfl)) ?_
                          refine L_val rfl rfl rfl (OpP.v (P_eql rfl rfl rfl)) ?_
                          refine E_bool (t := 214) rfl (fun c3 => ?_) (fun c3 => ?_)
                          · skip
                            have c3 := of_decide_eq_true c3
                            refine L_val rfl rfl rfl (OpP.v (P_move rfl rfl)) ?_
                            refine L_val rfl rfl rfl (OpP.v (P_fld0 rfl ty_fl_39_0 rfl)) ?_
                            refine L_val rfl rfl rfl (V_load rfl rfl ty_sc_35 (Rd.blk .h0 rfl)) ?_
                            refine L_val rfl rfl rfl (OpP.v (P_fld0 rfl ty_fl_37_0 rfl)) ?_
                            refine L_val rfl rfl rfl (V_load rfl rfl ty_sc_35 (Rd.blk .h1 rfl)) ?_
                            refine L_val rfl rfl rfl (OpP.v (P_lss rfl rfl rfl)) ?_
                            refine E_false (t := 220) rfl (decide_eq_false (by omega)) ?_
                            refine L_val rfl rfl rfl (OpP.v (P_pick rfl rfl rfl)) ?_
                            refine L_val rfl rfl rfl (OpP.v (P_pick rfl rfl rfl)) ?_
                            refine L_val rfl rfl rfl (OpP.v (P_pick rfl rfl rfl)) ?_
                            refine L_nil ?_
                            refine Q_then ?_
                            refine R_condF rfl ?_
                            refine R_skip ?_
                            refine Q_block ?_
                            refine Q_then ?_
                            refine R_region ?_
                            refine L_val rfl rfl rfl (OpP.v (P_move rfl rfl)) ?_
                            first | (refine L_val rfl rfl rfl (OpP.v (P_addN rfl rfl rfl (by simp only [fits]; omega))) ?_) | (refine L_val rfl rfl rfl (OpP.v (P_add rfl rfl rfl)) ?_)
                            refine L_val rfl rfl rfl (OpP.v (P_assign rfl rfl)) ?_
                            refine L_nil ?_
                            exact Q_round (n + 1) (by show n + 1 ≤ l.length; omega) (by show l.length - (n + 1) < l.length - n; omega) (by repeat (first | exact .nil | refine .cons rfl ?_ | refine .consE rfl (by first | rfl | (congr 1; omega) | (congr 1; push_cast; omega)) ?_)) (Weak.drop (Weak.refl _))
                          · skip
                            refine L_val rfl rfl rfl (OpP.v (P_move rfl rfl)) ?_
                            refine L_no rfl rfl rfl ?_
                            refine L_no rfl rfl rfl ?_
                            refine L_no rfl rfl rfl ?_
                            refine L_no rfl rfl rfl ?_
                            refine L_no rfl rfl rfl ?_
                            refine L_val rfl rfl rfl (OpP.v (P_pick rfl rfl rfl)) ?_
                            refine L_val rfl rfl rfl (OpP.v (P_pick rfl rfl rfl)) ?_
                            refine L_val rfl rfl rfl (OpP.v (P_pick rfl rfl rfl)) ?_
                            refine L_nil ?_
                            refine Q_then ?_
                            refine R_condF rfl ?_
                            refine R_skip ?_
                            refine Q_block ?_
                            refine Q_then ?_
                            refine R_region ?_
                            refine L_val rfl rfl rfl (OpP.v (P_move rfl rfl)) ?_
                            first | (refine L_val rfl rfl rfl (OpP.v (P_addN rfl rfl rfl (by simp only [fits]; omega))) ?_) | (refine L_val rfl rfl rfl (OpP.v (P_add rfl rfl rfl)) ?_)
                            refine L_val rfl rfl rfl (OpP.v (P_assign rfl rfl)) ?_
                            refine L_nil ?_
                            exact Q_round (n + 1) (by show n + 1 ≤ l.length; omega) (by show l.length - (n + 1) < l.length - n; omega) (by repeat (first | exact .nil | refine .cons rfl ?_ | refine .consE rfl (by first | rfl | (congr 1; omega) | (congr 1; push_cast; omega)) ?_)) (Weak.drop (Weak.refl _))
                        · skip
                          refine L_val rfl rfl rfl (OpP.v (P_move rfl rfl)) ?_
                          refine L_no rfl rfl rfl ?_
                          refine L_no rfl rfl rfl ?_
                          refine L_no rfl rfl rfl ?_
                          refine L_no rfl rfl rfl ?_
                          refine L_no rfl rfl rfl ?_
                          refine L_no rfl rfl rfl ?_
                          refine L_no rfl rfl rfl ?_
                          refine L_no rfl rfl rfl ?_
                          refine L_no rfl rfl rfl ?_
                          refine L_no rfl rfl rfl ?_
                          refine L_no rfl rfl rfl ?_
                          refine L_no rfl rfl rfl ?_
                          refine L_no rfl rfl rfl ?_
                          refine L_no rfl rfl rfl ?_
                          refine L_no rfl rfl rfl ?_
                          refine L_no rfl rfl rfl ?_
                          refine L_no rfl rfl rfl ?_
                          refine L_no rfl rfl rfl ?_
                          refine L_no rfl rfl rfl ?_
                          refine L_val rfl rfl rfl (OpP.v (P_pick rfl rfl rfl)) ?_
                          refine L_nil ?_
                          refine Q_then ?_
                          refine R_condF rfl ?_
                          refine R_skip ?_
                          refine Q_block ?_
                          refine Q_then ?_
                          refine R_region ?_
                          refine L_val rfl rfl rfl (OpP.v (P_move rfl rfl)) ?_
                          first | (refine L_val rfl rfl rfl (OpP.v (P_addN rfl rfl rfl (by simp only [fits]; omega))) ?_) | (refine L_val rfl rfl rfl (OpP.v (P_add rfl rfl rfl)) ?_)
                          refine L_val rfl rfl rfl (OpP.v (P_assign rfl rfl)) ?_
                          refine L_nil ?_
                          exact Q_round (n + 1) (by show n + 1 ≤ l.length; omega) (by show l.length - (n + 1) < l.length - n; omega) (by repeat (first | exact .nil | refine .cons rfl ?_ | refine .consE rfl (by first | rfl | (congr 1; omega) | (congr 1; push_cast; omega)) ?_)) (Weak.drop (Weak.refl _))
                    · skip
                      refine L_val rfl rfl rfl (OpP.v (P_move rfl rfl)) ?_
                      refine L_no rfl rfl rfl ?_
                      refine L_no rfl rfl rfl ?_
                      refine L_no rfl rfl rfl ?_
                      refine L_no rfl rfl rfl ?_
                      refine L_no rfl rfl rfl ?_
                      refine L_val rfl rfl rfl (OpP.v (P_pick rfl rfl rfl)) ?_
                      refine L_nil ?_
                      refine Q_then ?_
                      refine R_condF rfl ?_
                      refine R_skip ?_
                      refine Q_then ?_
                      refine R_seq ?_
                      refine R_region ?_
                      refine L_val rfl rfl rfl (OpP.v (P_move rfl rfl)) ?_
                      refine L_val rfl rfl rfl (OpP.v (P_len rfl ty_sl_33 rfl)) ?_
                      refine L_val rfl rfl rfl (OpP.v (P_gtr rfl rfl rfl)) ?_
                      refine E_bool (t := 202) rfl (fun c2 => ?_) (fun c2 => ?_)
                      · skip
                        have c2 : 0 < R.length := by have := of_decide_eq_true c2; omega
                        have hbb := bt_use (hR.best lst (hl0 (by omega)) _ hcm hnR)
                        refine L_val rfl rfl rfl (OpP.v (P_move rfl rfl)) ?_
                        refine L_val rfl rfl rfl (OpP.v (P_fld0 rfl ty_fl_39_2 rfl)) ?_
                        refine L_val rfl rfl rfl (V_load rfl rfl ty_sc_23 (Rd.blk .h0 rfl)) ?_
                        refine L_val rfl rfl rfl (OpP.v (P_fld0 rfl ty_fl_37_1 rfl)) ?_
                        refine L_val rfl rfl rfl (V_load rfl rfl ty_sc_23 (Rd.blk .h1 rfl)) ?_
                        refine L_val rfl rfl rfl (OpP.v (P_gtr rfl rfl rfl)) ?_
                        refine E_false (t := 208) rfl (decide_eq_false (by omega)) ?_
                        refine L_val rfl rfl rfl (OpP.v (P_move rfl rfl)) ?_
                        refine L_val rfl rfl rfl (OpP.v (P_fld0 rfl ty_fl_39_2 rfl)) ?_
                        refine L_val rfl rfl rfl (V_load rfl rfl ty_sc_23 (Rd.blk .h0 rfl)) ?_
                        refine L_val rfl rfl rfl (OpP.v (P_fld0 rfl ty_fl_37_1 rfl)) ?_
                        refine L_val rfl rfl rfl (V_load rfl rfl ty_sc_23 (Rd.blk .h1 rfl)) ?_
                        refine L_val rfl rfl rfl (OpP.v (P_eql rfl rfl rfl)) ?_
                        refine E_bool (t := 214) rfl (fun c3 => ?_) (fun c3 => ?_)
                        · skip
                          have c3 := of_decide_eq_true c3
                          refine L_val rfl rfl rfl (OpP.v (P_move rfl rfl)) ?_
                          refine L_val rfl rfl rfl (OpP.v (P_fld0 rfl ty_fl_39_0 rfl)) ?_
                          refine L_val rfl rfl rfl (V_load rfl rfl ty_sc_35 (Rd.blk .h0 rfl)) ?_
                          refine L_val rfl rfl rfl (OpP.v (P_fld0 rfl ty_fl_37_0 rfl)) ?_
                          refine L_val rfl rfl rfl (V_load rfl rfl ty_sc_35 (Rd.blk .h1 rfl)) ?_
                          refine L_val rfl rfl rfl (OpP.v (P_lss rfl rfl rfl)) ?_
                          refine E_false (t := 220) rfl (decide_eq_false (by omega)) ?_
                          refine L_val rfl rfl rfl (OpP.v (P_pick rfl rfl rfl)) ?_
                          refine L_val rfl rfl rfl (OpP.v (P_pick rfl rfl rfl)) ?_
                          refine L_val rfl rfl rfl (OpP.v (P_pick rfl rfl rfl)) ?_
                          refine L_nil ?_
                          refine Q_then ?_
                          refine R_condF rfl ?_
                          refine R_skip ?_
                          refine Q_block ?_
                          refine Q_then ?_
                          refine R_region ?_
                          refine L_val rfl rfl rfl (OpP.v (P_move rfl rfl)) ?_
                          first | (refine L_val rfl rfl rfl (OpP.v (P_addN rfl rfl rfl (by simp only [fits]; omega))) ?_) | (refine L_val rfl rfl rfl (OpP.v (P_add rfl rfl rfl)) ?_)
                          refine L_val rfl rfl rfl (OpP.v (P_assign rfl rfl)) ?_
                          refine L_nil ?_
                          exact Q_round (n + 1) (by show n + 1 ≤ l.length; omega) (by show l.length - (n + 1) < l.length - n; omega) (by repeat (first | exact .nil | refine .cons rfl ?_ | refine .consE rfl (by first | rfl | (congr 1; omega) | (congr 1; push_cast; omega)) ?_)) (Weak.drop (Weak.refl _))
                        · skip
                          refine L_val rfl rfl rfl (OpP.v (P_move rfl rfl)) ?_
                          refine L_no rfl rfl rfl ?_
                          refine L_no rfl rfl rfl ?_
                          refine L_no rfl rfl rfl ?_
                          refine L_no rfl rfl rfl ?_
                          refine L_no rfl rfl rfl ?_
                          refine L_val rfl rfl rfl (OpP.v (P_pick rfl rfl rfl)) ?_
                          refine L_val rfl rfl rfl (OpP.v (P_pick rfl rfl rfl)) ?_
                          refine L_val rfl rfl rfl (OpP.v (P_pick rfl rfl rfl)) ?_
                          refine L_nil ?_
                          refine Q_then ?_
                          refine R_condF rfl ?_
                          refine R_skip ?_
                          refine Q_block ?_
                          refine Q_then ?_
                          refine R_region ?_
                          refine L_val rfl rfl rfl (OpP.v (P_move rfl rfl)) ?_
                          first | (refine L_val rfl rfl rfl (OpP.v (P_addN rfl rfl rfl (by simp only [fits]; omega))) ?_) | (refine L_val rfl rfl rfl (OpP.v (P_add rfl rfl rfl)) ?_)
                          refine L_val rfl rfl rfl (OpP.v (P_assign rfl rfl)) ?_
                          refine L_nil ?_
                          exact Q_round (n + 1) (by show n + 1 ≤ l.length; omega) (by show l.length - (n + 1) < l.length - n; omega) (by repeat (first | exact .nil | refine .cons rfl ?_ | refine .consE rfl (by first | rfl | (congr 1; omega) | (congr 1; push_cast; omega)) ?_)) (Weak.drop (Weak.refl _))
                      · skip
                        refine L_val rfl rfl rfl (OpP.v (P_move rfl rfl)) ?_
                        refine L_no rfl rfl rfl ?_
                        refine L_no rfl rfl rfl ?_
                        refine L_no rfl rfl rfl ?_
                        refine L_no rfl rfl rfl ?_
                        refine L_no rfl rfl rfl ?_
                        refine L_no rfl rfl rfl ?_
                        refine L_no rfl rfl rfl ?_
                        refine L_no rfl rfl rfl ?_
                        refine L_no rfl rfl rfl ?_
                        refine L_no rfl rfl rfl ?_
                        refine L_no rfl rfl rfl ?_
                        refine L_no rfl rfl rfl ?_
                        refine L_no rfl rfl rfl ?_
                        refine L_no rfl rfl rfl ?_
                        refine L_no rfl rfl rfl ?_
                        refine L_no rfl rfl rfl ?_
                        refine L_no rfl rfl rfl ?_
                        refine L_no rfl rfl rfl ?_
                        refine L_no rfl rfl rfl ?_
                        refine L_val rfl rfl rfl (OpP.v (P_pick rfl rfl rfl)) ?_
                        refine L_nil ?_
                        refine Q_then ?_
                        refine R_condF rfl ?_
                        refine R_skip ?_
                        refine Q_block ?_
                        refine Q_then ?_
                        refine R_region ?_
                        refine L_val rfl rfl rfl (OpP.v (P_move rfl rfl)) ?_
                        first | (refine L_val rfl rfl rfl (OpP.v (P_addN rfl rfl rfl (by simp only [fits]; omega))) ?_) | (refine L_val rfl rfl rfl (OpP.v (P_add rfl rfl rfl)) ?_)
                        refine L_val rfl rfl rfl (OpP.v (P_assign rfl rfl)) ?_
                        refine L_nil ?_
                        exact Q_round (n + 1) (by show n + 1 ≤ l.length; omega) (by show l.length - (n + 1) < l.length - n; omega) (by repeat (first | exact .nil | refine .cons rfl ?_ | refine .consE rfl (by first | rfl | (congr 1; omega) | (congr 1; push_cast; omega)) ?_)) (Weak.drop (Weak.refl _))
        · skip
          refine R_exit ?_
          refine Q_then_exit ?_
          refine Q_then_exit ?_
          refine Q_block_eq ?_
          refine St.env (.cons (t := 4) rfl .nil) ?_
          refine Q_then ?_
          refine R_seq ?_
          refine R_region ?_
          refine L_val rfl rfl rfl (OpP.v (P_assign rfl rfl)) ?_
          refine L_nil ?_
          refine Q_then ?_
          refine R_ret ?_
          exact R_endV rfl rfl (.tmp rfl .nil) (rfl)
      · skip
        refine L_val rfl rfl rfl (OpP.v (P_move rfl rfl)) ?_
        refine L_no rfl rfl rfl ?_
        refine L_no rfl rfl rfl ?_
        refine L_no rfl rfl rfl ?_
        refine L_no rfl rfl rfl ?_
        refine L_no rfl rfl rfl ?_
        refine L_val rfl rfl rfl (OpP.v (P_pick rfl rfl rfl)) ?_
        refine L_val rfl rfl rfl (OpP.v (P_pick rfl rfl rfl)) ?_
        refine L_nil ?_
        refine St.env (.cons (t := 3) rfl (.cons (t := 4) rfl (.cons (t := 6) rfl (.cons (t := 10) rfl (.cons (t := 11) rfl (.cons (t := 143) rfl .nil)))))) ?_
        refine Q_then ?_
        refine R_condF rfl ?_
        refine R_skip ?_
        refine Q_then ?_
        refine R_seq ?_
        refine R_seq ?_
        refine R_region ?_
        refine L_val rfl rfl rfl (OpP.v (P_assign rfl rfl)) ?_
        refine L_nil ?_
        refine St.env (.cons (t := 3) rfl (.cons (t := 4) rfl (.cons (t := 6) rfl (.cons (t := 10) rfl (.cons (t := 11) rfl (.cons (t := 14) rfl .nil)))))) ?_
        refine Q_then ?_
        refine R_block ?_
        refine R_loopE (G := Nat) (.cons (t := 3) rfl (.cons (t := 4) rfl (.cons (t := 6) rfl (.cons (t := 10) rfl (.cons (t := 11) rfl .nil))))) (fun g => [(14, .int .i64 (g : Int))]) (fun _ => _) (fun g => g ≤ l.length) (fun g => l.length - g) (0) (Nat.zero_le _) (by repeat (first | exact .nil | refine .cons rfl ?_ | refine .consE rfl (by first | rfl | (congr 1; omega) | (congr 1; push_cast; omega)) ?_)) (Weak.refl _) ?_
        intro n hinv
        replace hinv : n ≤ l.length := hinv
        show St (cx gl) _ ((14, .int .i64 (n : Int)) :: _) _ _
        refine R_seq ?_
        refine R_seq ?_
        refine R_region ?_
        refine L_val rfl rfl rfl (OpP.v (P_move rfl rfl)) ?_
        refine L_val rfl rfl rfl (OpP.v (P_fld0 rfl ty_fl_29_0 rfl)) ?_
        refine L_val rfl rfl rfl (V_load rfl rfl ty_sc_22 (Rd.blk .h2 rfl)) ?_
        refine L_val rfl rfl rfl (OpP.v (P_len rfl ty_sl_22 rfl)) ?_
        refine L_val rfl rfl rfl (OpP.v (P_lss rfl rfl rfl)) ?_
        refine L_nil ?_
        refine Q_then ?_
        refine R_condP rfl (fun hlt2 => ?_) (fun hlt2 => ?_)
        · skip
          have hn0 : n ≤ l.length := hinv
          have hx0 := accAt_get (l := l) (i := n) (by omega)
          obtain ⟨x, ex⟩ : ∃ x, x = accAt l n := ⟨_, rfl⟩
          have hx : l[n]? = some x := by rw [ex]; exact hx0
          refine St.ownSome (p := [_, _, _]) (by omega) fun up uc' huv' huc' => ?_
          obtain rfl : ub = some ⟨up, 0, none⟩ := by simp only [Value.slice.injEq] at huv'; exact huv'.1
          refine R_skip ?_
          refine Q_then ?_
          refine R_seq ?_
          refine R_block ?_
          refine R_seq ?_
          refine R_region ?_
          refine L_val rfl rfl rfl (OpP.v (P_fld0 rfl ty_fl_29_0 rfl)) ?_
          refine L_val rfl rfl rfl (V_load rfl rfl ty_sc_22 (Rd.blk .h2 rfl)) ?_
          refine L_val rfl rfl rfl (OpP.v (P_move rfl rfl)) ?_
          refine L_val rfl rfl rfl (OpP.v (P_ixs (n) rfl ty_sl_22 rfl rfl (by first | rfl | omega) (by omega))) ?_
          refine L_val rfl rfl rfl (V_loadAgg rfl rfl ty_ag_39 (rds_rc (rds_own .h3) hx) (rfl)) ?_
          refine L_op rfl (W_alloc rfl rfl rfl ty_ze_39 fun b15 => ?_)
          refine L_op rfl (W_storeAll rfl rfl rfl rfl ty_ag_39 (rfl) (Rec.one x) .h0 (rfl) ?_)
          refine L_nil ?_
          refine Q_then ?_
          refine R_seq ?_
          refine R_region ?_
          refine L_val rfl rfl rfl (OpP.v (P_assign rfl rfl)) ?_
          refine L_nil ?_
          refine Q_then ?_
          refine R_seq ?_
          refine R_seq ?_
          refine R_region ?_
          refine L_val rfl rfl rfl (OpP.v (P_assign rfl rfl)) ?_
          refine L_nil ?_
          refine Q_then ?_
          refine R_block ?_
          refine R_loopE (G := Nat × Bool) (.cons (t := 3) rfl (.cons (t := 4) rfl (.cons (t := 6) rfl (.cons (t := 10) rfl (.cons (t := 11) rfl (.cons (t := 14) rfl (.cons (t := 15) rfl (.cons (t := 144) rfl (.cons (t := 145) rfl (.cons (t := 146) rfl (.cons (t := 147) rfl (.cons (t := 148) rfl (.cons (t := 151) rfl (.cons (t := 152) rfl (.cons (t := 153) rfl (.cons (t := 154) rfl (.cons (t := 155) rfl .nil))))))))))))))))) (fun g => [(16, .bool g.2), (17, .int .i64 (g.1 : Int))]) (fun _ => _) (fun g => g.1 ≤ R.length ∧ g.2 = (R.take g.1).any (sameA x)) (fun g => R.length - g.1) (0, false) (by show (0) ≤ R.length ∧ (false) = (R.take (0)).any (sameA x); exact ⟨Nat.zero_le _, rfl⟩) (by repeat (first | exact .nil | refine .cons rfl ?_ | refine .consE rfl (by first | rfl | (congr 1; omega) | (congr 1; push_cast; omega)) ?_)) (Weak.refl _) ?_
          rintro ⟨j, s⟩ hinv
          replace hinv : j ≤ R.length ∧ s = (R.take j).any (sameA x) := hinv
          show St (cx gl) _ ((16, .bool s) :: (17, .int .i64 (j : Int)) :: _) _ _
          obtain ⟨hj, hs0⟩ := hinv
          refine R_seq ?_
          refine R_seq ?_
          refine R_region ?_
          refine L_val rfl rfl rfl (OpP.v (P_move rfl rfl)) ?_
          refine L_val rfl rfl rfl (OpP.v (P_move rfl rfl)) ?_
          refine L_val rfl rfl rfl (OpP.v (P_len rfl ty_sl_33 rfl)) ?_
          refine L_val rfl rfl rfl (OpP.v (P_lss rfl rfl rfl)) ?_
          refine L_nil ?_
          refine Q_then ?_
          refine R_condP rfl (fun hlt3 => ?_) (fun hlt3 => ?_)
          · skip
            have hjl2 : j < R.length := by omega
            obtain ⟨mj, hmj⟩ : ∃ m, R[j]? = some m := ⟨_, List.getElem?_eq_getElem hjl2⟩
            refine St.ownSome (p := [_, _]) (by omega) fun sp sc' hsv hsc' => ?_
            obtain rfl : sb = some ⟨sp, 0, none⟩ := by simp only [Value.slice.injEq] at hsv; exact hsv.1
            refine R_skip ?_
            refine Q_then ?_
            refine R_seq ?_
            refine R_block ?_
            refine R_open [(0, 0), (1, 0), (2, 0), (3, 0), (4, 0), (5, 0), (6, 1), (7, 0), (8, 1), (9, 0), (10, 0), (11, 0)] mixed (by kernel_rfl) (QOk.block (QOk.then (QOk.then (QOk.block (QOk.then (QOk.block (QOk.then (QOk.then (QOk.block (QOk.then QOk.body)))))))))) ?_
            refine O_pure rfl rfl rfl rfl (P_move rfl rfl) ?_
            refine O_pure rfl rfl rfl rfl (P_move rfl rfl) ?_
            refine E_bool (t := 163) rfl (fun hs => ?_) (fun hs => ?_)
            · skip
              refine O_no rfl rfl rfl rfl ?_
              refine O_no rfl rfl rfl rfl ?_
              refine O_no rfl rfl rfl rfl ?_
              refine O_no rfl rfl rfl rfl ?_
              refine O_noX rfl rfl rfl rfl ?_
              refine O_no rfl rfl rfl rfl ?_
              refine O_noX rfl rfl rfl rfl ?_
              refine O_no rfl rfl rfl rfl ?_
              refine O_pure rfl rfl rfl rfl (P_pick rfl rfl rfl) ?_
              refine O_pure rfl rfl rfl rfl (P_assign rfl rfl) ?_
              refine O_nil ?_
              refine Q_block ?_
              refine Q_then ?_
              refine R_region ?_
              refine L_val rfl rfl rfl (OpP.v (P_move rfl rfl)) ?_
              first | (refine L_val rfl rfl rfl (OpP.v (P_addN rfl rfl rfl (by simp only [fits]; omega))) ?_) | (refine L_val rfl rfl rfl (OpP.v (P_add rfl rfl rfl)) ?_)
              refine L_val rfl rfl rfl (OpP.v (P_assign rfl rfl)) ?_
              refine L_nil ?_
              exact Q_round (j + 1, true) (by show (j + 1) ≤ R.length ∧ (true) = (R.take (j + 1)).any (sameA x); exact ⟨by omega, by rw [any_next hmj, ← hs0, hs]; rfl⟩) (by show R.length - (j + 1) < R.length - j; omega) (by repeat (first | exact .nil | refine .cons rfl ?_ | refine .consE rfl (by first | rfl | (congr 1; omega) | (congr 1; push_cast; omega)) ?_)) (Weak.refl _)
            · skip
              refine O_pure rfl rfl rfl rfl (P_move rfl rfl) ?_
              refine O_pure rfl rfl rfl rfl (P_move rfl rfl) ?_
              refine O_pure rfl rfl rfl rfl (P_ixs (j) rfl ty_sl_33 rfl rfl (by first | rfl | omega) (by omega)) ?_
              refine O_pure rfl rfl rfl rfl (P_fld rfl ty_fl_37_0 rfl) ?_
              refine O_val rfl rfl rfl rfl (V_load rfl rfl ty_sc_35 (rd_rc (rds_own .h2) hmj rfl)) ?_
              refine O_pure rfl rfl rfl rfl (P_fld0 rfl ty_fl_39_0 rfl) ?_
              refine O_val rfl rfl rfl rfl (V_load rfl rfl ty_sc_35 (Rd.blk .h0 rfl)) ?_
              refine O_pure rfl rfl rfl rfl (P_eql rfl rfl rfl) ?_
              refine O_pure rfl rfl rfl rfl (P_pick rfl rfl rfl) ?_
              refine O_pure rfl rfl rfl rfl (P_assign rfl rfl) ?_
              refine O_nil ?_
              refine Q_block ?_
              refine Q_then ?_
              refine R_region ?_
              refine L_val rfl rfl rfl (OpP.v (P_move rfl rfl)) ?_
              first | (refine L_val rfl rfl rfl (OpP.v (P_addN rfl rfl rfl (by simp only [fits]; omega))) ?_) | (refine L_val rfl rfl rfl (OpP.v (P_add rfl rfl rfl)) ?_)
              refine L_val rfl rfl rfl (OpP.v (P_assign rfl rfl)) ?_
              refine L_nil ?_
              exact Q_round (j + 1, decide (mj.a = x.a)) (by show (j + 1) ≤ R.length ∧ (decide (mj.a = x.a)) = (R.take (j + 1)).any (sameA x); exact ⟨by omega, by rw [any_next hmj, ← hs0, hs]; rfl⟩) (by show R.length - (j + 1) < R.length - j; omega) (by repeat (first | exact .nil | refine .cons rfl ?_ | refine .consE rfl (by first | rfl | (congr 1; omega) | (congr 1; push_cast; omega)) ?_)) (Weak.refl _)
          · skip
            have hjn : j = R.length := by omega
            rw [hjn, List.take_length] at hs0
            refine R_exit ?_
            refine Q_then_exit ?_
            refine Q_then_exit ?_
            refine Q_block_eq ?_
            refine Q_then ?_
            refine R_seq ?_
            refine R_seq ?_
            refine R_region ?_
            refine L_val rfl rfl rfl (OpP.v (P_move rfl rfl)) ?_
            refine L_val rfl rfl rfl (OpP.v (P_move rfl rfl)) ?_
            refine E_bool (t := 174) rfl (fun hs => ?_) (fun hs => ?_)
            · skip
              refine L_no rfl rfl rfl ?_
              refine L_no rfl rfl rfl ?_
              refine L_val rfl rfl rfl (OpP.v (P_pick rfl rfl rfl)) ?_
              refine L_val rfl rfl rfl (OpP.v (P_move rfl rfl)) ?_
              refine L_no rfl rfl rfl ?_
              refine L_no rfl rfl rfl ?_
              refine L_no rfl rfl rfl ?_
              refine L_no rfl rfl rfl ?_
              refine L_no rfl rfl rfl ?_
              refine L_val rfl rfl rfl (OpP.v (P_pick rfl rfl rfl)) ?_
              refine L_val rfl rfl rfl (OpP.v (P_move rfl rfl)) ?_
              refine L_no rfl rfl rfl ?_
              refine L_no rfl rfl rfl ?_
              refine L_no rfl rfl rfl ?_
              refine L_val rfl rfl rfl (OpP.v (P_pick rfl rfl rfl)) ?_
              refine L_nil ?_
              refine Q_then ?_
              refine R_condT rfl ?_
              refine R_exit ?_
              refine Q_then_exit ?_
              refine Q_block_eq ?_
              refine Q_then ?_
              refine R_region ?_
              refine L_val rfl rfl rfl (OpP.v (P_move rfl rfl)) ?_
              first | (refine L_val rfl rfl rfl (OpP.v (P_addN rfl rfl rfl (by simp only [fits]; omega))) ?_) | (refine L_val rfl rfl rfl (OpP.v (P_add rfl rfl rfl)) ?_)
              refine L_val rfl rfl rfl (OpP.v (P_assign rfl rfl)) ?_
              refine L_nil ?_
              exact Q_round (n + 1) (by show n + 1 ≤ l.length; omega) (by show l.length - (n + 1) < l.length - n; omega) (by repeat (first | exact .nil | refine .cons rfl ?_ | refine .consE rfl (by first | rfl | (congr 1; omega) | (congr 1; push_cast; omega)) ?_)) (Weak.drop (Weak.refl _))
            · skip
              refine L_val rfl rfl rfl (OpP.v (P_fld0 rfl ty_fl_39_4 rfl)) ?_
              refine L_val rfl rfl rfl (V_load rfl rfl ty_sc_4 (Rd.blk .h0 rfl)) ?_
              refine E_bool (t := 176) rfl (fun k1 => ?_) (fun k1 => ?_)
              · skip
                refine L_val rfl rfl rfl (OpP.v (P_pick rfl rfl rfl)) ?_
                refine L_val rfl rfl rfl (OpP.v (P_move rfl rfl)) ?_
                refine L_no rfl rfl rfl ?_
                refine L_no rfl rfl rfl ?_
                refine L_no rfl rfl rfl ?_
                refine L_no rfl rfl rfl ?_
                refine L_no rfl rfl rfl ?_
                refine L_val rfl rfl rfl (OpP.v (P_pick rfl rfl rfl)) ?_
                refine L_val rfl rfl rfl (OpP.v (P_move rfl rfl)) ?_
                refine L_no rfl rfl rfl ?_
                refine L_no rfl rfl rfl ?_
                refine L_no rfl rfl rfl ?_
                refine L_val rfl rfl rfl (OpP.v (P_pick rfl rfl rfl)) ?_
                refine L_nil ?_
                refine Q_then ?_
                refine R_condT rfl ?_
                refine R_exit ?_
                refine Q_then_exit ?_
                refine Q_block_eq ?_
                refine Q_then ?_
                refine R_region ?_
                refine L_val rfl rfl rfl (OpP.v (P_move rfl rfl)) ?_
                first | (refine L_val rfl rfl rfl (OpP.v (P_addN rfl rfl rfl (by simp only [fits]; omega))) ?_) | (refine L_val rfl rfl rfl (OpP.v (P_add rfl rfl rfl)) ?_)
                refine L_val rfl rfl rfl (OpP.v (P_assign rfl rfl)) ?_
                refine L_nil ?_
                exact Q_round (n + 1) (by show n + 1 ≤ l.length; omega) (by show l.length - (n + 1) < l.length - n; omega) (by repeat (first | exact .nil | refine .cons rfl ?_ | refine .consE rfl (by first | rfl | (congr 1; omega) | (congr 1; push_cast; omega)) ?_)) (Weak.drop (Weak.refl _))
              · skip
                refine L_val rfl rfl rfl (OpP.v (P_pick rfl rfl rfl)) ?_
                refine L_val rfl rfl rfl (OpP.v (P_move rfl rfl)) ?_
                refine L_val rfl rfl rfl (OpP.v (P_fld0 rfl ty_fl_39_2 rfl)) ?_
                refine L_val rfl rfl rfl (V_load rfl rfl ty_sc_23 (Rd.blk .h0 rfl)) ?_
                refine L_val rfl rfl rfl (OpP.v (P_fld0 rfl ty_fl_25_0 rfl)) ?_
                refine L_val rfl rfl rfl (V_load rfl rfl ty_sc_23 (Rd.blk .h5 rfl)) ?_
                refine L_val rfl rfl rfl (OpP.v (P_lss rfl rfl rfl)) ?_
                refine E_bool (t := 183) rfl (fun k2 => ?_) (fun k2 => ?_)
                · skip
                  refine L_val rfl rfl rfl (OpP.v (P_pick rfl rfl rfl)) ?_
                  refine L_val rfl rfl rfl (OpP.v (P_move rfl rfl)) ?_
                  refine L_no rfl rfl rfl ?_
                  refine L_no rfl rfl rfl ?_
                  refine L_no rfl rfl rfl ?_
                  refine L_val rfl rfl rfl (OpP.v (P_pick rfl rfl rfl)) ?_
                  refine L_nil ?_
                  refine Q_then ?_
                  refine R_condT rfl ?_
                  refine R_exit ?_
                  refine Q_then_exit ?_
                  refine Q_block_eq ?_
                  refine Q_then ?_
                  refine R_region ?_
                  refine L_val rfl rfl rfl (OpP.v (P_move rfl rfl)) ?_
                  first | (refine L_val rfl rfl rfl (OpP.v (P_addN rfl rfl rfl (by simp only [fits]; omega))) ?_) | (refine L_val rfl rfl rfl (OpP.v (P_add rfl rfl rfl)) ?_)
                  refine L_val rfl rfl rfl (OpP.v (P_assign rfl rfl)) ?_
                  refine L_nil ?_
                  exact Q_round (n + 1) (by show n + 1 ≤ l.length; omega) (by show l.length - (n + 1) < l.length - n; omega) (by repeat (first | exact .nil | refine .cons rfl ?_ | refine .consE rfl (by first | rfl | (congr 1; omega) | (congr 1; push_cast; omega)) ?_)) (Weak.drop (Weak.refl _))
                · skip
                  have k2 := of_decide_eq_false k2
                  refine L_val rfl rfl rfl (OpP.v (P_pick rfl rfl rfl)) ?_
                  refine L_val rfl rfl rfl (OpP.v (P_move rfl rfl)) ?_
                  refine L_val rfl rfl rfl (OpP.v (P_fld0 rfl ty_fl_39_2 rfl)) ?_
                  refine L_val rfl rfl rfl (V_load rfl rfl ty_sc_23 (Rd.blk .h0 rfl)) ?_
                  refine L_val rfl rfl rfl (OpP.v (P_eql rfl rfl rfl)) ?_
                  refine L_val rfl rfl rfl (OpP.v (P_pick rfl rfl rfl)) ?_
                  refine L_nil ?_
                  refine Q_then ?_
                  refine R_condP rfl (fun k3 => ?_) (fun k3 => ?_)
                  · skip
                    refine R_exit ?_
                    refine Q_then_exit ?_
                    refine Q_block_eq ?_
                    refine Q_then ?_
                    refine R_region ?_
                    refine L_val rfl rfl rfl (OpP.v (P_move rfl rfl)) ?_
                    first | (refine L_val rfl rfl rfl (OpP.v (P_addN rfl rfl rfl (by simp only [fits]; omega))) ?_) | (refine L_val rfl rfl rfl (OpP.v (P_add rfl rfl rfl)) ?_)
                    refine L_val rfl rfl rfl (OpP.v (P_assign rfl rfl)) ?_
                    refine L_nil ?_
                    exact Q_round (n + 1) (by show n + 1 ≤ l.length; omega) (by show l.length - (n + 1) < l.length - n; omega) (by repeat (first | exact .nil | refine .cons rfl ?_ | refine .consE rfl (by first | rfl | (congr 1; omega) | (congr 1; push_cast; omega)) ?_)) (Weak.drop (Weak.refl _))
                  · skip
                    have hxm := List.mem_of_getElem? hx
                    obtain ⟨⟨_, _⟩, _, ⟨hbd0, _⟩, _⟩ := hok x hxm
                    have hsx : sits p.mb x = true := sits_iff.2 ⟨k1, by omega, by omega⟩
                    have hcm := cand_mem hxm hsx
                    have hnR := any_no (hs0.symm.trans hs)
                    have hful := hR.full hcm hnR
                    refine R_skip ?_
                    refine Q_then ?_
                    refine R_seq ?_
                    refine R_seq ?_
                    refine R_region ?_
                    refine L_val rfl rfl rfl (OpP.v (P_move rfl rfl)) ?_
                    refine L_val rfl rfl rfl (OpP.v (P_len rfl ty_sl_33 rfl)) ?_
                    refine L_val rfl rfl rfl (OpP.v (P_lss rfl rfl rfl)) ?_
                    refine E_bool (t := 192) rfl (fun c0 => ?_) (fun c0 => ?_)
                    · skip
                      have c0 := of_decide_eq_true c0
                      refine L_val rfl rfl rfl (OpP.v (P_move rfl rfl)) ?_
                      refine L_val rfl rfl rfl (OpP.v (P_move rfl rfl)) ?_
                      refine L_val rfl rfl rfl (OpP.v (P_len rfl ty_sl_33 rfl)) ?_
                      refine L_val rfl rfl rfl (OpP.v (P_fld0 rfl ty_fl_25_1 rfl)) ?_
                      refine L_val rfl rfl rfl (V_load rfl rfl ty_sc_3 (Rd.blk .h5 rfl)) ?_
                      refine L_val rfl rfl rfl (OpP.v (P_lss rfl rfl rfl)) ?_
                      refine L_val rfl rfl rfl (OpP.v (P_pick rfl rfl rfl)) ?_
                      refine L_nil ?_
                      refine Q_then ?_
                      refine R_condP rfl (fun c1 => ?_) (fun c1 => ?_)
                      · skip
                        exfalso; omega
                      · skip
                        refine R_skip ?_
                        refine Q_then ?_
                        refine R_seq ?_
                        refine R_region ?_
                        refine L_val rfl rfl rfl (OpP.v (P_move rfl rfl)) ?_
                        refine L_val rfl rfl rfl (OpP.v (P_len rfl ty_sl_33 rfl)) ?_
                        refine L_val rfl rfl rfl (OpP.v (P_gtr rfl rfl rfl)) ?_
                        refine E_bool (t := 202) rfl (fun c2 => ?_) (fun c2 => ?_)
                        · skip
                          have c2 : 0 < R.length := by have := of_decide_eq_true c2; omega
                          have hbb := bt_use (hR.best lst (hl0 (by omega)) _ hcm hnR)
                          refine L_val rfl rfl rfl (OpP.v (P_move rfl rfl)) ?_
                          refine L_val rfl rfl rfl (OpP.v (P_fld0 rfl ty_fl_39_2 rfl)) ?_
                          refine L_val rfl rfl rfl (V_load rfl rfl ty_sc_23 (Rd.blk .h0 rfl)) ?_
                          refine L_val rfl rfl rfl (OpP.v (P_fld0 rfl ty_fl_37_1 rfl)) ?_
                          refine L_val rfl rfl rfl (V_load rfl rfl ty_sc_23 (Rd.blk .h1 rfl)) ?_
                          refine L_val rfl rfl rfl (OpP.v (P_gtr rfl rfl rfl)) ?_
                          refine E_false (t := 208) rfl (decide_eq_false (by omega)) ?_
                          refine L_val rfl rfl rfl (OpP.v (P_move rfl rfl)) ?_
                          refine L_val rfl rfl rfl (OpP.v (P_fld0 rfl ty_fl_39_2 rfl)) ?_
                          refine L_val rfl rfl rfl (V_load rfl rfl ty_sc_23 (Rd.blk .h0 rfl)) ?_
                          refine L_val rfl rfl rfl (OpP.v (P_fld0 rfl ty_fl_37_1 rfl)) ?_
                          refine L_val rfl rfl rfl (V_load rfl rfl ty_sc_23 (Rd.blk .h1 rfl)) ?_
                          refine L_val rfl rfl rfl (OpP.v (P_eql rfl rfl rfl)) ?_
                          refine E_bool (t := 214) rfl (fun c3 => ?_) (fun c3 => ?_)
                          · skip
                            have c3 := of_decide_eq_true c3
                            refine L_val rfl rfl rfl (OpP.v (P_move rfl rfl)) ?_
                            refine L_val rfl rfl rfl (OpP.v (P_fld0 rfl ty_fl_39_0 rfl)) ?_
                            refine L_val rfl rfl rfl (V_load rfl rfl ty_sc_35 (Rd.blk .h0 rfl)) ?_
                            refine L_val rfl rfl rfl (OpP.v (P_fld0 rfl ty_fl_37_0 rfl)) ?_
                            refine L_val rfl rfl rfl (V_load rfl rfl ty_sc_35 (Rd.blk .h1 rfl)) ?_
                            refine L_val rfl rfl rfl (OpP.v (P_lss rfl rfl rfl)) ?_
                            refine E_false (t := 220) rfl (decide_eq_false (by omega)) ?_
                            refine L_val rfl rfl rfl (OpP.v (P_pick rfl rfl rfl)) ?_
                            refine L_val rfl rfl rfl (OpP.v (P_pick rfl rfl rfl)) ?_
                            refine L_val rfl rfl rfl (OpP.v (P_pick rfl rfl rfl)) ?_
                            refine L_nil ?_
                            refine Q_then ?_
                            refine R_condF rfl ?_
                            refine R_skip ?_
                            refine Q_block ?_
                            refine Q_then ?_
                            refine R_region ?_
                            refine L_val rfl rfl rfl (OpP.v (P_move rfl rfl)) ?_
                            first | (refine L_val rfl rfl rfl (OpP.v (P_addN rfl rfl rfl (by simp only [fits]; omega))) ?_) | (refine L_val rfl rfl rfl (OpP.v (P_add rfl rfl rfl)) ?_)
                            refine L_val rfl rfl rfl (OpP.v (P_assign rfl rfl)) ?_
                            refine L_nil ?_
                            exact Q_round (n + 1) (by show n + 1 ≤ l.length; omega) (by show l.length - (n + 1) < l.length - n; omega) (by repeat (first | exact .nil | refine .cons rfl ?_ | refine .consE rfl (by first | rfl | (congr 1; omega) | (congr 1; push_cast; omega)) ?_)) (Weak.drop (Weak.refl _))
                          · skip
                            refine L_val rfl rfl rfl (OpP.v (P_move rfl rfl)) ?_
                            refine L_no rfl rfl rfl ?_
                            refine L_no rfl rfl rfl ?_
                            refine L_no rfl rfl rfl ?_
                            refine L_no rfl rfl rfl ?_
                            refine L_no rfl rfl rfl ?_
                            refine L_val rfl rfl rfl (OpP.v (P_pick rfl rfl rfl)) ?_
                            refine L_val rfl rfl rfl (OpP.v (P_pick rfl rfl rfl)) ?_
                            refine L_val rfl rfl rfl (OpP.v (P_pick rfl rfl rfl)) ?_
                            refine L_nil ?_
                            refine Q_then ?_
                            refine R_condF rfl ?_
                            refine R_skip ?_
                            refine Q_block ?_
                            refine Q_then ?_
                            refine R_region ?_
                            refine L_val rfl rfl rfl (OpP.v (P_move rfl rfl)) ?_
                            first | (refine L_val rfl rfl rfl (OpP.v (P_addN rfl rfl rfl (by simp only [fits]; omega))) ?_) | (refine L_val rfl rfl rfl (OpP.v (P_add rfl rfl rfl)) ?_)
                            refine L_val rfl rfl rfl (OpP.v (P_assign rfl rfl)) ?_
                            refine L_nil ?_
                            exact Q_round (n + 1) (by show n + 1 ≤ l.length; omega) (by show l.length - (n + 1) < l.length - n; omega) (by repeat (first | exact .nil | refine .cons rfl ?_ | refine .consE rfl (by first | rfl | (congr 1; omega) | (congr 1; push_cast; omega)) ?_)) (Weak.drop (Weak.refl _))
                        · skip
                          refine L_val rfl rfl rfl (OpP.v (P_move rfl rfl)) ?_
                          refine L_no rfl rfl rfl ?_
                          refine L_no rfl rfl rfl ?_
                          refine L_no rfl rfl rfl ?_
                          refine L_no rfl rfl rfl ?_
                          refine L_no rfl rfl rfl ?_
                          refine L_no rfl rfl rfl ?_
                          refine L_no rfl rfl rfl ?_
                          refine L_no rfl rfl rfl ?_
                          refine L_no rfl rfl rfl ?_
                          refine L_no rfl rfl rfl ?_
                          refine L_no rfl rfl rfl ?_
                          refine L_no rfl rfl rfl ?_
                          refine L_no rfl rfl rfl ?_
                          refine L_no rfl rfl rfl ?_
                          refine L_no rfl rfl rfl ?_
                          refine L_no rfl rfl rfl ?_
                          refine L_no rfl rfl rfl ?_
                          refine L_no rfl rfl rfl ?_
                          refine L_no rfl rfl rfl ?_
                          refine L_val rfl rfl rfl (OpP.v (P_pick rfl rfl rfl)) ?_
                          refine L_nil ?_
                          refine Q_then ?_
                          refine R_condF rfl ?_
                          refine R_skip ?_
                          refine Q_block ?_
                          refine Q_then ?_
                          refine R_region ?_
                          refine L_val rfl rfl rfl (OpP.v (P_move rfl rfl)) ?_
                          first | (refine L_val rfl rfl rfl (OpP.v (P_addN rfl rfl rfl (by simp only [fits]; omega))) ?_) | (refine L_val rfl rfl rfl (OpP.v (P_add rfl rfl rfl)) ?_)
                          refine L_val rfl rfl rfl (OpP.v (P_assign rfl rfl)) ?_
                          refine L_nil ?_
                          exact Q_round (n + 1) (by show n + 1 ≤ l.length; omega) (by show l.length - (n + 1) < l.length - n; omega) (by repeat (first | exact .nil | refine .cons rfl ?_ | refine .consE rfl (by first | rfl | (congr 1; omega) | (congr 1; push_cast; omega)) ?_)) (Weak.drop (Weak.refl _))
                    · skip
                      refine L_val rfl rfl rfl (OpP.v (P_move rfl rfl)) ?_
                      refine L_no rfl rfl rfl ?_
                      refine L_no rfl rfl rfl ?_
                      refine L_no rfl rfl rfl ?_
                      refine L_no rfl rfl rfl ?_
                      refine L_no rfl rfl rfl ?_
                      refine L_val rfl rfl rfl (OpP.v (P_pick rfl rfl rfl)) ?_
                      refine L_nil ?_
                      refine Q_then ?_
                      refine R_condF rfl ?_
                      refine R_skip ?_
                      refine Q_then ?_
                      refine R_seq ?_
                      refine R_region ?_
                      refine L_val rfl rfl rfl (OpP.v (P_move rfl rfl)) ?_
                      refine L_val rfl rfl rfl (OpP.v (P_len rfl ty_sl_33 rfl)) ?_
                      refine L_val rfl rfl rfl (OpP.v (P_gtr rfl rfl rfl)) ?_
                      refine E_bool (t := 202) rfl (fun c2 => ?_) (fun c2 => ?_)
                      · skip
                        have c2 : 0 < R.length := by have := of_decide_eq_true c2; omega
                        have hbb := bt_use (hR.best lst (hl0 (by omega)) _ hcm hnR)
                        refine L_val rfl rfl rfl (OpP.v (P_move rfl rfl)) ?_
                        refine L_val rfl rfl rfl (OpP.v (P_fld0 rfl ty_fl_39_2 rfl)) ?_
                        refine L_val rfl rfl rfl (V_load rfl rfl ty_sc_23 (Rd.blk .h0 rfl)) ?_
                        refine L_val rfl rfl rfl (OpP.v (P_fld0 rfl ty_fl_37_1 rfl)) ?_
                        refine L_val rfl rfl rfl (V_load rfl rfl ty_sc_23 (Rd.blk .h1 rfl)) ?_
                        refine L_val rfl rfl rfl (OpP.v (P_gtr rfl rfl rfl)) ?_
                        refine E_false (t := 208) rfl (decide_eq_false (by omega)) ?_
                        refine L_val rfl rfl rfl (OpP.v (P_move rfl rfl)) ?_
                        refine L_val rfl rfl rfl (OpP.v (P_fld0 rfl ty_fl_39_2 rfl)) ?_
                        refine L_val rfl rfl rfl (V_load rfl rfl ty_sc_23 (Rd.blk .h0 rfl)) ?_
                        refine L_val rfl rfl rfl (OpP.v (P_fld0 rfl ty_fl_37_1 rfl)) ?_
                        refine L_val rfl rfl rfl (V_load rfl rfl ty_sc_23 (Rd.blk .h1 rfl)) ?_
                        refine L_val rfl rfl rfl (OpP.v (P_eql rfl rfl rfl)) ?_
                        refine E_bool (t := 214) rfl (fun c3 => ?_) (fun c3 => ?_)
                        · skip
                          have c3 := of_decide_eq_true c3
                          refine L_val rfl rfl rfl (OpP.v (P_move rfl rfl)) ?_
                          refine L_val rfl rfl rfl (OpP.v (P_fld0 rfl ty_fl_39_0 rfl)) ?_
                          refine L_val rfl rfl rfl (V_load rfl rfl ty_sc_35 (Rd.blk .h0 rfl)) ?_
                          refine L_val rfl rfl rfl (OpP.v (P_fld0 rfl ty_fl_37_0 rfl)) ?_
                          refine L_val rfl rfl rfl (V_load rfl rfl ty_sc_35 (Rd.blk .h1 rfl)) ?_
                          refine L_val rfl rfl rfl (OpP.v (P_lss rfl rfl rfl)) ?_
                          refine E_false (t := 220) rfl (decide_eq_false (by omega)) ?_
                          refine L_val rfl rfl rfl (OpP.v (P_pick rfl rfl rfl)) ?_
                          refine L_val rfl rfl rfl (OpP.v (P_pick rfl rfl rfl)) ?_
                          refine L_val rfl rfl rfl (OpP.v (P_pick rfl rfl rfl)) ?_
                          refine L_nil ?_
                          refine Q_then ?_
                          refine R_condF rfl ?_
                          refine R_skip ?_
                          refine Q_block ?_
                          refine Q_then ?_
                          refine R_region ?_
                          refine L_val rfl rfl rfl (OpP.v (P_move rfl rfl)) ?_
                          first | (refine L_val rfl rfl rfl (OpP.v (P_addN rfl rfl rfl (by simp only [fits]; omega))) ?_) | (refine L_val rfl rfl rfl (OpP.v (P_add rfl rfl rfl)) ?_)
                          refine L_val rfl rfl rfl (OpP.v (P_assign rfl rfl)) ?_
                          refine L_nil ?_
                          exact Q_round (n + 1) (by show n + 1 ≤ l.length; omega) (by show l.length - (n + 1) < l.length - n; omega) (by repeat (first | exact .nil | refine .cons rfl ?_ | refine .consE rfl (by first | rfl | (congr 1; omega) | (congr 1; push_cast; omega)) ?_)) (Weak.drop (Weak.refl _))
                        · skip
                          refine L_val rfl rfl rfl (OpP.v (P_move rfl rfl)) ?_
                          refine L_no rfl rfl rfl ?_
                          refine L_no rfl rfl rfl ?_
                          refine L_no rfl rfl rfl ?_
                          refine L_no rfl rfl rfl ?_
                          refine L_no rfl rfl rfl ?_
                          refine L_val rfl rfl rfl (OpP.v (P_pick rfl rfl rfl)) ?_
                          refine L_val rfl rfl rfl (OpP.v (P_pick rfl rfl rfl)) ?_
                          refine L_val rfl rfl rfl (OpP.v (P_pick rfl rfl rfl)) ?_
                          refine L_nil ?_
                          refine Q_then ?_
                          refine R_condF rfl ?_
                          refine R_skip ?_
                          refine Q_block ?_
                          refine Q_then ?_
                          refine R_region ?_
                          refine L_val rfl rfl rfl (OpP.v (P_move rfl rfl)) ?_
                          first | (refine L_val rfl rfl rfl (OpP.v (P_addN rfl rfl rfl (by simp only [fits]; omega))) ?_) | (refine L_val rfl rfl rfl (OpP.v (P_add rfl rfl rfl)) ?_)
                          refine L_val rfl rfl rfl (OpP.v (P_assign rfl rfl)) ?_
                          refine L_nil ?_
                          exact Q_round (n + 1) (by show n + 1 ≤ l.length; omega) (by show l.length - (n + 1) < l.length - n; omega) (by repeat (first | exact .nil | refine .cons rfl ?_ | refine .consE rfl (by first | rfl | (congr 1; omega) | (congr 1; push_cast; omega)) ?_)) (Weak.drop (Weak.refl _))
                      · skip
                        refine L_val rfl rfl rfl (OpP.v (P_move rfl rfl)) ?_
                        refine L_no rfl rfl rfl ?_
                        refine L_no rfl rfl rfl ?_
                        refine L_no rfl rfl rfl ?_
                        refine L_no rfl rfl rfl ?_
                        refine L_no rfl rfl rfl ?_
                        refine L_no rfl rfl rfl ?_
                        refine L_no rfl rfl rfl ?_
                        refine L_no rfl rfl rfl ?_
                        refine L_no rfl rfl rfl ?_
                        refine L_no rfl rfl rfl ?_
                        refine L_no rfl rfl rfl ?_
                        refine L_no rfl rfl rfl ?_
                        refine L_no rfl rfl rfl ?_
                        refine L_no rfl rfl rfl ?_
                        refine L_no rfl rfl rfl ?_
                        refine L_no rfl rfl rfl ?_
                        refine L_no rfl rfl rfl ?_
                        refine L_no rfl rfl rfl ?_
                        refine L_no rfl rfl rfl ?_
                        refine L_val rfl rfl rfl (OpP.v (P_pick rfl rfl rfl)) ?_
                        refine L_nil ?_
                        refine Q_then ?_
                        refine R_condF rfl ?_
                        refine R_skip ?_
                        refine Q_block ?_
                        refine Q_then ?_
                        refine R_region ?_
                        refine L_val rfl rfl rfl (OpP.v (P_move rfl rfl)) ?_
                        first | (refine L_val rfl rfl rfl (OpP.v (P_addN rfl rfl rfl (by simp only [fits]; omega))) ?_) | (refine L_val rfl rfl rfl (OpP.v (P_add rfl rfl rfl)) ?_)
                        refine L_val rfl rfl rfl (OpP.v (P_assign rfl rfl)) ?_
                        refine L_nil ?_
                        exact Q_round (n + 1) (by show n + 1 ≤ l.length; omega) (by show l.length - (n + 1) < l.length - n; omega) (by repeat (first | exact .nil | refine .cons rfl ?_ | refine .consE rfl (by first | rfl | (congr 1; omega) | (congr 1; push_cast; omega)) ?_)) (Weak.drop (Weak.refl _))
        · skip
          refine R_exit ?_
          refine Q_then_exit ?_
          refine Q_then_exit ?_
          refine Q_block_eq ?_
          refine St.env (.cons (t := 4) rfl .nil) ?_
          refine Q_then ?_
          refine R_seq ?_
          refine R_region ?_
          refine L_val rfl rfl rfl (OpP.v (P_assign rfl rfl)) ?_
          refine L_nil ?_
          refine Q_then ?_
          refine R_ret ?_
          exact R_endV rfl rfl (.tmp rfl .nil) (rfl)
end Go.Proofs.Ytfhjhaogmdaepaa
