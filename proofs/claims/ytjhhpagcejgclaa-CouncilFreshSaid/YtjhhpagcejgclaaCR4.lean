/- Walks: the reference's Renew. Printed by gen.py. -/
import Derived.Test.YtjhhpagcejgclaaCR3
set_option linter.unusedVariables false
set_option linter.unusedSimpArgs false
set_option maxRecDepth 100000
namespace Go.Proofs.Ytjhhpagcejgclaa
open Go Go.RowKit Go.Proofs
set_option maxHeartbeats 4000000 in
theorem rRenew_ok {gl : Nat → Obj} (base1 : Option Addr) (c1 : Nat) (l1 : List Mem) (hc1 : l1.length ≤ c1) (hmax1 : l1.length ≤ 5864062014700) (hok1 : ∀ m ∈ l1, m.ok) (base : Option Addr) (c : Nat) (l : List Mem) (hc : l.length ≤ c) (hmax : l.length ≤ 5864062014700) (hok : ∀ m ∈ l, m.ok) : Spec (cx gl) 38 [.agg [.slice base1 l1.length c1].toArray, .slice base l.length c] (fun w _ => Row w base1 (memC l1) ∧ Row w base (memC l)) [] (fun v rs => ∃ u, v = .tuple #[.agg [u].toArray, .int .i64 (renE l1 l)] ∧ rs = [ownS 48 3 (u) ((renM l1 l).length) (memC (renM l1 l))]) := by
  refine Spec.enter (C := cx gl) Try.func38 rfl 73 rfl rfl fun w0 h0 hsep hsub hpre => ?_
  obtain rfl : h0 = Heap.none := hsep
  show St (cx gl) _ [(0, .agg [.slice base1 l1.length c1].toArray), (1, .slice base l.length c)] _ _
  refine R_seq ?_
  refine R_region ?_
  refine L_op rfl (W_box ([.slice base1 l1.length c1]) rfl rfl rfl rfl rfl fun b2 => ?_)
  refine L_op rfl (W_alloc rfl rfl rfl ty_ze_25 fun b4 => ?_)
  refine L_val rfl rfl rfl (OpP.v (P_assign rfl rfl)) ?_
  refine L_nil ?_
  refine St.env (.cons (t := 1) rfl (.cons (t := 2) rfl (.cons (t := 4) rfl (.cons (t := 5) rfl .nil)))) ?_
  refine Q_then ?_
  refine R_seq ?_
  refine R_region ?_
  refine L_val rfl rfl rfl (V_loadAgg rfl rfl ty_ag_25 (Rds.blk .h1) (rfl)) ?_
  refine L_op rfl (W_callV rfl rfl rfl rfl fn_ca_20 (rSound_ok base1 c1 l1 hc1 hmax1 hok1) ((Sn.row hpre.1 rfl).rw_) ?_)
  refine L_val rfl rfl rfl (OpP.v (P_assign rfl rfl)) ?_
  refine L_nil ?_
  refine St.env (.cons (t := 1) rfl (.cons (t := 2) rfl (.cons (t := 4) rfl (.cons (t := 5) rfl (.cons (t := 6) rfl .nil))))) ?_
  refine Q_then ?_
  refine R_seq ?_
  refine R_seq ?_
  refine R_region ?_
  refine L_val rfl rfl rfl (OpP.v (P_move rfl rfl)) ?_
  refine L_val rfl rfl rfl (OpP.v (P_neq rfl rfl rfl)) ?_
  refine L_nil ?_
  refine St.env (.cons (t := 1) rfl (.cons (t := 2) rfl (.cons (t := 4) rfl (.cons (t := 5) rfl (.cons (t := 6) rfl (.cons (t := 15) rfl .nil)))))) ?_
  refine Q_then ?_
  refine R_condP rfl (fun he => ?_) (fun he => ?_)
  · skip
    have hE : renE l1 l ≠ 0 := by rw [renE_bad he]; exact he
    refine R_seq ?_
    refine R_region ?_
    refine L_val rfl rfl rfl (OpP.v (P_buildStruct rfl ty_pl_25 ty_ze_25 rfl rfl (rfl))) ?_
    refine E_as (t := 16) (v' := .agg [.slice none 0 0].toArray) rfl rfl ?_
    refine L_val rfl rfl rfl (OpP.v (P_move rfl rfl)) ?_
    refine L_op rfl (W_storeAll rfl rfl rfl rfl ty_ag_25 (rfl) (by intro v hv; simp only [List.mem_singleton] at hv; subst hv; rfl) .h0 (rfl) ?_)
    refine L_val rfl rfl rfl (OpP.v (P_assign rfl rfl)) ?_
    refine L_nil ?_
    refine St.env (.cons (t := 1) rfl (.cons (t := 2) rfl (.cons (t := 4) rfl (.cons (t := 5) rfl (.cons (t := 6) rfl .nil))))) ?_
    refine Q_then ?_
    refine R_ret ?_
    refine Q_then_ret ?_
    exact R_end (rs2 := [ownS 48 3 (.slice none 0 0) ((renM l1 l).length) (memC (renM l1 l))]) rfl rfl (.cell rfl (Rds.loadVar ty_ag_25 (Rds.blk .h0) rfl) (.tmp rfl .nil)) (⟨_, by rw [renE_bad he]; rfl, rfl⟩) (Weak.trans (Weak.newNil (T := 48) (sz := 3)) (Weak.keep_to (fun h hh => by rw [renM_bad hE]; exact hh)))
  · skip
    have he : soundE l1 = 0 := Classical.not_not.1 he
    refine R_skip ?_
    refine Q_then ?_
    refine R_seq ?_
    refine R_region ?_
    refine L_val rfl rfl rfl (OpP.v (P_move rfl rfl)) ?_
    refine L_op rfl (W_call rfl rfl rfl rfl fn_ca_16 (rNew_ok base c l hc hmax hok) (Split.nil _) (fun w a b _ hb dj m => (Sn.row hpre.2 rfl).rw_ w ⟨_, hb, m.le (Heap.le_join_right dj)⟩) fun v1 rs1 ⟨u, e1, e2⟩ => ?_)
    subst e1; subst e2
    refine St.ownForm (p := []) fun wb wc huv hwc => ?_
    subst huv
    refine L_val rfl rfl rfl (OpP.v (P_move rfl rfl)) ?_
    refine L_val rfl rfl rfl (OpP.v (P_extract rfl rfl rfl)) ?_
    refine L_val rfl rfl rfl (OpP.v (P_extract rfl rfl rfl)) ?_
    refine L_op rfl (W_alloc rfl rfl rfl ty_ze_25 fun b7 => ?_)
    refine L_op rfl (W_storeAll rfl rfl rfl rfl ty_ag_25 (rfl) (by intro v hv; simp only [List.mem_singleton] at hv; subst hv; rfl) .h0 (rfl) ?_)
    refine L_val rfl rfl rfl (OpP.v (P_assign rfl rfl)) ?_
    refine L_nil ?_
    refine St.env (.cons (t := 2) rfl (.cons (t := 4) rfl (.cons (t := 5) rfl (.cons (t := 6) rfl (.cons (t := 7) rfl .nil))))) ?_
    refine Q_then ?_
    refine R_seq ?_
    refine R_seq ?_
    refine R_region ?_
    refine L_val rfl rfl rfl (OpP.v (P_move rfl rfl)) ?_
    refine L_val rfl rfl rfl (OpP.v (P_neq rfl rfl rfl)) ?_
    refine L_nil ?_
    refine St.env (.cons (t := 2) rfl (.cons (t := 4) rfl (.cons (t := 5) rfl (.cons (t := 6) rfl (.cons (t := 7) rfl (.cons (t := 24) rfl .nil)))))) ?_
    refine Q_then ?_
    refine R_condP rfl (fun hm => ?_) (fun hm => ?_)
    · skip
      have hE : renE l1 l ≠ 0 := by rw [renE_mem he]; exact hm
      refine R_seq ?_
      refine R_region ?_
      refine L_val rfl rfl rfl (OpP.v (P_buildStruct rfl ty_pl_25 ty_ze_25 rfl rfl (rfl))) ?_
      refine E_as (t := 25) (v' := .agg [.slice none 0 0].toArray) rfl rfl ?_
      refine L_val rfl rfl rfl (OpP.v (P_move rfl rfl)) ?_
      refine L_op rfl (W_storeAll rfl rfl rfl rfl ty_ag_25 (rfl) (by intro v hv; simp only [List.mem_singleton] at hv; subst hv; rfl) .h2 (rfl) ?_)
      refine L_val rfl rfl rfl (OpP.v (P_assign rfl rfl)) ?_
      refine L_nil ?_
      refine St.env (.cons (t := 2) rfl (.cons (t := 4) rfl (.cons (t := 5) rfl (.cons (t := 7) rfl .nil)))) ?_
      refine Q_then ?_
      refine R_ret ?_
      refine Q_then_ret ?_
      exact R_end (rs2 := [ownS 48 3 (.slice none 0 0) ((renM l1 l).length) (memC (renM l1 l))]) rfl rfl (.cell rfl (Rds.loadVar ty_ag_25 (Rds.blk .h2) rfl) (.tmp rfl .nil)) (⟨_, by rw [renE_mem he]; rfl, rfl⟩) (Weak.trans (Weak.newNil (T := 48) (sz := 3)) (Weak.keep_to (fun h hh => by rw [renM_bad hE]; exact hh)))
    · skip
      have hm : memE l = 0 := Classical.not_not.1 hm
      have hE : renE l1 l = 0 := by rw [renE_mem he, hm]
      have hf := fine_of hm
      have hp0 : ∀ m ∈ l, 0 ≤ m.p := fun m hm => (hok m hm).2.1.1
      have hms : msK = 1152921504606846975 := rfl
      have hS1 := hf.tot
      have hT0 := (play_new hok hm).1.t0
      have hpos := hf.pos
      have hfew := hf.few
      have hpos1 := (sound_fine he).1.pos
      rw [newM_fine hm]
      obtain ⟨X, hX⟩ : ∃ X, X = newL l := ⟨_, rfl⟩
      rw [← hX]
      have hXl : X.length = l.length := by rw [hX, newL_length]
      have hXs : sumP X = sumP l := by rw [hX, newL_sum]
      have hXok : ∀ m ∈ X, m.ok := by rw [hX]; exact newL_ok hok
      refine St.ownSome (p := [_]) (by omega) fun ub uc hwv huc => ?_
      obtain ⟨rfl, rfl⟩ : wb = _ ∧ uc = wc := by injection hwv with h1 h2 h3; exact ⟨h1, h3.symm⟩
      obtain ⟨pb1, pj1, rfl, hrow1⟩ := hpre.1.some_ (by rw [memC_length]; omega)
      have hT80 : 0 ≤ sumP l / 8 := by omega
      have hb1 : ∀ m ∈ X.map (fillM l1 (sumP l)), -(7 * msK) ≤ m.q ∧ m.q ≤ 7 * msK := by rw [hX]; exact filL_bd he (by omega) hS1
      have hb2 := narL_bd (l := X.map (fillM l1 (sumP l))) hT0 hb1
      refine R_skip ?_
      refine Q_then ?_
      refine R_seq ?_
      refine R_region ?_
      refine L_val rfl rfl rfl (OpP.v (P_fld0 rfl ty_fl_25_0 rfl)) ?_
      refine L_val rfl rfl rfl (V_load rfl rfl ty_sc_22 (Rd.blk .h0 rfl)) ?_
      refine L_val rfl rfl rfl (OpP.v (P_assign rfl rfl)) ?_
      refine L_nil ?_
      refine St.env (.cons (t := 2) rfl (.cons (t := 4) rfl (.cons (t := 5) rfl (.cons (t := 8) rfl .nil)))) ?_
      refine Q_then ?_
      refine R_seq ?_
      refine R_region ?_
      refine L_val rfl rfl rfl (OpP.v (P_move rfl rfl)) ?_
      refine L_op rfl (W_callV rfl rfl rfl rfl fn_ca_46 (rtotal_ok (some ⟨ub, 0, none⟩) uc X huc (by omega) hXok) ((Sn.own .h1 rfl).rw_) ?_)
      refine E_as (t := 30) (v' := .int .u64 (sumP l)) rfl (by rw [rtV_small (fun m hm => (hXok m hm).2.1.1) (by omega), hXs]) ?_
      refine L_val rfl rfl rfl (OpP.v (P_assign rfl rfl)) ?_
      refine L_nil ?_
      refine St.env (.cons (t := 2) rfl (.cons (t := 4) rfl (.cons (t := 5) rfl (.cons (t := 8) rfl (.cons (t := 9) rfl .nil))))) ?_
      refine Q_then ?_
      refine R_seq ?_
      refine R_seq ?_
      refine R_region ?_
      refine L_val rfl rfl rfl (OpP.v (P_assign rfl rfl)) ?_
      refine L_nil ?_
      refine Q_then ?_
      refine R_block ?_
      refine R_loopE (G := Nat) (.cons (t := 2) rfl (.cons (t := 4) rfl (.cons (t := 5) rfl (.cons (t := 8) rfl (.cons (t := 9) rfl .nil))))) (fun g => [(10, .int .i64 (g : Int))]) (fun g => [blk b7 [.slice (some ⟨ub, 0, none⟩) X.length uc] 25, ownS 48 3 (.slice (some ⟨ub, 0, none⟩) X.length uc) (X.length) (memC (mapN (fillM l1 (sumP l)) X g)), blk b4 [.slice none 0 0] 25, blk b2 [.slice (some ⟨pb1, pj1, none⟩) l1.length c1] 25]) (fun g => g ≤ X.length) (fun g => X.length - g) (0) (Nat.zero_le _) (by repeat (first | exact .nil | refine .cons rfl ?_ | refine .consE rfl (by first | rfl | (congr 1; omega) | (congr 1; push_cast; omega)) ?_)) (by rw [mapN_zero]; exact Weak.refl _) ?_
      intro i hinv
      replace hinv : i ≤ X.length := hinv
      show St (cx gl) _ ((10, .int .i64 (i : Int)) :: _) [blk b7 [.slice (some ⟨ub, 0, none⟩) X.length uc] 25, ownS 48 3 (.slice (some ⟨ub, 0, none⟩) X.length uc) (X.length) (memC (mapN (fillM l1 (sumP l)) X i)), blk b4 [.slice none 0 0] 25, blk b2 [.slice (some ⟨pb1, pj1, none⟩) l1.length c1] 25] _
      refine R_seq ?_
      refine R_seq ?_
      refine R_region ?_
      refine L_val rfl rfl rfl (OpP.v (P_move rfl rfl)) ?_
      refine L_val rfl rfl rfl (OpP.v (P_move rfl rfl)) ?_
      refine L_val rfl rfl rfl (OpP.v (P_len rfl ty_sl_22 rfl)) ?_
      refine L_val rfl rfl rfl (OpP.v (P_lss rfl rfl rfl)) ?_
      refine L_nil ?_
      refine Q_then ?_
      refine R_condP rfl (fun hlt => ?_) (fun hlt => ?_)
      · skip
        have hlt' : i < X.length := by omega
        have hm3 := mAt_get hlt'
        have hbn := mapN_at (f := (fillM l1 (sumP l))) hm3
        have hmok := hXok _ (mAt_mem hlt')
        refine R_skip ?_
        refine Q_then ?_
        refine R_seq ?_
        refine R_block ?_
        refine R_seq ?_
        refine R_open [(0, 1), (1, 0), (2, 0), (3, 0), (4, 0), (5, 1), (6, 2), (7, 0)] mixed (by kernel_rfl) (QOk.then (QOk.block (QOk.then (QOk.then (QOk.block (QOk.then QOk.body)))))) ?_
        refine O_val rfl rfl rfl rfl (V_loadAgg rfl rfl ty_ag_25 (Rds.blk .h3) (rfl)) ?_
        refine O_pure rfl rfl rfl rfl (P_move rfl rfl) ?_
        refine O_pure rfl rfl rfl rfl (P_move rfl rfl) ?_
        refine O_pure rfl rfl rfl rfl (P_ixs (i) rfl ty_sl_22 rfl rfl (by first | rfl | omega) (by omega)) ?_
        refine O_pure rfl rfl rfl rfl (P_fld rfl ty_fl_48_0 rfl) ?_
        refine O_val rfl rfl rfl rfl (V_load rfl rfl ty_sc_39 (rdo_mem .h1 hbn rfl)) ?_
        refine O_keep rfl rfl (W_callV rfl rfl rfl rfl fn_ca_35 (rIndex_ok (some ⟨pb1, pj1, none⟩) c1 l1 hc1 hmax1 hok1 (mAt X i).a) ((Sn.row hpre.1 rfl).rw_) (K_keep (Weak.refl _) ?_))
        refine O_pure rfl rfl rfl rfl (P_assign rfl rfl) ?_
        refine O_nil ?_
        refine Q_then ?_
        refine R_seq ?_
        refine R_region ?_
        refine L_val rfl rfl rfl (OpP.v (P_move rfl rfl)) ?_
        refine L_val rfl rfl rfl (OpP.v (P_geq rfl rfl rfl)) ?_
        refine L_nil ?_
        refine Q_then ?_
        refine R_condP rfl (fun hk => ?_) (fun hk => ?_)
        · skip
          have hk : 0 ≤ idxP (isA (mAt X i).a) l1 := hk
          obtain ⟨kk, hkk⟩ : ∃ kk : Nat, idxP (isA (mAt X i).a) l1 = kk := ⟨(idxP (isA (mAt X i).a) l1).toNat, by omega⟩
          have hkl : kk < l1.length := by have h9 := idxP_lt hk; rw [hkk] at h9; simpa using h9
          refine E_as (t := 11) (v' := .int .i64 (kk : Int)) rfl (by rw [hkk]) ?_
          refine R_region ?_
          refine L_val rfl rfl rfl (OpP.v (P_move rfl rfl)) ?_
          refine L_val rfl rfl rfl (OpP.v (P_move rfl rfl)) ?_
          refine L_val rfl rfl rfl (OpP.v (P_fld0 rfl ty_fl_25_0 rfl)) ?_
          refine L_val rfl rfl rfl (V_load rfl rfl ty_sc_22 (Rd.blk .h3 rfl)) ?_
          refine L_val rfl rfl rfl (OpP.v (P_move rfl rfl)) ?_
          refine L_val rfl rfl rfl (OpP.v (P_ixs (kk) rfl ty_sl_22 rfl rfl (by first | rfl | omega) (by omega))) ?_
          refine L_val rfl rfl rfl (OpP.v (P_fld rfl ty_fl_48_2 rfl)) ?_
          refine L_val rfl rfl rfl (V_load rfl rfl ty_sc_2 (rd_mem hrow1 rfl (mAt_get hkl) rfl)) ?_
          refine L_val rfl rfl rfl (OpP.v (P_ixs (i) rfl ty_sl_22 rfl rfl (by first | rfl | omega) (by omega))) ?_
          refine L_val rfl rfl rfl (OpP.v (P_fld rfl ty_fl_48_2 rfl)) ?_
          refine L_op rfl (W_storeOwn1 (T := 48) (sz := 3) (n := X.length) (c := uc) (cs := memC (mapN (fillM l1 (sumP l)) X i)) rfl rfl rfl rfl ty_sc_2 rfl .h1 (by rw [memC_length, mapN_length]; omega) ?_)
          refine St.res (rs' := [blk b7 [.slice (some ⟨ub, 0, none⟩) X.length uc] 25, ownS 48 3 (.slice (some ⟨ub, 0, none⟩) X.length uc) (X.length) (memC (mapN (fillM l1 (sumP l)) X (i + 1))), blk b4 [.slice none 0 0] 25, blk b2 [.slice (some ⟨pb1, pj1, none⟩) l1.length c1] 25]) (by rw [memC_set hbn 2 (by decide) (v := .int .i64 (mAt l1 kk).q) (y := Mem.mk (mAt X i).a (mAt X i).p (mAt l1 kk).q) rfl, fill_step1 hm3 (fill_pos hkk)]; exact Weak.refl _) ?_
          refine L_nil ?_
          refine Q_block ?_
          refine Q_then ?_
          refine R_region ?_
          refine L_val rfl rfl rfl (OpP.v (P_move rfl rfl)) ?_
          first | (refine L_val rfl rfl rfl (OpP.v (P_addN rfl rfl rfl (by simp only [fits]; omega))) ?_) | (refine L_val rfl rfl rfl (OpP.v (P_add rfl rfl rfl)) ?_)
          refine L_val rfl rfl rfl (OpP.v (P_assign rfl rfl)) ?_
          refine L_nil ?_
          exact Q_round (i + 1) (by omega) (by show X.length - (i + 1) < X.length - i; omega) (by repeat (first | exact .nil | refine .cons rfl ?_ | refine .consE rfl (by first | rfl | (congr 1; omega) | (congr 1; push_cast; omega)) ?_)) (Weak.refl _)
        · skip
          have hk : ¬ 0 ≤ idxP (isA (mAt X i).a) l1 := hk
          refine R_region ?_
          refine L_val rfl rfl rfl (OpP.v (P_move rfl rfl)) ?_
          refine L_val rfl rfl rfl (OpP.v (P_move rfl rfl)) ?_
          refine L_val rfl rfl rfl (OpP.v (P_move rfl rfl)) ?_
          refine L_val rfl rfl rfl (OpP.v (P_move rfl rfl)) ?_
          refine L_val rfl rfl rfl (OpP.v (P_quo rfl rfl rfl (by decide))) ?_
          refine E_as (t := 60) (v' := .int .u64 (sumP l / 8)) rfl (by rw [Int.tdiv_eq_ediv_of_nonneg (by omega), wrap_fits (by simp only [fits]; omega)]) ?_
          refine L_val rfl rfl rfl (OpP.v (P_addN rfl rfl rfl (by simp only [fits]; omega))) ?_
          refine L_val rfl rfl rfl (OpP.v (P_convN rfl ty_int_32 ty_int_2 rfl (by simp only [fits]; omega))) ?_
          refine L_val rfl rfl rfl (OpP.v (P_neg rfl rfl)) ?_
          refine E_as (t := 63) (v' := .int .i64 (-(sumP l + sumP l / 8))) rfl (by rw [wrap_fits (by simp only [fits]; omega)]) ?_
          refine L_val rfl rfl rfl (OpP.v (P_ixs (i) rfl ty_sl_22 rfl rfl (by first | rfl | omega) (by omega))) ?_
          refine L_val rfl rfl rfl (OpP.v (P_fld rfl ty_fl_48_2 rfl)) ?_
          refine L_op rfl (W_storeOwn1 (T := 48) (sz := 3) (n := X.length) (c := uc) (cs := memC (mapN (fillM l1 (sumP l)) X i)) rfl rfl rfl rfl ty_sc_2 rfl .h1 (by rw [memC_length, mapN_length]; omega) ?_)
          refine St.res (rs' := [blk b7 [.slice (some ⟨ub, 0, none⟩) X.length uc] 25, ownS 48 3 (.slice (some ⟨ub, 0, none⟩) X.length uc) (X.length) (memC (mapN (fillM l1 (sumP l)) X (i + 1))), blk b4 [.slice none 0 0] 25, blk b2 [.slice (some ⟨pb1, pj1, none⟩) l1.length c1] 25]) (by rw [memC_set hbn 2 (by decide) (v := .int .i64 (-(sumP l + sumP l / 8))) (y := (Mem.mk (mAt X i).a (mAt X i).p (-(sumP l + sumP l / 8)))) rfl, fill_step1 hm3 (fill_neg hk)]; exact Weak.refl _) ?_
          refine L_nil ?_
          refine Q_block ?_
          refine Q_then ?_
          refine R_region ?_
          refine L_val rfl rfl rfl (OpP.v (P_move rfl rfl)) ?_
          first | (refine L_val rfl rfl rfl (OpP.v (P_addN rfl rfl rfl (by simp only [fits]; omega))) ?_) | (refine L_val rfl rfl rfl (OpP.v (P_add rfl rfl rfl)) ?_)
          refine L_val rfl rfl rfl (OpP.v (P_assign rfl rfl)) ?_
          refine L_nil ?_
          exact Q_round (i + 1) (by omega) (by show X.length - (i + 1) < X.length - i; omega) (by repeat (first | exact .nil | refine .cons rfl ?_ | refine .consE rfl (by first | rfl | (congr 1; omega) | (congr 1; push_cast; omega)) ?_)) (Weak.refl _)
      · skip
        have hin : i = X.length := by omega
        rw [hin, mapN_full]
        have h9 := narrowed_ok (gl := gl) (sumP l) (X.map (fillM l1 (sumP l))) (by rw [List.length_map]; omega) (by rw [List.length_map]; omega) hT0 hS1 hb1 ub uc
        rw [List.length_map] at h9
        have h10 := centred_ok (gl := gl) (narL (sumP l) (X.map (fillM l1 (sumP l)))) (by rw [narL_length, List.length_map]; omega) (by rw [narL_length, List.length_map]; omega) hb2 (nar_span hT0 hS1) ub uc
        rw [narL_length, List.length_map] at h10
        refine R_exit ?_
        refine Q_then_exit ?_
        refine Q_then_exit ?_
        refine Q_block_eq ?_
        refine St.env (.cons (t := 4) rfl (.cons (t := 5) rfl (.cons (t := 8) rfl (.cons (t := 9) rfl .nil)))) ?_
        refine Q_then ?_
        refine R_seq ?_
        refine R_region ?_
        refine L_val rfl rfl rfl (OpP.v (P_move rfl rfl)) ?_
        refine L_val rfl rfl rfl (OpP.v (P_move rfl rfl)) ?_
        refine L_op rfl (W_callR rfl rfl rfl rfl fn_ca_57 (h9) (Split.one (p := [_])) (fun _ _ _ _ _ _ _ => trivial) ?_)
        refine L_nil ?_
        refine St.env (.cons (t := 4) rfl (.cons (t := 5) rfl (.cons (t := 8) rfl .nil))) ?_
        refine Q_then ?_
        refine R_seq ?_
        refine St.res (rs' := [blk b7 [.slice (some ⟨ub, 0, none⟩) X.length uc] 25, ownS 48 3 (.slice (some ⟨ub, 0, none⟩) X.length uc) (X.length) (memC (narL (sumP l) (X.map (fillM l1 (sumP l))))), blk b4 [.slice none 0 0] 25, blk b2 [.slice (some ⟨pb1, pj1, none⟩) l1.length c1] 25]) (Weak.pick (p := [_]) (Weak.keep (Weak.keep (Weak.keep (Weak.nil _))))) ?_
        refine R_region ?_
        refine L_val rfl rfl rfl (OpP.v (P_move rfl rfl)) ?_
        refine L_op rfl (W_callR rfl rfl rfl rfl fn_ca_58 (h10) (Split.one (p := [_])) (fun _ _ _ _ _ _ _ => trivial) ?_)
        refine L_nil ?_
        refine St.env (.cons (t := 4) rfl (.cons (t := 5) rfl (.cons (t := 8) rfl .nil))) ?_
        refine Q_then ?_
        refine R_seq ?_
        refine R_region ?_
        refine L_val rfl rfl rfl (OpP.v (P_move rfl rfl)) ?_
        refine L_val rfl rfl rfl (OpP.v (P_buildStruct rfl ty_pl_25 ty_ze_25 rfl rfl (rfl))) ?_
        refine E_as (t := 72) (v' := .agg [.slice (some ⟨ub, 0, none⟩) X.length uc].toArray) rfl rfl ?_
        refine L_op rfl (W_storeAll rfl rfl rfl rfl ty_ag_25 (rfl) (by intro v hv; simp only [List.mem_singleton] at hv; subst hv; rfl) .h2 (rfl) ?_)
        refine L_val rfl rfl rfl (OpP.v (P_assign rfl rfl)) ?_
        refine L_nil ?_
        refine St.env (.cons (t := 4) rfl (.cons (t := 5) rfl .nil)) ?_
        refine Q_then ?_
        refine R_ret ?_
        exact R_end (rs2 := [ownS 48 3 (.slice (some ⟨ub, 0, none⟩) X.length uc) ((renM l1 l).length) (memC (renM l1 l))]) rfl rfl (.cell rfl (Rds.loadVar ty_ag_25 (Rds.blk .h2) rfl) (.tmp rfl .nil)) (⟨_, by rw [hE]; rfl, rfl⟩) (ownS.to2 (by rw [renM_fine hE, renL_length, hXl]) (by rw [renM_fine hE, hX]; rfl))
end Go.Proofs.Ytjhhpagcejgclaa
