/- Walks: what is sound. Printed by gen.py. -/
import Derived.Test.YtjhhpagcejgclaaDoorCouncil
set_option linter.unusedVariables false
set_option linter.unusedSimpArgs false
set_option maxRecDepth 100000
namespace Go.Proofs.YtjhhpagcejgclaaDoor
open Go Go.RowKit Go.Proofs
theorem total_ok {gl : Nat → Obj} (base : Option Addr) (c : Nat) (l : List Mem) (hc : l.length ≤ c) (hmax : l.length ≤ 5864062014700) (hok : ∀ m ∈ l, m.ok) : SpecV (cx gl) 33 [.slice base l.length c] (fun w => Row w base (memC l)) (.tuple #[.int .u64 (totV l), .bool (totOk l)]) := by
  refine Spec.enter (C := cx gl) Tryd.func33 rfl 24 rfl rfl fun w0 h0 hsep hsub hpre => ?_
  obtain rfl : h0 = Heap.none := hsep
  show St (cx gl) _ [(0, .slice base l.length c)] _ _
  have hp0 : ∀ m ∈ l, 0 ≤ m.p := fun m hm => (hok m hm).2.1.1
  refine R_seq ?_
  refine R_region ?_
  refine L_val rfl rfl rfl (OpP.v (P_assign rfl rfl)) ?_
  refine L_val rfl rfl rfl (OpP.v (P_assign rfl rfl)) ?_
  refine L_nil ?_
  refine Q_then ?_
  refine R_seq ?_
  refine R_region ?_
  refine L_val rfl rfl rfl (OpP.v (P_assign rfl rfl)) ?_
  refine L_nil ?_
  refine Q_then ?_
  refine R_seq ?_
  refine R_seq ?_
  refine R_region ?_
  refine L_val rfl rfl rfl (OpP.v (P_move rfl rfl)) ?_
  refine L_val rfl rfl rfl (OpP.v (P_len rfl ty_sl_22 rfl)) ?_
  refine L_val rfl rfl rfl (OpP.v (P_move rfl rfl)) ?_
  refine L_nil ?_
  refine St.env (.cons (t := 2) rfl (.cons (t := 3) rfl (.cons (t := 4) rfl (.cons (t := 7) rfl (.cons (t := 8) rfl (.cons (t := 9) rfl .nil)))))) ?_
  refine Q_then ?_
  refine R_block ?_
  refine R_loopE (G := Nat) (.cons (t := 2) rfl (.cons (t := 3) rfl (.cons (t := 7) rfl (.cons (t := 8) rfl .nil)))) (fun g => [(4, .int .u64 (sumP (l.take g))), (9, .int .i64 (g : Int))]) (fun g => []) (fun g => g ≤ l.length ∧ sumP (l.take g) ≤ msK) (fun g => l.length - g) (0) (⟨Nat.zero_le _, by show (0 : Int) ≤ msK; decide⟩) (by repeat (first | exact .nil | refine .cons rfl ?_ | refine .consE rfl (by first | rfl | (congr 1; omega) | (congr 1; push_cast; omega)) ?_)) (Weak.refl _) ?_
  intro i hinv
  replace hinv : i ≤ l.length ∧ sumP (l.take i) ≤ msK := hinv
  show St (cx gl) _ ((4, .int .u64 (sumP (l.take i))) :: (9, .int .i64 (i : Int)) :: _) [] _
  obtain ⟨hi, hs⟩ := hinv
  have hs0 := sumP_nonneg (l := l.take i) fun m hm => hp0 m (List.mem_of_mem_take hm)
  have hsl := sumP_take hp0 i
  refine R_seq ?_
  refine R_region ?_
  refine L_val rfl rfl rfl (OpP.v (P_lss rfl rfl rfl)) ?_
  refine L_nil ?_
  refine Q_then ?_
  refine R_seq ?_
  refine R_condP rfl (fun hlt => ?_) (fun hlt => ?_)
  · skip
    obtain ⟨m, hm⟩ : ∃ m, l[i]? = some m := ⟨_, List.getElem?_eq_getElem (by omega)⟩
    obtain ⟨pb, pj, rfl, hrow⟩ := hpre.some_ (by rw [memC_length]; omega)
    obtain ⟨⟨ha1, ha2⟩, ⟨hp1, hp2⟩, hq1, hq2⟩ := hok m (List.mem_of_getElem? hm)
    have hsn := sumP_snoc hm
    have hms : msK = 1152921504606846975 := rfl
    refine R_skip ?_
    refine Q_then ?_
    refine R_seq ?_
    refine R_block ?_
    refine R_seq ?_
    refine R_region ?_
    refine L_val rfl rfl rfl (OpP.v (P_ixs (i) rfl ty_sl_22 rfl rfl (by first | rfl | omega) (by omega))) ?_
    refine L_val rfl rfl rfl (V_loadAgg rfl rfl ty_ag_37 (rds_mem hrow rfl hm) (rfl)) ?_
    refine L_op rfl (W_alloc rfl rfl rfl ty_ze_37 fun b6 => ?_)
    refine L_op rfl (W_storeAll rfl rfl rfl rfl ty_ag_37 (rfl) (Mem.cells_one _) .h0 (rfl) ?_)
    refine L_nil ?_
    refine Q_then ?_
    refine R_seq ?_
    refine R_seq ?_
    refine R_region ?_
    refine L_val rfl rfl rfl (OpP.v (P_fld0 rfl ty_fl_37_1 rfl)) ?_
    refine L_val rfl rfl rfl (V_load rfl rfl ty_sc_34 (by first | exact Rd.blk .h0 rfl | exact Rd.blk .h1 rfl | exact Rd.blk .h2 rfl | exact Rd.blk .h3 rfl | exact Rd.blk .h4 rfl | exact Rd.blk .h5 rfl | exact Rd.blk .h6 rfl | exact Rd.blk .h7 rfl)) ?_
    refine L_val rfl rfl rfl (OpP.v (P_move rfl rfl)) ?_
    first | (refine L_val rfl rfl rfl (OpP.v (P_subN rfl rfl rfl (by simp only [fits]; omega))) ?_) | (refine L_val rfl rfl rfl (OpP.v (P_sub rfl rfl rfl)) ?_)
    refine L_val rfl rfl rfl (OpP.v (P_gtr rfl rfl rfl)) ?_
    refine L_nil ?_
    refine Q_then ?_
    refine R_condP rfl (fun hbig => ?_) (fun hbig => ?_)
    · skip
      refine R_seq ?_
      refine R_region ?_
      refine L_val rfl rfl rfl (OpP.v (P_assign rfl rfl)) ?_
      refine L_val rfl rfl rfl (OpP.v (P_assign rfl rfl)) ?_
      refine L_nil ?_
      refine Q_then ?_
      refine R_ret ?_
      refine Q_then_ret ?_
      refine Q_block_ret ?_
      refine Q_then_ret ?_
      refine Q_then_ret ?_
      refine Q_block_ret ?_
      refine Q_then_ret ?_
      exact R_endV rfl rfl (.tmp rfl (.tmp rfl .nil)) (by have h9 := sumP_take hp0 (i + 1); unfold totV totOk; rw [if_neg (by omega), decide_eq_false (by omega)]; rfl)
    · skip
      have hnew : sumP (l.take (i + 1)) ≤ msK := by rw [hsn]; omega
      refine R_skip ?_
      refine Q_then ?_
      refine R_region ?_
      refine L_val rfl rfl rfl (OpP.v (P_move rfl rfl)) ?_
      refine L_val rfl rfl rfl (OpP.v (P_fld0 rfl ty_fl_37_1 rfl)) ?_
      refine L_val rfl rfl rfl (V_load rfl rfl ty_sc_34 (by first | exact Rd.blk .h0 rfl | exact Rd.blk .h1 rfl | exact Rd.blk .h2 rfl | exact Rd.blk .h3 rfl | exact Rd.blk .h4 rfl | exact Rd.blk .h5 rfl | exact Rd.blk .h6 rfl | exact Rd.blk .h7 rfl)) ?_
      first | (refine L_val rfl rfl rfl (OpP.v (P_addN rfl rfl rfl (by simp only [fits]; omega))) ?_) | (refine L_val rfl rfl rfl (OpP.v (P_add rfl rfl rfl)) ?_)
      refine E_as (t := 21) (v' := .int .u64 (sumP (l.take (i + 1)))) rfl (by rw [hsn]) ?_
      refine L_val rfl rfl rfl (OpP.v (P_assign rfl rfl)) ?_
      refine L_nil ?_
      refine Q_block ?_
      refine Q_then ?_
      refine R_region ?_
      first | (refine L_val rfl rfl rfl (OpP.v (P_addN rfl rfl rfl (by simp only [fits]; omega))) ?_) | (refine L_val rfl rfl rfl (OpP.v (P_add rfl rfl rfl)) ?_)
      refine L_val rfl rfl rfl (OpP.v (P_move rfl rfl)) ?_
      refine L_nil ?_
      exact Q_round (i + 1) (⟨by omega, hnew⟩) (by show l.length - (i + 1) < l.length - i; omega) (by repeat (first | exact .nil | refine .cons rfl ?_ | refine .consE rfl (by first | rfl | (congr 1; omega) | (congr 1; push_cast; omega)) ?_)) (Weak.nil _)
  · skip
    have hin : i = l.length := by omega
    rw [hin, List.take_length] at hs
    refine R_exit ?_
    refine Q_then_exit ?_
    refine Q_then_exit ?_
    refine Q_block_eq ?_
    refine St.env (.cons (t := 2) rfl (.cons (t := 3) rfl (.cons (t := 4) rfl .nil))) ?_
    refine Q_then ?_
    refine R_seq ?_
    refine R_region ?_
    refine L_val rfl rfl rfl (OpP.v (P_move rfl rfl)) ?_
    refine L_val rfl rfl rfl (OpP.v (P_assign rfl rfl)) ?_
    refine L_val rfl rfl rfl (OpP.v (P_assign rfl rfl)) ?_
    refine L_nil ?_
    refine St.env (.cons (t := 2) rfl (.cons (t := 3) rfl .nil)) ?_
    refine Q_then ?_
    refine R_ret ?_
    have hlen : l.take i = l := by rw [hin, List.take_length]
    exact R_endV rfl rfl (.tmp rfl (.tmp rfl .nil)) (by rw [hlen]; unfold totV totOk; rw [if_pos hs, decide_eq_true hs]; rfl)
theorem members_ok {gl : Nat → Obj} (base : Option Addr) (c : Nat) (l : List Mem) (hc : l.length ≤ c) (hmax : l.length ≤ 5864062014700) (hok : ∀ m ∈ l, m.ok) : SpecV (cx gl) 18 [.slice base l.length c] (fun w => Row w base (memC l)) (.tuple #[.int .u64 (memT l), .int .i64 (memE l)]) := by
  refine Spec.enter (C := cx gl) Tryd.func18 rfl 59 rfl rfl fun w0 h0 hsep hsub hpre => ?_
  obtain rfl : h0 = Heap.none := hsep
  show St (cx gl) _ [(0, .slice base l.length c)] _ _
  have hp0 : ∀ m ∈ l, 0 ≤ m.p := fun m hm => (hok m hm).2.1.1
  refine R_seq ?_
  refine R_region ?_
  refine L_val rfl rfl rfl (OpP.v (P_assign rfl rfl)) ?_
  refine L_val rfl rfl rfl (OpP.v (P_assign rfl rfl)) ?_
  refine L_nil ?_
  refine Q_then ?_
  refine R_seq ?_
  refine R_block ?_
  refine R_seq ?_
  refine R_region ?_
  refine L_val rfl rfl rfl (OpP.v (P_move rfl rfl)) ?_
  refine L_val rfl rfl rfl (OpP.v (P_len rfl ty_sl_22 rfl)) ?_
  refine L_val rfl rfl rfl (OpP.v (P_eql rfl rfl rfl)) ?_
  refine L_val rfl rfl rfl (OpP.v (P_assign rfl rfl)) ?_
  refine L_nil ?_
  refine St.env (.cons (t := 0) rfl (.cons (t := 2) rfl (.cons (t := 3) rfl (.cons (t := 8) rfl .nil)))) ?_
  refine Q_then ?_
  refine R_condP rfl (fun h0 => ?_) (fun h0 => ?_)
  · skip
    refine R_seq ?_
    refine R_region ?_
    refine L_val rfl rfl rfl (OpP.v (P_assign rfl rfl)) ?_
    refine L_val rfl rfl rfl (OpP.v (P_assign rfl rfl)) ?_
    refine L_nil ?_
    refine St.env (.cons (t := 0) rfl (.cons (t := 2) rfl (.cons (t := 3) rfl .nil))) ?_
    refine Q_then ?_
    refine R_ret ?_
    refine Q_block_ret ?_
    refine Q_then_ret ?_
    exact R_endV rfl rfl (.tmp rfl (.tmp rfl .nil)) (by unfold memT; rw [show memE l = 53 by unfold memE; rw [if_pos (by omega)]]; rfl)
  · skip
    refine R_seq ?_
    refine R_region ?_
    refine L_val rfl rfl rfl (OpP.v (P_move rfl rfl)) ?_
    refine L_val rfl rfl rfl (OpP.v (P_len rfl ty_sl_22 rfl)) ?_
    refine L_val rfl rfl rfl (OpP.v (P_gtr rfl rfl rfl)) ?_
    refine L_val rfl rfl rfl (OpP.v (P_assign rfl rfl)) ?_
    refine L_nil ?_
    refine St.env (.cons (t := 0) rfl (.cons (t := 2) rfl (.cons (t := 3) rfl (.cons (t := 12) rfl .nil)))) ?_
    refine Q_then ?_
    refine R_condP rfl (fun h1 => ?_) (fun h1 => ?_)
    · skip
      refine R_seq ?_
      refine R_region ?_
      refine L_val rfl rfl rfl (OpP.v (P_assign rfl rfl)) ?_
      refine L_val rfl rfl rfl (OpP.v (P_assign rfl rfl)) ?_
      refine L_nil ?_
      refine St.env (.cons (t := 0) rfl (.cons (t := 2) rfl (.cons (t := 3) rfl .nil))) ?_
      refine Q_then ?_
      refine R_ret ?_
      refine Q_block_ret ?_
      refine Q_then_ret ?_
      exact R_endV rfl rfl (.tmp rfl (.tmp rfl .nil)) (by unfold memT; rw [show memE l = 4 by unfold memE; rw [if_neg (by omega), if_pos (by omega)]]; rfl)
    · skip
      have h0 : ¬ l.length = 0 := by omega
      have h1 : ¬ 64 < l.length := by omega
      refine R_skip ?_
      refine Q_block ?_
      refine Q_then ?_
      refine R_seq ?_
      refine R_seq ?_
      refine R_region ?_
      refine L_val rfl rfl rfl (OpP.v (P_move rfl rfl)) ?_
      refine L_val rfl rfl rfl (OpP.v (P_len rfl ty_sl_22 rfl)) ?_
      refine L_val rfl rfl rfl (OpP.v (P_move rfl rfl)) ?_
      refine L_nil ?_
      refine St.env (.cons (t := 0) rfl (.cons (t := 2) rfl (.cons (t := 3) rfl (.cons (t := 16) rfl (.cons (t := 17) rfl (.cons (t := 18) rfl .nil)))))) ?_
      refine Q_then ?_
      refine R_block ?_
      refine R_loopE (G := Nat) (.cons (t := 0) rfl (.cons (t := 2) rfl (.cons (t := 3) rfl (.cons (t := 16) rfl (.cons (t := 17) rfl .nil))))) (fun g => [(18, .int .i64 (g : Int))]) (fun g => []) (fun g => g ≤ l.length ∧ bads l g = 0) (fun g => l.length - g) (0) (⟨Nat.zero_le _, rfl⟩) (by repeat (first | exact .nil | refine .cons rfl ?_ | refine .consE rfl (by first | rfl | (congr 1; omega) | (congr 1; push_cast; omega)) ?_)) (Weak.refl _) ?_
      intro i hinv
      replace hinv : i ≤ l.length ∧ bads l i = 0 := hinv
      show St (cx gl) _ ((18, .int .i64 (i : Int)) :: _) [] _
      obtain ⟨hi, hb⟩ := hinv
      refine R_seq ?_
      refine R_region ?_
      refine L_val rfl rfl rfl (OpP.v (P_lss rfl rfl rfl)) ?_
      refine L_nil ?_
      refine Q_then ?_
      refine R_seq ?_
      refine R_condP rfl (fun hlt => ?_) (fun hlt => ?_)
      · skip
        obtain ⟨m, hm⟩ : ∃ m, l[i]? = some m := ⟨_, List.getElem?_eq_getElem (by omega)⟩
        obtain ⟨pb, pj, rfl, hrow⟩ := hpre.some_ (by rw [memC_length]; omega)
        obtain ⟨⟨ha1, ha2⟩, ⟨hp1, hp2⟩, hq1, hq2⟩ := hok m (List.mem_of_getElem? hm)
        have hms : msK = 1152921504606846975 := rfl
        refine R_skip ?_
        refine Q_then ?_
        refine R_seq ?_
        refine R_block ?_
        refine R_seq ?_
        refine R_region ?_
        refine L_val rfl rfl rfl (OpP.v (P_move rfl rfl)) ?_
        refine L_val rfl rfl rfl (OpP.v (P_ixs (i) rfl ty_sl_22 rfl rfl (by first | rfl | omega) (by omega))) ?_
        refine L_val rfl rfl rfl (V_loadAgg rfl rfl ty_ag_37 (rds_mem hrow rfl hm) (rfl)) ?_
        refine L_op rfl (W_alloc rfl rfl rfl ty_ze_37 fun b5 => ?_)
        refine L_val rfl rfl rfl (OpP.v (P_assign rfl rfl)) ?_
        refine L_op rfl (W_storeAll rfl rfl rfl rfl ty_ag_37 (rfl) (Mem.cells_one _) .h0 (rfl) ?_)
        refine L_nil ?_
        refine Q_then ?_
        refine R_block ?_
        refine R_seq ?_
        refine R_region ?_
        refine L_val rfl rfl rfl (OpP.v (P_fld0 rfl ty_fl_37_0 rfl)) ?_
        refine L_val rfl rfl rfl (V_load rfl rfl ty_sc_35 (Rd.blk .h0 rfl)) ?_
        refine L_val rfl rfl rfl (OpP.v (P_eql rfl rfl rfl)) ?_
        refine L_val rfl rfl rfl (OpP.v (P_assign rfl rfl)) ?_
        refine L_nil ?_
        refine Q_then ?_
        refine R_condP rfl (fun ha => ?_) (fun ha => ?_)
        · skip
          refine R_seq ?_
          refine R_region ?_
          refine L_val rfl rfl rfl (OpP.v (P_assign rfl rfl)) ?_
          refine L_val rfl rfl rfl (OpP.v (P_assign rfl rfl)) ?_
          refine L_nil ?_
          refine Q_then ?_
          refine R_ret ?_
          refine Q_block_ret ?_
          refine Q_block_ret ?_
          refine Q_then_ret ?_
          refine Q_then_ret ?_
          refine Q_block_ret ?_
          refine Q_then_ret ?_
          exact R_endV rfl rfl (.tmp rfl (.tmp rfl .nil)) (by unfold memT; rw [memE_bad h0 h1 hb (show badAt l i = 85 from by unfold badAt; rw [mAt_of hm, if_pos ha]) (by decide) (by omega)]; rfl)
        · skip
          refine R_seq ?_
          refine R_open [(0, 0), (1, 0), (2, 0), (3, 0), (4, 1), (5, 0), (6, 0), (7, 0), (8, 0), (9, 0), (10, 1), (11, 0), (12, 0), (13, 0)] mixed (by kernel_rfl) (QOk.then (QOk.block (QOk.block (QOk.then (QOk.then (QOk.block (QOk.then QOk.body))))))) ?_
          refine O_pure rfl rfl rfl rfl (P_move rfl rfl) ?_
          refine O_pure rfl rfl rfl rfl (P_gtr rfl rfl rfl) ?_
          refine E_bool (t := 29) rfl (fun hi0 => ?_) (fun hi0 => ?_)
          · skip
            have hi0 := of_decide_eq_true hi0
            obtain ⟨m', hm'⟩ : ∃ m', l[i - 1]? = some m' := ⟨_, List.getElem?_eq_getElem (by omega)⟩
            refine O_pure rfl rfl rfl rfl (P_move rfl rfl) ?_
            refine O_pure rfl rfl rfl rfl (P_fld0 rfl ty_fl_37_0 rfl) ?_
            refine O_val rfl rfl rfl rfl (V_load rfl rfl ty_sc_35 (Rd.blk .h0 rfl)) ?_
            refine O_pure rfl rfl rfl rfl (P_move rfl rfl) ?_
            refine O_pure rfl rfl rfl rfl (P_move rfl rfl) ?_
            first | (refine O_pure rfl rfl rfl rfl (P_subN rfl rfl rfl (by simp only [fits]; omega)) ?_) | (refine O_pure rfl rfl rfl rfl (P_sub rfl rfl rfl) ?_)
            refine O_pure rfl rfl rfl rfl (P_ixs (i - 1) rfl ty_sl_22 rfl rfl (by first | rfl | omega) (by omega)) ?_
            refine O_pure rfl rfl rfl rfl (P_fld rfl ty_fl_37_0 rfl) ?_
            refine O_val rfl rfl rfl rfl (V_load rfl rfl ty_sc_35 (rd_mem hrow rfl hm' rfl)) ?_
            refine O_pure rfl rfl rfl rfl (P_leq rfl rfl rfl) ?_
            refine O_pure rfl rfl rfl rfl (P_pick rfl rfl rfl) ?_
            refine O_pure rfl rfl rfl rfl (P_assign rfl rfl) ?_
            refine O_nil ?_
            refine Q_then ?_
            refine R_condP rfl (fun hle => ?_) (fun hle => ?_)
            · skip
              refine R_seq ?_
              refine R_region ?_
              refine L_val rfl rfl rfl (OpP.v (P_assign rfl rfl)) ?_
              refine L_val rfl rfl rfl (OpP.v (P_assign rfl rfl)) ?_
              refine L_nil ?_
              refine Q_then ?_
              refine R_ret ?_
              refine Q_block_ret ?_
              refine Q_block_ret ?_
              refine Q_then_ret ?_
              refine Q_then_ret ?_
              refine Q_block_ret ?_
              refine Q_then_ret ?_
              exact R_endV rfl rfl (.tmp rfl (.tmp rfl .nil)) (by unfold memT; rw [memE_bad h0 h1 hb (show badAt l i = 52 from by unfold badAt; rw [mAt_of hm, if_neg ha, mAt_of hm', if_pos ⟨by omega, hle⟩]) (by decide) (by omega)]; rfl)
            · skip
              have hn52 : ¬ (0 < i ∧ m.a ≤ (mAt l (i - 1)).a) := by rw [mAt_of hm']; omega
              refine R_seq ?_
              refine R_region ?_
              refine L_val rfl rfl rfl (OpP.v (P_fld0 rfl ty_fl_37_1 rfl)) ?_
              refine L_val rfl rfl rfl (V_load rfl rfl ty_sc_34 (Rd.blk .h0 rfl)) ?_
              refine L_val rfl rfl rfl (OpP.v (P_eql rfl rfl rfl)) ?_
              refine E_bool (t := 44) rfl (fun hpz => ?_) (fun hpz => ?_)
              · skip
                have hpz := of_decide_eq_true hpz
                refine L_val rfl rfl rfl (OpP.v (P_move rfl rfl)) ?_
                refine L_no rfl rfl rfl ?_
                refine L_no rfl rfl rfl ?_
                refine L_no rfl rfl rfl ?_
                refine L_val rfl rfl rfl (OpP.v (P_pick rfl rfl rfl)) ?_
                refine L_val rfl rfl rfl (OpP.v (P_assign rfl rfl)) ?_
                refine L_nil ?_
                refine Q_then ?_
                refine R_condT rfl ?_
                refine R_seq ?_
                refine R_region ?_
                refine L_val rfl rfl rfl (OpP.v (P_assign rfl rfl)) ?_
                refine L_val rfl rfl rfl (OpP.v (P_assign rfl rfl)) ?_
                refine L_nil ?_
                refine Q_then ?_
                refine R_ret ?_
                refine Q_block_ret ?_
                refine Q_block_ret ?_
                refine Q_then_ret ?_
                refine Q_then_ret ?_
                refine Q_block_ret ?_
                refine Q_then_ret ?_
                exact R_endV rfl rfl (.tmp rfl (.tmp rfl .nil)) (by unfold memT; rw [memE_bad h0 h1 hb (show badAt l i = 50 from by unfold badAt; rw [mAt_of hm, if_neg ha, if_neg hn52, if_pos (by omega)]) (by decide) (by omega)]; rfl)
              · skip
                have hpz := of_decide_eq_false hpz
                refine L_val rfl rfl rfl (OpP.v (P_move rfl rfl)) ?_
                refine L_val rfl rfl rfl (OpP.v (P_fld0 rfl ty_fl_37_1 rfl)) ?_
                refine L_val rfl rfl rfl (V_load rfl rfl ty_sc_34 (by first | exact Rd.blk .h0 rfl | exact Rd.blk .h1 rfl | exact Rd.blk .h2 rfl | exact Rd.blk .h3 rfl | exact Rd.blk .h4 rfl | exact Rd.blk .h5 rfl | exact Rd.blk .h6 rfl | exact Rd.blk .h7 rfl)) ?_
                refine L_val rfl rfl rfl (OpP.v (P_gtr rfl rfl rfl)) ?_
                refine L_val rfl rfl rfl (OpP.v (P_pick rfl rfl rfl)) ?_
                refine L_val rfl rfl rfl (OpP.v (P_assign rfl rfl)) ?_
                refine L_nil ?_
                refine Q_then ?_
                refine R_condP rfl (fun hpm => ?_) (fun hpm => ?_)
                · skip
                  refine R_seq ?_
                  refine R_region ?_
                  refine L_val rfl rfl rfl (OpP.v (P_assign rfl rfl)) ?_
                  refine L_val rfl rfl rfl (OpP.v (P_assign rfl rfl)) ?_
                  refine L_nil ?_
                  refine Q_then ?_
                  refine R_ret ?_
                  refine Q_block_ret ?_
                  refine Q_block_ret ?_
                  refine Q_then_ret ?_
                  refine Q_then_ret ?_
                  refine Q_block_ret ?_
                  refine Q_then_ret ?_
                  exact R_endV rfl rfl (.tmp rfl (.tmp rfl .nil)) (by unfold memT; rw [memE_bad h0 h1 hb (show badAt l i = 50 from by unfold badAt; rw [mAt_of hm, if_neg ha, if_neg hn52, if_pos (by omega)]) (by decide) (by omega)]; rfl)
                · skip
                  refine R_skip ?_
                  refine Q_block ?_
                  refine Q_block ?_
                  refine Q_then ?_
                  refine R_region ?_
                  first | (refine L_val rfl rfl rfl (OpP.v (P_addN rfl rfl rfl (by simp only [fits]; omega))) ?_) | (refine L_val rfl rfl rfl (OpP.v (P_add rfl rfl rfl)) ?_)
                  refine L_val rfl rfl rfl (OpP.v (P_move rfl rfl)) ?_
                  refine L_nil ?_
                  exact Q_round (i + 1) (⟨by omega, bads_next hb (by unfold badAt; rw [mAt_of hm, if_neg ha, if_neg hn52, if_neg (by omega)])⟩) (by show l.length - (i + 1) < l.length - i; omega) (by repeat (first | exact .nil | refine .cons rfl ?_ | refine .consE rfl (by first | rfl | (congr 1; omega) | (congr 1; push_cast; omega)) ?_)) (Weak.nil _)
          · skip
            have hi0 := of_decide_eq_false hi0
            have hn52 : ¬ (0 < i ∧ m.a ≤ (mAt l (i - 1)).a) := by omega
            refine O_pure rfl rfl rfl rfl (P_move rfl rfl) ?_
            refine O_no rfl rfl rfl rfl ?_
            refine O_noX rfl rfl rfl rfl ?_
            refine O_no rfl rfl rfl rfl ?_
            refine O_no rfl rfl rfl rfl ?_
            refine O_no rfl rfl rfl rfl ?_
            refine O_no rfl rfl rfl rfl ?_
            refine O_no rfl rfl rfl rfl ?_
            refine O_noX rfl rfl rfl rfl ?_
            refine O_no rfl rfl rfl rfl ?_
            refine O_pure rfl rfl rfl rfl (P_pick rfl rfl rfl) ?_
            refine O_pure rfl rfl rfl rfl (P_assign rfl rfl) ?_
            refine O_nil ?_
            refine Q_then ?_
            refine R_condF rfl ?_
            refine R_seq ?_
            refine R_region ?_
            refine L_val rfl rfl rfl (OpP.v (P_fld0 rfl ty_fl_37_1 rfl)) ?_
            refine L_val rfl rfl rfl (V_load rfl rfl ty_sc_34 (Rd.blk .h0 rfl)) ?_
            refine L_val rfl rfl rfl (OpP.v (P_eql rfl rfl rfl)) ?_
            refine E_bool (t := 44) rfl (fun hpz => ?_) (fun hpz => ?_)
            · skip
              have hpz := of_decide_eq_true hpz
              refine L_val rfl rfl rfl (OpP.v (P_move rfl rfl)) ?_
              refine L_no rfl rfl rfl ?_
              refine L_no rfl rfl rfl ?_
              refine L_no rfl rfl rfl ?_
              refine L_val rfl rfl rfl (OpP.v (P_pick rfl rfl rfl)) ?_
              refine L_val rfl rfl rfl (OpP.v (P_assign rfl rfl)) ?_
              refine L_nil ?_
              refine Q_then ?_
              refine R_condT rfl ?_
              refine R_seq ?_
              refine R_region ?_
              refine L_val rfl rfl rfl (OpP.v (P_assign rfl rfl)) ?_
              refine L_val rfl rfl rfl (OpP.v (P_assign rfl rfl)) ?_
              refine L_nil ?_
              refine Q_then ?_
              refine R_ret ?_
              refine Q_block_ret ?_
              refine Q_block_ret ?_
              refine Q_then_ret ?_
              refine Q_then_ret ?_
              refine Q_block_ret ?_
              refine Q_then_ret ?_
              exact R_endV rfl rfl (.tmp rfl (.tmp rfl .nil)) (by unfold memT; rw [memE_bad h0 h1 hb (show badAt l i = 50 from by unfold badAt; rw [mAt_of hm, if_neg ha, if_neg hn52, if_pos (by omega)]) (by decide) (by omega)]; rfl)
            · skip
              have hpz := of_decide_eq_false hpz
              refine L_val rfl rfl rfl (OpP.v (P_move rfl rfl)) ?_
              refine L_val rfl rfl rfl (OpP.v (P_fld0 rfl ty_fl_37_1 rfl)) ?_
              refine L_val rfl rfl rfl (V_load rfl rfl ty_sc_34 (by first | exact Rd.blk .h0 rfl | exact Rd.blk .h1 rfl | exact Rd.blk .h2 rfl | exact Rd.blk .h3 rfl | exact Rd.blk .h4 rfl | exact Rd.blk .h5 rfl | exact Rd.blk .h6 rfl | exact Rd.blk .h7 rfl)) ?_
              refine L_val rfl rfl rfl (OpP.v (P_gtr rfl rfl rfl)) ?_
              refine L_val rfl rfl rfl (OpP.v (P_pick rfl rfl rfl)) ?_
              refine L_val rfl rfl rfl (OpP.v (P_assign rfl rfl)) ?_
              refine L_nil ?_
              refine Q_then ?_
              refine R_condP rfl (fun hpm => ?_) (fun hpm => ?_)
              · skip
                refine R_seq ?_
                refine R_region ?_
                refine L_val rfl rfl rfl (OpP.v (P_assign rfl rfl)) ?_
                refine L_val rfl rfl rfl (OpP.v (P_assign rfl rfl)) ?_
                refine L_nil ?_
                refine Q_then ?_
                refine R_ret ?_
                refine Q_block_ret ?_
                refine Q_block_ret ?_
                refine Q_then_ret ?_
                refine Q_then_ret ?_
                refine Q_block_ret ?_
                refine Q_then_ret ?_
                exact R_endV rfl rfl (.tmp rfl (.tmp rfl .nil)) (by unfold memT; rw [memE_bad h0 h1 hb (show badAt l i = 50 from by unfold badAt; rw [mAt_of hm, if_neg ha, if_neg hn52, if_pos (by omega)]) (by decide) (by omega)]; rfl)
              · skip
                refine R_skip ?_
                refine Q_block ?_
                refine Q_block ?_
                refine Q_then ?_
                refine R_region ?_
                first | (refine L_val rfl rfl rfl (OpP.v (P_addN rfl rfl rfl (by simp only [fits]; omega))) ?_) | (refine L_val rfl rfl rfl (OpP.v (P_add rfl rfl rfl)) ?_)
                refine L_val rfl rfl rfl (OpP.v (P_move rfl rfl)) ?_
                refine L_nil ?_
                exact Q_round (i + 1) (⟨by omega, bads_next hb (by unfold badAt; rw [mAt_of hm, if_neg ha, if_neg hn52, if_neg (by omega)])⟩) (by show l.length - (i + 1) < l.length - i; omega) (by repeat (first | exact .nil | refine .cons rfl ?_ | refine .consE rfl (by first | rfl | (congr 1; omega) | (congr 1; push_cast; omega)) ?_)) (Weak.nil _)
      · skip
        have hin : i = l.length := by omega
        rw [hin] at hb
        refine R_exit ?_
        refine Q_then_exit ?_
        refine Q_then_exit ?_
        refine Q_block_eq ?_
        refine St.env (.cons (t := 0) rfl (.cons (t := 2) rfl (.cons (t := 3) rfl .nil))) ?_
        refine Q_then ?_
        refine R_seq ?_
        refine R_region ?_
        refine L_val rfl rfl rfl (OpP.v (P_move rfl rfl)) ?_
        refine L_op rfl (W_callV rfl rfl rfl rfl fn_ca_33 (total_ok base c l hc hmax hok) ((Sn.row hpre rfl).rw_) ?_)
        refine L_val rfl rfl rfl (OpP.v (P_move rfl rfl)) ?_
        refine L_val rfl rfl rfl (OpP.v (P_extract rfl rfl rfl)) ?_
        refine L_val rfl rfl rfl (OpP.v (P_extract rfl rfl rfl)) ?_
        refine L_val rfl rfl rfl (OpP.v (P_assign rfl rfl)) ?_
        refine L_val rfl rfl rfl (OpP.v (P_assign rfl rfl)) ?_
        refine L_nil ?_
        refine St.env (.cons (t := 2) rfl (.cons (t := 3) rfl (.cons (t := 6) rfl (.cons (t := 7) rfl .nil)))) ?_
        refine Q_then ?_
        refine R_seq ?_
        refine R_seq ?_
        refine R_region ?_
        refine L_val rfl rfl rfl (OpP.v (P_move rfl rfl)) ?_
        refine E_bool (t := 56) rfl (fun ht => ?_) (fun ht => ?_)
        · skip
          refine L_val rfl rfl rfl (OpP.v (P_not rfl rfl)) ?_
          refine L_nil ?_
          refine St.env (.cons (t := 2) rfl (.cons (t := 3) rfl (.cons (t := 6) rfl (.cons (t := 57) rfl .nil)))) ?_
          refine Q_then ?_
          refine R_condF rfl ?_
          refine R_skip ?_
          refine Q_then ?_
          refine R_seq ?_
          refine R_region ?_
          refine L_val rfl rfl rfl (OpP.v (P_move rfl rfl)) ?_
          refine L_val rfl rfl rfl (OpP.v (P_assign rfl rfl)) ?_
          refine L_val rfl rfl rfl (OpP.v (P_assign rfl rfl)) ?_
          refine L_nil ?_
          refine St.env (.cons (t := 2) rfl (.cons (t := 3) rfl .nil)) ?_
          refine Q_then ?_
          refine R_ret ?_
          exact R_endV rfl rfl (.tmp rfl (.tmp rfl .nil)) (by have ht := of_decide_eq_true ht; unfold totV memT; rw [memE_fine h0 h1 hb, if_pos ht, if_pos ht, if_pos rfl]; rfl)
        · skip
          refine L_val rfl rfl rfl (OpP.v (P_not rfl rfl)) ?_
          refine L_nil ?_
          refine St.env (.cons (t := 2) rfl (.cons (t := 3) rfl (.cons (t := 6) rfl (.cons (t := 57) rfl .nil)))) ?_
          refine Q_then ?_
          refine R_condT rfl ?_
          refine R_seq ?_
          refine R_region ?_
          refine L_val rfl rfl rfl (OpP.v (P_assign rfl rfl)) ?_
          refine L_val rfl rfl rfl (OpP.v (P_assign rfl rfl)) ?_
          refine L_nil ?_
          refine St.env (.cons (t := 2) rfl (.cons (t := 3) rfl (.cons (t := 6) rfl .nil))) ?_
          refine Q_then ?_
          refine R_ret ?_
          refine Q_then_ret ?_
          exact R_endV rfl rfl (.tmp rfl (.tmp rfl .nil)) (by unfold memT; rw [show memE l = 51 by rw [memE_fine h0 h1 hb, if_neg (of_decide_eq_false ht)]]; rfl)
end Go.Proofs.YtjhhpagcejgclaaDoor
