/- Walks: the reference's Sound and New; New. Printed by gen.py. -/
import Derived.Test.YtjhhpagcejgclaaDoorC2
set_option linter.unusedVariables false
set_option linter.unusedSimpArgs false
set_option maxRecDepth 100000
namespace Go.Proofs.YtjhhpagcejgclaaDoor
open Go Go.RowKit Go.Proofs
theorem rtotal_ok {gl : Nat → Obj} (base : Option Addr) (c : Nat) (l : List Mem) (hc : l.length ≤ c) (hmax : l.length ≤ 5864062014700) (hok : ∀ m ∈ l, m.ok) : SpecV (cx gl) 27 [.slice base l.length c] (fun w => Row w base (memC l)) (.int .u64 (rtV l)) := by
  refine Spec.enter (C := cx gl) Tryd.func27 rfl 29 rfl rfl fun w0 h0 hsep hsub hpre => ?_
  obtain rfl : h0 = Heap.none := hsep
  show St (cx gl) _ [(0, .slice base l.length c)] _ _
  have hp0 : ∀ m ∈ l, 0 ≤ m.p := fun m hm => (hok m hm).2.1.1
  have hms : msK = 1152921504606846975 := rfl
  refine R_seq ?_
  refine R_region ?_
  refine L_val rfl rfl rfl (OpP.v (P_assign rfl rfl)) ?_
  refine L_nil ?_
  refine Q_then ?_
  refine R_seq ?_
  refine R_region ?_
  refine L_val rfl rfl rfl (OpP.v (P_assign rfl rfl)) ?_
  refine L_nil ?_
  refine Q_then ?_
  refine R_seq ?_
  refine R_seq ?_
  refine R_region ?_
  refine L_val rfl rfl rfl (OpP.v (P_assign rfl rfl)) ?_
  refine L_nil ?_
  refine Q_then ?_
  refine R_block ?_
  refine R_loopE (G := Nat × Int) (.cons (t := 0) rfl (.cons (t := 2) rfl .nil)) (fun g => [(3, .int .u64 g.2), (4, .int .i64 (g.1 : Int))]) (fun _ => _) (fun g => g.1 ≤ l.length ∧ rtV l = rtG g.2 (l.drop g.1) ∧ 0 ≤ g.2 ∧ g.2 ≤ 2 * msK) (fun g => l.length - g.1) (0, 0) (⟨Nat.zero_le _, rfl, by decide, by decide⟩) (by repeat (first | exact .nil | refine .cons rfl ?_ | refine .consE rfl (by first | rfl | (congr 1; omega) | (congr 1; push_cast; omega)) ?_)) (Weak.refl _) ?_
  rintro ⟨i, t⟩ hinv
  replace hinv : i ≤ l.length ∧ rtV l = rtG t (l.drop i) ∧ 0 ≤ t ∧ t ≤ 2 * msK := hinv
  show St (cx gl) _ ((3, .int .u64 t) :: (4, .int .i64 (i : Int)) :: _) _ _
  obtain ⟨hi, ht, ht0, ht1⟩ := hinv
  refine R_seq ?_
  refine R_seq ?_
  refine R_region ?_
  refine L_val rfl rfl rfl (OpP.v (P_move rfl rfl)) ?_
  refine L_val rfl rfl rfl (OpP.v (P_move rfl rfl)) ?_
  refine L_val rfl rfl rfl (OpP.v (P_len rfl ty_sl_22 rfl)) ?_
  refine L_val rfl rfl rfl (OpP.v (P_lss rfl rfl rfl)) ?_
  refine L_nil ?_
  refine Q_then ?_
  refine R_condP rfl (fun hlt => ?_) (fun hlt => ?_)
  · skip
    obtain ⟨m, hm⟩ : ∃ m, l[i]? = some m := ⟨_, List.getElem?_eq_getElem (by omega)⟩
    obtain ⟨pb, pj, rfl, hrow⟩ := hpre.some_ (by rw [memC_length]; omega)
    obtain ⟨⟨ha1, ha2⟩, ⟨hp1, hp2⟩, hq1, hq2⟩ := hok m (List.mem_of_getElem? hm)
    rw [drop_at hm] at ht
    unfold rtG at ht
    refine R_skip ?_
    refine Q_then ?_
    refine R_seq ?_
    refine R_block ?_
    refine R_seq ?_
    refine R_seq ?_
    refine R_region ?_
    refine L_val rfl rfl rfl (OpP.v (P_move rfl rfl)) ?_
    refine L_val rfl rfl rfl (OpP.v (P_gtr rfl rfl rfl)) ?_
    refine E_bool (t := 12) rfl (fun hb => ?_) (fun hb => ?_)
    · skip
      have hb := of_decide_eq_true hb
      refine L_val rfl rfl rfl (OpP.v (P_move rfl rfl)) ?_
      refine L_no rfl rfl rfl ?_
      refine L_no rfl rfl rfl ?_
      refine L_no rfl rfl rfl ?_
      refine L_no rfl rfl rfl ?_
      refine L_no rfl rfl rfl ?_
      refine L_no rfl rfl rfl ?_
      refine L_val rfl rfl rfl (OpP.v (P_pick rfl rfl rfl)) ?_
      refine L_nil ?_
      refine Q_then ?_
      refine R_condT rfl ?_
      refine R_seq ?_
      refine R_region ?_
      refine L_val rfl rfl rfl (OpP.v (P_assign rfl rfl)) ?_
      refine L_nil ?_
      refine Q_then ?_
      refine R_ret ?_
      refine Q_then_ret ?_
      refine Q_block_ret ?_
      refine Q_then_ret ?_
      refine Q_then_ret ?_
      refine Q_block_ret ?_
      refine Q_then_ret ?_
      exact R_endV rfl rfl (.tmp rfl .nil) (by rw [ht, if_pos (by omega)]; rfl)
    · skip
      have hb := of_decide_eq_false hb
      refine L_val rfl rfl rfl (OpP.v (P_move rfl rfl)) ?_
      refine L_val rfl rfl rfl (OpP.v (P_move rfl rfl)) ?_
      refine L_val rfl rfl rfl (OpP.v (P_move rfl rfl)) ?_
      refine L_val rfl rfl rfl (OpP.v (P_ixs (_) rfl ty_sl_22 rfl rfl (by first | rfl | omega) (by omega))) ?_
      refine L_val rfl rfl rfl (OpP.v (P_fld rfl ty_fl_37_1 rfl)) ?_
      refine L_val rfl rfl rfl (V_load rfl rfl ty_sc_34 (by first | exact Rd.blk .h0 rfl | exact Rd.blk .h1 rfl | exact Rd.blk .h2 rfl | exact Rd.blk .h3 rfl | exact Rd.blk .h4 rfl | exact Rd.blk .h5 rfl | exact Rd.blk .h6 rfl | exact Rd.blk .h7 rfl | exact rd_mem hrow rfl hm rfl)) ?_
      refine L_val rfl rfl rfl (OpP.v (P_gtr rfl rfl rfl)) ?_
      refine L_val rfl rfl rfl (OpP.v (P_pick rfl rfl rfl)) ?_
      refine L_nil ?_
      refine Q_then ?_
      refine R_condP rfl (fun hb2 => ?_) (fun hb2 => ?_)
      · skip
        refine R_seq ?_
        refine R_region ?_
        refine L_val rfl rfl rfl (OpP.v (P_assign rfl rfl)) ?_
        refine L_nil ?_
        refine Q_then ?_
        refine R_ret ?_
        refine Q_then_ret ?_
        refine Q_block_ret ?_
        refine Q_then_ret ?_
        refine Q_then_ret ?_
        refine Q_block_ret ?_
        refine Q_then_ret ?_
        exact R_endV rfl rfl (.tmp rfl .nil) (by rw [ht, if_pos (by omega)]; rfl)
      · skip
        rw [if_neg (by omega)] at ht
        have hnext := ht
        refine R_skip ?_
        refine Q_then ?_
        refine R_region ?_
        refine L_val rfl rfl rfl (OpP.v (P_move rfl rfl)) ?_
        refine L_val rfl rfl rfl (OpP.v (P_move rfl rfl)) ?_
        refine L_val rfl rfl rfl (OpP.v (P_move rfl rfl)) ?_
        refine L_val rfl rfl rfl (OpP.v (P_ixs (_) rfl ty_sl_22 rfl rfl (by first | rfl | omega) (by omega))) ?_
        refine L_val rfl rfl rfl (OpP.v (P_fld rfl ty_fl_37_1 rfl)) ?_
        refine L_val rfl rfl rfl (V_load rfl rfl ty_sc_34 (by first | exact Rd.blk .h0 rfl | exact Rd.blk .h1 rfl | exact Rd.blk .h2 rfl | exact Rd.blk .h3 rfl | exact Rd.blk .h4 rfl | exact Rd.blk .h5 rfl | exact Rd.blk .h6 rfl | exact Rd.blk .h7 rfl | exact rd_mem hrow rfl hm rfl)) ?_
        first | (refine L_val rfl rfl rfl (OpP.v (P_addN rfl rfl rfl (by simp only [fits]; omega))) ?_) | (refine L_val rfl rfl rfl (OpP.v (P_add rfl rfl rfl)) ?_)
        refine L_val rfl rfl rfl (OpP.v (P_assign rfl rfl)) ?_
        refine L_nil ?_
        refine Q_block ?_
        refine Q_then ?_
        refine R_region ?_
        refine L_val rfl rfl rfl (OpP.v (P_move rfl rfl)) ?_
        first | (refine L_val rfl rfl rfl (OpP.v (P_addN rfl rfl rfl (by simp only [fits]; omega))) ?_) | (refine L_val rfl rfl rfl (OpP.v (P_add rfl rfl rfl)) ?_)
        refine L_val rfl rfl rfl (OpP.v (P_assign rfl rfl)) ?_
        refine L_nil ?_
        exact Q_round (i + 1, t + m.p) (⟨by omega, hnext, by omega, by omega⟩) (by show l.length - (i + 1) < l.length - i; omega) (by repeat (first | exact .nil | refine .cons rfl ?_ | refine .consE rfl (by first | rfl | (congr 1; omega) | (congr 1; push_cast; omega)) ?_)) (Weak.refl _)
  · skip
    refine R_exit ?_
    refine Q_then_exit ?_
    refine Q_then_exit ?_
    refine Q_block_eq ?_
    refine St.env (.cons (t := 2) rfl (.cons (t := 3) rfl .nil)) ?_
    refine Q_then ?_
    refine R_seq ?_
    refine R_region ?_
    refine L_val rfl rfl rfl (OpP.v (P_move rfl rfl)) ?_
    refine L_val rfl rfl rfl (OpP.v (P_assign rfl rfl)) ?_
    refine L_nil ?_
    refine St.env (.cons (t := 2) rfl .nil) ?_
    refine Q_then ?_
    refine R_ret ?_
    exact R_endV rfl rfl (.tmp rfl .nil) (by rw [ht, List.drop_eq_nil_of_le (by omega)]; rfl)
theorem rSound_ok {gl : Nat → Obj} (base : Option Addr) (c : Nat) (l : List Mem) (hc : l.length ≤ c) (hmax : l.length ≤ 5864062014700) (hok : ∀ m ∈ l, m.ok) : SpecV (cx gl) 15 [.agg [.slice base l.length c].toArray] (fun w => Row w base (memC l)) (.int .i64 (soundE l)) := by
  refine Spec.enter (C := cx gl) Tryd.func15 rfl 87 rfl rfl fun w0 h0 hsep hsub hpre => ?_
  obtain rfl : h0 = Heap.none := hsep
  show St (cx gl) _ [(0, .agg [.slice base l.length c].toArray)] _ _
  have hp0 : ∀ m ∈ l, 0 ≤ m.p := fun m hm => (hok m hm).2.1.1
  have hms : msK = 1152921504606846975 := rfl
  have hT0 := sumP_nonneg hp0
  refine R_seq ?_
  refine R_region ?_
  refine L_op rfl (W_box ([.slice base l.length c]) rfl rfl rfl rfl rfl fun b1 => ?_)
  refine L_val rfl rfl rfl (OpP.v (P_assign rfl rfl)) ?_
  refine L_nil ?_
  refine St.env (.cons (t := 1) rfl (.cons (t := 2) rfl .nil)) ?_
  refine Q_then ?_
  refine R_seq ?_
  refine R_region ?_
  refine L_val rfl rfl rfl (OpP.v (P_fld0 rfl ty_fl_24_0 rfl)) ?_
  refine L_val rfl rfl rfl (V_load rfl rfl ty_sc_22 (Rd.blk .h0 rfl)) ?_
  refine L_val rfl rfl rfl (OpP.v (P_assign rfl rfl)) ?_
  refine L_nil ?_
  refine St.env (.cons (t := 2) rfl (.cons (t := 3) rfl .nil)) ?_
  refine Q_then ?_
  refine R_seq ?_
  refine R_seq ?_
  refine R_region ?_
  refine L_val rfl rfl rfl (OpP.v (P_move rfl rfl)) ?_
  refine L_val rfl rfl rfl (OpP.v (P_len rfl ty_sl_22 rfl)) ?_
  refine L_val rfl rfl rfl (OpP.v (P_eql rfl rfl rfl)) ?_
  refine L_nil ?_
  refine St.env (.cons (t := 2) rfl (.cons (t := 3) rfl (.cons (t := 11) rfl .nil))) ?_
  refine Q_then ?_
  refine R_condP rfl (fun h0 => ?_) (fun h0 => ?_)
  · skip
    refine R_seq ?_
    refine R_region ?_
    refine L_val rfl rfl rfl (OpP.v (P_assign rfl rfl)) ?_
    refine L_nil ?_
    refine St.env (.cons (t := 2) rfl (.cons (t := 3) rfl .nil)) ?_
    refine Q_then ?_
    refine R_ret ?_
    refine Q_then_ret ?_
    exact R_endV rfl rfl (.tmp rfl .nil) (by have h9 : memE l = 53 := (by unfold memE; rw [if_pos (by omega)]); unfold soundE; rw [if_pos (by rw [h9]; decide), h9]; rfl)
  · skip
    refine R_skip ?_
    refine Q_then ?_
    refine R_seq ?_
    refine R_seq ?_
    refine R_region ?_
    refine L_val rfl rfl rfl (OpP.v (P_move rfl rfl)) ?_
    refine L_val rfl rfl rfl (OpP.v (P_len rfl ty_sl_22 rfl)) ?_
    refine L_val rfl rfl rfl (OpP.v (P_gtr rfl rfl rfl)) ?_
    refine L_nil ?_
    refine St.env (.cons (t := 2) rfl (.cons (t := 3) rfl (.cons (t := 14) rfl .nil))) ?_
    refine Q_then ?_
    refine R_condP rfl (fun h1 => ?_) (fun h1 => ?_)
    · skip
      refine R_seq ?_
      refine R_region ?_
      refine L_val rfl rfl rfl (OpP.v (P_assign rfl rfl)) ?_
      refine L_nil ?_
      refine St.env (.cons (t := 2) rfl (.cons (t := 3) rfl .nil)) ?_
      refine Q_then ?_
      refine R_ret ?_
      refine Q_then_ret ?_
      exact R_endV rfl rfl (.tmp rfl .nil) (by have h9 : memE l = 4 := (by unfold memE; rw [if_neg (by omega), if_pos (by omega)]); unfold soundE; rw [if_pos (by rw [h9]; decide), h9]; rfl)
    · skip
      have h0 : ¬ l.length = 0 := by omega
      have h1 : ¬ 64 < l.length := by omega
      refine R_skip ?_
      refine Q_then ?_
      refine R_seq ?_
      refine R_seq ?_
      refine R_region ?_
      refine L_val rfl rfl rfl (OpP.v (P_assign rfl rfl)) ?_
      refine L_nil ?_
      refine St.env (.cons (t := 2) rfl (.cons (t := 3) rfl (.cons (t := 4) rfl .nil))) ?_
      refine Q_then ?_
      refine R_block ?_
      refine R_loopE (G := Nat) (.cons (t := 2) rfl (.cons (t := 3) rfl .nil)) (fun g => [(4, .int .i64 (g : Int))]) (fun _ => _) (fun g => g ≤ l.length ∧ bads l g = 0) (fun g => l.length - g) (0) (⟨Nat.zero_le _, rfl⟩) (by repeat (first | exact .nil | refine .cons rfl ?_ | refine .consE rfl (by first | rfl | (congr 1; omega) | (congr 1; push_cast; omega)) ?_)) (Weak.refl _) ?_
      intro i hinv
      replace hinv : i ≤ l.length ∧ bads l i = 0 := hinv
      show St (cx gl) _ ((4, .int .i64 (i : Int)) :: _) _ _
      obtain ⟨hi, hb⟩ := hinv
      refine R_seq ?_
      refine R_seq ?_
      refine R_region ?_
      refine L_val rfl rfl rfl (OpP.v (P_move rfl rfl)) ?_
      refine L_val rfl rfl rfl (OpP.v (P_move rfl rfl)) ?_
      refine L_val rfl rfl rfl (OpP.v (P_len rfl ty_sl_22 rfl)) ?_
      refine L_val rfl rfl rfl (OpP.v (P_lss rfl rfl rfl)) ?_
      refine L_nil ?_
      refine Q_then ?_
      refine R_condP rfl (fun hlt => ?_) (fun hlt => ?_)
      · skip
        obtain ⟨m, hm⟩ : ∃ m, l[i]? = some m := ⟨_, List.getElem?_eq_getElem (by omega)⟩
        obtain ⟨pb, pj, rfl, hrow⟩ := hpre.some_ (by rw [memC_length]; omega)
        obtain ⟨⟨ha1, ha2⟩, ⟨hp1, hp2⟩, hq1, hq2⟩ := hok m (List.mem_of_getElem? hm)
        refine R_skip ?_
        refine Q_then ?_
        refine R_seq ?_
        refine R_block ?_
        refine R_seq ?_
        refine R_seq ?_
        refine R_region ?_
        refine L_val rfl rfl rfl (OpP.v (P_move rfl rfl)) ?_
        refine L_val rfl rfl rfl (OpP.v (P_move rfl rfl)) ?_
        refine L_val rfl rfl rfl (OpP.v (P_ixs (_) rfl ty_sl_22 rfl rfl (by first | rfl | omega) (by omega))) ?_
        refine L_val rfl rfl rfl (OpP.v (P_fld rfl ty_fl_37_0 rfl)) ?_
        refine L_val rfl rfl rfl (V_load rfl rfl ty_sc_35 (by first | exact Rd.blk .h0 rfl | exact Rd.blk .h1 rfl | exact Rd.blk .h2 rfl | exact Rd.blk .h3 rfl | exact Rd.blk .h4 rfl | exact Rd.blk .h5 rfl | exact Rd.blk .h6 rfl | exact Rd.blk .h7 rfl | exact rd_mem hrow rfl hm rfl)) ?_
        refine L_val rfl rfl rfl (OpP.v (P_eql rfl rfl rfl)) ?_
        refine L_nil ?_
        refine Q_then ?_
        refine R_condP rfl (fun ha => ?_) (fun ha => ?_)
        · skip
          refine R_seq ?_
          refine R_region ?_
          refine L_val rfl rfl rfl (OpP.v (P_assign rfl rfl)) ?_
          refine L_nil ?_
          refine Q_then ?_
          refine R_ret ?_
          refine Q_then_ret ?_
          refine Q_block_ret ?_
          refine Q_then_ret ?_
          refine Q_then_ret ?_
          refine Q_block_ret ?_
          refine Q_then_ret ?_
          exact R_endV rfl rfl (.tmp rfl .nil) (by have h9 : memE l = 85 := memE_bad h0 h1 hb (show badAt l i = 85 from by unfold badAt; rw [mAt_of hm, if_pos ha]) (by decide) (by omega); unfold soundE; rw [if_pos (by rw [h9]; decide), h9]; rfl)
        · skip
          refine R_skip ?_
          refine Q_then ?_
          refine R_seq ?_
          refine R_seq ?_
          refine R_open [(0, 0), (1, 0), (2, 0), (3, 0), (4, 0), (5, 0), (6, 0), (7, 1), (8, 0), (9, 0), (10, 0), (11, 0), (12, 0), (13, 1), (14, 0), (15, 0)] mixed (by kernel_rfl) (QOk.then (QOk.then (QOk.block (QOk.then (QOk.then (QOk.block (QOk.then QOk.body))))))) ?_
          refine O_pure rfl rfl rfl rfl (P_move rfl rfl) ?_
          refine O_pure rfl rfl rfl rfl (P_gtr rfl rfl rfl) ?_
          refine E_bool (t := 28) rfl (fun hi0 => ?_) (fun hi0 => ?_)
          · skip
            have hi0 := of_decide_eq_true hi0
            obtain ⟨m', hm'⟩ : ∃ m', l[i - 1]? = some m' := ⟨_, List.getElem?_eq_getElem (by omega)⟩
            refine O_pure rfl rfl rfl rfl (P_move rfl rfl) ?_
            refine O_pure rfl rfl rfl rfl (P_move rfl rfl) ?_
            refine O_pure rfl rfl rfl rfl (P_move rfl rfl) ?_
            refine O_pure rfl rfl rfl rfl (P_ixs (_) rfl ty_sl_22 rfl rfl (by first | rfl | omega) (by omega)) ?_
            refine O_pure rfl rfl rfl rfl (P_fld rfl ty_fl_37_0 rfl) ?_
            refine O_val rfl rfl rfl rfl (V_load rfl rfl ty_sc_35 (by first | exact Rd.blk .h0 rfl | exact Rd.blk .h1 rfl | exact Rd.blk .h2 rfl | exact Rd.blk .h3 rfl | exact Rd.blk .h4 rfl | exact Rd.blk .h5 rfl | exact Rd.blk .h6 rfl | exact Rd.blk .h7 rfl | exact rd_mem hrow rfl hm rfl)) ?_
            refine O_pure rfl rfl rfl rfl (P_move rfl rfl) ?_
            refine O_pure rfl rfl rfl rfl (P_move rfl rfl) ?_
            first | (refine O_pure rfl rfl rfl rfl (P_subN rfl rfl rfl (by simp only [fits]; omega)) ?_) | (refine O_pure rfl rfl rfl rfl (P_sub rfl rfl rfl) ?_)
            refine O_pure rfl rfl rfl rfl (P_ixs (i - 1) rfl ty_sl_22 rfl rfl (by first | rfl | omega) (by omega)) ?_
            refine O_pure rfl rfl rfl rfl (P_fld rfl ty_fl_37_0 rfl) ?_
            refine O_val rfl rfl rfl rfl (V_load rfl rfl ty_sc_35 (rd_mem hrow rfl hm' rfl)) ?_
            refine O_pure rfl rfl rfl rfl (P_leq rfl rfl rfl) ?_
            refine O_pure rfl rfl rfl rfl (P_pick rfl rfl rfl) ?_
            refine O_nil ?_
            refine Q_then ?_
            refine R_condP rfl (fun hle => ?_) (fun hle => ?_)
            · skip
              refine R_seq ?_
              refine R_region ?_
              refine L_val rfl rfl rfl (OpP.v (P_assign rfl rfl)) ?_
              refine L_nil ?_
              refine Q_then ?_
              refine R_ret ?_
              refine Q_then_ret ?_
              refine Q_block_ret ?_
              refine Q_then_ret ?_
              refine Q_then_ret ?_
              refine Q_block_ret ?_
              refine Q_then_ret ?_
              exact R_endV rfl rfl (.tmp rfl .nil) (by have h9 : memE l = 52 := memE_bad h0 h1 hb (show badAt l i = 52 from by unfold badAt; rw [mAt_of hm, if_neg ha, mAt_of hm', if_pos ⟨by omega, hle⟩]) (by decide) (by omega); unfold soundE; rw [if_pos (by rw [h9]; decide), h9]; rfl)
            · skip
              have hn52 : ¬ (0 < i ∧ m.a ≤ (mAt l (i - 1)).a) := by rw [mAt_of hm']; omega
              refine R_skip ?_
              refine Q_then ?_
              refine R_seq ?_
              refine R_region ?_
              refine L_val rfl rfl rfl (OpP.v (P_move rfl rfl)) ?_
              refine L_val rfl rfl rfl (OpP.v (P_move rfl rfl)) ?_
              refine L_val rfl rfl rfl (OpP.v (P_ixs (_) rfl ty_sl_22 rfl rfl (by first | rfl | omega) (by omega))) ?_
              refine L_val rfl rfl rfl (OpP.v (P_fld rfl ty_fl_37_1 rfl)) ?_
              refine L_val rfl rfl rfl (V_load rfl rfl ty_sc_34 (by first | exact Rd.blk .h0 rfl | exact Rd.blk .h1 rfl | exact Rd.blk .h2 rfl | exact Rd.blk .h3 rfl | exact Rd.blk .h4 rfl | exact Rd.blk .h5 rfl | exact Rd.blk .h6 rfl | exact Rd.blk .h7 rfl | exact rd_mem hrow rfl hm rfl)) ?_
              refine L_val rfl rfl rfl (OpP.v (P_eql rfl rfl rfl)) ?_
              refine E_bool (t := 48) rfl (fun hpz => ?_) (fun hpz => ?_)
              · skip
                have hpz := of_decide_eq_true hpz
                refine L_val rfl rfl rfl (OpP.v (P_move rfl rfl)) ?_
                refine L_no rfl rfl rfl ?_
                refine L_no rfl rfl rfl ?_
                refine L_no rfl rfl rfl ?_
                refine L_no rfl rfl rfl ?_
                refine L_no rfl rfl rfl ?_
                refine L_no rfl rfl rfl ?_
                refine L_val rfl rfl rfl (OpP.v (P_pick rfl rfl rfl)) ?_
                refine L_nil ?_
                refine Q_then ?_
                refine R_condT rfl ?_
                refine R_seq ?_
                refine R_region ?_
                refine L_val rfl rfl rfl (OpP.v (P_assign rfl rfl)) ?_
                refine L_nil ?_
                refine Q_then ?_
                refine R_ret ?_
                refine Q_block_ret ?_
                refine Q_then_ret ?_
                refine Q_then_ret ?_
                refine Q_block_ret ?_
                refine Q_then_ret ?_
                exact R_endV rfl rfl (.tmp rfl .nil) (by have h9 : memE l = 50 := memE_bad h0 h1 hb (show badAt l i = 50 from by unfold badAt; rw [mAt_of hm, if_neg ha, if_neg hn52, if_pos (by omega)]) (by decide) (by omega); unfold soundE; rw [if_pos (by rw [h9]; decide), h9]; rfl)
              · skip
                have hpz := of_decide_eq_false hpz
                refine L_val rfl rfl rfl (OpP.v (P_move rfl rfl)) ?_
                refine L_val rfl rfl rfl (OpP.v (P_move rfl rfl)) ?_
                refine L_val rfl rfl rfl (OpP.v (P_move rfl rfl)) ?_
                refine L_val rfl rfl rfl (OpP.v (P_ixs (_) rfl ty_sl_22 rfl rfl (by first | rfl | omega) (by omega))) ?_
                refine L_val rfl rfl rfl (OpP.v (P_fld rfl ty_fl_37_1 rfl)) ?_
                refine L_val rfl rfl rfl (V_load rfl rfl ty_sc_34 (by first | exact Rd.blk .h0 rfl | exact Rd.blk .h1 rfl | exact Rd.blk .h2 rfl | exact Rd.blk .h3 rfl | exact Rd.blk .h4 rfl | exact Rd.blk .h5 rfl | exact Rd.blk .h6 rfl | exact Rd.blk .h7 rfl | exact rd_mem hrow rfl hm rfl)) ?_
                refine L_val rfl rfl rfl (OpP.v (P_gtr rfl rfl rfl)) ?_
                refine L_val rfl rfl rfl (OpP.v (P_pick rfl rfl rfl)) ?_
                refine L_nil ?_
                refine Q_then ?_
                refine R_condP rfl (fun hpm => ?_) (fun hpm => ?_)
                · skip
                  refine R_seq ?_
                  refine R_region ?_
                  refine L_val rfl rfl rfl (OpP.v (P_assign rfl rfl)) ?_
                  refine L_nil ?_
                  refine Q_then ?_
                  refine R_ret ?_
                  refine Q_block_ret ?_
                  refine Q_then_ret ?_
                  refine Q_then_ret ?_
                  refine Q_block_ret ?_
                  refine Q_then_ret ?_
                  exact R_endV rfl rfl (.tmp rfl .nil) (by have h9 : memE l = 50 := memE_bad h0 h1 hb (show badAt l i = 50 from by unfold badAt; rw [mAt_of hm, if_neg ha, if_neg hn52, if_pos (by omega)]) (by decide) (by omega); unfold soundE; rw [if_pos (by rw [h9]; decide), h9]; rfl)
                · skip
                  refine R_skip ?_
                  refine Q_block ?_
                  refine Q_then ?_
                  refine R_region ?_
                  refine L_val rfl rfl rfl (OpP.v (P_move rfl rfl)) ?_
                  first | (refine L_val rfl rfl rfl (OpP.v (P_addN rfl rfl rfl (by simp only [fits]; omega))) ?_) | (refine L_val rfl rfl rfl (OpP.v (P_add rfl rfl rfl)) ?_)
                  refine L_val rfl rfl rfl (OpP.v (P_assign rfl rfl)) ?_
                  refine L_nil ?_
                  exact Q_round (i + 1) (⟨by omega, bads_next hb (by unfold badAt; rw [mAt_of hm, if_neg ha, if_neg hn52, if_neg (by omega)])⟩) (by show l.length - (i + 1) < l.length - i; omega) (by repeat (first | exact .nil | refine .cons rfl ?_ | refine .consE rfl (by first | rfl | (congr 1; omega) | (congr 1; push_cast; omega)) ?_)) (Weak.refl _)
          · skip
            have hi0 := of_decide_eq_false hi0
            have hn52 : ¬ (0 < i ∧ m.a ≤ (mAt l (i - 1)).a) := by omega
            refine O_pure rfl rfl rfl rfl (P_move rfl rfl) ?_
            refine O_no rfl rfl rfl rfl ?_
            refine O_no rfl rfl rfl rfl ?_
            refine O_no rfl rfl rfl rfl ?_
            refine O_no rfl rfl rfl rfl ?_
            refine O_noX rfl rfl rfl rfl ?_
            refine O_no rfl rfl rfl rfl ?_
            refine O_no rfl rfl rfl rfl ?_
            refine O_no rfl rfl rfl rfl ?_
            refine O_no rfl rfl rfl rfl ?_
            refine O_no rfl rfl rfl rfl ?_
            refine O_noX rfl rfl rfl rfl ?_
            refine O_no rfl rfl rfl rfl ?_
            refine O_pure rfl rfl rfl rfl (P_pick rfl rfl rfl) ?_
            refine O_nil ?_
            refine Q_then ?_
            refine R_condF rfl ?_
            refine R_skip ?_
            refine Q_then ?_
            refine R_seq ?_
            refine R_region ?_
            refine L_val rfl rfl rfl (OpP.v (P_move rfl rfl)) ?_
            refine L_val rfl rfl rfl (OpP.v (P_move rfl rfl)) ?_
            refine L_val rfl rfl rfl (OpP.v (P_ixs (_) rfl ty_sl_22 rfl rfl (by first | rfl | omega) (by omega))) ?_
            refine L_val rfl rfl rfl (OpP.v (P_fld rfl ty_fl_37_1 rfl)) ?_
            refine L_val rfl rfl rfl (V_load rfl rfl ty_sc_34 (by first | exact Rd.blk .h0 rfl | exact Rd.blk .h1 rfl | exact Rd.blk .h2 rfl | exact Rd.blk .h3 rfl | exact Rd.blk .h4 rfl | exact Rd.blk .h5 rfl | exact Rd.blk .h6 rfl | exact Rd.blk .h7 rfl | exact rd_mem hrow rfl hm rfl)) ?_
            refine L_val rfl rfl rfl (OpP.v (P_eql rfl rfl rfl)) ?_
            refine E_bool (t := 48) rfl (fun hpz => ?_) (fun hpz => ?_)
            · skip
              have hpz := of_decide_eq_true hpz
              refine L_val rfl rfl rfl (OpP.v (P_move rfl rfl)) ?_
              refine L_no rfl rfl rfl ?_
              refine L_no rfl rfl rfl ?_
              refine L_no rfl rfl rfl ?_
              refine L_no rfl rfl rfl ?_
              refine L_no rfl rfl rfl ?_
              refine L_no rfl rfl rfl ?_
              refine L_val rfl rfl rfl (OpP.v (P_pick rfl rfl rfl)) ?_
              refine L_nil ?_
              refine Q_then ?_
              refine R_condT rfl ?_
              refine R_seq ?_
              refine R_region ?_
              refine L_val rfl rfl rfl (OpP.v (P_assign rfl rfl)) ?_
              refine L_nil ?_
              refine Q_then ?_
              refine R_ret ?_
              refine Q_block_ret ?_
              refine Q_then_ret ?_
              refine Q_then_ret ?_
              refine Q_block_ret ?_
              refine Q_then_ret ?_
              exact R_endV rfl rfl (.tmp rfl .nil) (by have h9 : memE l = 50 := memE_bad h0 h1 hb (show badAt l i = 50 from by unfold badAt; rw [mAt_of hm, if_neg ha, if_neg hn52, if_pos (by omega)]) (by decide) (by omega); unfold soundE; rw [if_pos (by rw [h9]; decide), h9]; rfl)
            · skip
              have hpz := of_decide_eq_false hpz
              refine L_val rfl rfl rfl (OpP.v (P_move rfl rfl)) ?_
              refine L_val rfl rfl rfl (OpP.v (P_move rfl rfl)) ?_
              refine L_val rfl rfl rfl (OpP.v (P_move rfl rfl)) ?_
              refine L_val rfl rfl rfl (OpP.v (P_ixs (_) rfl ty_sl_22 rfl rfl (by first | rfl | omega) (by omega))) ?_
              refine L_val rfl rfl rfl (OpP.v (P_fld rfl ty_fl_37_1 rfl)) ?_
              refine L_val rfl rfl rfl (V_load rfl rfl ty_sc_34 (by first | exact Rd.blk .h0 rfl | exact Rd.blk .h1 rfl | exact Rd.blk .h2 rfl | exact Rd.blk .h3 rfl | exact Rd.blk .h4 rfl | exact Rd.blk .h5 rfl | exact Rd.blk .h6 rfl | exact Rd.blk .h7 rfl | exact rd_mem hrow rfl hm rfl)) ?_
              refine L_val rfl rfl rfl (OpP.v (P_gtr rfl rfl rfl)) ?_
              refine L_val rfl rfl rfl (OpP.v (P_pick rfl rfl rfl)) ?_
              refine L_nil ?_
              refine Q_then ?_
              refine R_condP rfl (fun hpm => ?_) (fun hpm => ?_)
              · skip
                refine R_seq ?_
                refine R_region ?_
                refine L_val rfl rfl rfl (OpP.v (P_assign rfl rfl)) ?_
                refine L_nil ?_
                refine Q_then ?_
                refine R_ret ?_
                refine Q_block_ret ?_
                refine Q_then_ret ?_
                refine Q_then_ret ?_
                refine Q_block_ret ?_
                refine Q_then_ret ?_
                exact R_endV rfl rfl (.tmp rfl .nil) (by have h9 : memE l = 50 := memE_bad h0 h1 hb (show badAt l i = 50 from by unfold badAt; rw [mAt_of hm, if_neg ha, if_neg hn52, if_pos (by omega)]) (by decide) (by omega); unfold soundE; rw [if_pos (by rw [h9]; decide), h9]; rfl)
              · skip
                refine R_skip ?_
                refine Q_block ?_
                refine Q_then ?_
                refine R_region ?_
                refine L_val rfl rfl rfl (OpP.v (P_move rfl rfl)) ?_
                first | (refine L_val rfl rfl rfl (OpP.v (P_addN rfl rfl rfl (by simp only [fits]; omega))) ?_) | (refine L_val rfl rfl rfl (OpP.v (P_add rfl rfl rfl)) ?_)
                refine L_val rfl rfl rfl (OpP.v (P_assign rfl rfl)) ?_
                refine L_nil ?_
                exact Q_round (i + 1) (⟨by omega, bads_next hb (by unfold badAt; rw [mAt_of hm, if_neg ha, if_neg hn52, if_neg (by omega)])⟩) (by show l.length - (i + 1) < l.length - i; omega) (by repeat (first | exact .nil | refine .cons rfl ?_ | refine .consE rfl (by first | rfl | (congr 1; omega) | (congr 1; push_cast; omega)) ?_)) (Weak.refl _)
      · skip
        have hin : i = l.length := by omega
        rw [hin] at hb
        refine R_exit ?_
        refine Q_then_exit ?_
        refine Q_then_exit ?_
        refine Q_block_eq ?_
        refine St.env (.cons (t := 2) rfl (.cons (t := 3) rfl .nil)) ?_
        refine Q_then ?_
        refine R_seq ?_
        refine R_region ?_
        refine L_val rfl rfl rfl (OpP.v (P_move rfl rfl)) ?_
        refine L_op rfl (W_callV rfl rfl rfl rfl fn_ca_27 (rtotal_ok base c l hc hmax hok) ((Sn.row hpre rfl).rw_) ?_)
        refine L_val rfl rfl rfl (OpP.v (P_assign rfl rfl)) ?_
        refine L_nil ?_
        refine St.env (.cons (t := 2) rfl (.cons (t := 3) rfl (.cons (t := 5) rfl .nil))) ?_
        refine Q_then ?_
        refine R_seq ?_
        refine R_seq ?_
        refine R_region ?_
        refine L_val rfl rfl rfl (OpP.v (P_move rfl rfl)) ?_
        refine L_val rfl rfl rfl (OpP.v (P_gtr rfl rfl rfl)) ?_
        refine L_nil ?_
        refine St.env (.cons (t := 2) rfl (.cons (t := 3) rfl (.cons (t := 5) rfl (.cons (t := 60) rfl .nil)))) ?_
        refine Q_then ?_
        refine R_condP rfl (fun ht => ?_) (fun ht => ?_)
        · skip
          have ht := (rtV_big hp0).1 ht
          refine R_seq ?_
          refine R_region ?_
          refine L_val rfl rfl rfl (OpP.v (P_assign rfl rfl)) ?_
          refine L_nil ?_
          refine St.env (.cons (t := 2) rfl (.cons (t := 3) rfl (.cons (t := 5) rfl .nil))) ?_
          refine Q_then ?_
          refine R_ret ?_
          refine Q_then_ret ?_
          exact R_endV rfl rfl (.tmp rfl .nil) (by have h9 : memE l = 51 := (by rw [memE_fine h0 h1 hb, if_neg (by omega)]); unfold soundE; rw [if_pos (by rw [h9]; decide), h9]; rfl)
        · skip
          have ht : sumP l ≤ msK := by have h8 : ¬ msK < rtV l := ht; rw [rtV_big hp0] at h8; omega
          have hmem : memE l = 0 := by rw [memE_fine h0 h1 hb, if_pos ht]
          rw [rtV_small hp0 ht]
          refine R_skip ?_
          refine Q_then ?_
          refine R_seq ?_
          refine R_seq ?_
          refine R_region ?_
          refine L_val rfl rfl rfl (OpP.v (P_assign rfl rfl)) ?_
          refine L_nil ?_
          refine St.env (.cons (t := 2) rfl (.cons (t := 3) rfl (.cons (t := 5) rfl (.cons (t := 6) rfl .nil)))) ?_
          refine Q_then ?_
          refine R_block ?_
          refine R_loopE (G := Nat) (.cons (t := 2) rfl (.cons (t := 3) rfl (.cons (t := 5) rfl .nil))) (fun g => [(6, .int .i64 (g : Int))]) (fun _ => _) (fun g => g ≤ l.length ∧ (l.take g).any (outQ (sumP l)) = false) (fun g => l.length - g) (0) (⟨Nat.zero_le _, rfl⟩) (by repeat (first | exact .nil | refine .cons rfl ?_ | refine .consE rfl (by first | rfl | (congr 1; omega) | (congr 1; push_cast; omega)) ?_)) (Weak.refl _) ?_
          intro i hinv
          replace hinv : i ≤ l.length ∧ (l.take i).any (outQ (sumP l)) = false := hinv
          show St (cx gl) _ ((6, .int .i64 (i : Int)) :: _) _ _
          obtain ⟨hi, hany⟩ := hinv
          refine R_seq ?_
          refine R_seq ?_
          refine R_region ?_
          refine L_val rfl rfl rfl (OpP.v (P_move rfl rfl)) ?_
          refine L_val rfl rfl rfl (OpP.v (P_move rfl rfl)) ?_
          refine L_val rfl rfl rfl (OpP.v (P_len rfl ty_sl_22 rfl)) ?_
          refine L_val rfl rfl rfl (OpP.v (P_lss rfl rfl rfl)) ?_
          refine L_nil ?_
          refine Q_then ?_
          refine R_condP rfl (fun hlt => ?_) (fun hlt => ?_)
          · skip
            obtain ⟨m, hm⟩ : ∃ m, l[i]? = some m := ⟨_, List.getElem?_eq_getElem (by omega)⟩
            obtain ⟨pb, pj, rfl, hrow⟩ := hpre.some_ (by rw [memC_length]; omega)
            obtain ⟨⟨ha1, ha2⟩, ⟨hp1, hp2⟩, hq1, hq2⟩ := hok m (List.mem_of_getElem? hm)
            refine R_skip ?_
            refine Q_then ?_
            refine R_seq ?_
            refine R_block ?_
            refine R_seq ?_
            refine R_region ?_
            refine L_val rfl rfl rfl (OpP.v (P_move rfl rfl)) ?_
            refine L_val rfl rfl rfl (OpP.v (P_move rfl rfl)) ?_
            refine L_val rfl rfl rfl (OpP.v (P_ixs (_) rfl ty_sl_22 rfl rfl (by first | rfl | omega) (by omega))) ?_
            refine L_val rfl rfl rfl (OpP.v (P_fld rfl ty_fl_37_2 rfl)) ?_
            refine L_val rfl rfl rfl (V_load rfl rfl ty_sc_2 (by first | exact Rd.blk .h0 rfl | exact Rd.blk .h1 rfl | exact Rd.blk .h2 rfl | exact Rd.blk .h3 rfl | exact Rd.blk .h4 rfl | exact Rd.blk .h5 rfl | exact Rd.blk .h6 rfl | exact Rd.blk .h7 rfl | exact rd_mem hrow rfl hm rfl)) ?_
            refine L_val rfl rfl rfl (OpP.v (P_move rfl rfl)) ?_
            first | (refine L_val rfl rfl rfl (OpP.v (P_convN rfl ty_int_34 ty_int_2 rfl (by simp only [fits]; omega))) ?_) | (refine L_val rfl rfl rfl (OpP.v (P_conv rfl ty_int_34 ty_int_2 rfl)) ?_)
            first | (refine L_val rfl rfl rfl (OpP.v (P_mulN rfl rfl rfl (by simp only [fits]; omega))) ?_) | (refine L_val rfl rfl rfl (OpP.v (P_mul rfl rfl rfl)) ?_)
            refine L_val rfl rfl rfl (OpP.v (P_lss rfl rfl rfl)) ?_
            refine E_bool (t := 75) rfl (fun hlo => ?_) (fun hlo => ?_)
            · skip
              have hlo := of_decide_eq_true hlo
              refine L_val rfl rfl rfl (OpP.v (P_move rfl rfl)) ?_
              refine L_no rfl rfl rfl ?_
              refine L_no rfl rfl rfl ?_
              refine L_no rfl rfl rfl ?_
              refine L_no rfl rfl rfl ?_
              refine L_no rfl rfl rfl ?_
              refine L_no rfl rfl rfl ?_
              refine L_no rfl rfl rfl ?_
              refine L_no rfl rfl rfl ?_
              refine L_no rfl rfl rfl ?_
              refine L_val rfl rfl rfl (OpP.v (P_pick rfl rfl rfl)) ?_
              refine L_nil ?_
              refine Q_then ?_
              refine R_condT rfl ?_
              refine R_seq ?_
              refine R_region ?_
              refine L_val rfl rfl rfl (OpP.v (P_assign rfl rfl)) ?_
              refine L_nil ?_
              refine Q_then ?_
              refine R_ret ?_
              refine Q_block_ret ?_
              refine Q_then_ret ?_
              refine Q_then_ret ?_
              refine Q_block_ret ?_
              refine Q_then_ret ?_
              exact R_endV rfl rfl (.tmp rfl .nil) (by rw [soundE_mem hmem, any_hit hm (show outQ (sumP l) m = true by unfold outQ; rw [Bool.or_eq_true, decide_eq_true_eq, decide_eq_true_eq]; omega)]; rfl)
            · skip
              have hlo := of_decide_eq_false hlo
              refine L_val rfl rfl rfl (OpP.v (P_move rfl rfl)) ?_
              refine L_val rfl rfl rfl (OpP.v (P_move rfl rfl)) ?_
              refine L_val rfl rfl rfl (OpP.v (P_move rfl rfl)) ?_
              refine L_val rfl rfl rfl (OpP.v (P_ixs (_) rfl ty_sl_22 rfl rfl (by first | rfl | omega) (by omega))) ?_
              refine L_val rfl rfl rfl (OpP.v (P_fld rfl ty_fl_37_2 rfl)) ?_
              refine L_val rfl rfl rfl (V_load rfl rfl ty_sc_2 (by first | exact Rd.blk .h0 rfl | exact Rd.blk .h1 rfl | exact Rd.blk .h2 rfl | exact Rd.blk .h3 rfl | exact Rd.blk .h4 rfl | exact Rd.blk .h5 rfl | exact Rd.blk .h6 rfl | exact Rd.blk .h7 rfl | exact rd_mem hrow rfl hm rfl)) ?_
              refine L_val rfl rfl rfl (OpP.v (P_move rfl rfl)) ?_
              first | (refine L_val rfl rfl rfl (OpP.v (P_convN rfl ty_int_34 ty_int_2 rfl (by simp only [fits]; omega))) ?_) | (refine L_val rfl rfl rfl (OpP.v (P_conv rfl ty_int_34 ty_int_2 rfl)) ?_)
              first | (refine L_val rfl rfl rfl (OpP.v (P_mulN rfl rfl rfl (by simp only [fits]; omega))) ?_) | (refine L_val rfl rfl rfl (OpP.v (P_mul rfl rfl rfl)) ?_)
              refine L_val rfl rfl rfl (OpP.v (P_gtr rfl rfl rfl)) ?_
              refine L_val rfl rfl rfl (OpP.v (P_pick rfl rfl rfl)) ?_
              refine L_nil ?_
              refine Q_then ?_
              refine R_condP rfl (fun hhi => ?_) (fun hhi => ?_)
              · skip
                refine R_seq ?_
                refine R_region ?_
                refine L_val rfl rfl rfl (OpP.v (P_assign rfl rfl)) ?_
                refine L_nil ?_
                refine Q_then ?_
                refine R_ret ?_
                refine Q_block_ret ?_
                refine Q_then_ret ?_
                refine Q_then_ret ?_
                refine Q_block_ret ?_
                refine Q_then_ret ?_
                exact R_endV rfl rfl (.tmp rfl .nil) (by rw [soundE_mem hmem, any_hit hm (show outQ (sumP l) m = true by unfold outQ; rw [Bool.or_eq_true, decide_eq_true_eq, decide_eq_true_eq]; omega)]; rfl)
              · skip
                have hout : outQ (sumP l) m = false := by unfold outQ; rw [decide_eq_false (by omega), decide_eq_false (by omega)]; rfl
                refine R_skip ?_
                refine Q_block ?_
                refine Q_then ?_
                refine R_region ?_
                refine L_val rfl rfl rfl (OpP.v (P_move rfl rfl)) ?_
                first | (refine L_val rfl rfl rfl (OpP.v (P_addN rfl rfl rfl (by simp only [fits]; omega))) ?_) | (refine L_val rfl rfl rfl (OpP.v (P_add rfl rfl rfl)) ?_)
                refine L_val rfl rfl rfl (OpP.v (P_assign rfl rfl)) ?_
                refine L_nil ?_
                exact Q_round (i + 1) (⟨by omega, any_take_next hany hm hout⟩) (by show l.length - (i + 1) < l.length - i; omega) (by repeat (first | exact .nil | refine .cons rfl ?_ | refine .consE rfl (by first | rfl | (congr 1; omega) | (congr 1; push_cast; omega)) ?_)) (Weak.refl _)
          · skip
            rw [show i = l.length by omega, List.take_length] at hany
            refine R_exit ?_
            refine Q_then_exit ?_
            refine Q_then_exit ?_
            refine Q_block_eq ?_
            refine St.env (.cons (t := 2) rfl .nil) ?_
            refine Q_then ?_
            refine R_seq ?_
            refine R_region ?_
            refine L_val rfl rfl rfl (OpP.v (P_assign rfl rfl)) ?_
            refine L_nil ?_
            refine Q_then ?_
            refine R_ret ?_
            exact R_endV rfl rfl (.tmp rfl .nil) (by rw [soundE_mem hmem, hany]; rfl)
theorem copied_ok {gl : Nat → Obj} (base : Option Addr) (c : Nat) (l : List Mem) (hc : l.length ≤ c) (hmax : l.length ≤ 5864062014700) : Spec (cx gl) 19 [.agg [.slice base l.length c].toArray] (fun w _ => Row w base (memC l)) [] (fun v rs => ∃ u, v = .agg [u].toArray ∧ rs = [ownS 37 3 (u) (l.length) (memC l)]) := by
  refine Spec.enter (C := cx gl) Tryd.func19 rfl 7 rfl rfl fun w0 h0 hsep hsub hpre => ?_
  obtain rfl : h0 = Heap.none := hsep
  show St (cx gl) _ [(0, .agg [.slice base l.length c].toArray)] _ _
  refine R_seq ?_
  refine R_region ?_
  refine L_op rfl (W_box ([.slice base l.length c]) rfl rfl rfl rfl rfl fun b1 => ?_)
  refine L_op rfl (W_alloc rfl rfl rfl ty_ze_24 fun b2 => ?_)
  refine L_nil ?_
  refine St.env (.cons (t := 1) rfl (.cons (t := 2) rfl .nil)) ?_
  refine Q_then ?_
  refine R_seq ?_
  refine R_region ?_
  refine L_val rfl rfl rfl (OpP.v (P_fld0 rfl ty_fl_24_0 rfl)) ?_
  refine L_val rfl rfl rfl (V_load rfl rfl ty_sc_22 (Rd.blk .h1 rfl)) ?_
  refine L_op rfl (W_call rfl rfl rfl rfl fn_ca_34 (clone_ok base c l hc hmax) (Split.nil _) (fun w a b _ hb dj m => (Sn.row hpre rfl).rw_ w ⟨_, hb, m.le (Heap.le_join_right dj)⟩) fun v5 rs1 (e1 : rs1 = _) => ?_)
  subst e1
  refine St.ownForm (p := []) fun ub uc huv huc => ?_
  subst huv
  refine L_val rfl rfl rfl (OpP.v (P_buildStruct rfl ty_pl_24 ty_ze_24 rfl rfl (rfl))) ?_
  refine E_as (t := 6) (v' := .agg [.slice ub l.length uc].toArray) rfl rfl ?_
  refine L_op rfl (W_storeAll rfl rfl rfl rfl ty_ag_24 (rfl) (by intro v hv; simp only [List.mem_singleton] at hv; subst hv; rfl) .h1 (rfl) ?_)
  refine L_nil ?_
  refine St.env (.cons (t := 2) rfl .nil) ?_
  refine Q_then ?_
  refine R_ret ?_
  exact R_end (rs2 := _) rfl rfl (.cell rfl (Rds.loadVar ty_ag_24 (Rds.blk .h1) rfl) .nil) (⟨_, rfl, rfl⟩) (Weak.keep (Weak.nil _))
theorem New_ok {gl : Nat → Obj} (base : Option Addr) (c : Nat) (l : List Mem) (hc : l.length ≤ c) (hmax : l.length ≤ 5864062014700) (hok : ∀ m ∈ l, m.ok) : Spec (cx gl) 7 [.slice base l.length c] (fun w _ => Row w base (memC l)) [] (fun v rs => ∃ u, v = .tuple #[.agg [u].toArray, .int .i64 (memE l)] ∧ rs = [ownS 37 3 (u) ((newM l).length) (memC (newM l))]) := by
  refine Spec.enter (C := cx gl) Tryd.func7 rfl 33 rfl rfl fun w0 h0 hsep hsub hpre => ?_
  obtain rfl : h0 = Heap.none := hsep
  show St (cx gl) _ [(0, .slice base l.length c)] _ _
  have hp0 : ∀ m ∈ l, 0 ≤ m.p := fun m hm => (hok m hm).2.1.1
  refine R_seq ?_
  refine R_region ?_
  refine L_op rfl (W_alloc rfl rfl rfl ty_ze_24 fun b2 => ?_)
  refine L_val rfl rfl rfl (OpP.v (P_assign rfl rfl)) ?_
  refine L_nil ?_
  refine Q_then ?_
  refine R_seq ?_
  refine R_seq ?_
  refine R_region ?_
  refine L_val rfl rfl rfl (OpP.v (P_move rfl rfl)) ?_
  refine L_op rfl (W_callV rfl rfl rfl rfl fn_ca_18 (members_ok base c l hc hmax hok) ((Sn.row hpre rfl).rw_) ?_)
  refine L_val rfl rfl rfl (OpP.v (P_move rfl rfl)) ?_
  refine L_val rfl rfl rfl (OpP.v (P_extract rfl rfl rfl)) ?_
  refine L_val rfl rfl rfl (OpP.v (P_extract rfl rfl rfl)) ?_
  refine L_val rfl rfl rfl (OpP.v (P_assign rfl rfl)) ?_
  refine L_val rfl rfl rfl (OpP.v (P_assign rfl rfl)) ?_
  refine L_nil ?_
  refine St.env (.cons (t := 0) rfl (.cons (t := 2) rfl (.cons (t := 3) rfl (.cons (t := 5) rfl .nil)))) ?_
  refine Q_then ?_
  refine R_seq ?_
  refine R_region ?_
  refine L_val rfl rfl rfl (OpP.v (P_move rfl rfl)) ?_
  refine L_val rfl rfl rfl (OpP.v (P_neq rfl rfl rfl)) ?_
  refine L_nil ?_
  refine St.env (.cons (t := 0) rfl (.cons (t := 2) rfl (.cons (t := 3) rfl (.cons (t := 5) rfl (.cons (t := 14) rfl .nil))))) ?_
  refine Q_then ?_
  refine R_condP rfl (fun he => ?_) (fun he => ?_)
  · skip
    refine R_seq ?_
    refine R_region ?_
    refine L_val rfl rfl rfl (OpP.v (P_buildStruct rfl ty_pl_24 ty_ze_24 rfl rfl (rfl))) ?_
    refine E_as (t := 15) (v' := .agg [.slice none 0 0].toArray) rfl rfl ?_
    refine L_val rfl rfl rfl (OpP.v (P_move rfl rfl)) ?_
    refine L_op rfl (W_storeAll rfl rfl rfl rfl ty_ag_24 (rfl) (by intro v hv; simp only [List.mem_singleton] at hv; subst hv; rfl) .h0 (rfl) ?_)
    refine L_val rfl rfl rfl (OpP.v (P_assign rfl rfl)) ?_
    refine L_nil ?_
    refine St.env (.cons (t := 0) rfl (.cons (t := 2) rfl (.cons (t := 3) rfl .nil))) ?_
    refine Q_then ?_
    refine R_ret ?_
    refine Q_then_ret ?_
    exact R_end (rs2 := [ownS 37 3 (.slice none 0 0) ((newM l).length) (memC (newM l))]) rfl rfl (.cell rfl (Rds.loadVar ty_ag_24 (Rds.blk .h0) rfl) (.tmp rfl .nil)) (⟨_, rfl, rfl⟩) (Weak.trans (Weak.newNil (T := 37) (sz := 3)) (Weak.keep_to (fun h hh => by rw [newM_bad he]; exact hh)))
  · skip
    have he : memE l = 0 := Classical.not_not.1 he
    have hF := fine_of he
    have hl1 := hF.pos
    refine R_skip ?_
    refine Q_then ?_
    refine R_seq ?_
    refine R_region ?_
    refine L_val rfl rfl rfl (OpP.v (P_move rfl rfl)) ?_
    refine L_val rfl rfl rfl (OpP.v (P_buildStruct rfl ty_pl_24 ty_ze_24 rfl rfl (rfl))) ?_
    refine E_as (t := 18) (v' := .agg [.slice base l.length c].toArray) rfl rfl ?_
    refine L_op rfl (W_call rfl rfl rfl rfl fn_ca_19 (copied_ok base c l hc hmax) (Split.nil _) (fun w a b _ hb dj m => (Sn.row hpre rfl).rw_ w ⟨_, hb, m.le (Heap.le_join_right dj)⟩) fun v19 rs1 ⟨u, e1, e2⟩ => ?_)
    subst e1; subst e2
    refine St.ownSome (p := []) hl1 fun ub uc huv huc => ?_
    subst huv
    refine L_op rfl (W_alloc rfl rfl rfl ty_ze_24 fun b6 => ?_)
    refine L_op rfl (W_storeAll rfl rfl rfl rfl ty_ag_24 (rfl) (by intro v hv; simp only [List.mem_singleton] at hv; subst hv; rfl) .h0 (rfl) ?_)
    refine L_nil ?_
    refine St.env (.cons (t := 2) rfl (.cons (t := 3) rfl (.cons (t := 6) rfl .nil))) ?_
    refine Q_then ?_
    refine R_seq ?_
    refine R_seq ?_
    refine R_region ?_
    refine L_val rfl rfl rfl (OpP.v (P_fld0 rfl ty_fl_24_0 rfl)) ?_
    refine L_val rfl rfl rfl (V_load rfl rfl ty_sc_22 (Rd.blk .h0 rfl)) ?_
    refine L_val rfl rfl rfl (OpP.v (P_len rfl ty_sl_22 rfl)) ?_
    refine L_val rfl rfl rfl (OpP.v (P_move rfl rfl)) ?_
    refine L_nil ?_
    refine St.env (.cons (t := 2) rfl (.cons (t := 3) rfl (.cons (t := 6) rfl (.cons (t := 22) rfl (.cons (t := 23) rfl .nil))))) ?_
    refine Q_then ?_
    refine R_block ?_
    refine R_loopE (G := Nat) (.cons (t := 2) rfl (.cons (t := 3) rfl (.cons (t := 6) rfl (.cons (t := 22) rfl .nil)))) (fun g => [(23, .int .i64 (g : Int))]) (fun g => [blk b6 [.slice (some ⟨ub, 0, none⟩) l.length uc] 24, ownS 37 3 (.slice (some ⟨ub, 0, none⟩) l.length uc) (l.length) (memC (zeroN l g)), blk b2 [.slice none 0 0] 24]) (fun g => g ≤ l.length) (fun g => l.length - g) (0) (Nat.zero_le _) (by repeat (first | exact .nil | refine .cons rfl ?_ | refine .consE rfl (by first | rfl | (congr 1; omega) | (congr 1; push_cast; omega)) ?_)) (by rw [zeroN_zero]; exact Weak.refl _) ?_
    intro i hinv
    replace hinv : i ≤ l.length := hinv
    show St (cx gl) _ ((23, .int .i64 (i : Int)) :: _) [blk b6 [.slice (some ⟨ub, 0, none⟩) l.length uc] 24, ownS 37 3 (.slice (some ⟨ub, 0, none⟩) l.length uc) (l.length) (memC (zeroN l i)), blk b2 [.slice none 0 0] 24] _
    refine R_seq ?_
    refine R_region ?_
    refine L_val rfl rfl rfl (OpP.v (P_lss rfl rfl rfl)) ?_
    refine L_nil ?_
    refine Q_then ?_
    refine R_seq ?_
    refine R_condP rfl (fun hlt => ?_) (fun hlt => ?_)
    · skip
      obtain ⟨m, hm⟩ : ∃ m, l[i]? = some m := ⟨_, List.getElem?_eq_getElem (by omega)⟩
      have hzm := zeroN_at hm
      refine R_skip ?_
      refine Q_then ?_
      refine R_seq ?_
      refine R_block ?_
      refine R_seq ?_
      refine R_region ?_
      refine L_val rfl rfl rfl (OpP.v (P_move rfl rfl)) ?_
      refine L_val rfl rfl rfl (OpP.v (P_assign rfl rfl)) ?_
      refine L_nil ?_
      refine Q_then ?_
      refine R_region ?_
      refine L_val rfl rfl rfl (OpP.v (P_fld0 rfl ty_fl_24_0 rfl)) ?_
      refine L_val rfl rfl rfl (V_load rfl rfl ty_sc_22 (Rd.blk .h0 rfl)) ?_
      refine L_val rfl rfl rfl (OpP.v (P_move rfl rfl)) ?_
      refine L_val rfl rfl rfl (OpP.v (P_ixs (_) rfl ty_sl_22 rfl rfl (by first | rfl | omega) (by omega))) ?_
      refine L_val rfl rfl rfl (OpP.v (P_fld rfl ty_fl_37_2 rfl)) ?_
      refine L_op rfl (W_storeOwn1 (T := 37) (sz := 3) (n := l.length) (c := uc) (cs := memC (zeroN l i)) rfl rfl rfl rfl ty_sc_2 rfl .h1 (by rw [memC_length, zeroN_length]; omega) ?_)
      refine St.res (rs' := [blk b6 [.slice (some ⟨ub, 0, none⟩) l.length uc] 24, ownS 37 3 (.slice (some ⟨ub, 0, none⟩) l.length uc) (l.length) (memC (zeroN l (i + 1))), blk b2 [.slice none 0 0] 24]) (by rw [← zeroN_step hm]; unfold memC; rw [Nat.zero_add, rows_set (mem_len _) hzm (y := Mem.mk m.a m.p 0) (by decide) rfl]; exact Weak.refl _) ?_
      refine L_nil ?_
      refine Q_block ?_
      refine Q_then ?_
      refine R_region ?_
      first | (refine L_val rfl rfl rfl (OpP.v (P_addN rfl rfl rfl (by simp only [fits]; omega))) ?_) | (refine L_val rfl rfl rfl (OpP.v (P_add rfl rfl rfl)) ?_)
      refine L_val rfl rfl rfl (OpP.v (P_move rfl rfl)) ?_
      refine L_nil ?_
      exact Q_round (i + 1) (by omega) (by show l.length - (i + 1) < l.length - i; omega) (by repeat (first | exact .nil | refine .cons rfl ?_ | refine .consE rfl (by first | rfl | (congr 1; omega) | (congr 1; push_cast; omega)) ?_)) (Weak.refl _)
    · skip
      have hin : i = l.length := by omega
      refine R_exit ?_
      refine Q_then_exit ?_
      refine Q_then_exit ?_
      refine Q_block_eq ?_
      refine St.env (.cons (t := 2) rfl (.cons (t := 3) rfl (.cons (t := 6) rfl .nil))) ?_
      refine Q_then ?_
      refine R_seq ?_
      refine R_region ?_
      refine L_val rfl rfl rfl (V_loadAgg rfl rfl ty_ag_24 (Rds.blk .h0) (rfl)) ?_
      refine L_op rfl (W_storeAll rfl rfl rfl rfl ty_ag_24 (rfl) (by intro v hv; simp only [List.mem_singleton] at hv; subst hv; rfl) .h2 (rfl) ?_)
      refine L_val rfl rfl rfl (OpP.v (P_assign rfl rfl)) ?_
      refine L_nil ?_
      refine St.env (.cons (t := 2) rfl (.cons (t := 3) rfl .nil)) ?_
      refine Q_then ?_
      refine R_ret ?_
      exact R_end (rs2 := [ownS 37 3 (.slice (some ⟨ub, 0, none⟩) l.length uc) ((newM l).length) (memC (newM l))]) rfl rfl (.cell rfl (Rds.loadVar ty_ag_24 (Rds.blk .h2) rfl) (.tmp rfl .nil)) (⟨_, by rw [he]; rfl, rfl⟩) (Weak.drop (ownS.to2 (by rw [newM_fine he, newL_length]) (by rw [newM_fine he, hin, zeroN_full])))
end Go.Proofs.YtjhhpagcejgclaaDoor
