/- Walks: Digest, the writer. Printed by gen.py. -/
import Derived.Test.YtjhhpagcejgclaaDoorCD2
set_option linter.unusedVariables false
set_option linter.unusedSimpArgs false
set_option maxRecDepth 100000
namespace Go.Proofs.YtjhhpagcejgclaaDoor
open Go Go.RowKit Go.Proofs
theorem rDigest_ok {gl : Nat → Obj} (hG : GlobsR gl) (base : Option Addr) (c : Nat) (l : List Mem) (hc : l.length ≤ c) (hmax : l.length ≤ 5864062014700) (hok : ∀ m ∈ l, m.ok) : SpecV (cx gl) 6 [.agg [.slice base l.length c].toArray] (fun w => Row w base (memC l)) (digV l) := by
  refine Spec.enter (C := cx gl) Tryd.func6 rfl 16 rfl rfl fun w0 h0 hsep hsub hpre => ?_
  obtain rfl : h0 = Heap.none := hsep
  show St (cx gl) _ [(0, .agg [.slice base l.length c].toArray)] _ _
  have hp0 : ∀ m ∈ l, 0 ≤ m.p := fun m hm => (hok m hm).2.1.1
  refine R_seq ?_
  refine R_region ?_
  refine L_op rfl (W_box ([.slice base l.length c]) rfl rfl rfl rfl rfl fun b1 => ?_)
  refine L_op rfl (W_alloc rfl rfl rfl ty_ze_27 fun b2 => ?_)
  refine L_val rfl rfl rfl (OpP.v (P_assign rfl rfl)) ?_
  refine L_nil ?_
  refine St.env (.cons (t := 1) rfl (.cons (t := 2) rfl (.cons (t := 3) rfl .nil))) ?_
  refine Q_then ?_
  refine R_seq ?_
  refine R_region ?_
  refine L_val rfl rfl rfl (V_loadAgg rfl rfl ty_ag_24 (Rds.blk .h1) (rfl)) ?_
  refine L_op rfl (W_callV rfl rfl rfl rfl fn_ca_15 (rSound_ok base c l hc hmax hok) ((Sn.row hpre rfl).rw_) ?_)
  refine L_val rfl rfl rfl (OpP.v (P_assign rfl rfl)) ?_
  refine L_nil ?_
  refine St.env (.cons (t := 1) rfl (.cons (t := 2) rfl (.cons (t := 3) rfl (.cons (t := 4) rfl .nil)))) ?_
  refine Q_then ?_
  refine R_seq ?_
  refine R_seq ?_
  refine R_region ?_
  refine L_val rfl rfl rfl (OpP.v (P_move rfl rfl)) ?_
  refine L_val rfl rfl rfl (OpP.v (P_neq rfl rfl rfl)) ?_
  refine L_nil ?_
  refine St.env (.cons (t := 1) rfl (.cons (t := 2) rfl (.cons (t := 3) rfl (.cons (t := 4) rfl (.cons (t := 8) rfl .nil))))) ?_
  refine Q_then ?_
  refine R_condP rfl (fun he => ?_) (fun he => ?_)
  · skip
    refine R_seq ?_
    refine R_region ?_
    refine L_val rfl rfl rfl (OpP.v (P_buildArrR rfl ty_ar_27 ty_ze_27 rfl rfl rfl (by first | decide | (simp only [List.length_cons, List.length_nil]; omega)) (by simp [Value.oneCell']))) ?_
    refine E_as (t := 9) (v' := .agg (ints .u8 (List.replicate 32 0)).toArray) rfl rfl ?_
    refine L_val rfl rfl rfl (OpP.v (P_move rfl rfl)) ?_
    refine L_op rfl (W_storeAll rfl rfl rfl rfl ty_ag_27 (rfl) (ints_one) .h0 (rfl) ?_)
    refine L_val rfl rfl rfl (OpP.v (P_assign rfl rfl)) ?_
    refine L_nil ?_
    refine St.env (.cons (t := 1) rfl (.cons (t := 2) rfl (.cons (t := 3) rfl .nil))) ?_
    refine Q_then ?_
    refine R_ret ?_
    refine Q_then_ret ?_
    exact R_endV rfl rfl (.cell rfl (Rds.loadVar ty_ag_27 (Rds.blk .h0) rfl) (.tmp rfl .nil)) (by unfold digV digD digE; rw [if_pos he, if_pos he]; rfl)
  · skip
    have he : soundE l = 0 := Classical.not_not.1 he
    have hfew := (sound_fine he).1.few
    refine R_skip ?_
    refine Q_then ?_
    refine R_seq ?_
    refine R_region ?_
    refine L_val rfl rfl rfl (V_loadAgg rfl rfl ty_ag_24 (Rds.blk .h1) (rfl)) ?_
    refine L_op rfl (W_call rfl rfl rfl rfl fn_ca_17 (Items_ok base c l hc hmax hok hfew) (Split.nil _) (fun w a b _ hb dj m => (Sn.row hpre rfl).rw_ w ⟨_, hb, m.le (Heap.le_join_right dj)⟩) fun v1 rs1 ⟨qs, hq, e1⟩ => ?_)
    subst e1
    refine St.ownForm (p := [_]) fun ub uc huv huc => ?_
    subst huv
    have hql : (qs.map Ob.val).length = l.length := by rw [List.length_map]; exact hq.len
    have h9 := rroot_ok (gl := gl) hG ub uc (qs.map Ob.val) (qs.map Ob.xs) (by rw [List.length_map, List.length_map]) (by omega) (by omega)
    rw [hql, hq.1] at h9
    refine L_op rfl (W_callV rfl rfl rfl rfl fn_ca_16 (h9) (fun w nw => by have h8 := fam_items hq.2 .h0 .h1 w nw; rw [hq.1] at h8; exact h8) ?_)
    refine L_val rfl rfl rfl (OpP.v (P_extract rfl rfl rfl)) ?_
    refine L_val rfl rfl rfl (OpP.v (P_extract rfl rfl rfl)) ?_
    refine L_op rfl (W_storeAll rfl rfl rfl rfl ty_ag_27 (by rw [ints_length, rootD_length]) (ints_one) .h2 (by rw [ints_length, rootD_length]; rfl) ?_)
    refine L_val rfl rfl rfl (OpP.v (P_assign rfl rfl)) ?_
    refine L_nil ?_
    refine St.env (.cons (t := 2) rfl (.cons (t := 3) rfl .nil)) ?_
    refine Q_then ?_
    refine R_ret ?_
    exact R_endV rfl rfl (.cell rfl (Rds.loadVar ty_ag_27 (Rds.blk .h2) (by rw [ints_length, rootD_length])) (.tmp rfl .nil)) (by unfold digV digD digE; rw [if_neg (by rw [he]; simp), if_neg (by rw [he]; simp)]; rfl)
theorem newW_ok {gl : Nat → Obj} : Spec (cx gl) 11 [] (fun _ _ => True) [] (fun v rs => ∃ wb, v = .pointer (some ⟨wb, 0, none⟩) ∧ rs = [blk wb [.bool true, .slice none 0 0, .int .i64 0] 57]) := by
  refine Spec.enter (C := cx gl) Tryd.func11 rfl 3 rfl rfl fun w0 h0 hsep hsub hpre => ?_
  obtain rfl : h0 = Heap.none := hsep
  show St (cx gl) _ [] _ _
  refine R_seq ?_
  refine R_region ?_
  refine L_val rfl rfl rfl (OpP.v (P_assign rfl rfl)) ?_
  refine L_nil ?_
  refine Q_then ?_
  refine R_seq ?_
  refine R_region ?_
  refine L_val rfl rfl rfl (OpP.v (P_buildStruct rfl ty_pl_57 ty_ze_57 rfl rfl (rfl))) ?_
  refine E_as (t := 1) (v' := .agg [.bool true, .slice none 0 0, .int .i64 0].toArray) rfl rfl ?_
  refine L_op rfl (W_box ([.bool true, .slice none 0 0, .int .i64 0]) rfl rfl rfl rfl rfl fun b2 => ?_)
  refine L_val rfl rfl rfl (OpP.v (P_assign rfl rfl)) ?_
  refine L_nil ?_
  refine St.env (.cons (t := 0) rfl .nil) ?_
  refine Q_then ?_
  refine R_ret ?_
  exact R_end (rs2 := _) rfl rfl (.tmp rfl .nil) (⟨_, rfl, rfl⟩) (Weak.refl _)
theorem live_ok {gl : Nat → Obj} (wb : Nat) (bv : Value) : SpecR (cx gl) 56 [.pointer (some ⟨wb, 0, none⟩)] (fun _ _ => True) [blk wb [.bool true, bv, .int .i64 0] 57] (.bool true) [blk wb [.bool true, bv, .int .i64 0] 57] := by
  refine Spec.enter (C := cx gl) Tryd.func56 rfl 18 rfl rfl fun w0 h0 hsep hsub hpre => ?_
  show St (cx gl) _ [(0, .pointer (some ⟨wb, 0, none⟩))] _ _
  refine R_seq ?_
  refine R_region ?_
  refine L_val rfl rfl rfl (OpP.v (P_assign rfl rfl)) ?_
  refine L_nil ?_
  refine Q_then ?_
  refine R_seq ?_
  refine R_region ?_
  refine L_val rfl rfl rfl (OpP.v (P_move rfl rfl)) ?_
  refine L_val rfl rfl rfl (OpP.v (P_neNil rfl ty_ptr_43 rfl rfl)) ?_
  refine L_val rfl rfl rfl (OpP.v (P_move rfl rfl)) ?_
  refine L_val rfl rfl rfl (OpP.v (P_move rfl rfl)) ?_
  refine L_val rfl rfl rfl (OpP.v (P_nil rfl rfl)) ?_
  refine L_val rfl rfl rfl (OpP.v (P_fld0 rfl ty_fl_57_0 rfl)) ?_
  refine L_val rfl rfl rfl (V_load rfl rfl ty_sc_4 (Rd.blk .h0 rfl)) ?_
  refine E_true (t := 9) rfl (rfl) ?_
  refine L_val rfl rfl rfl (OpP.v (P_pick rfl rfl rfl)) ?_
  refine L_val rfl rfl rfl (OpP.v (P_move rfl rfl)) ?_
  refine L_val rfl rfl rfl (OpP.v (P_move rfl rfl)) ?_
  refine L_val rfl rfl rfl (OpP.v (P_nil rfl rfl)) ?_
  refine L_val rfl rfl rfl (OpP.v (P_fld0 rfl ty_fl_57_2 rfl)) ?_
  refine L_val rfl rfl rfl (V_load rfl rfl ty_sc_28 (Rd.blk .h0 rfl)) ?_
  refine L_val rfl rfl rfl (OpP.v (P_eql rfl rfl rfl)) ?_
  refine E_true (t := 16) rfl (rfl) ?_
  refine L_val rfl rfl rfl (OpP.v (P_pick rfl rfl rfl)) ?_
  refine L_val rfl rfl rfl (OpP.v (P_assign rfl rfl)) ?_
  refine L_nil ?_
  refine St.env (.cons (t := 2) rfl .nil) ?_
  refine Q_then ?_
  refine R_ret ?_
  exact R_end (rs2 := _) rfl rfl (.tmp rfl .nil) (⟨rfl, rfl⟩) (Weak.refl _)
theorem put_ok {gl : Nat → Obj} (wb : Nat) (bv : Value) (n : Nat) (xs : List Int) (hn : n ≤ 1024) (y : Int) (bb : Option Addr) (bc : Nat) (hbc : 1 ≤ bc) : Spec (cx gl) 41 [.pointer (some ⟨wb, 0, none⟩), .slice bb 1 bc] (fun w h => Seen w h bb (ints .u8 [y])) [blk wb [.bool true, bv, .int .i64 0] 57, ownS 5 1 (bv) (n) (ints .u8 (xs))] (fun v rs => v = .tuple #[] ∧ ∃ bv', rs = [blk wb [.bool true, bv', .int .i64 0] 57, ownS 5 1 (bv') (n + 1) (ints .u8 (xs ++ [y]))]) := by
  refine Spec.enter (C := cx gl) Tryd.func41 rfl 15 rfl rfl fun w0 h0 hsep hsub hpre => ?_
  show St (cx gl) _ [(0, .pointer (some ⟨wb, 0, none⟩)), (1, .slice bb 1 bc)] _ _
  refine R_seq ?_
  refine R_region ?_
  refine L_val rfl rfl rfl (OpP.v (P_move rfl rfl)) ?_
  refine L_op rfl (W_callR rfl rfl rfl rfl fn_ca_56 (live_ok wb bv) (Weak.refl _) (fun _ _ _ _ _ _ _ => trivial) ?_)
  refine E_true (t := 5) rfl (rfl) ?_
  refine L_nil ?_
  refine St.env (.cons (t := 0) rfl (.cons (t := 1) rfl (.cons (t := 5) rfl .nil))) ?_
  refine Q_then ?_
  refine R_condT rfl ?_
  refine R_region ?_
  refine L_val rfl rfl rfl (OpP.v (P_move rfl rfl)) ?_
  refine L_val rfl rfl rfl (OpP.v (P_move rfl rfl)) ?_
  refine L_val rfl rfl rfl (OpP.v (P_nil rfl rfl)) ?_
  refine L_val rfl rfl rfl (OpP.v (P_fld0 rfl ty_fl_57_1 rfl)) ?_
  refine L_val rfl rfl rfl (V_load rfl rfl ty_sc_46 (Rd.blk .h0 rfl)) ?_
  refine L_val rfl rfl rfl (OpP.v (P_move rfl rfl)) ?_
  refine L_op rfl (W_append (p := [_]) rfl rfl rfl ty_sl_46 ty_ap_46 ty_src_46 rfl rfl rfl (Src.row (news := ints .u8 [y]) (Sn.old hpre).rw_ (by rw [ints_length]; rfl) ints_one) (by omega) (by simp only [maxLen]; omega) fun v12 => ?_)
  refine St.ownForm (p := [_]) fun nb nc hnv hnc => ?_
  subst hnv
  refine L_val rfl rfl rfl (OpP.v (P_nil rfl rfl)) ?_
  refine L_val rfl rfl rfl (OpP.v (P_fld0 rfl ty_fl_57_1 rfl)) ?_
  refine L_op rfl (W_store rfl rfl rfl rfl ty_sc_46 rfl .h0 (by first | decide | (simp [ints]; done) | (simp [ints]; omega)) ?_)
  refine L_nil ?_
  refine St.env (.nil) ?_
  exact R_end0 (rs2 := _) rfl rfl (.nil) (⟨rfl, _, rfl⟩) (Weak.keep (ownS.to2 rfl (by rw [ints_append])))
theorem fixed_ok {gl : Nat → Obj} (wb : Nat) (bv : Value) (n : Nat) (xs : List Int) (hn : n ≤ 512) (x : Int) : Spec (cx gl) 22 [.pointer (some ⟨wb, 0, none⟩), .int .u64 x, .int .i64 8] (fun _ _ => True) [blk wb [.bool true, bv, .int .i64 0] 57, ownS 5 1 (bv) (n) (ints .u8 (xs))] (fun v rs => v = .tuple #[] ∧ ∃ bv', rs = [blk wb [.bool true, bv', .int .i64 0] 57, ownS 5 1 (bv') (n + 8) (ints .u8 (xs ++ word8 x 8))]) := by
  refine Spec.enter (C := cx gl) Tryd.func22 rfl 20 rfl rfl fun w0 h0 hsep hsub hpre => ?_
  show St (cx gl) _ [(0, .pointer (some ⟨wb, 0, none⟩)), (1, .int .u64 x), (2, .int .i64 8)] _ _
  refine R_seq ?_
  refine R_region ?_
  refine L_val rfl rfl rfl (OpP.v (P_move rfl rfl)) ?_
  refine L_val rfl rfl rfl (OpP.v (P_move rfl rfl)) ?_
  refine L_nil ?_
  refine St.env (.cons (t := 0) rfl (.cons (t := 1) rfl (.cons (t := 7) rfl (.cons (t := 8) rfl .nil)))) ?_
  refine Q_then ?_
  refine R_block ?_
  refine R_loopE (G := Nat × Value) (.cons (t := 0) rfl (.cons (t := 1) rfl (.cons (t := 7) rfl .nil))) (fun g => [(8, .int .i64 (g.1 : Int))]) (fun g => [blk wb [.bool true, g.2, .int .i64 0] 57, ownS 5 1 (g.2) (n + g.1) (ints .u8 (xs ++ word8 x g.1))]) (fun g => g.1 ≤ 8) (fun g => 8 - g.1) (0, bv) (Nat.zero_le _) (by repeat (first | exact .nil | refine .cons rfl ?_ | refine .consE rfl (by first | rfl | (congr 1; omega) | (congr 1; push_cast; omega)) ?_)) (Weak.keep (ownS.to1 rfl (by simp [word8]))) ?_
  rintro ⟨i, bv⟩ hinv
  replace hinv : i ≤ 8 := hinv
  show St (cx gl) _ ((8, .int .i64 (i : Int)) :: _) [blk wb [.bool true, bv, .int .i64 0] 57, ownS 5 1 (bv) (n + i) (ints .u8 (xs ++ word8 x i))] _
  refine R_seq ?_
  refine R_region ?_
  refine L_val rfl rfl rfl (OpP.v (P_lss rfl rfl rfl)) ?_
  refine L_nil ?_
  refine Q_then ?_
  refine R_seq ?_
  refine R_condP rfl (fun hlt => ?_) (fun hlt => ?_)
  · skip
    refine R_skip ?_
    refine Q_then ?_
    refine R_seq ?_
    refine R_block ?_
    refine R_seq ?_
    refine R_region ?_
    refine L_val rfl rfl rfl (OpP.v (P_move rfl rfl)) ?_
    refine L_val rfl rfl rfl (OpP.v (P_assign rfl rfl)) ?_
    refine L_nil ?_
    refine Q_then ?_
    refine R_region ?_
    refine L_val rfl rfl rfl (OpP.v (P_move rfl rfl)) ?_
    refine L_val rfl rfl rfl (OpP.v (P_move rfl rfl)) ?_
    refine L_val rfl rfl rfl (OpP.v (P_move rfl rfl)) ?_
    refine L_val rfl rfl rfl (OpP.v (P_mulN rfl rfl rfl (by simp only [fits]; omega))) ?_
    refine L_val rfl rfl rfl (OpP.v (P_shr rfl rfl rfl (by omega))) ?_
    refine L_val rfl rfl rfl (OpP.v (P_conv rfl ty_int_34 ty_int_5 rfl)) ?_
    refine E_as (t := 16) (v' := .int .u8 (w8 x i)) rfl (rfl) ?_
    refine L_op rfl (W_lit (z := .nilIface) ([.int .u8 (w8 x i)]) rfl rfl rfl ty_sl_46 ty_lz_46 rfl rfl rfl (by decide) (by decide) (by simp [Value.cells]) (rfl) fun b17 => ?_)
    refine L_op rfl (W_call rfl rfl rfl rfl fn_ca_41 (put_ok wb bv (n + i) (xs ++ word8 x i) (by omega) (w8 x i) (some ⟨b17, 0, none⟩) 1 (by omega)) (Weak.pick (p := [_]) (Weak.pick (p := [_]) (Weak.keep (Weak.nil _)))) (Sn.pre (Sn.ofBlk .h0)) fun v9 rs9 ⟨e9, bv2, e8⟩ => ?_)
    subst e9; subst e8
    refine L_nil ?_
    refine St.env (.cons (t := 0) rfl (.cons (t := 1) rfl (.cons (t := 6) rfl (.cons (t := 7) rfl (.cons (t := 8) rfl (.cons (t := 9) rfl (.cons (t := 10) rfl (.cons (t := 11) rfl (.cons (t := 12) rfl (.cons (t := 13) rfl (.cons (t := 14) rfl (.cons (t := 15) rfl (.cons (t := 16) rfl (.cons (t := 17) rfl .nil)))))))))))))) ?_
    refine Q_block ?_
    refine Q_then ?_
    refine R_region ?_
    first | (refine L_val rfl rfl rfl (OpP.v (P_addN rfl rfl rfl (by simp only [fits]; omega))) ?_) | (refine L_val rfl rfl rfl (OpP.v (P_add rfl rfl rfl)) ?_)
    refine L_val rfl rfl rfl (OpP.v (P_move rfl rfl)) ?_
    refine L_nil ?_
    exact Q_round (i + 1, bv2) (by omega) (by show 8 - (i + 1) < 8 - i; omega) (by repeat (first | exact .nil | refine .cons rfl ?_ | refine .consE rfl (by first | rfl | (congr 1; omega) | (congr 1; push_cast; omega)) ?_)) (Weak.keep (Weak.trans (ownS.to1 rfl (by rw [word8_succ, ← List.append_assoc])) (Weak.keep (Weak.nil _))))
  · skip
    obtain rfl : i = 8 := by omega
    refine R_exit ?_
    refine Q_then_exit ?_
    refine Q_then_exit ?_
    refine Q_block_eq ?_
    refine St.env (.nil) ?_
    exact R_end0 (rs2 := _) rfl rfl (.nil) (⟨rfl, _, rfl⟩) (Weak.refl _)
theorem U64_ok {gl : Nat → Obj} (wb : Nat) (bv : Value) (n : Nat) (xs : List Int) (hn : n ≤ 512) (x : Int) : Spec (cx gl) 12 [.pointer (some ⟨wb, 0, none⟩), .int .u64 x] (fun _ _ => True) [blk wb [.bool true, bv, .int .i64 0] 57, ownS 5 1 (bv) (n) (ints .u8 (xs))] (fun v rs => v = .tuple #[] ∧ ∃ bv', rs = [blk wb [.bool true, bv', .int .i64 0] 57, ownS 5 1 (bv') (n + 8) (ints .u8 (xs ++ word8 x 8))]) := by
  refine Spec.enter (C := cx gl) Tryd.func12 rfl 7 rfl rfl fun w0 h0 hsep hsub hpre => ?_
  show St (cx gl) _ [(0, .pointer (some ⟨wb, 0, none⟩)), (1, .int .u64 x)] _ _
  refine R_region ?_
  refine L_val rfl rfl rfl (OpP.v (P_move rfl rfl)) ?_
  refine L_val rfl rfl rfl (OpP.v (P_move rfl rfl)) ?_
  refine L_op rfl (W_call rfl rfl rfl rfl fn_ca_22 (fixed_ok wb bv n xs hn x) (Weak.refl _) (fun _ _ _ _ _ _ _ => trivial) fun v9 rs9 ⟨e9, bv2, e8⟩ => ?_)
  subst e9; subst e8
  refine L_nil ?_
  refine St.env (.nil) ?_
  exact R_end0 (rs2 := _) rfl rfl (.nil) (⟨rfl, _, rfl⟩) (Weak.refl _)
theorem cloneB_ok {gl : Nat → Obj} (base : Option Addr) (c : Nat) (xs : List Int) (hc : xs.length ≤ c) (hx : 0 < xs.length) (hmax : xs.length ≤ 1024) : Spec (cx gl) 23 [.slice base xs.length c] (fun w _ => Row w base (ints .u8 xs)) [] (fun v rs => rs = [ownS 5 1 (v) (xs.length) (ints .u8 (xs))]) := by
  refine Spec.enter (C := cx gl) Tryd.func23 rfl 8 rfl rfl fun w0 h0 hsep hsub hpre => ?_
  obtain rfl : h0 = Heap.none := hsep
  show St (cx gl) _ [(0, .slice base xs.length c)] _ _
  obtain ⟨pb, pj, rfl, hrow⟩ := hpre.some_ (by rw [ints_length]; exact hx)
  refine R_seq ?_
  refine R_region ?_
  refine L_val rfl rfl rfl (OpP.v (P_assign rfl rfl)) ?_
  refine L_nil ?_
  refine Q_then ?_
  refine R_seq ?_
  refine R_seq ?_
  refine R_region ?_
  refine L_val rfl rfl rfl (OpP.v (P_move rfl rfl)) ?_
  refine L_val rfl rfl rfl (OpP.v (P_eql_slice rfl ty_sl_46 rfl rfl)) ?_
  refine E_false (t := 4) rfl (rfl) ?_
  refine L_nil ?_
  refine St.env (.cons (t := 0) rfl (.cons (t := 2) rfl (.cons (t := 4) rfl .nil))) ?_
  refine Q_then ?_
  refine R_condF rfl ?_
  refine R_skip ?_
  refine Q_then ?_
  refine R_seq ?_
  refine R_region ?_
  refine L_op rfl (W_lit0 rfl rfl rfl ty_sl_46 fun b5 => ?_)
  refine St.res (rs' := [ownS 5 1 (.slice (some ⟨b5, 0, none⟩) 0 0) (0) (ints .u8 ([]))]) (Weak.turn .h0 (ownS.of_blk rfl (by decide))) ?_
  refine L_val rfl rfl rfl (OpP.v (P_move rfl rfl)) ?_
  refine L_op rfl (W_append (p := []) rfl rfl rfl ty_sl_46 ty_ap_46 ty_src_46 rfl rfl rfl (Src.row (Sn.row hpre rfl).rw_ (by rw [ints_length]; omega) ints_one) (by omega) (by simp only [maxLen]; omega) fun v7 => ?_)
  refine L_val rfl rfl rfl (OpP.v (P_assign rfl rfl)) ?_
  refine L_nil ?_
  refine St.env (.cons (t := 2) rfl .nil) ?_
  refine Q_then ?_
  refine R_ret ?_
  exact R_end (rs2 := _) rfl rfl (.tmp rfl .nil) (rfl) (ownS.to2 (by omega) (List.nil_append _))
theorem Out_ok {gl : Nat → Obj} (wb : Nat) (ub : Option Addr) (uc : Nat) (xs : List Int) (hc : xs.length ≤ uc) (hx : 0 < xs.length) (hmax : xs.length ≤ 1024) : Spec (cx gl) 13 [.pointer (some ⟨wb, 0, none⟩)] (fun _ _ => True) [blk wb [.bool true, .slice ub xs.length uc, .int .i64 0] 57, ownS 5 1 (.slice ub xs.length uc) (xs.length) (ints .u8 (xs))] (fun v rs => ∃ u, v = .tuple #[u, .int .i64 0] ∧ rs = [ownS 5 1 (u) (xs.length) (ints .u8 (xs))]) := by
  refine Spec.enter (C := cx gl) Tryd.func13 rfl 27 rfl rfl fun w0 h0 hsep hsub hpre => ?_
  show St (cx gl) _ [(0, .pointer (some ⟨wb, 0, none⟩))] _ _
  refine R_seq ?_
  refine R_region ?_
  refine L_val rfl rfl rfl (OpP.v (P_assign rfl rfl)) ?_
  refine L_val rfl rfl rfl (OpP.v (P_assign rfl rfl)) ?_
  refine L_nil ?_
  refine Q_then ?_
  refine R_seq ?_
  refine R_seq ?_
  refine R_region ?_
  refine L_val rfl rfl rfl (OpP.v (P_move rfl rfl)) ?_
  refine L_val rfl rfl rfl (OpP.v (P_eqNil rfl ty_ptr_43 rfl rfl)) ?_
  refine L_val rfl rfl rfl (OpP.v (P_move rfl rfl)) ?_
  refine L_val rfl rfl rfl (OpP.v (P_move rfl rfl)) ?_
  refine L_val rfl rfl rfl (OpP.v (P_nil rfl rfl)) ?_
  refine L_val rfl rfl rfl (OpP.v (P_fld0 rfl ty_fl_57_0 rfl)) ?_
  refine L_val rfl rfl rfl (V_load rfl rfl ty_sc_4 (Rd.blk .h0 rfl)) ?_
  refine L_val rfl rfl rfl (OpP.v (P_not rfl rfl)) ?_
  refine E_false (t := 11) rfl (rfl) ?_
  refine L_val rfl rfl rfl (OpP.v (P_pick rfl rfl rfl)) ?_
  refine L_nil ?_
  refine St.env (.cons (t := 0) rfl (.cons (t := 2) rfl (.cons (t := 3) rfl (.cons (t := 12) rfl .nil)))) ?_
  refine Q_then ?_
  refine R_condF rfl ?_
  refine R_skip ?_
  refine Q_then ?_
  refine R_seq ?_
  refine R_seq ?_
  refine R_region ?_
  refine L_val rfl rfl rfl (OpP.v (P_move rfl rfl)) ?_
  refine L_val rfl rfl rfl (OpP.v (P_nil rfl rfl)) ?_
  refine L_val rfl rfl rfl (OpP.v (P_fld0 rfl ty_fl_57_2 rfl)) ?_
  refine L_val rfl rfl rfl (V_load rfl rfl ty_sc_28 (Rd.blk .h0 rfl)) ?_
  refine L_val rfl rfl rfl (OpP.v (P_neq rfl rfl rfl)) ?_
  refine E_false (t := 17) rfl (rfl) ?_
  refine L_nil ?_
  refine St.env (.cons (t := 0) rfl (.cons (t := 2) rfl (.cons (t := 3) rfl (.cons (t := 17) rfl .nil)))) ?_
  refine Q_then ?_
  refine R_condF rfl ?_
  refine R_skip ?_
  refine Q_then ?_
  refine R_seq ?_
  refine R_region ?_
  refine L_val rfl rfl rfl (OpP.v (P_move rfl rfl)) ?_
  refine L_val rfl rfl rfl (OpP.v (P_nil rfl rfl)) ?_
  refine L_val rfl rfl rfl (OpP.v (P_fld0 rfl ty_fl_57_1 rfl)) ?_
  refine L_val rfl rfl rfl (V_load rfl rfl ty_sc_46 (Rd.blk .h0 rfl)) ?_
  refine L_op rfl (W_call rfl rfl rfl rfl fn_ca_23 (cloneB_ok ub uc xs hc hx hmax) (Split.nil _) (fun w a b _ hb dj m => (Sn.own .h1 rfl).rw_ w ⟨_, hb, m.le (Heap.le_join_right dj)⟩) fun v1 rs1 (e1 : rs1 = _) => ?_)
  subst e1
  refine L_val rfl rfl rfl (OpP.v (P_assign rfl rfl)) ?_
  refine L_val rfl rfl rfl (OpP.v (P_assign rfl rfl)) ?_
  refine L_nil ?_
  refine St.env (.cons (t := 2) rfl (.cons (t := 3) rfl .nil)) ?_
  refine Q_then ?_
  refine R_ret ?_
  exact R_end (rs2 := _) rfl rfl (.tmp rfl (.tmp rfl .nil)) (⟨_, rfl, rfl⟩) (Weak.keep (Weak.nil _))
end Go.Proofs.YtjhhpagcejgclaaDoor
