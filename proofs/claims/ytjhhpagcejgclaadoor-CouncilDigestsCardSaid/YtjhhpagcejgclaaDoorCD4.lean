/- Walks: council.Digest, CouncilDigests. Printed by gen.py. -/
import Derived.Test.YtjhhpagcejgclaaDoorCD3
import Derived.Test.YtjhhpagcejgclaaDoorMade
set_option linter.unusedVariables false
set_option linter.unusedSimpArgs false
set_option maxRecDepth 100000
namespace Go.Proofs.YtjhhpagcejgclaaDoor
open Go Go.RowKit Go.Proofs
theorem Digest_ok {gl : Nat → Obj} (hG : GlobsR gl) (base : Option Addr) (c : Nat) (l : List Mem) (hc : l.length ≤ c) (hmax : l.length ≤ 5864062014700) (hok : ∀ m ∈ l, m.ok) : SpecV (cx gl) 5 [.agg [.slice base l.length c].toArray] (fun w => Row w base (memC l)) (digV l) := by
  refine Spec.enter (C := cx gl) Tryd.func5 rfl 51 rfl rfl fun w0 h0 hsep hsub hpre => ?_
  obtain rfl : h0 = Heap.none := hsep
  show St (cx gl) _ [(0, .agg [.slice base l.length c].toArray)] _ _
  have hp0 : ∀ m ∈ l, 0 ≤ m.p := fun m hm => (hok m hm).2.1.1
  refine R_seq ?_
  refine R_region ?_
  refine L_op rfl (W_box ([.slice base l.length c]) rfl rfl rfl rfl rfl fun b1 => ?_)
  refine L_op rfl (W_alloc rfl rfl rfl ty_ze_27 fun b2 => ?_)
  refine L_val rfl rfl rfl (OpP.v (P_assign rfl rfl)) ?_
  refine L_nil ?_
  refine St.env (.cons (t := 1) rfl (.cons (t := 2) rfl (.cons (t := 3) rfl .nil))) ?_
  refine Q_then ?_
  refine R_seq ?_
  refine R_seq ?_
  refine R_region ?_
  refine L_val rfl rfl rfl (V_loadAgg rfl rfl ty_ag_24 (Rds.blk .h1) (rfl)) ?_
  refine L_op rfl (W_callV rfl rfl rfl rfl fn_ca_10 (Sound_ok base c l hc hmax hok) ((Sn.row hpre rfl).rw_) ?_)
  refine L_val rfl rfl rfl (OpP.v (P_assign rfl rfl)) ?_
  refine L_nil ?_
  refine St.env (.cons (t := 1) rfl (.cons (t := 2) rfl (.cons (t := 3) rfl (.cons (t := 4) rfl .nil)))) ?_
  refine Q_then ?_
  refine R_seq ?_
  refine R_region ?_
  refine L_val rfl rfl rfl (OpP.v (P_move rfl rfl)) ?_
  refine L_val rfl rfl rfl (OpP.v (P_neq rfl rfl rfl)) ?_
  refine L_nil ?_
  refine St.env (.cons (t := 1) rfl (.cons (t := 2) rfl (.cons (t := 3) rfl (.cons (t := 4) rfl (.cons (t := 14) rfl .nil))))) ?_
  refine Q_then ?_
  refine R_condP rfl (fun he => ?_) (fun he => ?_)
  · skip
    refine R_seq ?_
    refine R_region ?_
    refine L_val rfl rfl rfl (OpP.v (P_buildArrR rfl ty_ar_27 ty_ze_27 rfl rfl rfl (by first | decide | (simp only [List.length_cons, List.length_nil]; omega)) (by simp [Value.oneCell']))) ?_
    refine E_as (t := 15) (v' := .agg (ints .u8 (List.replicate 32 0)).toArray) rfl rfl ?_
    refine L_val rfl rfl rfl (OpP.v (P_move rfl rfl)) ?_
    refine L_op rfl (W_storeAll rfl rfl rfl rfl ty_ag_27 (rfl) (ints_one) .h0 (rfl) ?_)
    refine L_val rfl rfl rfl (OpP.v (P_assign rfl rfl)) ?_
    refine L_nil ?_
    refine St.env (.cons (t := 1) rfl (.cons (t := 2) rfl (.cons (t := 3) rfl .nil))) ?_
    refine Q_then ?_
    refine R_ret ?_
    refine Q_then_ret ?_
    exact R_endV rfl rfl (.cell rfl (Rds.loadVar ty_ag_27 (Rds.blk .h0) rfl) (.tmp rfl .nil)) (by unfold digV digD digE; rw [if_pos he, if_pos he]; rfl)
  · skip
    have he : soundE l = 0 := Classical.not_not.1 he
    have hfew := (sound_fine he).1.few
    refine R_skip ?_
    refine Q_then ?_
    refine R_seq ?_
    refine R_region ?_
    refine L_val rfl rfl rfl (OpP.v (P_assign rfl rfl)) ?_
    refine L_nil ?_
    refine St.env (.cons (t := 1) rfl (.cons (t := 2) rfl (.cons (t := 3) rfl (.cons (t := 5) rfl .nil)))) ?_
    refine Q_then ?_
    refine R_seq ?_
    refine R_seq ?_
    refine R_region ?_
    refine L_val rfl rfl rfl (OpP.v (P_fld0 rfl ty_fl_24_0 rfl)) ?_
    refine L_val rfl rfl rfl (V_load rfl rfl ty_sc_22 (Rd.blk .h1 rfl)) ?_
    refine L_val rfl rfl rfl (OpP.v (P_len rfl ty_sl_22 rfl)) ?_
    refine L_val rfl rfl rfl (OpP.v (P_move rfl rfl)) ?_
    refine L_nil ?_
    refine St.env (.cons (t := 2) rfl (.cons (t := 3) rfl (.cons (t := 5) rfl (.cons (t := 18) rfl (.cons (t := 19) rfl (.cons (t := 20) rfl .nil)))))) ?_
    refine Q_then ?_
    refine R_block ?_
    refine R_loopE (G := Nat × List Ob × Value) (.cons (t := 2) rfl (.cons (t := 3) rfl (.cons (t := 18) rfl (.cons (t := 19) rfl .nil)))) (fun g => [(5, g.2.2), (20, .int .i64 (g.1 : Int))]) (fun g => [fam Ob.own g.2.1, ownS 46 1 (g.2.2) (g.1) (g.2.1.map Ob.val), blk b2 (List.replicate 32 (.int .u8 0)) 27, blk b1 [.slice base l.length c] 24]) (fun g => g.1 ≤ l.length ∧ itemsOk g.2.1 (l.take g.1)) (fun g => l.length - g.1) (0, [], .slice none 0 0) (⟨Nat.zero_le _, rfl, fun u hu => by cases hu⟩) (by repeat (first | exact .nil | refine .cons rfl ?_ | refine .consE rfl (by first | rfl | (congr 1; omega) | (congr 1; push_cast; omega)) ?_)) (Weak.trans (Weak.newNil (T := 46) (sz := 1)) (Weak.famNil (f := Ob.own))) ?_
    rintro ⟨i, qs, v⟩ hinv
    replace hinv : i ≤ l.length ∧ itemsOk qs (l.take i) := hinv
    show St (cx gl) _ ((5, v) :: (20, .int .i64 (i : Int)) :: _) [fam Ob.own qs, ownS 46 1 (v) (i) (qs.map Ob.val), blk b2 (List.replicate 32 (.int .u8 0)) 27, blk b1 [.slice base l.length c] 24] _
    obtain ⟨hi, hq⟩ := hinv
    refine R_seq ?_
    refine R_region ?_
    refine L_val rfl rfl rfl (OpP.v (P_lss rfl rfl rfl)) ?_
    refine L_nil ?_
    refine Q_then ?_
    refine R_seq ?_
    refine R_condP rfl (fun hlt => ?_) (fun hlt => ?_)
    · skip
      have hlt' : i < l.length := by omega
      obtain ⟨m, hm⟩ : ∃ m, l[i]? = some m := ⟨_, List.getElem?_eq_getElem hlt'⟩
      obtain ⟨pb, pj, rfl, hrow⟩ := hpre.some_ (by rw [memC_length]; omega)
      refine R_skip ?_
      refine Q_then ?_
      refine R_seq ?_
      refine R_block ?_
      refine R_seq ?_
      refine R_region ?_
      refine L_val rfl rfl rfl (OpP.v (P_ixs (i) rfl ty_sl_22 rfl rfl (by first | rfl | omega) (by omega))) ?_
      refine L_val rfl rfl rfl (V_loadAgg rfl rfl ty_ag_37 (rds_mem hrow rfl hm) (rfl)) ?_
      refine L_op rfl (W_alloc rfl rfl rfl ty_ze_37 fun b7 => ?_)
      refine L_op rfl (W_storeAll rfl rfl rfl rfl ty_ag_37 (rfl) (Mem.cells_one _) .h0 (rfl) ?_)
      refine L_nil ?_
      refine Q_then ?_
      refine R_seq ?_
      refine R_region ?_
      refine L_op rfl (W_call rfl rfl rfl rfl fn_ca_11 (newW_ok) (Split.nil _) (fun _ _ _ _ _ _ _ => trivial) fun v1 rs1 ⟨wb, e1, e2⟩ => ?_)
      subst e1; subst e2
      refine L_val rfl rfl rfl (OpP.v (P_assign rfl rfl)) ?_
      refine L_nil ?_
      refine Q_then ?_
      refine R_seq ?_
      refine St.res (rs' := [blk wb [.bool true, .slice none 0 0, .int .i64 0] 57, ownS 5 1 (.slice none 0 0) (0) (ints .u8 ([])), blk b7 m.cells 37, fam Ob.own qs, ownS 46 1 (v) (i) (qs.map Ob.val), blk b2 (List.replicate 32 (.int .u8 0)) 27, blk b1 [.slice (some ⟨pb, pj, none⟩) l.length c] 24]) (Weak.keep (Weak.newNil (T := 5) (sz := 1))) ?_
      refine R_region ?_
      refine L_val rfl rfl rfl (OpP.v (P_move rfl rfl)) ?_
      refine L_val rfl rfl rfl (OpP.v (P_fld0 rfl ty_fl_37_0 rfl)) ?_
      refine L_val rfl rfl rfl (V_load rfl rfl ty_sc_35 (Rd.blk .h2 rfl)) ?_
      refine L_op rfl (W_call rfl rfl rfl rfl fn_ca_12 (U64_ok wb (.slice none 0 0) 0 [] (by omega) m.a) (Weak.refl _) (fun _ _ _ _ _ _ _ => trivial) fun v2 rs2 ⟨e3, bv1, e4⟩ => ?_)
      subst e3; subst e4
      refine L_nil ?_
      refine St.env (.cons (t := 2) rfl (.cons (t := 3) rfl (.cons (t := 5) rfl (.cons (t := 7) rfl (.cons (t := 8) rfl (.cons (t := 18) rfl (.cons (t := 19) rfl (.cons (t := 20) rfl (.cons (t := 21) rfl (.cons (t := 22) rfl (.cons (t := 23) rfl (.cons (t := 24) rfl (.cons (t := 25) rfl (.cons (t := 26) rfl (.cons (t := 27) rfl .nil))))))))))))))) ?_
      refine Q_then ?_
      refine R_seq ?_
      refine R_region ?_
      refine L_val rfl rfl rfl (OpP.v (P_move rfl rfl)) ?_
      refine L_val rfl rfl rfl (OpP.v (P_fld0 rfl ty_fl_37_1 rfl)) ?_
      refine L_val rfl rfl rfl (V_load rfl rfl ty_sc_34 (Rd.blk .h2 rfl)) ?_
      refine L_op rfl (W_call rfl rfl rfl rfl fn_ca_12 (U64_ok wb bv1 (0 + 8) ([] ++ word8 m.a 8) (by omega) m.p) (Weak.refl _) (fun _ _ _ _ _ _ _ => trivial) fun v3 rs3 ⟨e5, bv2, e6⟩ => ?_)
      subst e5; subst e6
      refine St.ownForm (p := [_]) fun ob oc hov hoc => ?_
      subst hov
      have hi16 := itemB_length m
      refine St.res (rs' := [blk wb [.bool true, .slice ob (itemB m).length oc, .int .i64 0] 57, ownS 5 1 (.slice ob (itemB m).length oc) ((itemB m).length) (ints .u8 (itemB m)), blk b7 m.cells 37, fam Ob.own qs, ownS 46 1 (v) (i) (qs.map Ob.val), blk b2 (List.replicate 32 (.int .u8 0)) 27, blk b1 [.slice (some ⟨pb, pj, none⟩) l.length c] 24]) (by rw [hi16]; exact Weak.refl _) ?_
      refine L_nil ?_
      refine St.env (.cons (t := 2) rfl (.cons (t := 3) rfl (.cons (t := 5) rfl (.cons (t := 7) rfl (.cons (t := 8) rfl (.cons (t := 18) rfl (.cons (t := 19) rfl (.cons (t := 20) rfl (.cons (t := 21) rfl (.cons (t := 22) rfl (.cons (t := 23) rfl (.cons (t := 24) rfl (.cons (t := 25) rfl (.cons (t := 26) rfl (.cons (t := 27) rfl (.cons (t := 29) rfl (.cons (t := 30) rfl (.cons (t := 31) rfl .nil)))))))))))))))))) ?_
      refine Q_then ?_
      refine R_seq ?_
      refine R_region ?_
      refine L_val rfl rfl rfl (OpP.v (P_move rfl rfl)) ?_
      refine L_op rfl (W_call rfl rfl rfl rfl fn_ca_13 (Out_ok wb ob oc (itemB m) (by omega) (by omega) (by omega)) (Weak.refl _) (fun _ _ _ _ _ _ _ => trivial) fun v4 rs4 ⟨u, e7, e8⟩ => ?_)
      subst e7; subst e8
      refine St.ownForm (p := []) fun ub uc huv huc => ?_
      subst huv
      refine L_val rfl rfl rfl (OpP.v (P_move rfl rfl)) ?_
      refine L_val rfl rfl rfl (OpP.v (P_extract rfl rfl rfl)) ?_
      refine L_val rfl rfl rfl (OpP.v (P_extract rfl rfl rfl)) ?_
      refine L_val rfl rfl rfl (OpP.v (P_assign rfl rfl)) ?_
      refine L_val rfl rfl rfl (OpP.v (P_assign rfl rfl)) ?_
      refine L_nil ?_
      refine Q_then ?_
      refine R_seq ?_
      refine R_seq ?_
      refine R_region ?_
      refine L_val rfl rfl rfl (OpP.v (P_move rfl rfl)) ?_
      refine L_val rfl rfl rfl (OpP.v (P_neq rfl rfl rfl)) ?_
      refine E_false (t := 39) rfl (rfl) ?_
      refine L_nil ?_
      refine Q_then ?_
      refine R_condF rfl ?_
      refine R_skip ?_
      refine Q_then ?_
      refine R_region ?_
      refine L_val rfl rfl rfl (OpP.v (P_move rfl rfl)) ?_
      refine L_val rfl rfl rfl (OpP.v (P_move rfl rfl)) ?_
      refine L_op rfl (W_lit (z := .nilIface) ([.slice ub (itemB m).length uc]) rfl rfl rfl ty_sl_42 ty_lz_42 rfl rfl rfl (by decide) (by decide) (by simp [Value.cells]) (rfl) fun b44 => ?_)
      refine L_op rfl (W_append (p := [_, _, _, _]) rfl rfl rfl ty_sl_42 ty_ap_42 ty_src_42 rfl rfl rfl (Src.slice (sz := 1) (m := 1) (news := [.slice ub (itemB m).length uc]) (Rds.blk .h0) rfl (by intro v hv; simp only [List.mem_singleton] at hv; subst hv; rfl)) (by omega) (by simp only [maxLen]; omega) fun v45 => ?_)
      refine L_val rfl rfl rfl (OpP.v (P_assign rfl rfl)) ?_
      refine L_nil ?_
      refine Q_block ?_
      refine Q_then ?_
      refine R_region ?_
      first | (refine L_val rfl rfl rfl (OpP.v (P_addN rfl rfl rfl (by simp only [fits]; omega))) ?_) | (refine L_val rfl rfl rfl (OpP.v (P_add rfl rfl rfl)) ?_)
      refine L_val rfl rfl rfl (OpP.v (P_move rfl rfl)) ?_
      refine L_nil ?_
      exact Q_round (i + 1, qs ++ [Ob.mk ub uc (itemB m)], v45) (⟨by omega, hq.snoc hm rfl huc⟩) (by show l.length - (i + 1) < l.length - i; omega) (by repeat (first | exact .nil | refine .cons rfl ?_ | refine .consE rfl (by first | rfl | (congr 1; omega) | (congr 1; push_cast; omega)) ?_)) (Weak.drop (Weak.trans (Weak.keep (Weak.pick (p := [_]) (Weak.pick (p := [_]) (Weak.pick (p := [_]) (Weak.pick (p := [_]) (Weak.nil _)))))) (Weak.trans (Weak.famAdd (f := Ob.own) (x := Ob.mk ub uc (itemB m))) (Weak.keep (Weak.trans (ownS.to1 rfl (by rw [List.map_append]; rfl)) (Weak.refl _))))))
    · skip
      have hin : i = l.length := by omega
      subst hin
      rw [List.take_length] at hq
      refine St.ownForm (p := [_]) fun ub uc huv huc => ?_
      subst huv
      have hql : (qs.map Ob.val).length = l.length := by rw [List.length_map]; exact hq.len
      have h9 := root_ok (gl := gl) hG.toGlobs ub uc (qs.map Ob.val) (qs.map Ob.xs) (by rw [List.length_map, List.length_map]) (by omega) (by omega)
      rw [hql, hq.1] at h9
      refine R_exit ?_
      refine Q_then_exit ?_
      refine Q_then_exit ?_
      refine Q_block_eq ?_
      refine St.env (.cons (t := 2) rfl (.cons (t := 3) rfl (.cons (t := 5) rfl .nil))) ?_
      refine Q_then ?_
      refine R_seq ?_
      refine R_region ?_
      refine L_val rfl rfl rfl (OpP.v (P_move rfl rfl)) ?_
      refine L_op rfl (W_callV rfl rfl rfl rfl fn_ca_14 (h9) (fun w nw => by have h8 := fam_items hq.2 .h0 .h1 w nw; rw [hq.1] at h8; exact h8) ?_)
      refine L_val rfl rfl rfl (OpP.v (P_extract rfl rfl rfl)) ?_
      refine L_val rfl rfl rfl (OpP.v (P_extract rfl rfl rfl)) ?_
      refine L_op rfl (W_storeAll rfl rfl rfl rfl ty_ag_27 (by rw [ints_length, rootD_length]) (ints_one) .h2 (by rw [ints_length, rootD_length]; rfl) ?_)
      refine L_val rfl rfl rfl (OpP.v (P_assign rfl rfl)) ?_
      refine L_nil ?_
      refine St.env (.cons (t := 2) rfl (.cons (t := 3) rfl .nil)) ?_
      refine Q_then ?_
      refine R_ret ?_
      exact R_endV rfl rfl (.cell rfl (Rds.loadVar ty_ag_27 (Rds.blk .h2) (by rw [ints_length, rootD_length])) (.tmp rfl .nil)) (by unfold digV digD digE; rw [if_neg (by rw [he]; simp), if_neg (by rw [he]; simp)]; rfl)
theorem items_new (l : List Mem) : (newL l).map itemB = l.map itemB := by unfold newL; rw [List.map_map]; rfl
theorem dig_new {l : List Mem} (hok : ∀ m ∈ l, m.ok) (he : soundE l = 0) : memE l = 0 ∧ digV (newL l) = digV l := by
  have hm := memE_of_sound he
  have h0 := newL_soundE l (fun m hm => (hok m hm).2.1.1) hm
  refine ⟨hm, ?_⟩
  unfold digV digD digE
  rw [h0, he, items_new]
theorem digE_sound {l : List Mem} (h : digE l = 0) : soundE l = 0 := by
  unfold digE at h
  by_cases e : soundE l = 0
  · exact e
  · rw [if_pos e] at h; exact h
theorem councilDigests_walk {gl : Nat → Obj} (hG : GlobsR gl) (base : Option Addr) (c : Nat) (l : List Mem) (hc : l.length ≤ c) (hmax : l.length ≤ 5864062014700) (hok : ∀ m ∈ l, m.ok) : SpecV (cx gl) 3 [.agg [.slice base l.length c].toArray] (fun w => Row w base (memC l)) (.bool true) := by
  refine Spec.enter (C := cx gl) Tryd.func3 rfl 52 rfl rfl fun w0 h0 hsep hsub hpre => ?_
  obtain rfl : h0 = Heap.none := hsep
  show St (cx gl) _ [(0, .agg [.slice base l.length c].toArray)] _ _
  refine R_seq ?_
  refine R_region ?_
  refine L_op rfl (W_box ([.slice base l.length c]) rfl rfl rfl rfl rfl fun b1 => ?_)
  refine L_val rfl rfl rfl (OpP.v (P_assign rfl rfl)) ?_
  refine L_nil ?_
  refine St.env (.cons (t := 1) rfl (.cons (t := 2) rfl .nil)) ?_
  refine Q_then ?_
  refine R_seq ?_
  refine R_region ?_
  refine L_op rfl (W_callV rfl rfl rfl rfl fn_ca_4 (alive_ok) (fun _ _ => trivial) ?_)
  refine L_val rfl rfl rfl (OpP.v (P_assign rfl rfl)) ?_
  refine L_nil ?_
  refine St.env (.cons (t := 1) rfl (.cons (t := 2) rfl (.cons (t := 3) rfl .nil))) ?_
  refine Q_then ?_
  refine R_seq ?_
  refine R_seq ?_
  refine R_region ?_
  refine L_val rfl rfl rfl (OpP.v (P_move rfl rfl)) ?_
  refine L_val rfl rfl rfl (OpP.v (P_not rfl rfl)) ?_
  refine E_false (t := 11) rfl (rfl) ?_
  refine L_nil ?_
  refine St.env (.cons (t := 1) rfl (.cons (t := 2) rfl (.cons (t := 11) rfl .nil))) ?_
  refine Q_then ?_
  refine R_condF rfl ?_
  refine R_skip ?_
  refine Q_then ?_
  refine R_seq ?_
  refine R_region ?_
  refine L_val rfl rfl rfl (V_loadAgg rfl rfl ty_ag_24 (Rds.blk .h0) (rfl)) ?_
  refine L_op rfl (W_callV rfl rfl rfl rfl fn_ca_5 (Digest_ok hG base c l hc hmax hok) ((Sn.row hpre rfl).rw_) ?_)
  refine L_val rfl rfl rfl (OpP.v (P_move rfl rfl)) ?_
  refine L_val rfl rfl rfl (OpP.v (P_extract rfl rfl rfl)) ?_
  refine L_val rfl rfl rfl (OpP.v (P_extract rfl rfl rfl)) ?_
  refine L_op rfl (W_alloc rfl rfl rfl ty_ze_27 fun b4 => ?_)
  refine L_op rfl (W_storeAll rfl rfl rfl rfl ty_ag_27 (by rw [ints_length, digD_length]) (ints_one) .h0 (by first | (rw [ints_length, digD_length]; done) | (rw [ints_length, digD_length]; rfl)) ?_)
  refine L_val rfl rfl rfl (OpP.v (P_assign rfl rfl)) ?_
  refine L_nil ?_
  refine St.env (.cons (t := 1) rfl (.cons (t := 2) rfl (.cons (t := 4) rfl (.cons (t := 5) rfl .nil)))) ?_
  refine Q_then ?_
  refine R_seq ?_
  refine R_region ?_
  refine L_val rfl rfl rfl (V_loadAgg rfl rfl ty_ag_24 (Rds.blk .h1) (rfl)) ?_
  refine L_op rfl (W_callV rfl rfl rfl rfl fn_ca_6 (rDigest_ok hG base c l hc hmax hok) ((Sn.row hpre rfl).rw_) ?_)
  refine L_val rfl rfl rfl (OpP.v (P_move rfl rfl)) ?_
  refine L_val rfl rfl rfl (OpP.v (P_extract rfl rfl rfl)) ?_
  refine L_val rfl rfl rfl (OpP.v (P_extract rfl rfl rfl)) ?_
  refine L_op rfl (W_alloc rfl rfl rfl ty_ze_27 fun b6 => ?_)
  refine L_op rfl (W_storeAll rfl rfl rfl rfl ty_ag_27 (by rw [ints_length, digD_length]) (ints_one) .h0 (by first | (rw [ints_length, digD_length]; done) | (rw [ints_length, digD_length]; rfl)) ?_)
  refine L_val rfl rfl rfl (OpP.v (P_assign rfl rfl)) ?_
  refine L_nil ?_
  refine St.env (.cons (t := 1) rfl (.cons (t := 2) rfl (.cons (t := 4) rfl (.cons (t := 5) rfl (.cons (t := 6) rfl (.cons (t := 7) rfl .nil)))))) ?_
  refine Q_then ?_
  refine R_seq ?_
  refine R_seq ?_
  refine R_region ?_
  refine L_val rfl rfl rfl (V_loadAgg rfl rfl ty_ag_27 (Rds.blk .h1) (by rw [ints_length, digD_length])) ?_
  refine L_val rfl rfl rfl (V_loadAgg rfl rfl ty_ag_27 (Rds.blk .h0) (by rw [ints_length, digD_length])) ?_
  refine L_val rfl rfl rfl (OpP.v (P_neArr rfl rfl rfl ty_un_27 ty_int_5 ty_sc_5 ty_eg_27 (by rw [digD_length]) (by rw [digD_length]))) ?_
  refine E_false (t := 24) rfl (decide_eq_false (by simp)) ?_
  refine L_val rfl rfl rfl (OpP.v (P_move rfl rfl)) ?_
  refine L_val rfl rfl rfl (OpP.v (P_move rfl rfl)) ?_
  refine L_val rfl rfl rfl (OpP.v (P_move rfl rfl)) ?_
  refine L_val rfl rfl rfl (OpP.v (P_neq rfl rfl rfl)) ?_
  refine E_false (t := 28) rfl (decide_eq_false (by simp)) ?_
  refine L_val rfl rfl rfl (OpP.v (P_pick rfl rfl rfl)) ?_
  refine L_nil ?_
  refine St.env (.cons (t := 1) rfl (.cons (t := 2) rfl (.cons (t := 4) rfl (.cons (t := 5) rfl (.cons (t := 6) rfl (.cons (t := 7) rfl (.cons (t := 29) rfl .nil))))))) ?_
  refine Q_then ?_
  refine R_condF rfl ?_
  refine R_skip ?_
  refine Q_then ?_
  refine R_seq ?_
  refine R_seq ?_
  refine R_region ?_
  refine L_val rfl rfl rfl (OpP.v (P_move rfl rfl)) ?_
  refine L_val rfl rfl rfl (OpP.v (P_neq rfl rfl rfl)) ?_
  refine L_nil ?_
  refine St.env (.cons (t := 1) rfl (.cons (t := 2) rfl (.cons (t := 4) rfl (.cons (t := 5) rfl (.cons (t := 6) rfl (.cons (t := 31) rfl .nil)))))) ?_
  refine Q_then ?_
  refine R_condP rfl (fun hd => ?_) (fun hd => ?_)
  · skip
    refine R_seq ?_
    refine R_region ?_
    refine L_val rfl rfl rfl (OpP.v (P_assign rfl rfl)) ?_
    refine L_nil ?_
    refine St.env (.cons (t := 1) rfl (.cons (t := 2) rfl (.cons (t := 4) rfl (.cons (t := 5) rfl (.cons (t := 6) rfl .nil))))) ?_
    refine Q_then ?_
    refine R_ret ?_
    refine Q_then_ret ?_
    exact R_endV rfl rfl (.tmp rfl .nil) (rfl)
  · skip
    have hd : digE l = 0 := Classical.not_not.1 hd
    have he := digE_sound hd
    obtain ⟨hm, hn⟩ := dig_new hok he
    refine R_skip ?_
    refine Q_then ?_
    refine R_seq ?_
    refine R_region ?_
    refine L_val rfl rfl rfl (OpP.v (P_fld0 rfl ty_fl_24_0 rfl)) ?_
    refine L_val rfl rfl rfl (V_load rfl rfl ty_sc_22 (Rd.blk .h2 rfl)) ?_
    refine L_op rfl (W_call rfl rfl rfl rfl fn_ca_7 (New_ok base c l hc hmax hok) (Split.nil _) (fun w a b _ hb dj m => (Sn.row hpre rfl).rw_ w ⟨_, hb, m.le (Heap.le_join_right dj)⟩) fun v1 rs1 ⟨u, e1, e2⟩ => ?_)
    rw [hm] at e1
    rw [newM_fine hm] at e2
    subst e1; subst e2
    refine St.ownForm (p := []) fun ub uc huv huc => ?_
    subst huv
    refine L_val rfl rfl rfl (OpP.v (P_move rfl rfl)) ?_
    refine L_val rfl rfl rfl (OpP.v (P_extract rfl rfl rfl)) ?_
    refine L_val rfl rfl rfl (OpP.v (P_extract rfl rfl rfl)) ?_
    refine L_op rfl (W_alloc rfl rfl rfl ty_ze_24 fun b8 => ?_)
    refine L_op rfl (W_storeAll rfl rfl rfl rfl ty_ag_24 (rfl) (by intro v hv; simp only [List.mem_singleton] at hv; subst hv; rfl) .h0 (rfl) ?_)
    refine L_val rfl rfl rfl (OpP.v (P_assign rfl rfl)) ?_
    refine L_nil ?_
    refine St.env (.cons (t := 2) rfl (.cons (t := 4) rfl (.cons (t := 5) rfl (.cons (t := 6) rfl (.cons (t := 8) rfl .nil))))) ?_
    refine Q_then ?_
    refine R_seq ?_
    refine R_seq ?_
    refine R_region ?_
    refine L_val rfl rfl rfl (OpP.v (P_move rfl rfl)) ?_
    refine L_val rfl rfl rfl (OpP.v (P_neq rfl rfl rfl)) ?_
    refine E_false (t := 39) rfl (rfl) ?_
    refine L_nil ?_
    refine St.env (.cons (t := 2) rfl (.cons (t := 4) rfl (.cons (t := 5) rfl (.cons (t := 6) rfl (.cons (t := 8) rfl (.cons (t := 39) rfl .nil)))))) ?_
    refine Q_then ?_
    refine R_condF rfl ?_
    refine R_skip ?_
    refine Q_then ?_
    refine R_seq ?_
    refine R_region ?_
    refine L_val rfl rfl rfl (V_loadAgg rfl rfl ty_ag_24 (Rds.blk .h0) (rfl)) ?_
    refine L_op rfl (W_callV rfl rfl rfl rfl fn_ca_5 (Digest_ok hG ub uc (newL l) huc (by rw [newL_length]; exact hmax) (newL_ok hok)) ((Sn.own .h1 rfl).rw_) ?_)
    refine E_as (t := 42) (v' := .tuple #[.agg (ints .u8 (digD l)).toArray, .int .i64 (digE l)]) rfl (by rw [hn]; rfl) ?_
    refine L_val rfl rfl rfl (OpP.v (P_move rfl rfl)) ?_
    refine L_val rfl rfl rfl (OpP.v (P_extract rfl rfl rfl)) ?_
    refine L_val rfl rfl rfl (OpP.v (P_extract rfl rfl rfl)) ?_
    refine L_op rfl (W_storeAll rfl rfl rfl rfl ty_ag_27 (by rw [ints_length, digD_length]) (ints_one) .h3 (by first | (rw [ints_length, digD_length]; done) | (rw [ints_length, digD_length]; rfl)) ?_)
    refine L_val rfl rfl rfl (OpP.v (P_assign rfl rfl)) ?_
    refine L_nil ?_
    refine St.env (.cons (t := 2) rfl (.cons (t := 4) rfl (.cons (t := 5) rfl (.cons (t := 6) rfl .nil)))) ?_
    refine Q_then ?_
    refine R_seq ?_
    refine R_region ?_
    refine L_val rfl rfl rfl (OpP.v (P_move rfl rfl)) ?_
    refine L_val rfl rfl rfl (OpP.v (P_eql rfl rfl rfl)) ?_
    refine E_true (t := 46) rfl (decide_eq_true hd) ?_
    refine L_val rfl rfl rfl (OpP.v (P_move rfl rfl)) ?_
    refine L_val rfl rfl rfl (V_loadAgg rfl rfl ty_ag_27 (Rds.blk .h3) (by rw [ints_length, digD_length])) ?_
    refine L_val rfl rfl rfl (V_loadAgg rfl rfl ty_ag_27 (Rds.blk .h2) (by rw [ints_length, digD_length])) ?_
    refine L_val rfl rfl rfl (OpP.v (P_eqArr rfl rfl rfl ty_un_27 ty_int_5 ty_sc_5 ty_eg_27 (by rw [digD_length]) (by rw [digD_length]))) ?_
    refine E_true (t := 50) rfl (decide_eq_true rfl) ?_
    refine L_val rfl rfl rfl (OpP.v (P_pick rfl rfl rfl)) ?_
    refine L_val rfl rfl rfl (OpP.v (P_assign rfl rfl)) ?_
    refine L_nil ?_
    refine St.env (.cons (t := 2) rfl .nil) ?_
    refine Q_then ?_
    refine R_ret ?_
    exact R_endV rfl rfl (.tmp rfl .nil) (rfl)
end Go.Proofs.YtjhhpagcejgclaaDoor
