/- The book beside two registries: all; SealTruth. Printed by gen.py. -/
import Derived.Test.YtnaadddnbfnahaaDoorV3
set_option linter.unusedVariables false
set_option linter.unusedSimpArgs false
set_option maxRecDepth 100000
namespace Go.Proofs.YtnaadddnbfnahaaDoor
open Go Go.RowKit Go.Proofs
theorem IsB1 (x : Int) (h0 : 0 ≤ x) (h1 : x ≤ 255) : IsB [x] := fun y hy => by
  simp only [List.mem_singleton] at hy; subst hy; exact ⟨h0, h1⟩
theorem IsB.append {x y : List Int} (hx : IsB x) (hy : IsB y) : IsB (x ++ y) := fun z hz => by
  rcases List.mem_append.1 hz with hz | hz
  · exact hx z hz
  · exact hy z hz
theorem all_ok {gl : Nat → Obj} (hG : Globs gl) (w : Nat) (s : Ps) (hok : s.ok 1599289640354) : SpecR (cx gl) 22 [.pointer (some ⟨w, 0, none⟩)] (fun _ _ => True) [SIG w s] (.bool true) [SIG w s] := by
  refine Spec.enter (C := cx gl) Tryd.func22 rfl 116 rfl rfl fun w0 h0 hsep hsub hpre => ?_
  show St (cx gl) _ [(0, .pointer (some ⟨w, 0, none⟩))] _ _
  refine R_seq ?_
  refine R_region ?_
  refine L_val rfl rfl rfl (OpP.v (P_assign rfl rfl)) ?_
  refine L_nil ?_
  refine Q_then ?_
  refine R_seq ?_
  refine R_seq ?_
  refine R_region ?_
  refine L_val rfl rfl rfl (OpP.v (P_assign rfl rfl)) ?_
  refine L_nil ?_
  refine Q_then ?_
  refine R_block ?_
  refine R_loopE (G := Nat) (.cons (t := 0) rfl (.cons (t := 2) rfl .nil)) (fun g => [(3, .int .i64 (g : Int))]) (fun g => [SIG w s]) (fun g => g ≤ s.bk.length) (fun g => s.bk.length - g) (0) (Nat.zero_le _) (by repeat (first | exact .nil | refine .cons rfl ?_ | refine .consE rfl (by first | rfl | (congr 1; omega) | (congr 1; push_cast; omega)) ?_)) (Weak.refl _) ?_
  intro i hinv
  replace hinv : i ≤ s.bk.length := hinv
  show St (cx gl) _ ((3, .int .i64 (i : Int)) :: _) [SIG w s] _
  have hi := hinv
  refine R_seq ?_
  refine R_seq ?_
  refine St.openP (p := []) (fun ⟨p0, p1, sg0, sg1, S0, S1, A0, A1, B⟩ hxok => ?_)
  refine St.unbundle [] ?_
  refine St.res (rs' := [blk w [.pointer (some ⟨p0, 0, none⟩), .pointer (some ⟨p1, 0, none⟩), S0, S1, A0, A1, B, .bool false] 59, REG p0 (sg0) (rcOf 0 s.bk), ownS 27 1 (S0) (sg0).length (ptrs (sg0)), ownS 23 1 (A0) (sg0).length (ints .u64 (enOf (sg0))), REG p1 (sg1) (rcOf 1 s.bk), ownS 27 1 (S1) (sg1).length (ptrs (sg1)), ownS 23 1 (A1) (sg1).length (ints .u64 (enOf (sg1))), ownS 64 19 (B) (s.bk).length (bkC (s.bk))]) (Weak.refl _) ?_
  refine St.ownForm (p := [_, _, _, _, _, _, _]) fun bb bc hbb_ hbc => ?_
  subst hbb_
  refine St.res (rs' := [blk w [.pointer (some ⟨p0, 0, none⟩), .pointer (some ⟨p1, 0, none⟩), S0, S1, A0, A1, .slice bb s.bk.length bc, .bool false] 59, REG p0 (sg0) (rcOf 0 s.bk), ownS 27 1 (S0) (sg0).length (ptrs (sg0)), ownS 23 1 (A0) (sg0).length (ints .u64 (enOf (sg0))), REG p1 (sg1) (rcOf 1 s.bk), ownS 27 1 (S1) (sg1).length (ptrs (sg1)), ownS 23 1 (A1) (sg1).length (ints .u64 (enOf (sg1))), ownS 64 19 (.slice bb s.bk.length bc) (s.bk).length (bkC (s.bk))]) (Weak.refl _) ?_
  refine R_region ?_
  refine L_val rfl rfl rfl (OpP.v (P_move rfl rfl)) ?_
  refine L_val rfl rfl rfl (OpP.v (P_move rfl rfl)) ?_
  refine L_val rfl rfl rfl (OpP.v (P_nil rfl rfl)) ?_
  refine L_val rfl rfl rfl (OpP.v (P_fld0 rfl ty_fl_59_3 rfl)) ?_
  refine L_val rfl rfl rfl (V_load rfl rfl ty_sc_57 (Rd.blk .h0 rfl)) ?_
  refine L_val rfl rfl rfl (OpP.v (P_len rfl ty_sl_57 rfl)) ?_
  refine L_val rfl rfl rfl (OpP.v (P_lss rfl rfl rfl)) ?_
  refine L_nil ?_
  refine Q_then ?_
  refine R_condP rfl (fun hlt0 => ?_) (fun hlt0 => ?_)
  · skip
    have hlt : i < s.bk.length := by omega
    refine St.ownSome (p := [_, _, _, _, _, _, _]) (by omega) fun bbb bbc hq _ => ?_
    simp only [Value.slice.injEq] at hq
    obtain ⟨rfl, _, rfl⟩ := hq
    obtain ⟨x, hx⟩ : ∃ x, s.bk[i]? = some x := ⟨_, List.getElem?_eq_getElem hlt⟩
    have hxb := hok.1 x (List.mem_of_getElem? hx)
    have hbl := hok.2.2.2
    refine R_skip ?_
    refine Q_then ?_
    refine R_seq ?_
    refine R_block ?_
    refine R_seq ?_
    refine R_region ?_
    refine L_val rfl rfl rfl (OpP.v (P_move rfl rfl)) ?_
    refine L_val rfl rfl rfl (OpP.v (P_nil rfl rfl)) ?_
    refine L_val rfl rfl rfl (OpP.v (P_fld0 rfl ty_fl_59_3 rfl)) ?_
    refine L_val rfl rfl rfl (V_load rfl rfl ty_sc_57 (Rd.blk .h0 rfl)) ?_
    refine L_val rfl rfl rfl (OpP.v (P_move rfl rfl)) ?_
    refine L_val rfl rfl rfl (OpP.v (P_ixs (i) rfl ty_sl_57 rfl rfl (by first | rfl | omega) (by omega))) ?_
    refine L_val rfl rfl rfl (V_loadAgg rfl rfl ty_ag_64 (Rds.sn (k := i * 19) (Sn.own .h7 rfl) (fun j v hj => bkC_at hx j v hj)) (wrC_length x)) ?_
    refine L_op rfl (W_alloc rfl rfl rfl ty_ze_64 fun b4 => ?_)
    refine L_op rfl (W_storeAll rfl rfl rfl rfl ty_ag_64 (wrC_length x) (wrC_one x) .h0 ((wrC_length x).trans rfl) ?_)
    refine L_nil ?_
    refine Q_then ?_
    refine R_seq ?_
    refine St.res (rs' := [SIG w s, blk b4 (wrC x) 64]) (by have e0 : enOf sg0 = s.e0 := hxok.1; have e1 : enOf sg1 = s.e1 := hxok.2; show Weak _ (SIGHT w s.e0 s.e1 s.bk :: [blk b4 (wrC x) 64]); rw [← e0, ← e1]; exact (Weak.pick (p := [_]) (Weak.pick (p := [_]) (Weak.pick (p := [_]) (Weak.pick (p := [_]) (Weak.pick (p := [_]) (Weak.pick (p := [_]) (Weak.pick (p := [_]) (Weak.pick (p := [_]) (Weak.keep (Weak.nil _)))))))))).trans (sight_close (rs := [blk b4 (wrC x) 64]) ⟨p0, p1, sg0, sg1, S0, S1, A0, A1, .slice (some ⟨bbb, 0, none⟩) s.bk.length bc⟩)) ?_
    refine R_region ?_
    refine L_val rfl rfl rfl (OpP.v (P_fld0 rfl ty_fl_64_2 rfl)) ?_
    refine L_val rfl rfl rfl (V_load rfl rfl ty_sc_9 (Rd.blk .h1 rfl)) ?_
    refine L_op rfl (W_bytes rfl rfl rfl ty_str_9 (slB_spec ty_sl_24).1 ty_int_5 rfl (hxb.2.1) (by have := hxb.2.2; simp only [maxLen]; omega) fun v26 => ?_)
    refine St.ownForm (p := []) fun ub uc hub_ huc => ?_
    subst hub_
    refine L_val rfl rfl rfl (OpP.v (P_assign rfl rfl)) ?_
    refine L_nil ?_
    refine Q_then ?_
    refine R_seq ?_
    refine St.res (rs' := [SIG w s, blk b4 (wrC x) 64, ownS 5 1 (.slice ub (x.2.2).length uc) (x.2.2).length (ints .u8 (x.2.2))]) (Weak.p1 (Weak.p1 (Weak.refl _))) ?_
    refine R_region ?_
    refine L_val rfl rfl rfl (OpP.v (P_fld0 rfl ty_fl_64_2 rfl)) ?_
    refine L_val rfl rfl rfl (V_load rfl rfl ty_sc_9 (Rd.blk .h1 rfl)) ?_
    refine L_op rfl (W_bytes rfl rfl rfl ty_str_9 (slB_spec ty_sl_24).1 ty_int_5 rfl (hxb.2.1) (by have := hxb.2.2; simp only [maxLen]; omega) fun v29 => ?_)
    refine L_op rfl (W_lit (z := .nilIface) (ints .u8 [0]) rfl rfl rfl ty_sl_24 ty_lz_24 rfl rfl rfl (by decide) (by decide) (by simp [Value.cells]) (rfl) fun b30 => ?_)
    refine L_op rfl (W_append (p := [_]) rfl rfl rfl ty_sl_24 ty_ap_24 ty_src_24 rfl rfl rfl (Src.slice (sz := 1) (news := ints .u8 [0]) (Rds.blk .h0) rfl ints_one) (by have := hxb.2.2; omega) (by have := hxb.2.2; simp only [maxLen]; omega) fun v31 => ?_)
    refine St.ownForm (p := [_]) fun vb vc hvb_ hvc => ?_
    subst hvb_
    refine L_val rfl rfl rfl (OpP.v (P_assign rfl rfl)) ?_
    refine L_nil ?_
    refine Q_then ?_
    refine R_seq ?_
    refine St.res (rs' := [SIG w s, blk b4 (wrC x) 64, ownS 5 1 (.slice ub (x.2.2).length uc) (x.2.2).length (ints .u8 (x.2.2)), ownS 5 1 (.slice vb ((x.2.2).length + 1) vc) ((x.2.2).length + 1) (ints .u8 (x.2.2 ++ [0]))]) (by rw [ints_append]; exact Weak.drop (Weak.p1 (Weak.p1 (Weak.p1 (Weak.refl _))))) ?_
    refine R_region ?_
    refine L_val rfl rfl rfl (OpP.v (P_fld0 rfl ty_fl_64_3 rfl)) ?_
    refine L_val rfl rfl rfl (V_loadAgg rfl rfl ty_ag_33 ((Rds.blk .h1).part 3 (wrC_seal x)) (by rw [ints_length, sealH_length])) ?_
    refine L_op rfl (W_alloc rfl rfl rfl ty_ze_33 fun b7 => ?_)
    refine L_op rfl (W_storeAll rfl rfl rfl rfl ty_ag_33 (by rw [ints_length, sealH_length]) (ints_one) .h0 (by rw [ints_length, sealH_length]; rfl) ?_)
    refine L_nil ?_
    refine Q_then ?_
    refine R_seq ?_
    refine St.res (rs' := [SIG w s, blk b4 (wrC x) 64, ownS 5 1 (.slice ub (x.2.2).length uc) (x.2.2).length (ints .u8 (x.2.2)), ownS 5 1 (.slice vb ((x.2.2).length + 1) vc) ((x.2.2).length + 1) (ints .u8 (x.2.2 ++ [0])), blk b7 (ints .u8 (sealH x.2.1 x.2.2)) 33]) (Weak.p1 (Weak.p1 (Weak.p1 (Weak.p1 (Weak.refl _))))) ?_
    refine R_region ?_
    first | (refine L_val rfl rfl rfl (OpP.v (P_ixa0 (15) rfl ty_ar_33 rfl rfl (by first | rfl | omega) (by omega))) ?_) | (refine L_val rfl rfl rfl (OpP.v (P_ixa (15) rfl ty_ar_33 rfl rfl (by first | rfl | omega) (by omega))) ?_)
    refine L_val rfl rfl rfl (V_load rfl rfl ty_sc_5 (Rd.blk .h4 (ints_at (by rw [sealH_length]; omega)))) ?_
    refine L_val rfl rfl rfl (OpP.v (P_bit (op := .xor) rfl rfl rfl rfl)) ?_
    first | (refine L_val rfl rfl rfl (OpP.v (P_ixa0 (15) rfl ty_ar_33 rfl rfl (by first | rfl | omega) (by omega))) ?_) | (refine L_val rfl rfl rfl (OpP.v (P_ixa (15) rfl ty_ar_33 rfl rfl (by first | rfl | omega) (by omega))) ?_)
    refine L_op rfl (W_store rfl rfl rfl rfl ty_sc_5 rfl .h4 (by rw [ints_length, sealH_length]; omega) ?_)
    rw [ints_set]
    refine L_nil ?_
    refine Q_then ?_
    refine R_seq ?_
    refine R_seq ?_
    refine St.res (rs' := [SIG w s, blk b4 (wrC x) 64, ownS 5 1 (.slice ub (x.2.2).length uc) (x.2.2).length (ints .u8 (x.2.2)), ownS 5 1 (.slice vb ((x.2.2).length + 1) vc) ((x.2.2).length + 1) (ints .u8 (x.2.2 ++ [0])), blk b7 (ints .u8 ((sealH x.2.1 x.2.2).set 15 (bitI .xor .u8 ((sealH x.2.1 x.2.2).getD 15 0) 1))) 33]) (Weak.refl _) ?_
    have hS2 : ((sealH x.2.1 x.2.2).set 15 (bitI .xor .u8 ((sealH x.2.1 x.2.2).getD 15 0) 1)).length = 16 := by rw [List.length_set, sealH_length]
    have hml := hxb.2.2
    refine R_region ?_
    refine L_val rfl rfl rfl (OpP.v (P_move rfl rfl)) ?_
    refine L_val rfl rfl rfl (OpP.v (P_fld0 rfl ty_fl_64_0 rfl)) ?_
    refine L_val rfl rfl rfl (V_load rfl rfl ty_sc_3 (Rd.blk .h1 rfl)) ?_
    refine L_val rfl rfl rfl (OpP.v (P_fld0 rfl ty_fl_64_1 rfl)) ?_
    refine L_val rfl rfl rfl (V_load rfl rfl ty_sc_23 (Rd.blk .h1 rfl)) ?_
    refine L_val rfl rfl rfl (OpP.v (P_move rfl rfl)) ?_
    refine L_val rfl rfl rfl (OpP.v (P_fld0 rfl ty_fl_64_3 rfl)) ?_
    refine L_val rfl rfl rfl (V_loadAgg rfl rfl ty_ag_33 ((Rds.blk .h1).part 3 (wrC_seal x)) (by rw [ints_length, sealH_length])) ?_
    refine L_op rfl (W_callR rfl rfl rfl rfl fn_ca_46 (truth_any hG w s hok (x.1) (hxb.1) (x.2.1) ub uc (x.2.2) (sealH x.2.1 x.2.2) (hxb.2.1) (by omega) (sealH_length _ _)) (Split.one (p := [])) (Sn.pre (Sn.own .h1 rfl)) ?_)
    refine St.res (rs' := [SIG w s, blk b4 (wrC x) 64, ownS 5 1 (.slice ub (x.2.2).length uc) (x.2.2).length (ints .u8 (x.2.2)), ownS 5 1 (.slice vb ((x.2.2).length + 1) vc) ((x.2.2).length + 1) (ints .u8 (x.2.2 ++ [0])), blk b7 (ints .u8 ((sealH x.2.1 x.2.2).set 15 (bitI .xor .u8 ((sealH x.2.1 x.2.2).getD 15 0) 1))) 33]) (Weak.refl _) ?_
    refine E_true (t := 46) rfl (rfl) ?_
    refine L_val rfl rfl rfl (OpP.v (P_not rfl rfl)) ?_
    refine L_val rfl rfl rfl (OpP.v (P_move rfl rfl)) ?_
    refine L_val rfl rfl rfl (OpP.v (P_move rfl rfl)) ?_
    refine L_val rfl rfl rfl (OpP.v (P_fld0 rfl ty_fl_64_0 rfl)) ?_
    refine L_val rfl rfl rfl (V_load rfl rfl ty_sc_3 (Rd.blk .h1 rfl)) ?_
    refine L_val rfl rfl rfl (OpP.v (P_fld0 rfl ty_fl_64_1 rfl)) ?_
    refine L_val rfl rfl rfl (V_load rfl rfl ty_sc_23 (Rd.blk .h1 rfl)) ?_
    refine L_val rfl rfl rfl (OpP.v (P_add rfl rfl rfl)) ?_
    refine L_val rfl rfl rfl (OpP.v (P_move rfl rfl)) ?_
    refine L_val rfl rfl rfl (OpP.v (P_fld0 rfl ty_fl_64_3 rfl)) ?_
    refine L_val rfl rfl rfl (V_loadAgg rfl rfl ty_ag_33 ((Rds.blk .h1).part 3 (wrC_seal x)) (by rw [ints_length, sealH_length])) ?_
    refine L_op rfl (W_callR rfl rfl rfl rfl fn_ca_46 (truth_any hG w s hok (x.1) (hxb.1) (IntKind.u64.wrap (x.2.1 + 1)) ub uc (x.2.2) (sealH x.2.1 x.2.2) (hxb.2.1) (by omega) (sealH_length _ _)) (Split.one (p := [])) (Sn.pre (Sn.own .h1 rfl)) ?_)
    refine St.res (rs' := [SIG w s, blk b4 (wrC x) 64, ownS 5 1 (.slice ub (x.2.2).length uc) (x.2.2).length (ints .u8 (x.2.2)), ownS 5 1 (.slice vb ((x.2.2).length + 1) vc) ((x.2.2).length + 1) (ints .u8 (x.2.2 ++ [0])), blk b7 (ints .u8 ((sealH x.2.1 x.2.2).set 15 (bitI .xor .u8 ((sealH x.2.1 x.2.2).getD 15 0) 1))) 33]) (Weak.refl _) ?_
    refine E_true (t := 58) rfl (rfl) ?_
    refine L_val rfl rfl rfl (OpP.v (P_not rfl rfl)) ?_
    refine L_val rfl rfl rfl (OpP.v (P_pick rfl rfl rfl)) ?_
    refine L_val rfl rfl rfl (OpP.v (P_move rfl rfl)) ?_
    refine L_val rfl rfl rfl (OpP.v (P_move rfl rfl)) ?_
    refine L_val rfl rfl rfl (OpP.v (P_fld0 rfl ty_fl_64_0 rfl)) ?_
    refine L_val rfl rfl rfl (V_load rfl rfl ty_sc_3 (Rd.blk .h1 rfl)) ?_
    refine L_val rfl rfl rfl (OpP.v (P_fld0 rfl ty_fl_64_1 rfl)) ?_
    refine L_val rfl rfl rfl (V_load rfl rfl ty_sc_23 (Rd.blk .h1 rfl)) ?_
    refine L_val rfl rfl rfl (OpP.v (P_move rfl rfl)) ?_
    refine L_val rfl rfl rfl (OpP.v (P_fld0 rfl ty_fl_64_3 rfl)) ?_
    refine L_val rfl rfl rfl (V_loadAgg rfl rfl ty_ag_33 ((Rds.blk .h1).part 3 (wrC_seal x)) (by rw [ints_length, sealH_length])) ?_
    refine L_op rfl (W_callR rfl rfl rfl rfl fn_ca_46 (by have h := truth_any (gl := gl) hG w s hok (x.1) (hxb.1) (x.2.1) vb vc (x.2.2 ++ [0]) (sealH x.2.1 x.2.2) (hxb.2.1.append (IsB1 0 (by decide) (by decide))) (by rw [List.length_append, List.length_singleton]; omega) (sealH_length _ _); rw [List.length_append, List.length_singleton] at h; exact h) (Split.one (p := [])) (Sn.pre (Sn.own .h2 rfl)) ?_)
    refine St.res (rs' := [SIG w s, blk b4 (wrC x) 64, ownS 5 1 (.slice ub (x.2.2).length uc) (x.2.2).length (ints .u8 (x.2.2)), ownS 5 1 (.slice vb ((x.2.2).length + 1) vc) ((x.2.2).length + 1) (ints .u8 (x.2.2 ++ [0])), blk b7 (ints .u8 ((sealH x.2.1 x.2.2).set 15 (bitI .xor .u8 ((sealH x.2.1 x.2.2).getD 15 0) 1))) 33]) (Weak.refl _) ?_
    refine E_true (t := 70) rfl (rfl) ?_
    refine L_val rfl rfl rfl (OpP.v (P_not rfl rfl)) ?_
    refine L_val rfl rfl rfl (OpP.v (P_pick rfl rfl rfl)) ?_
    refine L_val rfl rfl rfl (OpP.v (P_move rfl rfl)) ?_
    refine L_val rfl rfl rfl (OpP.v (P_move rfl rfl)) ?_
    refine L_val rfl rfl rfl (OpP.v (P_fld0 rfl ty_fl_64_0 rfl)) ?_
    refine L_val rfl rfl rfl (V_load rfl rfl ty_sc_3 (Rd.blk .h1 rfl)) ?_
    refine L_val rfl rfl rfl (OpP.v (P_subN rfl rfl rfl (by have := hxb.1; simp only [fits]; omega))) ?_
    refine L_val rfl rfl rfl (OpP.v (P_fld0 rfl ty_fl_64_1 rfl)) ?_
    refine L_val rfl rfl rfl (V_load rfl rfl ty_sc_23 (Rd.blk .h1 rfl)) ?_
    refine L_val rfl rfl rfl (OpP.v (P_move rfl rfl)) ?_
    refine L_val rfl rfl rfl (OpP.v (P_fld0 rfl ty_fl_64_3 rfl)) ?_
    refine L_val rfl rfl rfl (V_loadAgg rfl rfl ty_ag_33 ((Rds.blk .h1).part 3 (wrC_seal x)) (by rw [ints_length, sealH_length])) ?_
    refine L_op rfl (W_callR rfl rfl rfl rfl fn_ca_46 (truth_any hG w s hok (1 - x.1) (by have := hxb.1; omega) (x.2.1) ub uc (x.2.2) (sealH x.2.1 x.2.2) (hxb.2.1) (by omega) (sealH_length _ _)) (Split.one (p := [])) (Sn.pre (Sn.own .h1 rfl)) ?_)
    refine St.res (rs' := [SIG w s, blk b4 (wrC x) 64, ownS 5 1 (.slice ub (x.2.2).length uc) (x.2.2).length (ints .u8 (x.2.2)), ownS 5 1 (.slice vb ((x.2.2).length + 1) vc) ((x.2.2).length + 1) (ints .u8 (x.2.2 ++ [0])), blk b7 (ints .u8 ((sealH x.2.1 x.2.2).set 15 (bitI .xor .u8 ((sealH x.2.1 x.2.2).getD 15 0) 1))) 33]) (Weak.refl _) ?_
    refine E_true (t := 83) rfl (rfl) ?_
    refine L_val rfl rfl rfl (OpP.v (P_not rfl rfl)) ?_
    refine L_val rfl rfl rfl (OpP.v (P_pick rfl rfl rfl)) ?_
    refine L_val rfl rfl rfl (OpP.v (P_move rfl rfl)) ?_
    refine L_val rfl rfl rfl (OpP.v (P_move rfl rfl)) ?_
    refine L_val rfl rfl rfl (OpP.v (P_fld0 rfl ty_fl_64_0 rfl)) ?_
    refine L_val rfl rfl rfl (V_load rfl rfl ty_sc_3 (Rd.blk .h1 rfl)) ?_
    refine L_val rfl rfl rfl (OpP.v (P_fld0 rfl ty_fl_64_1 rfl)) ?_
    refine L_val rfl rfl rfl (V_load rfl rfl ty_sc_23 (Rd.blk .h1 rfl)) ?_
    refine L_val rfl rfl rfl (OpP.v (P_move rfl rfl)) ?_
    refine L_val rfl rfl rfl (V_loadAgg rfl rfl ty_ag_33 (Rds.blk .h4) (by rw [ints_length, hS2])) ?_
    refine L_op rfl (W_callR rfl rfl rfl rfl fn_ca_46 (truth_any hG w s hok (x.1) (hxb.1) (x.2.1) ub uc (x.2.2) ((sealH x.2.1 x.2.2).set 15 (bitI .xor .u8 ((sealH x.2.1 x.2.2).getD 15 0) 1)) (hxb.2.1) (by omega) (hS2)) (Split.one (p := [])) (Sn.pre (Sn.own .h1 rfl)) ?_)
    refine St.res (rs' := [SIG w s, blk b4 (wrC x) 64, ownS 5 1 (.slice ub (x.2.2).length uc) (x.2.2).length (ints .u8 (x.2.2)), ownS 5 1 (.slice vb ((x.2.2).length + 1) vc) ((x.2.2).length + 1) (ints .u8 (x.2.2 ++ [0])), blk b7 (ints .u8 ((sealH x.2.1 x.2.2).set 15 (bitI .xor .u8 ((sealH x.2.1 x.2.2).getD 15 0) 1))) 33]) (Weak.refl _) ?_
    refine E_true (t := 94) rfl (rfl) ?_
    refine L_val rfl rfl rfl (OpP.v (P_not rfl rfl)) ?_
    refine L_val rfl rfl rfl (OpP.v (P_pick rfl rfl rfl)) ?_
    refine L_nil ?_
    refine Q_then ?_
    refine R_condF rfl ?_
    refine R_skip ?_
    refine Q_then ?_
    refine R_seq ?_
    refine R_open [(0, 0), (1, 0), (2, 0), (3, 0), (4, 0), (5, 0), (6, 1), (7, 0), (8, 1), (9, 0), (10, 0), (11, 0), (12, 0), (13, 0), (14, 0), (15, 1), (16, 2), (17, 0), (18, 0)] mixed (by kernel_rfl) (QOk.then (QOk.block (QOk.then (QOk.then (QOk.block (QOk.then QOk.body)))))) ?_
    refine O_pure rfl rfl rfl rfl (P_move rfl rfl) ?_
    refine O_pure rfl rfl rfl rfl (P_len rfl ty_sl_24 rfl) ?_
    refine O_pure rfl rfl rfl rfl (P_gtr rfl rfl rfl) ?_
    refine O_pure rfl rfl rfl rfl (P_move rfl rfl) ?_
    refine E_bool (t := 100) rfl (fun hposb => ?_) (fun hposb => ?_)
    · skip
      have hpos := of_decide_eq_true hposb
      refine O_pure rfl rfl rfl rfl (P_move rfl rfl) ?_
      refine O_pure rfl rfl rfl rfl (P_fld0 rfl ty_fl_64_0 rfl) ?_
      refine O_val rfl rfl rfl rfl (V_load rfl rfl ty_sc_3 (Rd.blk .h1 rfl)) ?_
      refine O_pure rfl rfl rfl rfl (P_fld0 rfl ty_fl_64_1 rfl) ?_
      refine O_val rfl rfl rfl rfl (V_load rfl rfl ty_sc_23 (Rd.blk .h1 rfl)) ?_
      refine O_pure rfl rfl rfl rfl (P_move rfl rfl) ?_
      refine O_pure rfl rfl rfl rfl (P_move rfl rfl) ?_
      refine O_pure rfl rfl rfl rfl (P_len rfl ty_sl_24 rfl) ?_
      first | (refine O_pure rfl rfl rfl rfl (P_subN rfl rfl rfl (by simp only [fits]; omega)) ?_) | (refine O_pure rfl rfl rfl rfl (P_sub rfl rfl rfl) ?_)
      refine E_nat (t := 109) (n := (x.2.2).length - 1) rfl (by omega) ?_
      refine O_pure rfl rfl rfl rfl (P_slice 0 ((x.2.2).length - 1) rfl ty_sl_24 rfl rfl ⟨_, rfl⟩ (by omega) (by omega)) ?_
      refine E_as (t := 110) (v' := .slice ub ((x.2.2).length - 1) uc) rfl (by unfold sliced; rw [if_neg (by omega)]; cases ub <;> simp [Addr.add]) ?_
      refine O_pure rfl rfl rfl rfl (P_fld0 rfl ty_fl_64_3 rfl) ?_
      refine O_val rfl rfl rfl rfl (V_loadAgg rfl rfl ty_ag_33 ((Rds.blk .h1).part 3 (wrC_seal x)) (by rw [ints_length, sealH_length])) ?_
      refine O_keep rfl rfl (W_callR rfl rfl rfl rfl fn_ca_46 (by have h := truth_any (gl := gl) hG w s hok (x.1) (hxb.1) (x.2.1) ub uc ((x.2.2).take ((x.2.2).length - 1)) (sealH x.2.1 x.2.2) (fun y hy => hxb.2.1 y (List.mem_of_mem_take hy)) (by rw [List.length_take]; omega) (sealH_length _ _); rw [List.length_take, Nat.min_eq_left (by omega)] at h; exact h) (Split.one (p := [])) (Sn.pre (sn_take _ (Sn.own .h1 rfl))) (K_keep (Weak.refl _) ?_))
      refine E_true (t := 113) rfl (rfl) ?_
      refine O_pure rfl rfl rfl rfl (P_not rfl rfl) ?_
      refine O_pure rfl rfl rfl rfl (P_pick rfl rfl rfl) ?_
      refine O_nil ?_
      refine Q_then ?_
      refine R_condF rfl ?_
      refine R_skip ?_
      refine Q_block ?_
      refine Q_then ?_
      refine R_region ?_
      refine L_val rfl rfl rfl (OpP.v (P_move rfl rfl)) ?_
      first | (refine L_val rfl rfl rfl (OpP.v (P_addN rfl rfl rfl (by simp only [fits]; omega))) ?_) | (refine L_val rfl rfl rfl (OpP.v (P_add rfl rfl rfl)) ?_)
      refine L_val rfl rfl rfl (OpP.v (P_assign rfl rfl)) ?_
      refine L_nil ?_
      exact Q_round (i + 1) (by show (i + 1) ≤ s.bk.length; omega) (by show s.bk.length - (i + 1) < s.bk.length - i; omega) (by repeat (first | exact .nil | refine .cons rfl ?_ | refine .consE rfl (by first | rfl | (congr 1; omega) | (congr 1; push_cast; omega)) ?_)) (Weak.keep (Weak.nil _))
    · skip
      refine O_no rfl rfl rfl rfl ?_
      refine O_no rfl rfl rfl rfl ?_
      refine O_noX rfl rfl rfl rfl ?_
      refine O_no rfl rfl rfl rfl ?_
      refine O_noX rfl rfl rfl rfl ?_
      refine O_no rfl rfl rfl rfl ?_
      refine O_no rfl rfl rfl rfl ?_
      refine O_no rfl rfl rfl rfl ?_
      refine O_no rfl rfl rfl rfl ?_
      refine O_no rfl rfl rfl rfl ?_
      refine O_no rfl rfl rfl rfl ?_
      refine O_noX rfl rfl rfl rfl ?_
      refine O_no2 rfl rfl rfl rfl ?_
      refine O_no rfl rfl rfl rfl ?_
      refine O_pure rfl rfl rfl rfl (P_pick rfl rfl rfl) ?_
      refine O_nil ?_
      refine Q_then ?_
      refine R_condF rfl ?_
      refine R_skip ?_
      refine Q_block ?_
      refine Q_then ?_
      refine R_region ?_
      refine L_val rfl rfl rfl (OpP.v (P_move rfl rfl)) ?_
      first | (refine L_val rfl rfl rfl (OpP.v (P_addN rfl rfl rfl (by simp only [fits]; omega))) ?_) | (refine L_val rfl rfl rfl (OpP.v (P_add rfl rfl rfl)) ?_)
      refine L_val rfl rfl rfl (OpP.v (P_assign rfl rfl)) ?_
      refine L_nil ?_
      exact Q_round (i + 1) (by show (i + 1) ≤ s.bk.length; omega) (by show s.bk.length - (i + 1) < s.bk.length - i; omega) (by repeat (first | exact .nil | refine .cons rfl ?_ | refine .consE rfl (by first | rfl | (congr 1; omega) | (congr 1; push_cast; omega)) ?_)) (Weak.keep (Weak.nil _))
  · skip
    obtain rfl : i = s.bk.length := by omega
    refine R_exit ?_
    refine Q_then_exit ?_
    refine Q_then_exit ?_
    refine Q_block_eq ?_
    refine St.env (.cons (t := 2) rfl .nil) ?_
    refine Q_then ?_
    refine R_seq ?_
    refine R_region ?_
    refine L_val rfl rfl rfl (OpP.v (P_assign rfl rfl)) ?_
    refine L_nil ?_
    refine Q_then ?_
    refine R_ret ?_
    exact R_end (rs2 := [SIG w s]) rfl rfl (.tmp rfl .nil) (⟨rfl, rfl⟩) (by have e0 : enOf sg0 = s.e0 := hxok.1; have e1 : enOf sg1 = s.e1 := hxok.2; show Weak _ (SIGHT w s.e0 s.e1 s.bk :: []); rw [← e0, ← e1]; exact sight_close (rs := []) ⟨p0, p1, sg0, sg1, S0, S1, A0, A1, .slice bb s.bk.length bc⟩)
theorem sealTruth_walk {gl : Nat → Obj} (hG : Globs gl) (base : Option Addr) (c : Nat) (ops : List Opr) (hmax : ops.length ≤ 1599289640354) (hm : ∀ o ∈ ops, o.m.xs.length ≤ 140737488351232) : SpecV (cx gl) 4 [.slice base ops.length c] (fun w => ScriptOK w base ops) (.bool true) := by
  refine Spec.enter (C := cx gl) Tryd.func4 rfl 15 rfl rfl fun w0 h0 hsep hsub hpre => ?_
  obtain rfl : h0 = Heap.none := hsep
  show St (cx gl) _ [(0, .slice base ops.length c)] _ _
  refine R_seq ?_
  refine R_region ?_
  refine L_val rfl rfl rfl (OpP.v (P_assign rfl rfl)) ?_
  refine L_nil ?_
  refine Q_then ?_
  refine R_seq ?_
  refine R_region ?_
  refine L_val rfl rfl rfl (OpP.v (P_move rfl rfl)) ?_
  refine L_op rfl (W_call rfl rfl rfl rfl fn_ca_21 (watch_ok hG base c ops hmax hm) (Split.nil _) (fun w a b _ hb dj m => ⟨(Sn.row hpre.1 rfl).rw_ w ⟨_, hb, m.le (Heap.le_join_right dj)⟩, fun o ho => ⟨(Sn.row (hpre.2 o ho).1 rfl).rw_ w ⟨_, hb, m.le (Heap.le_join_right dj)⟩, (hpre.2 o ho).2⟩⟩) fun v7 rs1 ⟨w, e1, e2⟩ => ?_)
  subst e1; subst e2
  refine St.res (rs' := [SIG w (psRun ops)]) (Weak.refl _) ?_
  refine L_val rfl rfl rfl (OpP.v (P_move rfl rfl)) ?_
  refine L_val rfl rfl rfl (OpP.v (P_extract rfl rfl rfl)) ?_
  refine L_val rfl rfl rfl (OpP.v (P_extract rfl rfl rfl)) ?_
  refine L_val rfl rfl rfl (OpP.v (P_assign rfl rfl)) ?_
  refine L_val rfl rfl rfl (OpP.v (P_assign rfl rfl)) ?_
  refine L_nil ?_
  refine St.env (.cons (t := 2) rfl (.cons (t := 3) rfl (.cons (t := 4) rfl .nil))) ?_
  refine Q_then ?_
  refine R_seq ?_
  refine R_region ?_
  refine L_val rfl rfl rfl (OpP.v (P_move rfl rfl)) ?_
  refine L_val rfl rfl rfl (OpP.v (P_move rfl rfl)) ?_
  refine E_true (t := 11) rfl (rfl) ?_
  refine L_val rfl rfl rfl (OpP.v (P_move rfl rfl)) ?_
  refine L_op rfl (W_callR rfl rfl rfl rfl fn_ca_22 (all_ok hG w (psRun ops) (by have h := psRun_ok (fun o ho => (hpre.2 o ho).2.1) ops.length (Nat.le_refl _); rw [List.take_length] at h; exact h.le hmax)) (Split.one (p := [])) (fun _ _ _ _ _ _ _ => trivial) ?_)
  refine St.res (rs' := [SIG w (psRun ops)]) (Weak.refl _) ?_
  refine E_true (t := 13) rfl (rfl) ?_
  refine L_val rfl rfl rfl (OpP.v (P_pick rfl rfl rfl)) ?_
  refine L_val rfl rfl rfl (OpP.v (P_assign rfl rfl)) ?_
  refine L_nil ?_
  refine St.env (.cons (t := 2) rfl .nil) ?_
  refine Q_then ?_
  refine R_ret ?_
  exact R_endV rfl rfl (.tmp rfl .nil) (rfl)
end Go.Proofs.YtnaadddnbfnahaaDoor
