/- A registry: Signed. Printed by gen.py. -/
import Derived.Test.YtnaadddnbfnahaaDoorS6
set_option linter.unusedVariables false
set_option linter.unusedSimpArgs false
set_option maxRecDepth 100000
namespace Go.Proofs.YtnaadddnbfnahaaDoor
open Go Go.RowKit Go.Proofs
theorem signed_ok {gl : Nat → Obj} (p : Nat) (sg : List (Int × Nat)) (rc : List Rcd) (a : Int) (hrc : rc.length ≤ 4398046511104) : Spec (cx gl) 27 [.pointer (some ⟨p, 0, none⟩), .int .u64 a] (fun _ _ => True) [REG p sg rc] (fun v rs => ∃ ws : List (Value × List Int), ws.map (·.2) = msgsOf rc a ∧ rs = [ownS 24 1 v (ws.length) (ws.map (·.1)), fam msgH ws, REG p sg rc]) := by
  refine Spec.enterX (C := cx gl) Tryd.func27 rfl 35 rfl rfl fun w0 h0 hsep hsub hpre => ?_
  show St (cx gl) _ [(0, .pointer (some ⟨p, 0, none⟩)), (1, .int .u64 a)] _ _
  refine St.openP (p := []) (fun ⟨m1, m2, m3, sd⟩ hreg => ?_)
  refine St.unbundle [] ?_
  refine R_seq ?_
  refine R_region ?_
  refine L_val rfl rfl rfl (OpP.v (P_assign rfl rfl)) ?_
  refine L_nil ?_
  refine Q_then ?_
  refine R_seq ?_
  refine R_seq ?_
  refine R_region ?_
  refine L_val rfl rfl rfl (OpP.v (P_move rfl rfl)) ?_
  refine L_op rfl (W_callR rfl rfl rfl rfl fn_ca_39 (missing_ok p (.int .i32 0) (.int .u32 0) (.map (some m2)) (.map (some m3)) (some m1)) (Split.one (p := [])) (fun _ _ _ _ _ _ _ => trivial) ?_)
  refine St.res (rs' := [blk p [.int .i32 0, .int .u32 0, .map (some m1), .map (some m2), .map (some m3)] 97, mapK kU64 m1 (sgM sg), mapK recK m2 (rcM rc), mapK kU64 m3 (sdM sd), fam (sgH p) sg, fam sdH sd]) (Weak.refl _) ?_
  refine E_false (t := 9) rfl (rfl) ?_
  refine L_nil ?_
  refine St.env (.cons (t := 0) rfl (.cons (t := 1) rfl (.cons (t := 4) rfl (.cons (t := 9) rfl .nil)))) ?_
  refine Q_then ?_
  refine R_condF rfl ?_
  refine R_skip ?_
  refine Q_then ?_
  refine R_seq ?_
  refine R_region ?_
  refine L_val rfl rfl rfl (OpP.v (P_move rfl rfl)) ?_
  refine L_val rfl rfl rfl (OpP.v (P_nil rfl rfl)) ?_
  refine L_val rfl rfl rfl (OpP.v (P_fld0 rfl ty_fl_97_0 rfl)) ?_
  refine L_op rfl (W_callR rfl rfl rfl rfl fn_ca_40 (lock_ok p 97 [.int .u32 0, .map (some m1), .map (some m2), .map (some m3)]) (Split.one (p := [])) (fun _ _ _ _ _ _ _ => trivial) ?_)
  refine St.res (rs' := [blk p [.int .i32 1, .int .u32 0, .map (some m1), .map (some m2), .map (some m3)] 97, mapK kU64 m1 (sgM sg), mapK recK m2 (rcM rc), mapK kU64 m3 (sdM sd), fam (sgH p) sg, fam sdH sd]) (Weak.refl _) ?_
  refine L_nil ?_
  refine St.env (.cons (t := 0) rfl (.cons (t := 1) rfl (.cons (t := 4) rfl .nil))) ?_
  refine Q_then ?_
  refine R_seq ?_
  refine R_region ?_
  refine L_val rfl rfl rfl (OpP.v (P_move rfl rfl)) ?_
  refine L_val rfl rfl rfl (OpP.v (P_nil rfl rfl)) ?_
  refine L_val rfl rfl rfl (OpP.v (P_fld0 rfl ty_fl_97_0 rfl)) ?_
  refine L_op rfl (W_defer rfl rfl rfl ?_)
  refine L_nil ?_
  refine St.env (.cons (t := 0) rfl (.cons (t := 1) rfl (.cons (t := 4) rfl .nil))) ?_
  refine Q_then ?_
  refine R_seq ?_
  refine R_region ?_
  refine L_val rfl rfl rfl (OpP.v (P_assign rfl rfl)) ?_
  refine L_nil ?_
  refine Q_then ?_
  refine R_seq ?_
  refine R_seq ?_
  obtain ⟨v0, REST, hlk, hw1, hw2, hw3⟩ := sd_open hreg a
  have hml := msgsOf_le rc a
  refine St.res (rs' := [ownS 9 1 v0 (msgsOf rc a).length (strV (msgsOf rc a)), REST, blk p [.int .i32 1, .int .u32 0, .map (some m1), .map (some m2), .map (some m3)] 97, mapK kU64 m1 (sgM sg), mapK recK m2 (rcM rc), mapK kU64 m3 (sdM sd), fam (sgH p) sg]) ((Weak.p5 (Weak.refl _)).trans (hw1 _)) ?_
  refine R_region ?_
  refine L_val rfl rfl rfl (OpP.v (P_move rfl rfl)) ?_
  refine L_val rfl rfl rfl (OpP.v (P_nil rfl rfl)) ?_
  refine L_val rfl rfl rfl (OpP.v (P_fld0 rfl ty_fl_97_3 rfl)) ?_
  refine L_val rfl rfl rfl (V_load rfl rfl ty_sc_95 (by first | exact Rd.blk .h0 rfl | exact Rd.blk .h1 rfl | exact Rd.blk .h2 rfl | exact Rd.blk .h3 rfl | exact Rd.blk .h4 rfl | exact Rd.blk .h5 rfl | exact Rd.blk .h6 rfl | exact Rd.blk .h7 rfl)) ?_
  refine L_val rfl rfl rfl (OpP.v (P_move rfl rfl)) ?_
  refine L_val rfl rfl rfl (V_lookupK rfl ty_map_95 (keyU64 ty_int_23) rfl rfl (trivial) (fun _ _ => trivial) .h5 (run_zeroValue_of ty_zv_104)) ?_
  refine E_as (t := 22) (v' := v0) rfl (hlk) ?_
  refine St.ownForm (p := []) fun ub uc huv huc => ?_
  subst huv
  refine L_val rfl rfl rfl (OpP.v (P_len rfl ty_sl_104 rfl)) ?_
  refine L_val rfl rfl rfl (OpP.v (P_move rfl rfl)) ?_
  refine L_nil ?_
  refine St.env (.cons (t := 4) rfl (.cons (t := 5) rfl (.cons (t := 22) rfl (.cons (t := 23) rfl (.cons (t := 24) rfl .nil))))) ?_
  refine Q_then ?_
  refine R_block ?_
  refine R_loopE (G := Value × Nat × List (Value × List Int)) (.cons (t := 4) rfl (.cons (t := 22) rfl (.cons (t := 23) rfl .nil))) (fun g => [(5, g.1), (24, .int .i64 (g.2.1 : Int))]) (fun g => [ownS 24 1 g.1 (g.2.1) (g.2.2.map (·.1)), fam msgH g.2.2, ownS 9 1 (.slice ub (msgsOf rc a).length uc) (msgsOf rc a).length (strV (msgsOf rc a)), REST, blk p [.int .i32 1, .int .u32 0, .map (some m1), .map (some m2), .map (some m3)] 97, mapK kU64 m1 (sgM sg), mapK recK m2 (rcM rc), mapK kU64 m3 (sdM sd), fam (sgH p) sg]) (fun g => g.2.1 ≤ (msgsOf rc a).length ∧ g.2.2.length = g.2.1 ∧ g.2.2.map (·.2) = (msgsOf rc a).take g.2.1) (fun g => (msgsOf rc a).length - g.2.1) (.slice none 0 0, 0, []) (⟨Nat.zero_le _, rfl, rfl⟩) (by repeat (first | exact .nil | refine .cons rfl ?_ | refine .consE rfl (by first | rfl | (congr 1; omega) | (congr 1; push_cast; omega)) ?_)) (Weak.newNil.trans (Weak.keep Weak.famNil)) ?_
  rintro ⟨v, i, ws⟩ hinv
  replace hinv : i ≤ (msgsOf rc a).length ∧ ws.length = i ∧ ws.map (·.2) = (msgsOf rc a).take i := hinv
  show St (cx gl) _ ((5, v) :: (24, .int .i64 (i : Int)) :: _) [ownS 24 1 v (i) (ws.map (·.1)), fam msgH ws, ownS 9 1 (.slice ub (msgsOf rc a).length uc) (msgsOf rc a).length (strV (msgsOf rc a)), REST, blk p [.int .i32 1, .int .u32 0, .map (some m1), .map (some m2), .map (some m3)] 97, mapK kU64 m1 (sgM sg), mapK recK m2 (rcM rc), mapK kU64 m3 (sdM sd), fam (sgH p) sg] _
  obtain ⟨hi, hwl, hws⟩ := hinv
  refine R_seq ?_
  refine R_region ?_
  refine L_val rfl rfl rfl (OpP.v (P_lss rfl rfl rfl)) ?_
  refine L_nil ?_
  refine Q_then ?_
  refine R_seq ?_
  refine R_condP rfl (fun hlt0 => ?_) (fun hlt0 => ?_)
  · skip
    have hlt : i < (msgsOf rc a).length := by omega
    have hmem : IsB (msgsOf rc a)[i] ∧ ((msgsOf rc a)[i]).length ≤ 1048576 := hreg.1 _ (msgsOf_mem (List.getElem_mem hlt))
    refine St.ownSome (p := [_, _]) (by omega) fun ubb ubc hub hbc => ?_
    simp only [Value.slice.injEq] at hub
    obtain ⟨rfl, _, rfl⟩ := hub
    refine R_skip ?_
    refine Q_then ?_
    refine R_seq ?_
    refine R_block ?_
    refine R_seq ?_
    refine R_region ?_
    refine L_val rfl rfl rfl (OpP.v (P_ixs (i) rfl ty_sl_104 rfl rfl (by first | rfl | omega) (by omega))) ?_
    refine L_val rfl rfl rfl (V_load rfl rfl ty_sc_9 (rd_own1 .h2 (by simp only [strV, List.getElem?_map, List.getElem?_eq_getElem hlt]; rfl))) ?_
    refine L_val rfl rfl rfl (OpP.v (P_assign rfl rfl)) ?_
    refine L_nil ?_
    refine Q_then ?_
    refine R_region ?_
    refine L_val rfl rfl rfl (OpP.v (P_move rfl rfl)) ?_
    refine L_val rfl rfl rfl (OpP.v (P_move rfl rfl)) ?_
    refine L_op rfl (W_bytes rfl rfl rfl ty_str_9 (slB_spec ty_sl_24).1 ty_int_5 rfl (hmem.1) (by have := hmem.2; simp only [maxLen]; omega) fun v30 => ?_)
    refine St.ownForm (p := []) fun mb mc hmv hmc => ?_
    subst hmv
    refine L_op rfl (W_lit (z := .nilIface) ([.slice mb ((msgsOf rc a)[i]).length mc]) rfl rfl rfl ty_sl_60 ty_lz_60 rfl rfl rfl (by decide) (by decide) (by simp [Value.cells]) (rfl) fun b31 => ?_)
    refine L_op rfl (W_append (p := [_, _]) rfl rfl rfl ty_sl_60 ty_ap_60 ty_src_60 rfl rfl rfl (Src.slice (sz := 1) (news := [.slice mb ((msgsOf rc a)[i]).length mc]) (Rds.blk .h0) rfl (by intro v hv; simp only [List.mem_singleton] at hv; subst hv; rfl)) (by omega) (by simp only [maxLen]; omega) fun v32 => ?_)
    refine L_val rfl rfl rfl (OpP.v (P_assign rfl rfl)) ?_
    refine L_nil ?_
    refine Q_block ?_
    refine Q_then ?_
    refine R_region ?_
    first | (refine L_val rfl rfl rfl (OpP.v (P_addN rfl rfl rfl (by simp only [fits]; omega))) ?_) | (refine L_val rfl rfl rfl (OpP.v (P_add rfl rfl rfl)) ?_)
    refine L_val rfl rfl rfl (OpP.v (P_move rfl rfl)) ?_
    refine L_nil ?_
    exact Q_round (v32, i + 1, ws ++ [(.slice mb ((msgsOf rc a)[i]).length mc, (msgsOf rc a)[i])]) (⟨by show i + 1 ≤ _; omega, by rw [List.length_append, hwl]; rfl, by rw [List.map_append, hws, List.take_add_one, List.getElem?_eq_getElem hlt]; rfl⟩) (by show (msgsOf rc a).length - (i + 1) < (msgsOf rc a).length - i; omega) (by repeat (first | exact .nil | refine .cons rfl ?_ | refine .consE rfl (by first | rfl | (congr 1; omega) | (congr 1; push_cast; omega)) ?_)) (by rw [List.map_append]; exact Weak.drop (Weak.p1 (Weak.famAdd (f := msgH) (x := (.slice mb ((msgsOf rc a)[i]).length mc, (msgsOf rc a)[i])))))
  · skip
    obtain rfl : i = (msgsOf rc a).length := by omega
    refine R_exit ?_
    refine Q_then_exit ?_
    refine Q_then_exit ?_
    refine Q_block_eq ?_
    refine St.env (.cons (t := 4) rfl (.cons (t := 5) rfl .nil)) ?_
    refine Q_then ?_
    refine R_seq ?_
    refine R_region ?_
    refine L_val rfl rfl rfl (OpP.v (P_move rfl rfl)) ?_
    refine L_val rfl rfl rfl (OpP.v (P_assign rfl rfl)) ?_
    refine L_nil ?_
    refine St.env (.cons (t := 4) rfl .nil) ?_
    refine Q_then ?_
    refine R_ret ?_
    exact R_endX (rs2 := _) rfl fn_ca_41 (unlockD_ok p 97 [.int .u32 0, .map (some m1), .map (some m2), .map (some m3)]) (Split.one (p := [_, _, _, _])) (fun _ _ _ _ _ _ _ => trivial) rfl (.tmp rfl .nil) (⟨ws, by rw [hws, List.take_of_length_le (Nat.le_refl _)], rfl⟩) (by rw [hwl]; exact Weak.p1 (Weak.p1 ((Weak.keep (Weak.p2 (Weak.p2 (Weak.p2 (Weak.p2 (hw2 _)))))).trans (reg_close (rs := []) hreg))))
end Go.Proofs.YtnaadddnbfnahaaDoor
