/- Texts that ledgerTurns_holds leans on, part 4: each says at its head what it holds; no condition beyond its theorems' own. -/
import Derived.Test.YtfhjhaogmdaepaaGreatDoorMt3
/- Walks: one chunk is worked in, by the program and by the reference. Printed by gen.py. -/
set_option linter.unusedVariables false
set_option linter.unusedSimpArgs false
set_option maxRecDepth 100000
namespace Go.Proofs.YtfhjhaogmdaepaaGreatDoor
open Go Go.RowKit Go.Proofs
set_option maxHeartbeats 4000000 in
theorem block_ok {gl : Nat → Obj} (hG : ∃ T fr, gl 0 = .cells (ints .u32 addsK).toArray T fr) (s p : List Int) (hs : s.length = 8) (hp : p.length = 64) (sb so c : Nat) : SpecV (cx gl) 65 [.agg (ints .u32 s).toArray, .slice (some ⟨sb, so, none⟩) 64 c] (fun w => RowAt w ⟨sb, so, none⟩ (ints .u8 p)) (.agg (ints .u32 (mixF addsK s p)).toArray) := by
 refine Spec.enter (C := cx gl) Tryz.func65 rfl 223 rfl rfl fun w0 h0 hsep hsub hpre => ?_
 obtain rfl : h0 = Heap.none := hsep
 show St (cx gl) _ [(0, .agg (ints .u32 s).toArray), (1, .slice (some ⟨sb, so, none⟩) 64 c)] _ _
 refine R_seq ?_
 refine R_region ?_
 refine L_op rfl (W_box (_) rfl rfl rfl rfl rfl fun b2 => ?_)
 refine L_op rfl (W_alloc rfl rfl rfl ty_ze_131 fun b4 => ?_)
 refine L_nil ?_
 refine St.env (.cons (t := 1) rfl (.cons (t := 2) rfl (.cons (t := 4) rfl .nil))) ?_
 refine Q_then ?_
 refine R_seq ?_
 refine R_region ?_
 refine L_op rfl (W_alloc rfl rfl rfl ty_ze_208 fun b5 => ?_)
 rw [rep_ints]
 refine L_nil ?_
 refine Q_then ?_
 refine R_seq ?_
 refine R_seq ?_
 refine R_region ?_
 refine L_val rfl rfl rfl (OpP.v (P_assign rfl rfl)) ?_
 refine L_nil ?_
 refine Q_then ?_
 refine R_block ?_
 refine R_loop (G := Nat) (fun k => [(1, .slice (some ⟨sb, so, none⟩) 64 c), (2, .pointer (some ⟨b2, 0, none⟩)), (4, .pointer (some ⟨b4, 0, none⟩)), (5, .pointer (some ⟨b5, 0, none⟩)), (6, .int .i64 (k : Int))]) (fun k => [blk b5 (ints .u32 (sch1 p k)) 208, blk b4 (List.replicate 8 (.int .u32 0)) 131, blk b2 (ints .u32 s) 131]) (fun k => k ≤ 16) (fun k => 16 - k) (0) (by omega) (by repeat (first | exact .nil | refine .cons rfl ?_)) (Weak.refl _) ?_
 intro k hk
 have hl := sch1_length p k
 refine R_seq ?_
 refine R_seq ?_
 refine R_region ?_
 refine L_val rfl rfl rfl (OpP.v (P_move rfl rfl)) ?_
 refine L_val rfl rfl rfl (OpP.v (P_lss rfl rfl rfl)) ?_
 refine L_nil ?_
 refine Q_then ?_
 refine R_condP rfl (fun hlt => ?_) (fun hlt => ?_)
 ·skip
  refine R_skip ?_
  refine Q_then ?_
  refine R_seq ?_
  refine R_block ?_
  refine R_open [(0, 0), (1, 0), (2, 0), (3, 0), (4, 0), (5, 1), (6, 0), (7, 0), (8, 0), (9, 0), (10, 0), (11, 0), (12, 0), (13, 1), (14, 0), (15, 0), (16, 0), (17, 0), (18, 0), (19, 0), (20, 0), (21, 0), (22, 1), (23, 0), (24, 0), (25, 0), (26, 0), (27, 0), (28, 0), (29, 0), (30, 0), (31, 1), (32, 0), (33, 0), (34, 0), (35, 3)] mixed (by kernel_rfl) (QOk.block (QOk.then (QOk.then (QOk.block (QOk.then QOk.body))))) ?_
  refine O_pure rfl rfl rfl rfl (P_move rfl rfl) ?_
  refine O_pure rfl rfl rfl rfl (P_move rfl rfl) ?_
  refine O_pure rfl rfl rfl rfl (P_move rfl rfl) ?_
  first | (refine O_pure rfl rfl rfl rfl (P_mulN rfl rfl rfl (by simp only [fits]; omega)) ?_) | (refine O_pure rfl rfl rfl rfl (P_mul rfl rfl rfl) ?_)
  refine O_pure rfl rfl rfl rfl (P_ixs (4 * k) rfl ty_sl_48 rfl rfl (by first | rfl | omega) (by omega)) ?_
  refine O_val rfl rfl rfl rfl (V_load rfl rfl ty_sc_5 (Rd.row hpre rfl (ints_at (by omega)))) ?_
  refine O_pure rfl rfl rfl rfl (P_conv rfl ty_int_5 ty_int_108 rfl) ?_
  refine O_pure rfl rfl rfl rfl (P_shl rfl rfl rfl (by decide)) ?_
  refine O_pure rfl rfl rfl rfl (P_move rfl rfl) ?_
  refine O_pure rfl rfl rfl rfl (P_move rfl rfl) ?_
  first | (refine O_pure rfl rfl rfl rfl (P_mulN rfl rfl rfl (by simp only [fits]; omega)) ?_) | (refine O_pure rfl rfl rfl rfl (P_mul rfl rfl rfl) ?_)
  first | (refine O_pure rfl rfl rfl rfl (P_addN rfl rfl rfl (by simp only [fits]; omega)) ?_) | (refine O_pure rfl rfl rfl rfl (P_add rfl rfl rfl) ?_)
  refine O_pure rfl rfl rfl rfl (P_ixs (4 * k + 1) rfl ty_sl_48 rfl rfl (by first | rfl | omega) (by omega)) ?_
  refine O_val rfl rfl rfl rfl (V_load rfl rfl ty_sc_5 (Rd.row hpre rfl (ints_at (by omega)))) ?_
  refine O_pure rfl rfl rfl rfl (P_conv rfl ty_int_5 ty_int_108 rfl) ?_
  refine O_pure rfl rfl rfl rfl (P_shl rfl rfl rfl (by decide)) ?_
  refine O_pure rfl rfl rfl rfl (P_bit (op := .or) rfl rfl rfl rfl) ?_
  refine O_pure rfl rfl rfl rfl (P_move rfl rfl) ?_
  refine O_pure rfl rfl rfl rfl (P_move rfl rfl) ?_
  first | (refine O_pure rfl rfl rfl rfl (P_mulN rfl rfl rfl (by simp only [fits]; omega)) ?_) | (refine O_pure rfl rfl rfl rfl (P_mul rfl rfl rfl) ?_)
  first | (refine O_pure rfl rfl rfl rfl (P_addN rfl rfl rfl (by simp only [fits]; omega)) ?_) | (refine O_pure rfl rfl rfl rfl (P_add rfl rfl rfl) ?_)
  refine O_pure rfl rfl rfl rfl (P_ixs (4 * k + 2) rfl ty_sl_48 rfl rfl (by first | rfl | omega) (by omega)) ?_
  refine O_val rfl rfl rfl rfl (V_load rfl rfl ty_sc_5 (Rd.row hpre rfl (ints_at (by omega)))) ?_
  refine O_pure rfl rfl rfl rfl (P_conv rfl ty_int_5 ty_int_108 rfl) ?_
  refine O_pure rfl rfl rfl rfl (P_shl rfl rfl rfl (by decide)) ?_
  refine O_pure rfl rfl rfl rfl (P_bit (op := .or) rfl rfl rfl rfl) ?_
  refine O_pure rfl rfl rfl rfl (P_move rfl rfl) ?_
  refine O_pure rfl rfl rfl rfl (P_move rfl rfl) ?_
  first | (refine O_pure rfl rfl rfl rfl (P_mulN rfl rfl rfl (by simp only [fits]; omega)) ?_) | (refine O_pure rfl rfl rfl rfl (P_mul rfl rfl rfl) ?_)
  first | (refine O_pure rfl rfl rfl rfl (P_addN rfl rfl rfl (by simp only [fits]; omega)) ?_) | (refine O_pure rfl rfl rfl rfl (P_add rfl rfl rfl) ?_)
  refine O_pure rfl rfl rfl rfl (P_ixs (4 * k + 3) rfl ty_sl_48 rfl rfl (by first | rfl | omega) (by omega)) ?_
  refine O_val rfl rfl rfl rfl (V_load rfl rfl ty_sc_5 (Rd.row hpre rfl (ints_at (by omega)))) ?_
  refine O_pure rfl rfl rfl rfl (P_conv rfl ty_int_5 ty_int_108 rfl) ?_
  refine O_pure rfl rfl rfl rfl (P_bit (op := .or) rfl rfl rfl rfl) ?_
  first | (refine O_pure rfl rfl rfl rfl (P_ixa0 (k) rfl ty_ar_208 rfl rfl (by first | rfl | omega) (by omega)) ?_) | (refine O_pure rfl rfl rfl rfl (P_ixa (k) rfl ty_ar_208 rfl rfl (by first | rfl | omega) (by omega)) ?_)
  refine O_new rfl rfl (W_store rfl rfl rfl rfl ty_sc_108 rfl .h0 (by rw [ints_length, hl]; omega) (K_new ?_))
  rw [ints_set]
  refine O_nil ?_
  refine Q_block ?_
  refine Q_then ?_
  refine R_region ?_
  refine L_val rfl rfl rfl (OpP.v (P_move rfl rfl)) ?_
  first | (refine L_val rfl rfl rfl (OpP.v (P_addN rfl rfl rfl (by simp only [fits]; omega))) ?_) | (refine L_val rfl rfl rfl (OpP.v (P_add rfl rfl rfl)) ?_)
  refine L_val rfl rfl rfl (OpP.v (P_assign rfl rfl)) ?_
  refine L_nil ?_
  refine E_nat (t := 6) (n := k + 1) rfl (by omega) ?_
  exact Q_round (k + 1) (by omega) (by omega) (by repeat (first | exact .nil | refine .cons rfl ?_)) (Weak.refl _)
 ·skip
  refine R_exit ?_
  refine Q_then_exit ?_
  refine Q_then_exit ?_
  refine Q_block_eq ?_
  refine St.env (.cons (t := 2) rfl (.cons (t := 4) rfl (.cons (t := 5) rfl .nil))) ?_
  refine Q_then ?_
  refine R_seq ?_
  refine R_seq ?_
  refine R_region ?_
  refine L_val rfl rfl rfl (OpP.v (P_assign rfl rfl)) ?_
  refine L_nil ?_
  refine Q_then ?_
  refine R_block ?_
  obtain rfl : k = 16 := by omega
  refine R_loop (G := Nat) (fun k => [(2, .pointer (some ⟨b2, 0, none⟩)), (4, .pointer (some ⟨b4, 0, none⟩)), (5, .pointer (some ⟨b5, 0, none⟩)), (7, .int .i64 ((16 + k : Nat) : Int))]) (fun k => [blk b5 (ints .u32 (sch2 (sch1 p 16) k)) 208, blk b4 (List.replicate 8 (.int .u32 0)) 131, blk b2 (ints .u32 s) 131]) (fun k => k ≤ 48) (fun k => 48 - k) (0) (by omega) (by repeat (first | exact .nil | refine .cons rfl ?_)) (Weak.refl _) ?_
  intro k hk
  have hl : (sch2 (sch1 p 16) k).length = 64 := by rw [sch2_length, sch1_length]
  refine R_seq ?_
  refine R_seq ?_
  refine R_region ?_
  refine L_val rfl rfl rfl (OpP.v (P_move rfl rfl)) ?_
  refine L_val rfl rfl rfl (OpP.v (P_lss rfl rfl rfl)) ?_
  refine L_nil ?_
  refine Q_then ?_
  refine R_condP rfl (fun hlt2 => ?_) (fun hlt2 => ?_)
  ·skip
   refine R_skip ?_
   refine Q_then ?_
   refine R_seq ?_
   refine R_block ?_
   refine R_seq ?_
   refine R_open [(0, 0), (1, 0), (2, 0), (3, 1), (5, 0), (6, 0), (7, 0), (8, 1), (11, 0), (12, 0), (13, 0), (14, 1), (15, 0), (4, 2), (9, 2), (10, 0), (16, 0), (17, 0)] mixed (by kernel_rfl) (QOk.then (QOk.block (QOk.then (QOk.then (QOk.block (QOk.then QOk.body)))))) ?_
   refine O_pure rfl rfl rfl rfl (P_move rfl rfl) ?_
   first | (refine O_pure rfl rfl rfl rfl (P_subN rfl rfl rfl (by simp only [fits]; omega)) ?_) | (refine O_pure rfl rfl rfl rfl (P_sub rfl rfl rfl) ?_)
   first | (refine O_pure rfl rfl rfl rfl (P_ixa0 (k + 1) rfl ty_ar_208 rfl rfl (by first | rfl | omega) (by omega)) ?_) | (refine O_pure rfl rfl rfl rfl (P_ixa (k + 1) rfl ty_ar_208 rfl rfl (by first | rfl | omega) (by omega)) ?_)
   refine O_val rfl rfl rfl rfl (V_load rfl rfl ty_sc_108 (Rd.blk .h0 (ints_at (by omega)))) ?_
   refine O_pure rfl rfl rfl rfl (P_move rfl rfl) ?_
   first | (refine O_pure rfl rfl rfl rfl (P_subN rfl rfl rfl (by simp only [fits]; omega)) ?_) | (refine O_pure rfl rfl rfl rfl (P_sub rfl rfl rfl) ?_)
   first | (refine O_pure rfl rfl rfl rfl (P_ixa0 (k + 1) rfl ty_ar_208 rfl rfl (by first | rfl | omega) (by omega)) ?_) | (refine O_pure rfl rfl rfl rfl (P_ixa (k + 1) rfl ty_ar_208 rfl rfl (by first | rfl | omega) (by omega)) ?_)
   refine O_val rfl rfl rfl rfl (V_load rfl rfl ty_sc_108 (Rd.blk .h0 (ints_at (by omega)))) ?_
   refine O_pure rfl rfl rfl rfl (P_move rfl rfl) ?_
   first | (refine O_pure rfl rfl rfl rfl (P_subN rfl rfl rfl (by simp only [fits]; omega)) ?_) | (refine O_pure rfl rfl rfl rfl (P_sub rfl rfl rfl) ?_)
   first | (refine O_pure rfl rfl rfl rfl (P_ixa0 (k + 1) rfl ty_ar_208 rfl rfl (by first | rfl | omega) (by omega)) ?_) | (refine O_pure rfl rfl rfl rfl (P_ixa (k + 1) rfl ty_ar_208 rfl rfl (by first | rfl | omega) (by omega)) ?_)
   refine O_val rfl rfl rfl rfl (V_load rfl rfl ty_sc_108 (Rd.blk .h0 (ints_at (by omega)))) ?_
   refine O_pure rfl rfl rfl rfl (P_shr rfl rfl rfl (by decide)) ?_
   refine O_keep rfl rfl (W_callV rfl rfl rfl rfl fn_ca_130 (turn_ok gl _ 7 (by decide)) (fun _ _ => trivial) (K_keep (Weak.refl _) ?_))
   refine O_keep rfl rfl (W_callV rfl rfl rfl rfl fn_ca_130 (turn_ok gl _ 18 (by decide)) (fun _ _ => trivial) (K_keep (Weak.refl _) ?_))
   refine O_pure rfl rfl rfl rfl (P_bit (op := .xor) rfl rfl rfl rfl) ?_
   refine O_pure rfl rfl rfl rfl (P_bit (op := .xor) rfl rfl rfl rfl) ?_
   refine O_pure rfl rfl rfl rfl (P_assign rfl rfl) ?_
   refine O_nil ?_
   refine Q_then ?_
   refine R_seq ?_
   refine R_open [(0, 0), (1, 0), (2, 0), (3, 1), (5, 0), (6, 0), (7, 0), (8, 1), (11, 0), (12, 0), (13, 0), (14, 1), (15, 0), (4, 2), (9, 2), (10, 0), (16, 0), (17, 0)] mixed (by kernel_rfl) (QOk.then (QOk.block (QOk.then (QOk.then (QOk.block (QOk.then QOk.body)))))) ?_
   refine O_pure rfl rfl rfl rfl (P_move rfl rfl) ?_
   first | (refine O_pure rfl rfl rfl rfl (P_subN rfl rfl rfl (by simp only [fits]; omega)) ?_) | (refine O_pure rfl rfl rfl rfl (P_sub rfl rfl rfl) ?_)
   first | (refine O_pure rfl rfl rfl rfl (P_ixa0 (k + 14) rfl ty_ar_208 rfl rfl (by first | rfl | omega) (by omega)) ?_) | (refine O_pure rfl rfl rfl rfl (P_ixa (k + 14) rfl ty_ar_208 rfl rfl (by first | rfl | omega) (by omega)) ?_)
   refine O_val rfl rfl rfl rfl (V_load rfl rfl ty_sc_108 (Rd.blk .h0 (ints_at (by omega)))) ?_
   refine O_pure rfl rfl rfl rfl (P_move rfl rfl) ?_
   first | (refine O_pure rfl rfl rfl rfl (P_subN rfl rfl rfl (by simp only [fits]; omega)) ?_) | (refine O_pure rfl rfl rfl rfl (P_sub rfl rfl rfl) ?_)
   first | (refine O_pure rfl rfl rfl rfl (P_ixa0 (k + 14) rfl ty_ar_208 rfl rfl (by first | rfl | omega) (by omega)) ?_) | (refine O_pure rfl rfl rfl rfl (P_ixa (k + 14) rfl ty_ar_208 rfl rfl (by first | rfl | omega) (by omega)) ?_)
   refine O_val rfl rfl rfl rfl (V_load rfl rfl ty_sc_108 (Rd.blk .h0 (ints_at (by omega)))) ?_
   refine O_pure rfl rfl rfl rfl (P_move rfl rfl) ?_
   first | (refine O_pure rfl rfl rfl rfl (P_subN rfl rfl rfl (by simp only [fits]; omega)) ?_) | (refine O_pure rfl rfl rfl rfl (P_sub rfl rfl rfl) ?_)
   first | (refine O_pure rfl rfl rfl rfl (P_ixa0 (k + 14) rfl ty_ar_208 rfl rfl (by first | rfl | omega) (by omega)) ?_) | (refine O_pure rfl rfl rfl rfl (P_ixa (k + 14) rfl ty_ar_208 rfl rfl (by first | rfl | omega) (by omega)) ?_)
   refine O_val rfl rfl rfl rfl (V_load rfl rfl ty_sc_108 (Rd.blk .h0 (ints_at (by omega)))) ?_
   refine O_pure rfl rfl rfl rfl (P_shr rfl rfl rfl (by decide)) ?_
   refine O_keep rfl rfl (W_callV rfl rfl rfl rfl fn_ca_130 (turn_ok gl _ 17 (by decide)) (fun _ _ => trivial) (K_keep (Weak.refl _) ?_))
   refine O_keep rfl rfl (W_callV rfl rfl rfl rfl fn_ca_130 (turn_ok gl _ 19 (by decide)) (fun _ _ => trivial) (K_keep (Weak.refl _) ?_))
   refine O_pure rfl rfl rfl rfl (P_bit (op := .xor) rfl rfl rfl rfl) ?_
   refine O_pure rfl rfl rfl rfl (P_bit (op := .xor) rfl rfl rfl rfl) ?_
   refine O_pure rfl rfl rfl rfl (P_assign rfl rfl) ?_
   refine O_nil ?_
   refine Q_then ?_
   refine R_open [(0, 0), (1, 0), (2, 0), (3, 0), (4, 1), (5, 0), (6, 0), (7, 0), (8, 0), (9, 0), (10, 1), (11, 0), (12, 0), (13, 0), (14, 0), (15, 3)] mixed (by kernel_rfl) (QOk.block (QOk.then (QOk.then (QOk.block (QOk.then QOk.body))))) ?_
   refine O_pure rfl rfl rfl rfl (P_move rfl rfl) ?_
   refine O_pure rfl rfl rfl rfl (P_move rfl rfl) ?_
   first | (refine O_pure rfl rfl rfl rfl (P_subN rfl rfl rfl (by simp only [fits]; omega)) ?_) | (refine O_pure rfl rfl rfl rfl (P_sub rfl rfl rfl) ?_)
   first | (refine O_pure rfl rfl rfl rfl (P_ixa0 (k) rfl ty_ar_208 rfl rfl (by first | rfl | omega) (by omega)) ?_) | (refine O_pure rfl rfl rfl rfl (P_ixa (k) rfl ty_ar_208 rfl rfl (by first | rfl | omega) (by omega)) ?_)
   refine O_val rfl rfl rfl rfl (V_load rfl rfl ty_sc_108 (Rd.blk .h0 (ints_at (by omega)))) ?_
   refine O_pure rfl rfl rfl rfl (P_move rfl rfl) ?_
   refine O_pure rfl rfl rfl rfl (P_add rfl rfl rfl) ?_
   refine O_pure rfl rfl rfl rfl (P_move rfl rfl) ?_
   first | (refine O_pure rfl rfl rfl rfl (P_subN rfl rfl rfl (by simp only [fits]; omega)) ?_) | (refine O_pure rfl rfl rfl rfl (P_sub rfl rfl rfl) ?_)
   first | (refine O_pure rfl rfl rfl rfl (P_ixa0 (k + 9) rfl ty_ar_208 rfl rfl (by first | rfl | omega) (by omega)) ?_) | (refine O_pure rfl rfl rfl rfl (P_ixa (k + 9) rfl ty_ar_208 rfl rfl (by first | rfl | omega) (by omega)) ?_)
   refine O_val rfl rfl rfl rfl (V_load rfl rfl ty_sc_108 (Rd.blk .h0 (ints_at (by omega)))) ?_
   refine O_pure rfl rfl rfl rfl (P_add rfl rfl rfl) ?_
   refine O_pure rfl rfl rfl rfl (P_move rfl rfl) ?_
   refine O_pure rfl rfl rfl rfl (P_add rfl rfl rfl) ?_
   first | (refine O_pure rfl rfl rfl rfl (P_ixa0 (16 + k) rfl ty_ar_208 rfl rfl (by first | rfl | omega) (by omega)) ?_) | (refine O_pure rfl rfl rfl rfl (P_ixa (16 + k) rfl ty_ar_208 rfl rfl (by first | rfl | omega) (by omega)) ?_)
   refine O_new rfl rfl (W_store rfl rfl rfl rfl ty_sc_108 rfl .h0 (by rw [ints_length, hl]; omega) (K_new ?_))
   rw [ints_set]
   refine O_nil ?_
   refine Q_block ?_
   refine Q_then ?_
   refine R_region ?_
   refine L_val rfl rfl rfl (OpP.v (P_move rfl rfl)) ?_
   first | (refine L_val rfl rfl rfl (OpP.v (P_addN rfl rfl rfl (by simp only [fits]; omega))) ?_) | (refine L_val rfl rfl rfl (OpP.v (P_add rfl rfl rfl)) ?_)
   refine L_val rfl rfl rfl (OpP.v (P_assign rfl rfl)) ?_
   refine L_nil ?_
   refine E_nat (t := 7) (n := 16 + (k + 1)) rfl (by omega) ?_
   exact Q_round (k + 1) (by omega) (by omega) (by repeat (first | exact .nil | refine .cons rfl ?_)) (Weak.refl _)
  ·skip
   refine R_exit ?_
   refine Q_then_exit ?_
   refine Q_then_exit ?_
   refine Q_block_eq ?_
   refine St.env (.cons (t := 2) rfl (.cons (t := 4) rfl (.cons (t := 5) rfl .nil))) ?_
   refine Q_then ?_
   refine R_seq ?_
   refine R_region ?_
   refine L_val rfl rfl rfl (V_loadAgg rfl rfl ty_ag_131 (Rds.blk .h2) (by rw [ints_length, hs])) ?_
   refine L_op rfl (W_alloc rfl rfl rfl ty_ze_131 fun b10 => ?_)
   refine L_op rfl (W_storeAll rfl rfl rfl rfl ty_ag_131 (by rw [ints_length, hs]) (ints_one) .h0 (by rw [ints_length, List.length_replicate]; exact hs) ?_)
   refine L_nil ?_
   refine St.env (.cons (t := 2) rfl (.cons (t := 4) rfl (.cons (t := 5) rfl (.cons (t := 10) rfl .nil)))) ?_
   refine Q_then ?_
   refine R_seq ?_
   refine R_seq ?_
   refine R_region ?_
   refine L_val rfl rfl rfl (OpP.v (P_assign rfl rfl)) ?_
   refine L_nil ?_
   refine Q_then ?_
   refine R_block ?_
   obtain rfl : k = 48 := by omega
   refine R_loop (G := Nat) (fun k => [(2, .pointer (some ⟨b2, 0, none⟩)), (4, .pointer (some ⟨b4, 0, none⟩)), (5, .pointer (some ⟨b5, 0, none⟩)), (10, .pointer (some ⟨b10, 0, none⟩)), (11, .int .i64 (k : Int))]) (fun k => [blk b10 (ints .u32 (rnds addsK (sch2 (sch1 p 16) 48) s k)) 131, blk b5 (ints .u32 (sch2 (sch1 p 16) 48)) 208, blk b4 (List.replicate 8 (.int .u32 0)) 131, blk b2 (ints .u32 s) 131]) (fun k => k ≤ 64) (fun k => 64 - k) (0) (by omega) (by repeat (first | exact .nil | refine .cons rfl ?_)) (Weak.refl _) ?_
   intro k hk
   have hl : (sch2 (sch1 p 16) 48).length = 64 := by rw [sch2_length, sch1_length]
   have hr : (rnds addsK (sch2 (sch1 p 16) 48) s k).length = 8 := by rw [rnds_length, hs]
   obtain ⟨va, vb, vc, vd, ve, vf, vg, vh, e8⟩ := list8 hr
   rw [e8]
   refine R_seq ?_
   refine R_seq ?_
   refine R_region ?_
   refine L_val rfl rfl rfl (OpP.v (P_move rfl rfl)) ?_
   refine L_val rfl rfl rfl (OpP.v (P_lss rfl rfl rfl)) ?_
   refine L_nil ?_
   refine Q_then ?_
   refine R_condP rfl (fun hlt3 => ?_) (fun hlt3 => ?_)
   ·skip
    refine R_skip ?_
    refine Q_then ?_
    refine R_seq ?_
    refine R_block ?_
    refine R_seq ?_
    refine R_open [(0, 0), (1, 1), (3, 0), (4, 1), (7, 0), (8, 1), (2, 2), (5, 2), (6, 0), (9, 2), (10, 0), (11, 0)] mixed (by kernel_rfl) (QOk.then (QOk.block (QOk.then (QOk.then (QOk.block (QOk.then QOk.body)))))) ?_
    first | (refine O_pure rfl rfl rfl rfl (P_ixa0 (4) rfl ty_ar_131 rfl rfl (by first | rfl | omega) (by omega)) ?_) | (refine O_pure rfl rfl rfl rfl (P_ixa (4) rfl ty_ar_131 rfl rfl (by first | rfl | omega) (by omega)) ?_)
    refine O_val rfl rfl rfl rfl (V_load rfl rfl ty_sc_108 (by first | exact Rd.blk .h0 rfl | exact Rd.blk .h1 rfl | exact Rd.blk .h2 rfl | exact Rd.blk .h3 rfl | exact Rd.blk .h4 rfl | exact Rd.blk .h5 rfl | exact Rd.blk .h6 rfl | exact Rd.blk .h7 rfl)) ?_
    first | (refine O_pure rfl rfl rfl rfl (P_ixa0 (4) rfl ty_ar_131 rfl rfl (by first | rfl | omega) (by omega)) ?_) | (refine O_pure rfl rfl rfl rfl (P_ixa (4) rfl ty_ar_131 rfl rfl (by first | rfl | omega) (by omega)) ?_)
    refine O_val rfl rfl rfl rfl (V_load rfl rfl ty_sc_108 (by first | exact Rd.blk .h0 rfl | exact Rd.blk .h1 rfl | exact Rd.blk .h2 rfl | exact Rd.blk .h3 rfl | exact Rd.blk .h4 rfl | exact Rd.blk .h5 rfl | exact Rd.blk .h6 rfl | exact Rd.blk .h7 rfl)) ?_
    first | (refine O_pure rfl rfl rfl rfl (P_ixa0 (4) rfl ty_ar_131 rfl rfl (by first | rfl | omega) (by omega)) ?_) | (refine O_pure rfl rfl rfl rfl (P_ixa (4) rfl ty_ar_131 rfl rfl (by first | rfl | omega) (by omega)) ?_)
    refine O_val rfl rfl rfl rfl (V_load rfl rfl ty_sc_108 (by first | exact Rd.blk .h0 rfl | exact Rd.blk .h1 rfl | exact Rd.blk .h2 rfl | exact Rd.blk .h3 rfl | exact Rd.blk .h4 rfl | exact Rd.blk .h5 rfl | exact Rd.blk .h6 rfl | exact Rd.blk .h7 rfl)) ?_
    refine O_keep rfl rfl (W_callV rfl rfl rfl rfl fn_ca_130 (turn_ok gl _ 6 (by decide)) (fun _ _ => trivial) (K_keep (Weak.refl _) ?_))
    refine O_keep rfl rfl (W_callV rfl rfl rfl rfl fn_ca_130 (turn_ok gl _ 11 (by decide)) (fun _ _ => trivial) (K_keep (Weak.refl _) ?_))
    refine O_pure rfl rfl rfl rfl (P_bit (op := .xor) rfl rfl rfl rfl) ?_
    refine O_keep rfl rfl (W_callV rfl rfl rfl rfl fn_ca_130 (turn_ok gl _ 25 (by decide)) (fun _ _ => trivial) (K_keep (Weak.refl _) ?_))
    refine O_pure rfl rfl rfl rfl (P_bit (op := .xor) rfl rfl rfl rfl) ?_
    refine O_pure rfl rfl rfl rfl (P_assign rfl rfl) ?_
    refine O_nil ?_
    refine Q_then ?_
    refine R_seq ?_
    refine R_region ?_
    first | (refine L_val rfl rfl rfl (OpP.v (P_ixa0 (4) rfl ty_ar_131 rfl rfl (by first | rfl | omega) (by omega))) ?_) | (refine L_val rfl rfl rfl (OpP.v (P_ixa (4) rfl ty_ar_131 rfl rfl (by first | rfl | omega) (by omega))) ?_)
    refine L_val rfl rfl rfl (V_load rfl rfl ty_sc_108 (by first | exact Rd.blk .h0 rfl | exact Rd.blk .h1 rfl | exact Rd.blk .h2 rfl | exact Rd.blk .h3 rfl | exact Rd.blk .h4 rfl | exact Rd.blk .h5 rfl | exact Rd.blk .h6 rfl | exact Rd.blk .h7 rfl)) ?_
    first | (refine L_val rfl rfl rfl (OpP.v (P_ixa0 (5) rfl ty_ar_131 rfl rfl (by first | rfl | omega) (by omega))) ?_) | (refine L_val rfl rfl rfl (OpP.v (P_ixa (5) rfl ty_ar_131 rfl rfl (by first | rfl | omega) (by omega))) ?_)
    refine L_val rfl rfl rfl (V_load rfl rfl ty_sc_108 (by first | exact Rd.blk .h0 rfl | exact Rd.blk .h1 rfl | exact Rd.blk .h2 rfl | exact Rd.blk .h3 rfl | exact Rd.blk .h4 rfl | exact Rd.blk .h5 rfl | exact Rd.blk .h6 rfl | exact Rd.blk .h7 rfl)) ?_
    refine L_val rfl rfl rfl (OpP.v (P_bit (op := .and) rfl rfl rfl rfl)) ?_
    first | (refine L_val rfl rfl rfl (OpP.v (P_ixa0 (4) rfl ty_ar_131 rfl rfl (by first | rfl | omega) (by omega))) ?_) | (refine L_val rfl rfl rfl (OpP.v (P_ixa (4) rfl ty_ar_131 rfl rfl (by first | rfl | omega) (by omega))) ?_)
    refine L_val rfl rfl rfl (V_load rfl rfl ty_sc_108 (by first | exact Rd.blk .h0 rfl | exact Rd.blk .h1 rfl | exact Rd.blk .h2 rfl | exact Rd.blk .h3 rfl | exact Rd.blk .h4 rfl | exact Rd.blk .h5 rfl | exact Rd.blk .h6 rfl | exact Rd.blk .h7 rfl)) ?_
    refine L_val rfl rfl rfl (OpP.v (P_compl rfl rfl)) ?_
    first | (refine L_val rfl rfl rfl (OpP.v (P_ixa0 (6) rfl ty_ar_131 rfl rfl (by first | rfl | omega) (by omega))) ?_) | (refine L_val rfl rfl rfl (OpP.v (P_ixa (6) rfl ty_ar_131 rfl rfl (by first | rfl | omega) (by omega))) ?_)
    refine L_val rfl rfl rfl (V_load rfl rfl ty_sc_108 (by first | exact Rd.blk .h0 rfl | exact Rd.blk .h1 rfl | exact Rd.blk .h2 rfl | exact Rd.blk .h3 rfl | exact Rd.blk .h4 rfl | exact Rd.blk .h5 rfl | exact Rd.blk .h6 rfl | exact Rd.blk .h7 rfl)) ?_
    refine L_val rfl rfl rfl (OpP.v (P_bit (op := .and) rfl rfl rfl rfl)) ?_
    refine L_val rfl rfl rfl (OpP.v (P_bit (op := .xor) rfl rfl rfl rfl)) ?_
    refine L_val rfl rfl rfl (OpP.v (P_assign rfl rfl)) ?_
    refine L_nil ?_
    refine Q_then ?_
    refine R_seq ?_
    refine R_open [(0, 0), (1, 1), (2, 0), (3, 0), (4, 0), (5, 0), (6, 0), (7, 0), (8, 1), (9, 0), (10, 0), (11, 0), (12, 1), (13, 0), (14, 0)] mixed (by kernel_rfl) (QOk.then (QOk.block (QOk.then (QOk.then (QOk.block (QOk.then QOk.body)))))) ?_
    first | (refine O_pure rfl rfl rfl rfl (P_ixa0 (7) rfl ty_ar_131 rfl rfl (by first | rfl | omega) (by omega)) ?_) | (refine O_pure rfl rfl rfl rfl (P_ixa (7) rfl ty_ar_131 rfl rfl (by first | rfl | omega) (by omega)) ?_)
    refine O_val rfl rfl rfl rfl (V_load rfl rfl ty_sc_108 (by first | exact Rd.blk .h0 rfl | exact Rd.blk .h1 rfl | exact Rd.blk .h2 rfl | exact Rd.blk .h3 rfl | exact Rd.blk .h4 rfl | exact Rd.blk .h5 rfl | exact Rd.blk .h6 rfl | exact Rd.blk .h7 rfl)) ?_
    refine O_pure rfl rfl rfl rfl (P_move rfl rfl) ?_
    refine O_pure rfl rfl rfl rfl (P_add rfl rfl rfl) ?_
    refine O_pure rfl rfl rfl rfl (P_move rfl rfl) ?_
    refine O_pure rfl rfl rfl rfl (P_add rfl rfl rfl) ?_
    refine O_pure rfl rfl rfl rfl (P_move rfl rfl) ?_
    first | (refine O_pure rfl rfl rfl rfl (P_ixa0 (k) rfl ty_ar_208 rfl rfl (by first | rfl | omega) (by omega)) ?_) | (refine O_pure rfl rfl rfl rfl (P_ixa (k) rfl ty_ar_208 rfl rfl (by first | rfl | omega) (by omega)) ?_)
    refine O_val rfl rfl rfl rfl (V_load rfl rfl ty_sc_108 (hG.elim fun T h => h.elim fun fr h => Rd.glob rfl h (ints_at (by rw [addsK_length]; omega)))) ?_
    refine O_pure rfl rfl rfl rfl (P_add rfl rfl rfl) ?_
    refine O_pure rfl rfl rfl rfl (P_move rfl rfl) ?_
    first | (refine O_pure rfl rfl rfl rfl (P_ixa0 (k) rfl ty_ar_208 rfl rfl (by first | rfl | omega) (by omega)) ?_) | (refine O_pure rfl rfl rfl rfl (P_ixa (k) rfl ty_ar_208 rfl rfl (by first | rfl | omega) (by omega)) ?_)
    refine O_val rfl rfl rfl rfl (V_load rfl rfl ty_sc_108 (Rd.blk .h1 (ints_at (by omega)))) ?_
    refine O_pure rfl rfl rfl rfl (P_add rfl rfl rfl) ?_
    refine O_pure rfl rfl rfl rfl (P_assign rfl rfl) ?_
    refine O_nil ?_
    refine Q_then ?_
    refine R_seq ?_
    refine R_open [(0, 0), (1, 1), (3, 0), (4, 1), (7, 0), (8, 1), (2, 2), (5, 2), (6, 0), (9, 2), (10, 0), (11, 0)] mixed (by kernel_rfl) (QOk.then (QOk.block (QOk.then (QOk.then (QOk.block (QOk.then QOk.body)))))) ?_
    first | (refine O_pure rfl rfl rfl rfl (P_ixa0 (0) rfl ty_ar_131 rfl rfl (by first | rfl | omega) (by omega)) ?_) | (refine O_pure rfl rfl rfl rfl (P_ixa (0) rfl ty_ar_131 rfl rfl (by first | rfl | omega) (by omega)) ?_)
    refine O_val rfl rfl rfl rfl (V_load rfl rfl ty_sc_108 (by first | exact Rd.blk .h0 rfl | exact Rd.blk .h1 rfl | exact Rd.blk .h2 rfl | exact Rd.blk .h3 rfl | exact Rd.blk .h4 rfl | exact Rd.blk .h5 rfl | exact Rd.blk .h6 rfl | exact Rd.blk .h7 rfl)) ?_
    first | (refine O_pure rfl rfl rfl rfl (P_ixa0 (0) rfl ty_ar_131 rfl rfl (by first | rfl | omega) (by omega)) ?_) | (refine O_pure rfl rfl rfl rfl (P_ixa (0) rfl ty_ar_131 rfl rfl (by first | rfl | omega) (by omega)) ?_)
    refine O_val rfl rfl rfl rfl (V_load rfl rfl ty_sc_108 (by first | exact Rd.blk .h0 rfl | exact Rd.blk .h1 rfl | exact Rd.blk .h2 rfl | exact Rd.blk .h3 rfl | exact Rd.blk .h4 rfl | exact Rd.blk .h5 rfl | exact Rd.blk .h6 rfl | exact Rd.blk .h7 rfl)) ?_
    first | (refine O_pure rfl rfl rfl rfl (P_ixa0 (0) rfl ty_ar_131 rfl rfl (by first | rfl | omega) (by omega)) ?_) | (refine O_pure rfl rfl rfl rfl (P_ixa (0) rfl ty_ar_131 rfl rfl (by first | rfl | omega) (by omega)) ?_)
    refine O_val rfl rfl rfl rfl (V_load rfl rfl ty_sc_108 (by first | exact Rd.blk .h0 rfl | exact Rd.blk .h1 rfl | exact Rd.blk .h2 rfl | exact Rd.blk .h3 rfl | exact Rd.blk .h4 rfl | exact Rd.blk .h5 rfl | exact Rd.blk .h6 rfl | exact Rd.blk .h7 rfl)) ?_
    refine O_keep rfl rfl (W_callV rfl rfl rfl rfl fn_ca_130 (turn_ok gl _ 2 (by decide)) (fun _ _ => trivial) (K_keep (Weak.refl _) ?_))
    refine O_keep rfl rfl (W_callV rfl rfl rfl rfl fn_ca_130 (turn_ok gl _ 13 (by decide)) (fun _ _ => trivial) (K_keep (Weak.refl _) ?_))
    refine O_pure rfl rfl rfl rfl (P_bit (op := .xor) rfl rfl rfl rfl) ?_
    refine O_keep rfl rfl (W_callV rfl rfl rfl rfl fn_ca_130 (turn_ok gl _ 22 (by decide)) (fun _ _ => trivial) (K_keep (Weak.refl _) ?_))
    refine O_pure rfl rfl rfl rfl (P_bit (op := .xor) rfl rfl rfl rfl) ?_
    refine O_pure rfl rfl rfl rfl (P_assign rfl rfl) ?_
    refine O_nil ?_
    refine Q_then ?_
    refine R_seq ?_
    refine R_region ?_
    first | (refine L_val rfl rfl rfl (OpP.v (P_ixa0 (0) rfl ty_ar_131 rfl rfl (by first | rfl | omega) (by omega))) ?_) | (refine L_val rfl rfl rfl (OpP.v (P_ixa (0) rfl ty_ar_131 rfl rfl (by first | rfl | omega) (by omega))) ?_)
    refine L_val rfl rfl rfl (V_load rfl rfl ty_sc_108 (by first | exact Rd.blk .h0 rfl | exact Rd.blk .h1 rfl | exact Rd.blk .h2 rfl | exact Rd.blk .h3 rfl | exact Rd.blk .h4 rfl | exact Rd.blk .h5 rfl | exact Rd.blk .h6 rfl | exact Rd.blk .h7 rfl)) ?_
    first | (refine L_val rfl rfl rfl (OpP.v (P_ixa0 (1) rfl ty_ar_131 rfl rfl (by first | rfl | omega) (by omega))) ?_) | (refine L_val rfl rfl rfl (OpP.v (P_ixa (1) rfl ty_ar_131 rfl rfl (by first | rfl | omega) (by omega))) ?_)
    refine L_val rfl rfl rfl (V_load rfl rfl ty_sc_108 (by first | exact Rd.blk .h0 rfl | exact Rd.blk .h1 rfl | exact Rd.blk .h2 rfl | exact Rd.blk .h3 rfl | exact Rd.blk .h4 rfl | exact Rd.blk .h5 rfl | exact Rd.blk .h6 rfl | exact Rd.blk .h7 rfl)) ?_
    refine L_val rfl rfl rfl (OpP.v (P_bit (op := .and) rfl rfl rfl rfl)) ?_
    first | (refine L_val rfl rfl rfl (OpP.v (P_ixa0 (0) rfl ty_ar_131 rfl rfl (by first | rfl | omega) (by omega))) ?_) | (refine L_val rfl rfl rfl (OpP.v (P_ixa (0) rfl ty_ar_131 rfl rfl (by first | rfl | omega) (by omega))) ?_)
    refine L_val rfl rfl rfl (V_load rfl rfl ty_sc_108 (by first | exact Rd.blk .h0 rfl | exact Rd.blk .h1 rfl | exact Rd.blk .h2 rfl | exact Rd.blk .h3 rfl | exact Rd.blk .h4 rfl | exact Rd.blk .h5 rfl | exact Rd.blk .h6 rfl | exact Rd.blk .h7 rfl)) ?_
    first | (refine L_val rfl rfl rfl (OpP.v (P_ixa0 (2) rfl ty_ar_131 rfl rfl (by first | rfl | omega) (by omega))) ?_) | (refine L_val rfl rfl rfl (OpP.v (P_ixa (2) rfl ty_ar_131 rfl rfl (by first | rfl | omega) (by omega))) ?_)
    refine L_val rfl rfl rfl (V_load rfl rfl ty_sc_108 (by first | exact Rd.blk .h0 rfl | exact Rd.blk .h1 rfl | exact Rd.blk .h2 rfl | exact Rd.blk .h3 rfl | exact Rd.blk .h4 rfl | exact Rd.blk .h5 rfl | exact Rd.blk .h6 rfl | exact Rd.blk .h7 rfl)) ?_
    refine L_val rfl rfl rfl (OpP.v (P_bit (op := .and) rfl rfl rfl rfl)) ?_
    refine L_val rfl rfl rfl (OpP.v (P_bit (op := .xor) rfl rfl rfl rfl)) ?_
    first | (refine L_val rfl rfl rfl (OpP.v (P_ixa0 (1) rfl ty_ar_131 rfl rfl (by first | rfl | omega) (by omega))) ?_) | (refine L_val rfl rfl rfl (OpP.v (P_ixa (1) rfl ty_ar_131 rfl rfl (by first | rfl | omega) (by omega))) ?_)
    refine L_val rfl rfl rfl (V_load rfl rfl ty_sc_108 (by first | exact Rd.blk .h0 rfl | exact Rd.blk .h1 rfl | exact Rd.blk .h2 rfl | exact Rd.blk .h3 rfl | exact Rd.blk .h4 rfl | exact Rd.blk .h5 rfl | exact Rd.blk .h6 rfl | exact Rd.blk .h7 rfl)) ?_
    first | (refine L_val rfl rfl rfl (OpP.v (P_ixa0 (2) rfl ty_ar_131 rfl rfl (by first | rfl | omega) (by omega))) ?_) | (refine L_val rfl rfl rfl (OpP.v (P_ixa (2) rfl ty_ar_131 rfl rfl (by first | rfl | omega) (by omega))) ?_)
    refine L_val rfl rfl rfl (V_load rfl rfl ty_sc_108 (by first | exact Rd.blk .h0 rfl | exact Rd.blk .h1 rfl | exact Rd.blk .h2 rfl | exact Rd.blk .h3 rfl | exact Rd.blk .h4 rfl | exact Rd.blk .h5 rfl | exact Rd.blk .h6 rfl | exact Rd.blk .h7 rfl)) ?_
    refine L_val rfl rfl rfl (OpP.v (P_bit (op := .and) rfl rfl rfl rfl)) ?_
    refine L_val rfl rfl rfl (OpP.v (P_bit (op := .xor) rfl rfl rfl rfl)) ?_
    refine L_val rfl rfl rfl (OpP.v (P_assign rfl rfl)) ?_
    refine L_nil ?_
    refine Q_then ?_
    refine R_seq ?_
    refine R_region ?_
    first | (refine L_val rfl rfl rfl (OpP.v (P_ixa0 (6) rfl ty_ar_131 rfl rfl (by first | rfl | omega) (by omega))) ?_) | (refine L_val rfl rfl rfl (OpP.v (P_ixa (6) rfl ty_ar_131 rfl rfl (by first | rfl | omega) (by omega))) ?_)
    refine L_val rfl rfl rfl (V_load rfl rfl ty_sc_108 (by first | exact Rd.blk .h0 rfl | exact Rd.blk .h1 rfl | exact Rd.blk .h2 rfl | exact Rd.blk .h3 rfl | exact Rd.blk .h4 rfl | exact Rd.blk .h5 rfl | exact Rd.blk .h6 rfl | exact Rd.blk .h7 rfl)) ?_
    first | (refine L_val rfl rfl rfl (OpP.v (P_ixa0 (7) rfl ty_ar_131 rfl rfl (by first | rfl | omega) (by omega))) ?_) | (refine L_val rfl rfl rfl (OpP.v (P_ixa (7) rfl ty_ar_131 rfl rfl (by first | rfl | omega) (by omega))) ?_)
    refine L_op rfl (W_store rfl rfl rfl rfl ty_sc_108 rfl .h0 (by simp [ints]) ?_)
    refine L_nil ?_
    refine Q_then ?_
    refine R_seq ?_
    refine R_region ?_
    first | (refine L_val rfl rfl rfl (OpP.v (P_ixa0 (5) rfl ty_ar_131 rfl rfl (by first | rfl | omega) (by omega))) ?_) | (refine L_val rfl rfl rfl (OpP.v (P_ixa (5) rfl ty_ar_131 rfl rfl (by first | rfl | omega) (by omega))) ?_)
    refine L_val rfl rfl rfl (V_load rfl rfl ty_sc_108 (by first | exact Rd.blk .h0 rfl | exact Rd.blk .h1 rfl | exact Rd.blk .h2 rfl | exact Rd.blk .h3 rfl | exact Rd.blk .h4 rfl | exact Rd.blk .h5 rfl | exact Rd.blk .h6 rfl | exact Rd.blk .h7 rfl)) ?_
    first | (refine L_val rfl rfl rfl (OpP.v (P_ixa0 (6) rfl ty_ar_131 rfl rfl (by first | rfl | omega) (by omega))) ?_) | (refine L_val rfl rfl rfl (OpP.v (P_ixa (6) rfl ty_ar_131 rfl rfl (by first | rfl | omega) (by omega))) ?_)
    refine L_op rfl (W_store rfl rfl rfl rfl ty_sc_108 rfl .h0 (by simp [ints]) ?_)
    refine L_nil ?_
    refine Q_then ?_
    refine R_seq ?_
    refine R_region ?_
    first | (refine L_val rfl rfl rfl (OpP.v (P_ixa0 (4) rfl ty_ar_131 rfl rfl (by first | rfl | omega) (by omega))) ?_) | (refine L_val rfl rfl rfl (OpP.v (P_ixa (4) rfl ty_ar_131 rfl rfl (by first | rfl | omega) (by omega))) ?_)
    refine L_val rfl rfl rfl (V_load rfl rfl ty_sc_108 (by first | exact Rd.blk .h0 rfl | exact Rd.blk .h1 rfl | exact Rd.blk .h2 rfl | exact Rd.blk .h3 rfl | exact Rd.blk .h4 rfl | exact Rd.blk .h5 rfl | exact Rd.blk .h6 rfl | exact Rd.blk .h7 rfl)) ?_
    first | (refine L_val rfl rfl rfl (OpP.v (P_ixa0 (5) rfl ty_ar_131 rfl rfl (by first | rfl | omega) (by omega))) ?_) | (refine L_val rfl rfl rfl (OpP.v (P_ixa (5) rfl ty_ar_131 rfl rfl (by first | rfl | omega) (by omega))) ?_)
    refine L_op rfl (W_store rfl rfl rfl rfl ty_sc_108 rfl .h0 (by simp [ints]) ?_)
    refine L_nil ?_
    refine Q_then ?_
    refine R_seq ?_
    refine R_region ?_
    first | (refine L_val rfl rfl rfl (OpP.v (P_ixa0 (3) rfl ty_ar_131 rfl rfl (by first | rfl | omega) (by omega))) ?_) | (refine L_val rfl rfl rfl (OpP.v (P_ixa (3) rfl ty_ar_131 rfl rfl (by first | rfl | omega) (by omega))) ?_)
    refine L_val rfl rfl rfl (V_load rfl rfl ty_sc_108 (by first | exact Rd.blk .h0 rfl | exact Rd.blk .h1 rfl | exact Rd.blk .h2 rfl | exact Rd.blk .h3 rfl | exact Rd.blk .h4 rfl | exact Rd.blk .h5 rfl | exact Rd.blk .h6 rfl | exact Rd.blk .h7 rfl)) ?_
    refine L_val rfl rfl rfl (OpP.v (P_move rfl rfl)) ?_
    refine L_val rfl rfl rfl (OpP.v (P_add rfl rfl rfl)) ?_
    first | (refine L_val rfl rfl rfl (OpP.v (P_ixa0 (4) rfl ty_ar_131 rfl rfl (by first | rfl | omega) (by omega))) ?_) | (refine L_val rfl rfl rfl (OpP.v (P_ixa (4) rfl ty_ar_131 rfl rfl (by first | rfl | omega) (by omega))) ?_)
    refine L_op rfl (W_store rfl rfl rfl rfl ty_sc_108 rfl .h0 (by simp [ints]) ?_)
    refine L_nil ?_
    refine Q_then ?_
    refine R_seq ?_
    refine R_region ?_
    first | (refine L_val rfl rfl rfl (OpP.v (P_ixa0 (2) rfl ty_ar_131 rfl rfl (by first | rfl | omega) (by omega))) ?_) | (refine L_val rfl rfl rfl (OpP.v (P_ixa (2) rfl ty_ar_131 rfl rfl (by first | rfl | omega) (by omega))) ?_)
    refine L_val rfl rfl rfl (V_load rfl rfl ty_sc_108 (by first | exact Rd.blk .h0 rfl | exact Rd.blk .h1 rfl | exact Rd.blk .h2 rfl | exact Rd.blk .h3 rfl | exact Rd.blk .h4 rfl | exact Rd.blk .h5 rfl | exact Rd.blk .h6 rfl | exact Rd.blk .h7 rfl)) ?_
    first | (refine L_val rfl rfl rfl (OpP.v (P_ixa0 (3) rfl ty_ar_131 rfl rfl (by first | rfl | omega) (by omega))) ?_) | (refine L_val rfl rfl rfl (OpP.v (P_ixa (3) rfl ty_ar_131 rfl rfl (by first | rfl | omega) (by omega))) ?_)
    refine L_op rfl (W_store rfl rfl rfl rfl ty_sc_108 rfl .h0 (by simp [ints]) ?_)
    refine L_nil ?_
    refine Q_then ?_
    refine R_seq ?_
    refine R_region ?_
    first | (refine L_val rfl rfl rfl (OpP.v (P_ixa0 (1) rfl ty_ar_131 rfl rfl (by first | rfl | omega) (by omega))) ?_) | (refine L_val rfl rfl rfl (OpP.v (P_ixa (1) rfl ty_ar_131 rfl rfl (by first | rfl | omega) (by omega))) ?_)
    refine L_val rfl rfl rfl (V_load rfl rfl ty_sc_108 (by first | exact Rd.blk .h0 rfl | exact Rd.blk .h1 rfl | exact Rd.blk .h2 rfl | exact Rd.blk .h3 rfl | exact Rd.blk .h4 rfl | exact Rd.blk .h5 rfl | exact Rd.blk .h6 rfl | exact Rd.blk .h7 rfl)) ?_
    first | (refine L_val rfl rfl rfl (OpP.v (P_ixa0 (2) rfl ty_ar_131 rfl rfl (by first | rfl | omega) (by omega))) ?_) | (refine L_val rfl rfl rfl (OpP.v (P_ixa (2) rfl ty_ar_131 rfl rfl (by first | rfl | omega) (by omega))) ?_)
    refine L_op rfl (W_store rfl rfl rfl rfl ty_sc_108 rfl .h0 (by simp [ints]) ?_)
    refine L_nil ?_
    refine Q_then ?_
    refine R_seq ?_
    refine R_region ?_
    first | (refine L_val rfl rfl rfl (OpP.v (P_ixa0 (0) rfl ty_ar_131 rfl rfl (by first | rfl | omega) (by omega))) ?_) | (refine L_val rfl rfl rfl (OpP.v (P_ixa (0) rfl ty_ar_131 rfl rfl (by first | rfl | omega) (by omega))) ?_)
    refine L_val rfl rfl rfl (V_load rfl rfl ty_sc_108 (by first | exact Rd.blk .h0 rfl | exact Rd.blk .h1 rfl | exact Rd.blk .h2 rfl | exact Rd.blk .h3 rfl | exact Rd.blk .h4 rfl | exact Rd.blk .h5 rfl | exact Rd.blk .h6 rfl | exact Rd.blk .h7 rfl)) ?_
    first | (refine L_val rfl rfl rfl (OpP.v (P_ixa0 (1) rfl ty_ar_131 rfl rfl (by first | rfl | omega) (by omega))) ?_) | (refine L_val rfl rfl rfl (OpP.v (P_ixa (1) rfl ty_ar_131 rfl rfl (by first | rfl | omega) (by omega))) ?_)
    refine L_op rfl (W_store rfl rfl rfl rfl ty_sc_108 rfl .h0 (by simp [ints]) ?_)
    refine L_nil ?_
    refine Q_then ?_
    refine R_region ?_
    refine L_val rfl rfl rfl (OpP.v (P_move rfl rfl)) ?_
    refine L_val rfl rfl rfl (OpP.v (P_move rfl rfl)) ?_
    refine L_val rfl rfl rfl (OpP.v (P_add rfl rfl rfl)) ?_
    refine L_val rfl rfl rfl (OpP.v (P_move rfl rfl)) ?_
    refine L_val rfl rfl rfl (OpP.v (P_add rfl rfl rfl)) ?_
    refine E_as (t := 207) (v' := .int .u32 (addW _ (addW _ _))) rfl (congrArg (Value.int .u32) (addW_assoc _ _ _)) ?_
    first | (refine L_val rfl rfl rfl (OpP.v (P_ixa0 (0) rfl ty_ar_131 rfl rfl (by first | rfl | omega) (by omega))) ?_) | (refine L_val rfl rfl rfl (OpP.v (P_ixa (0) rfl ty_ar_131 rfl rfl (by first | rfl | omega) (by omega))) ?_)
    refine L_op rfl (W_store rfl rfl rfl rfl ty_sc_108 rfl .h0 (by simp [ints]) ?_)
    refine L_nil ?_
    refine Q_block ?_
    refine Q_then ?_
    refine R_region ?_
    refine L_val rfl rfl rfl (OpP.v (P_move rfl rfl)) ?_
    first | (refine L_val rfl rfl rfl (OpP.v (P_addN rfl rfl rfl (by simp only [fits]; omega))) ?_) | (refine L_val rfl rfl rfl (OpP.v (P_add rfl rfl rfl)) ?_)
    refine L_val rfl rfl rfl (OpP.v (P_assign rfl rfl)) ?_
    refine L_nil ?_
    refine E_nat (t := 11) (n := k + 1) rfl (by omega) ?_
    exact Q_round (k + 1) (by omega) (by omega) (by repeat (first | exact .nil | refine .cons rfl ?_)) (by rw [rnds, e8]; exact Weak.refl _)
   ·skip
    refine R_exit ?_
    refine Q_then_exit ?_
    refine Q_then_exit ?_
    refine Q_block_eq ?_
    refine St.env (.cons (t := 2) rfl (.cons (t := 4) rfl (.cons (t := 10) rfl .nil))) ?_
    refine Q_then ?_
    refine R_seq ?_
    refine R_seq ?_
    refine R_region ?_
    refine L_val rfl rfl rfl (OpP.v (P_assign rfl rfl)) ?_
    refine L_nil ?_
    refine Q_then ?_
    refine R_block ?_
    obtain rfl : k = 64 := by omega
    rw [← e8]
    refine R_loop (G := Nat) (fun k => [(2, .pointer (some ⟨b2, 0, none⟩)), (4, .pointer (some ⟨b4, 0, none⟩)), (10, .pointer (some ⟨b10, 0, none⟩)), (17, .int .i64 (k : Int))]) (fun k => [blk b10 (ints .u32 (rnds addsK (sch2 (sch1 p 16) 48) s 64)) 131, blk b5 (ints .u32 (sch2 (sch1 p 16) 48)) 208, blk b4 (List.replicate 8 (.int .u32 0)) 131, blk b2 (ints .u32 (fin8 s (rnds addsK (sch2 (sch1 p 16) 48) s 64) k)) 131]) (fun k => k ≤ 8) (fun k => 8 - k) (0) (by omega) (by repeat (first | exact .nil | refine .cons rfl ?_)) (Weak.refl _) ?_
    intro k hk
    have hf : (fin8 s (rnds addsK (sch2 (sch1 p 16) 48) s 64) k).length = 8 := by rw [fin8_length, hs]
    have hr : (rnds addsK (sch2 (sch1 p 16) 48) s 64).length = 8 := by rw [rnds_length, hs]
    refine R_seq ?_
    refine R_seq ?_
    refine R_region ?_
    refine L_val rfl rfl rfl (OpP.v (P_move rfl rfl)) ?_
    refine L_val rfl rfl rfl (OpP.v (P_lss rfl rfl rfl)) ?_
    refine L_nil ?_
    refine Q_then ?_
    refine R_condP rfl (fun hlt4 => ?_) (fun hlt4 => ?_)
    ·skip
     refine R_skip ?_
     refine Q_then ?_
     refine R_seq ?_
     refine R_block ?_
     refine R_open [(0, 0), (1, 0), (2, 0), (3, 1), (4, 0), (5, 0), (6, 1), (7, 0), (8, 0), (9, 3)] mixed (by kernel_rfl) (QOk.block (QOk.then (QOk.then (QOk.block (QOk.then QOk.body))))) ?_
     refine O_pure rfl rfl rfl rfl (P_move rfl rfl) ?_
     refine O_pure rfl rfl rfl rfl (P_move rfl rfl) ?_
     first | (refine O_pure rfl rfl rfl rfl (P_ixa0 (k) rfl ty_ar_131 rfl rfl (by first | rfl | omega) (by omega)) ?_) | (refine O_pure rfl rfl rfl rfl (P_ixa (k) rfl ty_ar_131 rfl rfl (by first | rfl | omega) (by omega)) ?_)
     refine O_val rfl rfl rfl rfl (V_load rfl rfl ty_sc_108 (Rd.blk .h3 (ints_at (by omega)))) ?_
     refine O_pure rfl rfl rfl rfl (P_move rfl rfl) ?_
     first | (refine O_pure rfl rfl rfl rfl (P_ixa0 (k) rfl ty_ar_131 rfl rfl (by first | rfl | omega) (by omega)) ?_) | (refine O_pure rfl rfl rfl rfl (P_ixa (k) rfl ty_ar_131 rfl rfl (by first | rfl | omega) (by omega)) ?_)
     refine O_val rfl rfl rfl rfl (V_load rfl rfl ty_sc_108 (Rd.blk .h0 (ints_at (by omega)))) ?_
     refine O_pure rfl rfl rfl rfl (P_add rfl rfl rfl) ?_
     first | (refine O_pure rfl rfl rfl rfl (P_ixa0 (k) rfl ty_ar_131 rfl rfl (by first | rfl | omega) (by omega)) ?_) | (refine O_pure rfl rfl rfl rfl (P_ixa (k) rfl ty_ar_131 rfl rfl (by first | rfl | omega) (by omega)) ?_)
     refine O_new rfl rfl (W_store rfl rfl rfl rfl ty_sc_108 rfl .h3 (by rw [ints_length, hf]; omega) (K_new ?_))
     rw [ints_set]
     refine O_nil ?_
     refine Q_block ?_
     refine Q_then ?_
     refine R_region ?_
     refine L_val rfl rfl rfl (OpP.v (P_move rfl rfl)) ?_
     first | (refine L_val rfl rfl rfl (OpP.v (P_addN rfl rfl rfl (by simp only [fits]; omega))) ?_) | (refine L_val rfl rfl rfl (OpP.v (P_add rfl rfl rfl)) ?_)
     refine L_val rfl rfl rfl (OpP.v (P_assign rfl rfl)) ?_
     refine L_nil ?_
     refine E_nat (t := 17) (n := k + 1) rfl (by omega) ?_
     exact Q_round (k + 1) (by omega) (by omega) (by repeat (first | exact .nil | refine .cons rfl ?_)) (Weak.refl _)
    ·skip
     refine R_exit ?_
     refine Q_then_exit ?_
     refine Q_then_exit ?_
     refine Q_block_eq ?_
     refine St.env (.cons (t := 2) rfl (.cons (t := 4) rfl .nil)) ?_
     refine Q_then ?_
     refine R_seq ?_
     refine R_region ?_
     obtain rfl : k = 8 := by omega
     refine L_val rfl rfl rfl (V_loadAgg rfl rfl ty_ag_131 (Rds.blk .h3) (by rw [ints_length, hf])) ?_
     refine L_op rfl (W_storeAll rfl rfl rfl rfl ty_ag_131 (by rw [ints_length, hf]) (ints_one) .h2 (by rw [ints_length, hf]; rfl) ?_)
     refine L_nil ?_
     refine St.env (.cons (t := 4) rfl .nil) ?_
     refine Q_then ?_
     refine R_ret ?_
     exact R_endV rfl rfl (.cell rfl (Rds.loadVar ty_ag_131 (Rds.blk .h2) (by rw [ints_length, hf])) .nil) (rfl)
end Go.Proofs.YtfhjhaogmdaepaaGreatDoor

/- Walks: the reference's Sum, the texts under a digest. Printed by gen.py. -/
set_option linter.unusedVariables false
set_option linter.unusedSimpArgs false
set_option maxRecDepth 100000
namespace Go.Proofs.YtfhjhaogmdaepaaGreatDoor
open Go Go.RowKit Go.Proofs
theorem tmodN (a b : Nat) : Int.tmod (a : Int) (b : Int) = ((a % b : Nat) : Int) := rfl
theorem quoN (a b : Nat) (h : a ≤ 9223372036854775807) : IntKind.i64.wrap (Int.tdiv (a : Int) (b : Int)) = ((a / b : Nat) : Int) := by
 have e : Int.tdiv (a : Int) (b : Int) = ((a / b : Nat) : Int) := rfl
 have hle : a / b ≤ a := Nat.div_le_self _ _
 rw [e]
 generalize a / b = q at hle
 rw [wrap_fits (by simp only [fits]; omega)]
theorem ownS.to {T sz n n' : Nat} {v : Value} {cs cs' : List Value} {rs : List HP} (hn : n = n') (hc : cs = cs') : Weak (ownS T sz v n cs :: rs) (ownS T sz v n' cs' :: rs) := by subst hn; subst hc; exact Weak.refl _
theorem Sn.rowAt {C : Cx} {F : Fx} {rs : List HP} {b j : Nat} {cs us : List Value} (s : Sn C F rs (some ⟨b, j, none⟩) cs) (k : Nat) (hu : ∀ (i : Nat) (v : Value), us[i]? = some v → cs[k + i]? = some v) : ∀ w, Now C F rs w → RowAt w ⟨b, j + k, none⟩ us := fun w n i v hv => by
 obtain ⟨ad, e, hc⟩ := s.rw_ w n (k + i) v (hu i v hv)
 rw [Option.some.injEq] at e
 subst e
 rw [add_zero_off] at hc ⊢
 rwa [Nat.add_assoc]
theorem ints_part (k : IntKind) (xs : List Int) (o n i : Nat) (v : Value) (h : (ints k ((xs.drop o).take n))[i]? = some v) : (ints k xs)[o + i]? = some v := by
 rw [← ints_take, ← ints_drop, List.getElem?_take] at h
 split at h
 ·rwa [List.getElem?_drop] at h
 ·cases h
theorem ints_part2 (k : IntKind) (xs : List Int) (junk : List Value) (o n i : Nat) (v : Value) (h : (ints k ((xs.drop o).take n))[i]? = some v) : (ints k xs ++ junk)[o + i]? = some v := by
 have h2 := ints_part k xs o n i v h
 rw [List.getElem?_append_left (List.getElem?_eq_some_iff.1 h2).1]; exact h2
/-- The end of the text: what is left over, a mark, zeros, the length. -/
def tailB (xs : List Int) : List Int := rem64 xs ++ [128] ++ List.replicate (padZ xs.length) 0 ++ lenB xs.length
theorem tailB_length (xs : List Int) : (tailB xs).length = xs.length % 64 + 1 + padZ xs.length + 8 := by
 simp only [tailB, List.length_append, List.length_cons, List.length_nil, List.length_replicate, lenB_length, rem64_length]
theorem tailB_64 (xs : List Int) : (tailB xs).length % 64 = 0 := by rw [tailB_length, padZ]; omega
theorem cmp_padded (xs : List Int) : cmpN ((tailB xs).length / 64) (cmp xs) (tailB xs) = cmp (padded xs) := by
 have e : padded xs = xs.take (64 * (xs.length / 64)) ++ tailB xs := by
  rw [tailB, rem64, padded]
  simp only [← List.append_assoc, List.take_append_drop]
 have hl : (padded xs).length = 64 * (xs.length / 64) + (tailB xs).length := by
  rw [e, List.length_append, List.length_take]; omega
 have h64 := tailB_64 xs
 show cmpN _ _ _ = cmpN ((padded xs).length / 64) beginK (padded xs)
 rw [hl, show (64 * (xs.length / 64) + (tailB xs).length) / 64 = xs.length / 64 + (tailB xs).length / 64 by omega, cmpN_add, e, List.drop_left' (by rw [List.length_take]; omega)]
 congr 1
 rw [cmpN_append _ _ _ _ (by rw [List.length_take]; omega)]
 conv => lhs; rw [cmp, ← List.take_append_drop (64 * (xs.length / 64)) xs]
 rw [List.take_append_drop]
 conv => lhs; arg 3; rw [← List.take_append_drop (64 * (xs.length / 64)) xs]
 rw [cmpN_append _ _ _ _ (by rw [List.length_take]; omega)]
theorem lenB_next (n j : Nat) (h : j < 8) : (lenB n).take (j + 1) = (lenB n).take j ++ [lenF n j] := by
 rw [List.take_add_one]
 congr 1
 rw [List.getElem?_eq_getElem (by rw [lenB_length]; exact h)]
 simp [lenB, lenF]
set_option maxHeartbeats 1000000 in
theorem rsum_ok {gl : Nat → Obj} (hG : GlobsR gl) (base : Option Addr) (c : Nat) (xs : List Int) (hc : xs.length ≤ c) (hmax : xs.length ≤ 9223372036854775000) : SpecV (cx gl) 17 [.slice base xs.length c] (fun w => Row w base (ints .u8 xs)) (.agg (ints .u8 (sha xs)).toArray) := by
 refine Spec.enter (C := cx gl) Tryz.func17 rfl 89 rfl rfl fun w0 h0 hsep hsub hpre => ?_
 obtain rfl : h0 = Heap.none := hsep
 show St (cx gl) _ [(0, .slice base xs.length c)] _ _
 refine R_seq ?_
 refine R_region ?_
 refine L_op rfl (W_alloc rfl rfl rfl ty_ze_29 fun b2 => ?_)
 refine L_nil ?_
 refine Q_then ?_
 refine R_seq ?_
 refine R_region ?_
 refine L_val rfl rfl rfl (OpP.v (P_buildArr rfl ty_ar_131 ty_ze_131 rfl rfl rfl rfl (by simp [Value.oneCell']))) ?_
 refine E_as (t := 11) (v' := .agg (ints .u32 beginK).toArray) rfl rfl ?_
 refine L_op rfl (W_alloc rfl rfl rfl ty_ze_131 fun b3 => ?_)
 refine L_op rfl (W_storeAll rfl rfl rfl rfl ty_ag_131 (rfl) (ints_one) .h0 (rfl) ?_)
 refine L_nil ?_
 refine St.env (.cons (t := 0) rfl (.cons (t := 2) rfl (.cons (t := 3) rfl .nil))) ?_
 refine Q_then ?_
 refine R_seq ?_
 refine R_region ?_
 refine L_val rfl rfl rfl (OpP.v (P_assign rfl rfl)) ?_
 refine L_nil ?_
 refine Q_then ?_
 refine R_seq ?_
 refine R_block ?_
 refine R_loop (G := Nat) (fun k => [(0, .slice base xs.length c), (2, .pointer (some ⟨b2, 0, none⟩)), (3, .pointer (some ⟨b3, 0, none⟩)), (4, .int .i64 ((64 * k : Nat) : Int))]) (fun k => [blk b3 (ints .u32 (cmpN k beginK xs)) 131, blk b2 (List.replicate 32 (.int .u8 0)) 29]) (fun k => 64 * k ≤ xs.length) (fun k => xs.length - 64 * k) (0) (by omega) (by repeat (first | exact .nil | refine .cons rfl ?_)) (Weak.refl _) ?_
 intro k hk
 refine R_seq ?_
 refine R_seq ?_
 refine R_region ?_
 refine L_val rfl rfl rfl (OpP.v (P_move rfl rfl)) ?_
 first | (refine L_val rfl rfl rfl (OpP.v (P_addN rfl rfl rfl (by simp only [fits]; omega))) ?_) | (refine L_val rfl rfl rfl (OpP.v (P_add rfl rfl rfl)) ?_)
 refine L_val rfl rfl rfl (OpP.v (P_move rfl rfl)) ?_
 refine L_val rfl rfl rfl (OpP.v (P_len rfl ty_sl_48 rfl)) ?_
 refine L_val rfl rfl rfl (OpP.v (P_leq rfl rfl rfl)) ?_
 refine L_nil ?_
 refine Q_then ?_
 refine R_condP rfl (fun hle => ?_) (fun hle => ?_)
 ·skip
  obtain ⟨pb, pj, rfl, hrow⟩ := hpre.some_ (by rw [ints_length]; omega)
  have hpl : ((xs.drop (64 * k)).take 64).length = 64 := by rw [List.length_take, List.length_drop]; omega
  refine R_skip ?_
  refine Q_then ?_
  refine R_block ?_
  refine R_seq ?_
  refine R_open [(0, 1), (1, 0), (2, 0), (3, 0), (4, 0), (5, 0), (6, 2), (7, 3)] mixed (by kernel_rfl) (QOk.then (QOk.block (QOk.then (QOk.block (QOk.then QOk.body))))) ?_
  refine O_val rfl rfl rfl rfl (V_loadAgg rfl rfl ty_ag_131 (Rds.blk .h0) (by rw [ints_length, cmpN_length]; rfl)) ?_
  refine O_pure rfl rfl rfl rfl (P_move rfl rfl) ?_
  refine O_pure rfl rfl rfl rfl (P_move rfl rfl) ?_
  refine O_pure rfl rfl rfl rfl (P_move rfl rfl) ?_
  first | (refine O_pure rfl rfl rfl rfl (P_addN rfl rfl rfl (by simp only [fits]; omega)) ?_) | (refine O_pure rfl rfl rfl rfl (P_add rfl rfl rfl) ?_)
  refine O_pure rfl rfl rfl rfl (P_slice (64 * k) (64 * k + 64) rfl ty_sl_48 rfl ⟨_, rfl⟩ ⟨_, rfl⟩ (by omega) (by omega)) ?_
  refine E_as (t := 22) (v' := .slice (some ⟨pb, pj + 64 * k, none⟩) 64 (c - 64 * k)) rfl (by unfold sliced; rw [if_neg (by omega), Option.map_some, add_zero_off, Nat.mul_one, Nat.add_sub_cancel_left]) ?_
  refine O_keep rfl rfl (W_callV rfl rfl rfl rfl fn_ca_65 (block_ok hG.refAdds (cmpN k beginK xs) ((xs.drop (64 * k)).take 64) (by rw [cmpN_length]; rfl) hpl pb (pj + 64 * k) (c - 64 * k)) ((Sn.row hpre rfl).rowAt (64 * k) fun i v hv => ints_part _ _ _ _ i v hv) (K_keep (Weak.refl _) ?_))
  refine O_new rfl rfl (W_storeAll rfl rfl rfl rfl ty_ag_131 (by rw [ints_length, mixF_length, cmpN_length]; rfl) (ints_one) .h0 (by rw [ints_length, ints_length, mixF_length]) (K_new ?_))
  refine O_nil ?_
  refine Q_then ?_
  refine R_region ?_
  refine L_val rfl rfl rfl (OpP.v (P_move rfl rfl)) ?_
  first | (refine L_val rfl rfl rfl (OpP.v (P_addN rfl rfl rfl (by simp only [fits]; omega))) ?_) | (refine L_val rfl rfl rfl (OpP.v (P_add rfl rfl rfl)) ?_)
  refine L_val rfl rfl rfl (OpP.v (P_assign rfl rfl)) ?_
  refine L_nil ?_
  refine Q_block ?_
  refine E_nat (t := 4) (n := 64 * (k + 1)) rfl (by omega) ?_
  exact Q_round (k + 1) (by omega) (by omega) (by repeat (first | exact .nil | refine .cons rfl ?_)) (by rw [cmpN_succ]; exact Weak.refl _)
 ·skip
  obtain rfl : k = xs.length / 64 := by omega
  refine R_exit ?_
  refine Q_then_exit ?_
  refine Q_then_exit ?_
  refine Q_block_eq ?_
  refine St.env (.cons (t := 0) rfl (.cons (t := 2) rfl (.cons (t := 3) rfl (.cons (t := 4) rfl .nil)))) ?_
  refine Q_then ?_
  refine R_seq ?_
  refine R_region ?_
  refine L_val rfl rfl rfl (OpP.v (P_assign rfl rfl)) ?_
  refine St.res (rs' := [ownS 5 1 (.slice none 0 0) 0 [], blk b3 (ints .u32 (cmp xs)) 131, blk b2 (List.replicate 32 (.int .u8 0)) 29]) (Weak.newNil) ?_
  have hsn : ∀ rs, Sn (cx gl) ⟨89, [], w0, Heap.none⟩ rs (if c = 64 * (xs.length / 64) then base else base.map (·.add (64 * (xs.length / 64) * 1))) (ints .u8 (rem64 xs)) := fun rs => by
     have h := (Sn.row (C := cx gl) (F := ⟨89, [], w0, Heap.none⟩) (rs := rs) hpre rfl).sliced (sz := 1) (p := 64 * (xs.length / 64)) (q := xs.length) hc (.inr (by rw [ints_length]; omega))
     simp only [Nat.mul_one, ints_drop, ints_take] at h ⊢
     rwa [List.take_of_length_le (by rw [List.length_drop]; omega)] at h
  refine L_nil ?_
  refine Q_then ?_
  refine R_seq ?_
  refine R_region ?_
  refine L_val rfl rfl rfl (OpP.v (P_move rfl rfl)) ?_
  refine L_val rfl rfl rfl (OpP.v (P_move rfl rfl)) ?_
  refine L_val rfl rfl rfl (OpP.v (P_move rfl rfl)) ?_
  refine L_val rfl rfl rfl (OpP.v (P_slice (64 * (xs.length / 64)) xs.length rfl ty_sl_48 rfl ⟨_, rfl⟩ rfl (by omega) (by omega))) ?_
  refine L_op rfl (W_append (p := []) rfl rfl rfl ty_sl_48 ty_ap_48 ty_src_48 rfl rfl rfl (Src.row (hsn _).rw_ (by rw [ints_length, rem64_length]; omega) ints_one) (by omega) (by simp only [maxLen]; omega) fun v30 => ?_)
  refine St.res (rs' := [ownS 5 1 v30 (xs.length % 64) (ints .u8 (rem64 xs)), blk b3 (ints .u32 (cmp xs)) 131, blk b2 (List.replicate 32 (.int .u8 0)) 29]) (ownS.to (by omega) (by simp)) ?_
  refine L_val rfl rfl rfl (OpP.v (P_assign rfl rfl)) ?_
  refine L_nil ?_
  refine St.env (.cons (t := 0) rfl (.cons (t := 2) rfl (.cons (t := 3) rfl (.cons (t := 5) rfl .nil)))) ?_
  refine Q_then ?_
  refine R_seq ?_
  refine R_region ?_
  refine L_val rfl rfl rfl (OpP.v (P_move rfl rfl)) ?_
  refine L_op rfl (W_lit (z := .nilIface) (ints .u8 [128]) rfl rfl rfl ty_sl_48 ty_lz_48 rfl rfl rfl (by decide) (by decide) (by simp [Value.cells]) (rfl) fun b32 => ?_)
  refine L_op rfl (W_append (p := [_]) rfl rfl rfl ty_sl_48 ty_ap_48 ty_src_48 rfl rfl rfl (Src.slice (sz := 1) (news := ints .u8 [128]) (Rds.blk .h0) rfl ints_one) (by omega) (by simp only [maxLen]; omega) fun v33 => ?_)
  refine St.res (rs' := [ownS 5 1 v33 (xs.length % 64 + 1) (ints .u8 (rem64 xs ++ [128])), blk b3 (ints .u32 (cmp xs)) 131, blk b2 (List.replicate 32 (.int .u8 0)) 29]) (Weak.drop (ownS.to rfl (by rw [ints_append]))) ?_
  refine L_val rfl rfl rfl (OpP.v (P_assign rfl rfl)) ?_
  refine L_nil ?_
  refine St.env (.cons (t := 0) rfl (.cons (t := 2) rfl (.cons (t := 3) rfl (.cons (t := 5) rfl .nil)))) ?_
  refine Q_then ?_
  refine R_seq ?_
  refine R_block ?_
  refine R_loop (G := Value × Nat) (fun g => [(0, .slice base xs.length c), (2, .pointer (some ⟨b2, 0, none⟩)), (3, .pointer (some ⟨b3, 0, none⟩)), (5, g.1)]) (fun g => [ownS 5 1 g.1 (xs.length % 64 + 1 + g.2) (ints .u8 (rem64 xs ++ [128] ++ List.replicate g.2 0)), blk b3 (ints .u32 (cmp xs)) 131, blk b2 (List.replicate 32 (.int .u8 0)) 29]) (fun g => g.2 ≤ padZ xs.length) (fun g => padZ xs.length - g.2) ((v33, 0)) (Nat.zero_le _) (by repeat (first | exact .nil | refine .cons rfl ?_)) (ownS.to rfl (by simp)) ?_
  rintro ⟨v, k⟩ hk
  simp only at hk
  show St (cx gl) _ [(0, .slice base xs.length c), (2, .pointer (some ⟨b2, 0, none⟩)), (3, .pointer (some ⟨b3, 0, none⟩)), (5, v)] [ownS 5 1 v (xs.length % 64 + 1 + k) (ints .u8 (rem64 xs ++ [128] ++ List.replicate k 0)), blk b3 (ints .u32 (cmp xs)) 131, blk b2 (List.replicate 32 (.int .u8 0)) 29] _
  refine R_seq ?_
  refine R_seq ?_
  refine R_region ?_
  refine L_val rfl rfl rfl (OpP.v (P_move rfl rfl)) ?_
  refine L_val rfl rfl rfl (V_lenOwn .h0 rfl ty_sl_48 rfl) ?_
  refine L_val rfl rfl rfl (OpP.v (P_rem rfl rfl rfl (by decide))) ?_
  refine E_as (t := 36) (v' := .int .i64 (((xs.length % 64 + 1 + k) % 64 : Nat) : Int)) rfl (congrArg (Value.int .i64) (tmodN _ 64)) ?_
  refine L_val rfl rfl rfl (OpP.v (P_neq rfl rfl rfl)) ?_
  refine L_nil ?_
  refine Q_then ?_
  refine R_condP rfl (fun hne => ?_) (fun hne => ?_)
  ·skip
   refine R_skip ?_
   refine Q_then ?_
   refine R_block ?_
   refine R_region ?_
   refine L_val rfl rfl rfl (OpP.v (P_move rfl rfl)) ?_
   refine L_op rfl (W_lit (z := .nilIface) (ints .u8 [0]) rfl rfl rfl ty_sl_48 ty_lz_48 rfl rfl rfl (by decide) (by decide) (by simp [Value.cells]) (rfl) fun b39 => ?_)
   refine L_op rfl (W_append (p := [_]) rfl rfl rfl ty_sl_48 ty_ap_48 ty_src_48 rfl rfl rfl (Src.slice (sz := 1) (news := ints .u8 [0]) (Rds.blk .h0) rfl ints_one) (by unfold padZ at *; omega) (by simp only [maxLen]; unfold padZ at *; omega) fun v40 => ?_)
   refine L_val rfl rfl rfl (OpP.v (P_assign rfl rfl)) ?_
   refine L_nil ?_
   refine Q_block ?_
   exact Q_round ((v40, k + 1)) (by show k + 1 ≤ padZ xs.length; unfold padZ at *; omega) (by show padZ xs.length - (k + 1) < padZ xs.length - k; unfold padZ at *; omega) (by repeat (first | exact .nil | refine .cons rfl ?_)) (Weak.drop (ownS.to (by omega) (by rw [ints_append, List.replicate_succ', ← List.append_assoc])))
  ·skip
   obtain rfl : k = padZ xs.length := by unfold padZ at *; omega
   refine R_exit ?_
   refine Q_then_exit ?_
   refine Q_then_exit ?_
   refine Q_block_eq ?_
   refine St.env (.cons (t := 0) rfl (.cons (t := 2) rfl (.cons (t := 3) rfl (.cons (t := 5) rfl .nil)))) ?_
   refine Q_then ?_
   refine R_seq ?_
   refine R_region ?_
   refine L_val rfl rfl rfl (OpP.v (P_move rfl rfl)) ?_
   refine L_val rfl rfl rfl (OpP.v (P_len rfl ty_sl_48 rfl)) ?_
   refine L_val rfl rfl rfl (OpP.v (P_conv rfl ty_int_3 ty_int_24 rfl)) ?_
   refine L_val rfl rfl rfl (OpP.v (P_mul rfl rfl rfl)) ?_
   refine L_val rfl rfl rfl (OpP.v (P_assign rfl rfl)) ?_
   refine L_nil ?_
   refine St.env (.cons (t := 2) rfl (.cons (t := 3) rfl (.cons (t := 5) rfl (.cons (t := 6) rfl .nil)))) ?_
   refine Q_then ?_
   refine R_seq ?_
   refine R_seq ?_
   refine R_region ?_
   refine L_val rfl rfl rfl (OpP.v (P_assign rfl rfl)) ?_
   refine L_nil ?_
   refine Q_then ?_
   refine R_block ?_
   refine R_loop (G := Value × Nat) (fun g => [(2, .pointer (some ⟨b2, 0, none⟩)), (3, .pointer (some ⟨b3, 0, none⟩)), (5, g.1), (6, .int .u64 (IntKind.u64.wrap (IntKind.u64.wrap (xs.length : Int) * 8))), (7, .int .i64 (7 - (g.2 : Int)))]) (fun g => [ownS 5 1 g.1 (xs.length % 64 + 1 + padZ xs.length + g.2) (ints .u8 (rem64 xs ++ [128] ++ List.replicate (padZ xs.length) 0 ++ (lenB xs.length).take g.2)), blk b3 (ints .u32 (cmp xs)) 131, blk b2 (List.replicate 32 (.int .u8 0)) 29]) (fun g => g.2 ≤ 8) (fun g => 8 - g.2) ((v, 0)) (Nat.zero_le _) (by repeat (first | exact .nil | refine .cons rfl ?_)) (ownS.to rfl (by simp)) ?_
   rintro ⟨v, j⟩ hj
   simp only at hj
   show St (cx gl) _ [(2, .pointer (some ⟨b2, 0, none⟩)), (3, .pointer (some ⟨b3, 0, none⟩)), (5, v), (6, .int .u64 (IntKind.u64.wrap (IntKind.u64.wrap (xs.length : Int) * 8))), (7, .int .i64 (7 - (j : Int)))] [ownS 5 1 v (xs.length % 64 + 1 + padZ xs.length + j) (ints .u8 (rem64 xs ++ [128] ++ List.replicate (padZ xs.length) 0 ++ (lenB xs.length).take j)), blk b3 (ints .u32 (cmp xs)) 131, blk b2 (List.replicate 32 (.int .u8 0)) 29] _
   refine R_seq ?_
   refine R_seq ?_
   refine R_region ?_
   refine L_val rfl rfl rfl (OpP.v (P_move rfl rfl)) ?_
   refine L_val rfl rfl rfl (OpP.v (P_geq rfl rfl rfl)) ?_
   refine L_nil ?_
   refine Q_then ?_
   refine R_condP rfl (fun hge => ?_) (fun hge => ?_)
   ·skip
    refine R_skip ?_
    refine Q_then ?_
    refine R_seq ?_
    refine R_block ?_
    refine R_region ?_
    refine L_val rfl rfl rfl (OpP.v (P_move rfl rfl)) ?_
    refine L_val rfl rfl rfl (OpP.v (P_move rfl rfl)) ?_
    refine L_val rfl rfl rfl (OpP.v (P_move rfl rfl)) ?_
    first | (refine L_val rfl rfl rfl (OpP.v (P_mulN rfl rfl rfl (by simp only [fits]; omega))) ?_) | (refine L_val rfl rfl rfl (OpP.v (P_mul rfl rfl rfl)) ?_)
    refine L_val rfl rfl rfl (OpP.v (P_convN rfl ty_int_3 ty_int_133 rfl (by simp only [fits]; omega))) ?_
    refine L_val rfl rfl rfl (OpP.v (P_shr rfl rfl rfl (by omega))) ?_
    refine L_val rfl rfl rfl (OpP.v (P_conv rfl ty_int_24 ty_int_5 rfl)) ?_
    refine E_as (t := 55) (v' := .int .u8 (lenF xs.length j)) rfl (by unfold lenF; rw [show (56 : Int) - 8 * (j : Int) = 8 * (7 - (j : Int)) by omega]) ?_
    refine L_op rfl (W_lit (z := .nilIface) (ints .u8 [lenF xs.length j]) rfl rfl rfl ty_sl_48 ty_lz_48 rfl rfl rfl (by decide) (by decide) (by simp [Value.cells]) (rfl) fun b56 => ?_)
    refine L_op rfl (W_append (p := [_]) rfl rfl rfl ty_sl_48 ty_ap_48 ty_src_48 rfl rfl rfl (Src.slice (sz := 1) (news := ints .u8 [lenF xs.length j]) (Rds.blk .h0) rfl ints_one) (by unfold padZ at *; omega) (by simp only [maxLen]; unfold padZ at *; omega) fun v57 => ?_)
    refine L_val rfl rfl rfl (OpP.v (P_assign rfl rfl)) ?_
    refine L_nil ?_
    refine Q_block ?_
    refine Q_then ?_
    refine R_region ?_
    refine L_val rfl rfl rfl (OpP.v (P_move rfl rfl)) ?_
    first | (refine L_val rfl rfl rfl (OpP.v (P_subN rfl rfl rfl (by simp only [fits]; omega))) ?_) | (refine L_val rfl rfl rfl (OpP.v (P_sub rfl rfl rfl)) ?_)
    refine L_val rfl rfl rfl (OpP.v (P_assign rfl rfl)) ?_
    refine L_nil ?_
    refine E_as (t := 7) (v' := .int .i64 (7 - ((j + 1 : Nat) : Int))) rfl (by congr 1; omega) ?_
    exact Q_round ((v57, j + 1)) (by show j + 1 ≤ 8; omega) (by show 8 - (j + 1) < 8 - j; omega) (by repeat (first | exact .nil | refine .cons rfl ?_)) (Weak.drop (ownS.to (by omega) (by rw [ints_append, lenB_next _ _ (by omega), ← List.append_assoc])))
   ·skip
    obtain rfl : j = 8 := by omega
    refine St.res (rs' := [ownS 5 1 v ((tailB xs).length) (ints .u8 (tailB xs)), blk b3 (ints .u32 (cmp xs)) 131, blk b2 (List.replicate 32 (.int .u8 0)) 29]) (ownS.to (by rw [tailB_length]) (by rw [List.take_of_length_le (by rw [lenB_length]; omega)]; rfl)) ?_
    refine R_exit ?_
    refine Q_then_exit ?_
    refine Q_then_exit ?_
    refine Q_block_eq ?_
    refine St.env (.cons (t := 2) rfl (.cons (t := 3) rfl (.cons (t := 5) rfl .nil))) ?_
    refine Q_then ?_
    refine R_seq ?_
    refine R_seq ?_
    refine R_region ?_
    refine L_val rfl rfl rfl (OpP.v (P_assign rfl rfl)) ?_
    refine L_nil ?_
    refine Q_then ?_
    refine R_block ?_
    refine St.openOwn (p := []) (by rw [tailB_length]; omega) fun ob ocap junk hoc hol hov => ?_
    subst hov
    have ht64 := tailB_64 xs
    have htl : (tailB xs).length ≤ 200 := by rw [tailB_length, padZ]; omega
    refine R_loop (G := Nat) (fun k => [(2, .pointer (some ⟨b2, 0, none⟩)), (3, .pointer (some ⟨b3, 0, none⟩)), (5, .slice (some ⟨ob, 0, none⟩) (tailB xs).length ocap), (8, .int .i64 ((64 * k : Nat) : Int))]) (fun k => [blk ob (ints .u8 (tailB xs) ++ junk) 5, blk b3 (ints .u32 (cmpN k (cmp xs) (tailB xs))) 131, blk b2 (List.replicate 32 (.int .u8 0)) 29]) (fun k => 64 * k ≤ (tailB xs).length) (fun k => (tailB xs).length - 64 * k) (0) (by omega) (by repeat (first | exact .nil | refine .cons rfl ?_)) (Weak.refl _) ?_
    intro k hk
    refine R_seq ?_
    refine R_seq ?_
    refine R_region ?_
    refine L_val rfl rfl rfl (OpP.v (P_move rfl rfl)) ?_
    refine L_val rfl rfl rfl (OpP.v (P_move rfl rfl)) ?_
    refine L_val rfl rfl rfl (OpP.v (P_len rfl ty_sl_48 rfl)) ?_
    refine L_val rfl rfl rfl (OpP.v (P_lss rfl rfl rfl)) ?_
    refine L_nil ?_
    refine Q_then ?_
    refine R_condP rfl (fun hlt => ?_) (fun hlt => ?_)
    ·skip
     have hpl : (((tailB xs).drop (64 * k)).take 64).length = 64 := by rw [List.length_take, List.length_drop]; omega
     refine R_skip ?_
     refine Q_then ?_
     refine R_seq ?_
     refine R_block ?_
     refine R_open [(0, 1), (1, 0), (2, 0), (3, 0), (4, 0), (5, 0), (6, 2), (7, 3)] mixed (by kernel_rfl) (QOk.block (QOk.then (QOk.then (QOk.block (QOk.then QOk.body))))) ?_
     refine O_val rfl rfl rfl rfl (V_loadAgg rfl rfl ty_ag_131 (Rds.blk .h1) (by rw [ints_length, cmpN_length, cmp_length])) ?_
     refine O_pure rfl rfl rfl rfl (P_move rfl rfl) ?_
     refine O_pure rfl rfl rfl rfl (P_move rfl rfl) ?_
     refine O_pure rfl rfl rfl rfl (P_move rfl rfl) ?_
     first | (refine O_pure rfl rfl rfl rfl (P_addN rfl rfl rfl (by simp only [fits]; omega)) ?_) | (refine O_pure rfl rfl rfl rfl (P_add rfl rfl rfl) ?_)
     refine O_pure rfl rfl rfl rfl (P_slice (64 * k) (64 * k + 64) rfl ty_sl_48 rfl ⟨_, rfl⟩ ⟨_, rfl⟩ (by omega) (by omega)) ?_
     refine E_as (t := 69) (v' := .slice (some ⟨ob, 0 + 64 * k, none⟩) 64 (ocap - 64 * k)) rfl (by unfold sliced; rw [if_neg (by omega), Option.map_some, add_zero_off, Nat.mul_one, Nat.add_sub_cancel_left]) ?_
     refine O_keep rfl rfl (W_callV rfl rfl rfl rfl fn_ca_65 (block_ok hG.refAdds (cmpN k (cmp xs) (tailB xs)) (((tailB xs).drop (64 * k)).take 64) (by rw [cmpN_length, cmp_length]) hpl ob (0 + 64 * k) (ocap - 64 * k)) ((Sn.ofBlk .h0).rowAt (64 * k) fun i v hv => ints_part2 _ _ _ _ _ i v hv) (K_keep (Weak.refl _) ?_))
     refine O_new rfl rfl (W_storeAll rfl rfl rfl rfl ty_ag_131 (by rw [ints_length, mixF_length, cmpN_length, cmp_length]) (ints_one) .h1 (by rw [ints_length, ints_length, mixF_length]) (K_new ?_))
     refine O_nil ?_
     refine Q_block ?_
     refine Q_then ?_
     refine R_region ?_
     refine L_val rfl rfl rfl (OpP.v (P_move rfl rfl)) ?_
     first | (refine L_val rfl rfl rfl (OpP.v (P_addN rfl rfl rfl (by simp only [fits]; omega))) ?_) | (refine L_val rfl rfl rfl (OpP.v (P_add rfl rfl rfl)) ?_)
     refine L_val rfl rfl rfl (OpP.v (P_assign rfl rfl)) ?_
     refine L_nil ?_
     refine E_nat (t := 8) (n := 64 * (k + 1)) rfl (by omega) ?_
     exact Q_round (k + 1) (by omega) (by omega) (by repeat (first | exact .nil | refine .cons rfl ?_)) (by rw [cmpN_succ]; exact Weak.refl _)
    ·skip
     obtain rfl : k = (tailB xs).length / 64 := by omega
     rw [cmp_padded]
     refine R_exit ?_
     refine Q_then_exit ?_
     refine Q_then_exit ?_
     refine Q_block_eq ?_
     refine St.env (.cons (t := 2) rfl (.cons (t := 3) rfl .nil)) ?_
     refine Q_then ?_
     refine R_seq ?_
     refine R_region ?_
     refine L_op rfl (W_alloc rfl rfl rfl ty_ze_29 fun b9 => ?_)
     refine L_nil ?_
     refine Q_then ?_
     refine R_seq ?_
     refine R_seq ?_
     refine R_region ?_
     refine L_val rfl rfl rfl (OpP.v (P_assign rfl rfl)) ?_
     refine L_nil ?_
     refine Q_then ?_
     refine R_block ?_
     refine R_loop (G := Nat) (fun i => [(2, .pointer (some ⟨b2, 0, none⟩)), (3, .pointer (some ⟨b3, 0, none⟩)), (9, .pointer (some ⟨b9, 0, none⟩)), (10, .int .i64 (i : Int))]) (fun i => [blk b9 (ints .u8 (fillN (outF (cmp (padded xs))) 32 i)) 29, blk ob (ints .u8 (tailB xs) ++ junk) 5, blk b3 (ints .u32 (cmp (padded xs))) 131, blk b2 (List.replicate 32 (.int .u8 0)) 29]) (fun i => i ≤ 32) (fun i => 32 - i) (0) (by omega) (by repeat (first | exact .nil | refine .cons rfl ?_)) (by rw [fillN_zero]; exact Weak.refl _) ?_
     intro i hi
     refine R_seq ?_
     refine R_seq ?_
     refine R_region ?_
     refine L_val rfl rfl rfl (OpP.v (P_move rfl rfl)) ?_
     refine L_val rfl rfl rfl (OpP.v (P_lss rfl rfl rfl)) ?_
     refine L_nil ?_
     refine Q_then ?_
     refine R_condP rfl (fun hli => ?_) (fun hli => ?_)
     ·skip
      refine R_skip ?_
      refine Q_then ?_
      refine R_seq ?_
      refine R_block ?_
      refine R_region ?_
      refine L_val rfl rfl rfl (OpP.v (P_move rfl rfl)) ?_
      refine L_val rfl rfl rfl (OpP.v (P_move rfl rfl)) ?_
      refine L_val rfl rfl rfl (OpP.v (P_quo rfl rfl rfl (by decide))) ?_
      refine E_as (t := 77) (v' := .int .i64 ((i / 4 : Nat) : Int)) rfl (congrArg (Value.int .i64) (quoN _ 4 (by omega))) ?_
      first | (refine L_val rfl rfl rfl (OpP.v (P_ixa0 (i / 4) rfl ty_ar_131 rfl rfl (by first | rfl | omega) (by omega))) ?_) | (refine L_val rfl rfl rfl (OpP.v (P_ixa (i / 4) rfl ty_ar_131 rfl rfl (by first | rfl | omega) (by omega))) ?_)
      refine L_val rfl rfl rfl (V_load rfl rfl ty_sc_108 (Rd.blk .h2 (ints_at (by rw [cmp_length]; omega)))) ?_
      refine L_val rfl rfl rfl (OpP.v (P_move rfl rfl)) ?_
      refine L_val rfl rfl rfl (OpP.v (P_rem rfl rfl rfl (by decide))) ?_
      refine E_as (t := 81) (v' := .int .i64 ((i % 4 : Nat) : Int)) rfl (congrArg (Value.int .i64) (tmodN _ 4)) ?_
      first | (refine L_val rfl rfl rfl (OpP.v (P_mulN rfl rfl rfl (by simp only [fits]; omega))) ?_) | (refine L_val rfl rfl rfl (OpP.v (P_mul rfl rfl rfl)) ?_)
      first | (refine L_val rfl rfl rfl (OpP.v (P_subN rfl rfl rfl (by simp only [fits]; omega))) ?_) | (refine L_val rfl rfl rfl (OpP.v (P_sub rfl rfl rfl)) ?_)
      refine L_val rfl rfl rfl (OpP.v (P_convN rfl ty_int_3 ty_int_133 rfl (by simp only [fits]; omega))) ?_
      refine L_val rfl rfl rfl (OpP.v (P_shr rfl rfl rfl (by omega))) ?_
      refine L_val rfl rfl rfl (OpP.v (P_conv rfl ty_int_108 ty_int_5 rfl)) ?_
      first | (refine L_val rfl rfl rfl (OpP.v (P_ixa0 (i) rfl ty_ar_29 rfl rfl (by first | rfl | omega) (by omega))) ?_) | (refine L_val rfl rfl rfl (OpP.v (P_ixa (i) rfl ty_ar_29 rfl rfl (by first | rfl | omega) (by omega))) ?_)
      refine L_op rfl (W_store rfl rfl rfl rfl ty_sc_5 rfl .h0 (by rw [ints_length, fillN_length]; omega) ?_)
      rw [ints_set]
      refine L_nil ?_
      refine Q_block ?_
      refine Q_then ?_
      refine R_region ?_
      refine L_val rfl rfl rfl (OpP.v (P_move rfl rfl)) ?_
      first | (refine L_val rfl rfl rfl (OpP.v (P_addN rfl rfl rfl (by simp only [fits]; omega))) ?_) | (refine L_val rfl rfl rfl (OpP.v (P_add rfl rfl rfl)) ?_)
      refine L_val rfl rfl rfl (OpP.v (P_assign rfl rfl)) ?_
      refine L_nil ?_
      refine E_nat (t := 10) (n := i + 1) rfl (by omega) ?_
      exact Q_round (i + 1) (by omega) (by omega) (by repeat (first | exact .nil | refine .cons rfl ?_)) (by rw [← fillN_set]; exact Weak.refl _)
     ·skip
      obtain rfl : i = 32 := by omega
      rw [fillN_full]
      refine St.res (rs' := [blk b9 (ints .u8 (sha xs)) 29, blk ob (ints .u8 (tailB xs) ++ junk) 5, blk b3 (ints .u32 (cmp (padded xs))) 131, blk b2 (List.replicate 32 (.int .u8 0)) 29]) (Weak.refl _) ?_
      refine R_exit ?_
      refine Q_then_exit ?_
      refine Q_then_exit ?_
      refine Q_block_eq ?_
      refine St.env (.cons (t := 2) rfl (.cons (t := 9) rfl .nil)) ?_
      refine Q_then ?_
      refine R_seq ?_
      refine R_region ?_
      refine L_val rfl rfl rfl (V_loadAgg rfl rfl ty_ag_29 (Rds.blk .h0) (by rw [ints_length, sha_length])) ?_
      refine L_op rfl (W_storeAll rfl rfl rfl rfl ty_ag_29 (by rw [ints_length, sha_length]) (ints_one) .h3 (by rw [ints_length, sha_length]; rfl) ?_)
      refine L_nil ?_
      refine St.env (.cons (t := 2) rfl .nil) ?_
      refine Q_then ?_
      refine R_ret ?_
      exact R_endV rfl rfl (.cell rfl (Rds.loadVar ty_ag_29 (Rds.blk .h3) (by rw [ints_length, sha_length])) .nil) (rfl)
end Go.Proofs.YtfhjhaogmdaepaaGreatDoor

/- Plain: the tree over a list: where it is split, its top, its proofs. -/
set_option linter.unusedVariables false
set_option linter.unusedSimpArgs false
namespace Go.Proofs.YtfhjhaogmdaepaaGreatDoor
open Go

theorem isB_u8 (x : Int) : 0 ≤ IntKind.u8.wrap x ∧ IntKind.u8.wrap x ≤ 255 := by
 simp only [IntKind.wrap, IntKind.signed, IntKind.bits, Bool.false_and, Bool.false_eq_true, if_false]; omega
theorem isB_sha (xs : List Int) : IsB (sha xs) := fun x hx => by
 obtain ⟨i, _, rfl⟩ := List.mem_map.1 hx
 exact isB_u8 _
theorem IsB.cons {x : Int} {xs : List Int} (h0 : 0 ≤ x) (h1 : x ≤ 255) (h : IsB xs) : IsB (x :: xs) := fun y hy => by
 rcases List.mem_cons.1 hy with rfl | hy
 ·exact ⟨h0, h1⟩
 ·exact h y hy
theorem IsB.append {xs ys : List Int} (h : IsB xs) (k : IsB ys) : IsB (xs ++ ys) := fun y hy => by
 rcases List.mem_append.1 hy with hy | hy
 ·exact h y hy
 ·exact k y hy
end Go.Proofs.YtfhjhaogmdaepaaGreatDoor

/- Walks: tops of lists. Printed by gen.py. -/
set_option linter.unusedVariables false
set_option linter.unusedSimpArgs false
set_option maxRecDepth 100000
namespace Go.Proofs.YtfhjhaogmdaepaaGreatDoor
open Go Go.RowKit Go.Proofs
theorem BytesL.take {w : World} {vs : List Value} {xss : List (List Int)} (h : BytesL w vs xss) (n : Nat) : BytesL w (vs.take n) (xss.take n) :=
 ⟨by rw [List.length_take, List.length_take, h.1], fun i v x h1 h2 => by
  rw [List.getElem?_take] at h1 h2
  split at h1
  ·rename_i hi
   rw [if_pos hi] at h2
   exact h.2 i v x h1 h2
  ·cases h1⟩
theorem BytesL.drop {w : World} {vs : List Value} {xss : List (List Int)} (h : BytesL w vs xss) (n : Nat) : BytesL w (vs.drop n) (xss.drop n) :=
 ⟨by rw [List.length_drop, List.length_drop, h.1], fun i v x h1 h2 => by
  rw [List.getElem?_drop] at h1 h2
  exact h.2 _ v x h1 h2⟩
/-- A slice of slices of bytes, as items are. -/
def Items (w : World) (base : Option Addr) (vs : List Value) (xss : List (List Int)) : Prop := Row w base vs ∧ BytesL w vs xss
theorem Items.row {C : Cx} {F : Fx} {rs : List HP} {base : Option Addr} {vs : List Value} {xss : List (List Int)} (h : Items F.w base vs xss) (hf : F.h = Heap.none) : ∀ w, Now C F rs w → Items w base vs xss := fun w n =>
 ⟨(Sn.row h.1 hf).rw_ w n, h.2.1, fun i v x h1 h2 => by
  obtain ⟨b, c, e, hc, hr⟩ := h.2.2 i v x h1 h2
  exact ⟨b, c, e, hc, (Sn.row hr hf).rw_ w n⟩⟩
theorem Items.sliced {w : World} {base : Option Addr} {vs : List Value} {xss : List (List Int)} (h : Items w base vs xss) {p q c : Nat} (hq : q ≤ c) (hqn : q ≤ vs.length) : Items w (if c = p then base else base.map (·.add (p * 1))) ((vs.drop p).take (q - p)) ((xss.drop p).take (q - p)) := by
 refine ⟨?_, (h.2.drop p).take _⟩
 have := Row.sliced (sz := 1) (p := p) (q := q) (c := c) h.1 hq (.inr (by omega))
 simpa using this
end Go.Proofs.YtfhjhaogmdaepaaGreatDoor

/- Walks: the codec's writer. Printed by gen.py. -/
set_option linter.unusedVariables false
set_option linter.unusedSimpArgs false
set_option maxRecDepth 100000
namespace Go.Proofs.YtfhjhaogmdaepaaGreatDoor
open Go Go.RowKit Go.Proofs
def w8 (x : Int) (i : Nat) : Int := IntKind.u8.wrap (shrI .u64 x (8 * (i : Int)))
def word8 (x : Int) (n : Nat) : List Int := (List.range n).map (w8 x)
/-- Words, one behind the other. -/
def wordsB (ws : List Int) : List Int := ws.flatMap fun x => word8 x 8
def boolB (b : Bool) : Int := if b = true then 1 else 0
def accW (x : Acc) : List Int := [x.a, x.bal, x.bond, x.non]
def formB (x : Acc) : List Int := wordsB (accW x) ++ [boolB x.jail]
/-- Bytes of the call's own. -/
structure Ob where
 b : Option Addr
 c : Nat
 xs : List Int
def Ob.val (u : Ob) : Value := .slice u.b u.xs.length u.c
def Ob.own (u : Ob) : HP := ownS 5 1 u.val u.xs.length (ints .u8 u.xs)
def formsOk (qs : List Ob) (l : List Acc) : Prop := qs.map Ob.xs = l.map formB ∧ ∀ u ∈ qs, u.xs.length ≤ u.c
theorem formsOk.len {qs : List Ob} {l : List Acc} (h : formsOk qs l) : qs.length = l.length := by have := congrArg List.length h.1; simpa using this
theorem formsOk.snoc {qs : List Ob} {l : List Acc} {i : Nat} {m : Acc} {u : Ob} (h : formsOk qs (l.take i)) (hm : l[i]? = some m) (hu : u.xs = formB m) (hc : u.xs.length ≤ u.c) : formsOk (qs ++ [u]) (l.take (i + 1)) := by
 refine ⟨?_, fun x hx => ?_⟩
 ·rw [List.map_append, h.1, List.take_add_one, hm, List.map_append]; simp [hu]
 ·rcases List.mem_append.1 hx with hx | hx
  ·exact h.2 x hx
  ·obtain rfl := List.mem_singleton.1 hx; exact hc
theorem newW_ok {gl : Nat → Obj} : Spec (cx gl) 120 [] (fun _ _ => True) [] (fun v rs => ∃ wb, v = .pointer (some ⟨wb, 0, none⟩) ∧ rs = [blk wb [.bool true, .slice none 0 0, .int .i64 0] 263]) := by
 refine Spec.enter (C := cx gl) Tryz.func120 rfl 3 rfl rfl fun w0 h0 hsep hsub hpre => ?_
 obtain rfl : h0 = Heap.none := hsep
 show St (cx gl) _ [] _ _
 refine R_seq ?_
 refine R_region ?_
 refine L_val rfl rfl rfl (OpP.v (P_assign rfl rfl)) ?_
 refine L_nil ?_
 refine Q_then ?_
 refine R_seq ?_
 refine R_region ?_
 refine L_val rfl rfl rfl (OpP.v (P_buildStruct rfl ty_pl_263 ty_ze_263 rfl rfl (rfl))) ?_
 refine E_as (t := 1) (v' := .agg [.bool true, .slice none 0 0, .int .i64 0].toArray) rfl rfl ?_
 refine L_op rfl (W_box ([.bool true, .slice none 0 0, .int .i64 0]) rfl rfl rfl rfl rfl fun b2 => ?_)
 refine L_val rfl rfl rfl (OpP.v (P_assign rfl rfl)) ?_
 refine L_nil ?_
 refine St.env (.cons (t := 0) rfl .nil) ?_
 refine Q_then ?_
 refine R_ret ?_
 exact R_end (rs2 := _) rfl rfl (.tmp rfl .nil) (⟨_, rfl, rfl⟩) (Weak.refl _)
theorem live_ok {gl : Nat → Obj} (wb : Nat) (bv : Value) : SpecR (cx gl) 230 [.pointer (some ⟨wb, 0, none⟩)] (fun _ _ => True) [blk wb [.bool true, bv, .int .i64 0] 263] (.bool true) [blk wb [.bool true, bv, .int .i64 0] 263] := by
 refine Spec.enter (C := cx gl) Tryz.func230 rfl 18 rfl rfl fun w0 h0 hsep hsub hpre => ?_
 show St (cx gl) _ [(0, .pointer (some ⟨wb, 0, none⟩))] _ _
 refine R_seq ?_
 refine R_region ?_
 refine L_val rfl rfl rfl (OpP.v (P_assign rfl rfl)) ?_
 refine L_nil ?_
 refine Q_then ?_
 refine R_seq ?_
 refine R_region ?_
 refine L_val rfl rfl rfl (OpP.v (P_move rfl rfl)) ?_
 refine L_val rfl rfl rfl (OpP.v (P_neNil rfl ty_ptr_199 rfl rfl)) ?_
 refine L_val rfl rfl rfl (OpP.v (P_move rfl rfl)) ?_
 refine L_val rfl rfl rfl (OpP.v (P_move rfl rfl)) ?_
 refine L_val rfl rfl rfl (OpP.v (P_nil rfl rfl)) ?_
 refine L_val rfl rfl rfl (OpP.v (P_fld0 rfl ty_fl_263_0 rfl)) ?_
 refine L_val rfl rfl rfl (V_load rfl rfl ty_sc_4 (Rd.blk .h0 rfl)) ?_
 refine E_true (t := 9) rfl (rfl) ?_
 refine L_val rfl rfl rfl (OpP.v (P_pick rfl rfl rfl)) ?_
 refine L_val rfl rfl rfl (OpP.v (P_move rfl rfl)) ?_
 refine L_val rfl rfl rfl (OpP.v (P_move rfl rfl)) ?_
 refine L_val rfl rfl rfl (OpP.v (P_nil rfl rfl)) ?_
 refine L_val rfl rfl rfl (OpP.v (P_fld0 rfl ty_fl_263_2 rfl)) ?_
 refine L_val rfl rfl rfl (V_load rfl rfl ty_sc_34 (Rd.blk .h0 rfl)) ?_
 refine L_val rfl rfl rfl (OpP.v (P_eql rfl rfl rfl)) ?_
 refine E_true (t := 16) rfl (rfl) ?_
 refine L_val rfl rfl rfl (OpP.v (P_pick rfl rfl rfl)) ?_
 refine L_val rfl rfl rfl (OpP.v (P_assign rfl rfl)) ?_
 refine L_nil ?_
 refine St.env (.cons (t := 2) rfl .nil) ?_
 refine Q_then ?_
 refine R_ret ?_
 exact R_end (rs2 := _) rfl rfl (.tmp rfl .nil) (⟨rfl, rfl⟩) (Weak.refl _)
theorem put_ok {gl : Nat → Obj} (wb : Nat) (bv : Value) (n : Nat) (xs : List Int) (hn : n ≤ 100000000) (y : Int) (bb : Option Addr) (bc : Nat) (hbc : 1 ≤ bc) : Spec (cx gl) 210 [.pointer (some ⟨wb, 0, none⟩), .slice bb 1 bc] (fun w h => Seen w h bb (ints .u8 [y])) [blk wb [.bool true, bv, .int .i64 0] 263, ownS 5 1 (bv) (n) (ints .u8 (xs))] (fun v rs => v = .tuple #[] ∧ ∃ bv', rs = [blk wb [.bool true, bv', .int .i64 0] 263, ownS 5 1 (bv') (n + 1) (ints .u8 (xs ++ [y]))]) := by
 refine Spec.enter (C := cx gl) Tryz.func210 rfl 15 rfl rfl fun w0 h0 hsep hsub hpre => ?_
 show St (cx gl) _ [(0, .pointer (some ⟨wb, 0, none⟩)), (1, .slice bb 1 bc)] _ _
 refine R_seq ?_
 refine R_region ?_
 refine L_val rfl rfl rfl (OpP.v (P_move rfl rfl)) ?_
 refine L_op rfl (W_callR rfl rfl rfl rfl fn_ca_230 (live_ok wb bv) (Weak.refl _) (fun _ _ _ _ _ _ _ => trivial) ?_)
 refine E_true (t := 5) rfl (rfl) ?_
 refine L_nil ?_
 refine St.env (.cons (t := 0) rfl (.cons (t := 1) rfl (.cons (t := 5) rfl .nil))) ?_
 refine Q_then ?_
 refine R_condT rfl ?_
 refine R_region ?_
 refine L_val rfl rfl rfl (OpP.v (P_move rfl rfl)) ?_
 refine L_val rfl rfl rfl (OpP.v (P_move rfl rfl)) ?_
 refine L_val rfl rfl rfl (OpP.v (P_nil rfl rfl)) ?_
 refine L_val rfl rfl rfl (OpP.v (P_fld0 rfl ty_fl_263_1 rfl)) ?_
 refine L_val rfl rfl rfl (V_load rfl rfl ty_sc_48 (Rd.blk .h0 rfl)) ?_
 refine L_val rfl rfl rfl (OpP.v (P_move rfl rfl)) ?_
 refine L_op rfl (W_append (p := [_]) rfl rfl rfl ty_sl_48 ty_ap_48 ty_src_48 rfl rfl rfl (Src.row (news := ints .u8 [y]) (Sn.old hpre).rw_ (by rw [ints_length]; rfl) ints_one) (by omega) (by simp only [maxLen]; omega) fun v12 => ?_)
 refine St.ownForm (p := [_]) fun nb nc hnv hnc => ?_
 subst hnv
 refine L_val rfl rfl rfl (OpP.v (P_nil rfl rfl)) ?_
 refine L_val rfl rfl rfl (OpP.v (P_fld0 rfl ty_fl_263_1 rfl)) ?_
 refine L_op rfl (W_store rfl rfl rfl rfl ty_sc_48 rfl .h0 (by first | decide | (simp [ints]; done) | (simp [ints]; omega)) ?_)
 refine L_nil ?_
 refine St.env (.nil) ?_
 exact R_end0 (rs2 := _) rfl rfl (.nil) (⟨rfl, _, rfl⟩) (Weak.keep (ownS.to2 rfl (by rw [ints_append])))
theorem cloneB_ok {gl : Nat → Obj} (base : Option Addr) (c : Nat) (xs : List Int) (hc : xs.length ≤ c) (hx : 0 < xs.length) (hmax : xs.length ≤ 100000000) : Spec (cx gl) 177 [.slice base xs.length c] (fun w _ => Row w base (ints .u8 xs)) [] (fun v rs => rs = [ownS 5 1 (v) (xs.length) (ints .u8 (xs))]) := by
 refine Spec.enter (C := cx gl) Tryz.func177 rfl 8 rfl rfl fun w0 h0 hsep hsub hpre => ?_
 obtain rfl : h0 = Heap.none := hsep
 show St (cx gl) _ [(0, .slice base xs.length c)] _ _
 obtain ⟨pb, pj, rfl, hrow⟩ := hpre.some_ (by rw [ints_length]; exact hx)
 refine R_seq ?_
 refine R_region ?_
 refine L_val rfl rfl rfl (OpP.v (P_assign rfl rfl)) ?_
 refine L_nil ?_
 refine Q_then ?_
 refine R_seq ?_
 refine R_seq ?_
 refine R_region ?_
 refine L_val rfl rfl rfl (OpP.v (P_move rfl rfl)) ?_
 refine L_val rfl rfl rfl (OpP.v (P_eql_slice rfl ty_sl_48 rfl rfl)) ?_
 refine E_false (t := 4) rfl (rfl) ?_
 refine L_nil ?_
 refine St.env (.cons (t := 0) rfl (.cons (t := 2) rfl (.cons (t := 4) rfl .nil))) ?_
 refine Q_then ?_
 refine R_condF rfl ?_
 refine R_skip ?_
 refine Q_then ?_
 refine R_seq ?_
 refine R_region ?_
 refine L_op rfl (W_lit0 rfl rfl rfl ty_sl_48 fun b5 => ?_)
 refine St.res (rs' := [ownS 5 1 (.slice (some ⟨b5, 0, none⟩) 0 0) (0) (ints .u8 ([]))]) (Weak.turn .h0 (ownS.of_blk rfl (by decide))) ?_
 refine L_val rfl rfl rfl (OpP.v (P_move rfl rfl)) ?_
 refine L_op rfl (W_append (p := []) rfl rfl rfl ty_sl_48 ty_ap_48 ty_src_48 rfl rfl rfl (Src.row (Sn.row hpre rfl).rw_ (by rw [ints_length]; omega) ints_one) (by omega) (by simp only [maxLen]; omega) fun v7 => ?_)
 refine L_val rfl rfl rfl (OpP.v (P_assign rfl rfl)) ?_
 refine L_nil ?_
 refine St.env (.cons (t := 2) rfl .nil) ?_
 refine Q_then ?_
 refine R_ret ?_
 exact R_end (rs2 := _) rfl rfl (.tmp rfl .nil) (rfl) (ownS.to2 (by omega) (List.nil_append _))
theorem Out_ok {gl : Nat → Obj} (wb : Nat) (ub : Option Addr) (uc : Nat) (xs : List Int) (hc : xs.length ≤ uc) (hx : 0 < xs.length) (hmax : xs.length ≤ 100000000) : Spec (cx gl) 122 [.pointer (some ⟨wb, 0, none⟩)] (fun _ _ => True) [blk wb [.bool true, .slice ub xs.length uc, .int .i64 0] 263, ownS 5 1 (.slice ub xs.length uc) (xs.length) (ints .u8 (xs))] (fun v rs => ∃ u, v = .tuple #[u, .int .i64 0] ∧ rs = [ownS 5 1 (u) (xs.length) (ints .u8 (xs))]) := by
 refine Spec.enter (C := cx gl) Tryz.func122 rfl 27 rfl rfl fun w0 h0 hsep hsub hpre => ?_
 show St (cx gl) _ [(0, .pointer (some ⟨wb, 0, none⟩))] _ _
 refine R_seq ?_
 refine R_region ?_
 refine L_val rfl rfl rfl (OpP.v (P_assign rfl rfl)) ?_
 refine L_val rfl rfl rfl (OpP.v (P_assign rfl rfl)) ?_
 refine L_nil ?_
 refine Q_then ?_
 refine R_seq ?_
 refine R_seq ?_
 refine R_region ?_
 refine L_val rfl rfl rfl (OpP.v (P_move rfl rfl)) ?_
 refine L_val rfl rfl rfl (OpP.v (P_eqNil rfl ty_ptr_199 rfl rfl)) ?_
 refine L_val rfl rfl rfl (OpP.v (P_move rfl rfl)) ?_
 refine L_val rfl rfl rfl (OpP.v (P_move rfl rfl)) ?_
 refine L_val rfl rfl rfl (OpP.v (P_nil rfl rfl)) ?_
 refine L_val rfl rfl rfl (OpP.v (P_fld0 rfl ty_fl_263_0 rfl)) ?_
 refine L_val rfl rfl rfl (V_load rfl rfl ty_sc_4 (Rd.blk .h0 rfl)) ?_
 refine L_val rfl rfl rfl (OpP.v (P_not rfl rfl)) ?_
 refine E_false (t := 11) rfl (rfl) ?_
 refine L_val rfl rfl rfl (OpP.v (P_pick rfl rfl rfl)) ?_
 refine L_nil ?_
 refine St.env (.cons (t := 0) rfl (.cons (t := 2) rfl (.cons (t := 3) rfl (.cons (t := 12) rfl .nil)))) ?_
 refine Q_then ?_
 refine R_condF rfl ?_
 refine R_skip ?_
 refine Q_then ?_
 refine R_seq ?_
 refine R_seq ?_
 refine R_region ?_
 refine L_val rfl rfl rfl (OpP.v (P_move rfl rfl)) ?_
 refine L_val rfl rfl rfl (OpP.v (P_nil rfl rfl)) ?_
 refine L_val rfl rfl rfl (OpP.v (P_fld0 rfl ty_fl_263_2 rfl)) ?_
 refine L_val rfl rfl rfl (V_load rfl rfl ty_sc_34 (Rd.blk .h0 rfl)) ?_
 refine L_val rfl rfl rfl (OpP.v (P_neq rfl rfl rfl)) ?_
 refine E_false (t := 17) rfl (rfl) ?_
 refine L_nil ?_
 refine St.env (.cons (t := 0) rfl (.cons (t := 2) rfl (.cons (t := 3) rfl (.cons (t := 17) rfl .nil)))) ?_
 refine Q_then ?_
 refine R_condF rfl ?_
 refine R_skip ?_
 refine Q_then ?_
 refine R_seq ?_
 refine R_region ?_
 refine L_val rfl rfl rfl (OpP.v (P_move rfl rfl)) ?_
 refine L_val rfl rfl rfl (OpP.v (P_nil rfl rfl)) ?_
 refine L_val rfl rfl rfl (OpP.v (P_fld0 rfl ty_fl_263_1 rfl)) ?_
 refine L_val rfl rfl rfl (V_load rfl rfl ty_sc_48 (Rd.blk .h0 rfl)) ?_
 refine L_op rfl (W_call rfl rfl rfl rfl fn_ca_177 (cloneB_ok ub uc xs hc hx hmax) (Split.nil _) (fun w a b _ hb dj m => (Sn.own .h1 rfl).rw_ w ⟨_, hb, m.le (Heap.le_join_right dj)⟩) fun v1 rs1 (e1 : rs1 = _) => ?_)
 subst e1
 refine L_val rfl rfl rfl (OpP.v (P_assign rfl rfl)) ?_
 refine L_val rfl rfl rfl (OpP.v (P_assign rfl rfl)) ?_
 refine L_nil ?_
 refine St.env (.cons (t := 2) rfl (.cons (t := 3) rfl .nil)) ?_
 refine Q_then ?_
 refine R_ret ?_
 exact R_end (rs2 := _) rfl rfl (.tmp rfl (.tmp rfl .nil)) (⟨_, rfl, rfl⟩) (Weak.keep (Weak.nil _))
end Go.Proofs.YtfhjhaogmdaepaaGreatDoor

/- How ledgers, settings, transactions are read. Printed by gen.py. -/
set_option linter.unusedVariables false
set_option linter.unusedSimpArgs false
set_option maxRecDepth 100000
namespace Go.Proofs.YtfhjhaogmdaepaaGreatDoor
open Go Go.RowKit Go.ChangeShapes Go.WideShapes Go.Proofs
/-- A transaction. -/
structure Tx where
 kind : Int
 frm : Int
 to : Int
 amt : Int
 fee : Int
 non : Int
 sg16 : List Int
def Tx.cells (x : Tx) : List Value := [.int .i64 x.kind, .int .u64 x.frm, .int .u64 x.to, .int .u64 x.amt, .int .u64 x.fee, .int .u64 x.non] ++ ints .u8 x.sg16
structure Tx.ok (x : Tx) : Prop where
 kind : -9223372036854775808 ≤ x.kind ∧ x.kind ≤ 9223372036854775807
 frm : u64 x.frm
 to : u64 x.to
 amt : u64 x.amt
 fee : u64 x.fee
 non : u64 x.non
 sg16 : IsB x.sg16
 len : x.sg16.length = 16
theorem Tx.ok.cellsLen {x : Tx} (h : x.ok) : x.cells.length = 22 := by unfold Tx.cells; rw [List.length_append, ints_length, h.len]; rfl
theorem Tx.one (x : Tx) : ∀ v ∈ x.cells, v.oneCell' = true := by
 intro v hv; unfold Tx.cells at hv
 rcases List.mem_append.1 hv with hv | hv
 ·simp only [List.mem_cons, List.not_mem_nil, or_false] at hv
  rcases hv with rfl | rfl | rfl | rfl | rfl | rfl <;> rfl
 ·exact ints_one v hv
structure Par.ok (p : Par) : Prop where
 mb : u64 p.mb
 seats : -9223372036854775808 ≤ p.seats ∧ p.seats ≤ 9223372036854775807
 p2 : u64 p.p2
 p3 : u64 p.p3
 p4 : u64 p.p4
 p5 : -9223372036854775808 ≤ p.p5 ∧ p.p5 ≤ 9223372036854775807
 p6 : u64 p.p6
 p7 : u64 p.p7
 p8 : u64 p.p8
 p9 : u64 p.p9
 p10 : u64 p.p10
 p11 : u64 p.p11
/-- A ledger as it is handed in. -/
structure LedI where
 s : Sl Acc
 r : Sl Rel
 bu : Int
 su : Int
def LedI.cells (x : LedI) : List Value := ledV x.s.val x.r.val x.bu x.su
structure LedI.ok (W : World) (x : LedI) : Prop where
 hc : x.s.xs.length ≤ x.s.c
 hc' : x.r.xs.length ≤ x.r.c
 row : Row W x.s.b (rc x.s.xs)
 row' : Row W x.r.b (rc x.r.xs)
 ok : ∀ y ∈ x.s.xs, y.ok
 ok' : ∀ y ∈ x.r.xs, y.ok
 bu : u64 x.bu
 su : u64 x.su
theorem fits64 {z : Int} (h : fits .u64 z) : u64 z := by simp only [fits] at h; exact ⟨by omega, by omega⟩
theorem cells_acc : Tryz.prog.cellsOf 38 = 5 := by kernel_rfl
theorem bytes_acc : Tryz.prog.bytesOf 38 = 40 := by kernel_rfl
theorem fs_acc : fsB Tryz.prog 38 [(27, 0, 1), (24, 1, 1), (24, 2, 1), (24, 3, 1), (4, 4, 1)] = true := by kernel_rfl
def accOf (a : Int × Int × Int × Int × Bool × Unit) : Acc := ⟨a.1, a.2.1, a.2.2.1, a.2.2.2.1, a.2.2.2.2.1⟩
def rd_acc := PLift.up (Reads.as (cells' := Acc.cells) (Hd' := fun _ x => x.ok) (bulk' := fun _ => 1) (Small' := fun _ => True) accOf (Reads.struct fs_acc cells_acc (ReadsF.cons (Reads.int ty_int_27) (ReadsF.cons (Reads.int ty_int_24) (ReadsF.cons (Reads.int ty_int_24) (ReadsF.cons (Reads.int ty_int_24) (ReadsF.cons (Reads.bool ty_bool_4) ReadsF.nil)))))) (fun _ => rfl) (fun W a h => by
 obtain ⟨⟨⟨h1, _⟩, ⟨h2, _⟩, ⟨h3, _⟩, ⟨h4, _⟩, _⟩, _⟩ := h
 exact ⟨fits64 h1, fits64 h2, fits64 h3, fits64 h4⟩) (fun _ => by omega) (fun _ _ => trivial))
def rd_accs := PLift.up (Reads.slice ty_sl_22 cells_acc bytes_acc (fun _ => .inr trivial) rd_acc.down)
theorem cells_par : Tryz.prog.cellsOf 62 = 12 := by kernel_rfl
theorem fs_par : fsB Tryz.prog 62 [(24, 0, 1), (3, 1, 1), (24, 2, 1), (24, 3, 1), (24, 4, 1), (3, 5, 1), (24, 6, 1), (24, 7, 1), (24, 8, 1), (24, 9, 1), (24, 10, 1), (24, 11, 1)] = true := by kernel_rfl
def parOf (a : Int × Int × Int × Int × Int × Int × Int × Int × Int × Int × Int × Int × Unit) : Par := ⟨a.1, a.2.1, a.2.2.1, a.2.2.2.1, a.2.2.2.2.1, a.2.2.2.2.2.1, a.2.2.2.2.2.2.1, a.2.2.2.2.2.2.2.1, a.2.2.2.2.2.2.2.2.1, a.2.2.2.2.2.2.2.2.2.1, a.2.2.2.2.2.2.2.2.2.2.1, a.2.2.2.2.2.2.2.2.2.2.2.1⟩
def rd_par := PLift.up (Reads.as (cells' := Par.cells) (Hd' := fun _ p => p.ok) (bulk' := fun _ => 1) (Small' := fun _ => True) parOf (Reads.struct fs_par cells_par (ReadsF.cons (Reads.int ty_int_24) (ReadsF.cons (Reads.int ty_int_3) (ReadsF.cons (Reads.int ty_int_24) (ReadsF.cons (Reads.int ty_int_24) (ReadsF.cons (Reads.int ty_int_24) (ReadsF.cons (Reads.int ty_int_3) (ReadsF.cons (Reads.int ty_int_24) (ReadsF.cons (Reads.int ty_int_24) (ReadsF.cons (Reads.int ty_int_24) (ReadsF.cons (Reads.int ty_int_24) (ReadsF.cons (Reads.int ty_int_24) (ReadsF.cons (Reads.int ty_int_24) ReadsF.nil))))))))))))) (fun _ => rfl) (fun W a h => by
 obtain ⟨⟨⟨h0, _⟩, ⟨h1, _⟩, ⟨h2, _⟩, ⟨h3, _⟩, ⟨h4, _⟩, ⟨h5, _⟩, ⟨h6, _⟩, ⟨h7, _⟩, ⟨h8, _⟩, ⟨h9, _⟩, ⟨h10, _⟩, ⟨h11, _⟩, _⟩, _⟩ := h
 exact ⟨fits64 h0, h1, fits64 h2, fits64 h3, fits64 h4, h5, fits64 h6, fits64 h7, fits64 h8, fits64 h9, fits64 h10, fits64 h11⟩) (fun _ => by omega) (fun _ _ => trivial))
section
variable {H : Type} {enc : TypeId × Value → H} {P : Program} {w : World} {base : Nat} {spare : Nat → Bool} {held : Bool}
theorem trodAll_5 {t0 t1 t2 t3 t4 : TypeId} {args : Array Value} {ds : List (DataW H)} {ps : List MemPlace} (h : DataW.TrodAll enc P w base spare held [t0, t1, t2, t3, t4] args.toList ds ps) :
  ∃ v0 v1 v2 v3 v4 d0 d1 d2 d3 d4 p0 p1 p2 p3 p4, args = #[v0, v1, v2, v3, v4] ∧ ds = [d0, d1, d2, d3, d4] ∧ ps = p0 ++ (p1 ++ (p2 ++ (p3 ++ (p4 ++ [])))) ∧ DataW.Trod enc P w base spare held t0 v0 d0 p0 ∧ DataW.Trod enc P w base spare held t1 v1 d1 p1 ∧ DataW.Trod enc P w base spare held t2 v2 d2 p2 ∧ DataW.Trod enc P w base spare held t3 v3 d3 p3 ∧ DataW.Trod enc P w base spare held t4 v4 d4 p4 := by
 obtain ⟨v0, vs0, d0, ds0, p0, q0, hargs, rfl, rfl, hd0, hr0⟩ := trodAll_cons h
 obtain ⟨v1, vs1, d1, ds1, p1, q1, rfl, rfl, rfl, hd1, hr1⟩ := trodAll_cons hr0
 obtain ⟨v2, vs2, d2, ds2, p2, q2, rfl, rfl, rfl, hd2, hr2⟩ := trodAll_cons hr1
 obtain ⟨v3, vs3, d3, ds3, p3, q3, rfl, rfl, rfl, hd3, hr3⟩ := trodAll_cons hr2
 obtain ⟨v4, vs4, d4, ds4, p4, q4, rfl, rfl, rfl, hd4, hr4⟩ := trodAll_cons hr3
 obtain ⟨rfl, rfl, rfl⟩ := trodAll_nil hr4
 exact ⟨v0, v1, v2, v3, v4, d0, d1, d2, d3, d4, p0, p1, p2, p3, p4, by cases args; simp_all, rfl, rfl, hd0, hd1, hd2, hd3, hd4⟩
end
theorem cells_u8 : Tryz.prog.cellsOf 5 = 1 := by kernel_rfl
theorem cells_seal : Tryz.prog.cellsOf 86 = 16 := by kernel_rfl
theorem cells_tx : Tryz.prog.cellsOf 88 = 22 := by kernel_rfl
theorem fs_tx : fsB Tryz.prog 88 [(3, 0, 1), (27, 1, 1), (27, 2, 1), (24, 3, 1), (24, 4, 1), (24, 5, 1), (86, 6, 16)] = true := by kernel_rfl
def txOf (a : Int × Int × Int × Int × Int × Int × List Int × Unit) : Tx := ⟨a.1, a.2.1, a.2.2.1, a.2.2.2.1, a.2.2.2.2.1, a.2.2.2.2.2.1, a.2.2.2.2.2.2.1⟩
def rd_tx := PLift.up (Reads.as (cells' := Tx.cells) (Hd' := fun _ x => x.ok) (bulk' := fun _ => 1) (Small' := fun _ => True) txOf (Reads.struct fs_tx cells_tx (ReadsF.cons (Reads.int ty_int_3) (ReadsF.cons (Reads.int ty_int_27) (ReadsF.cons (Reads.int ty_int_27) (ReadsF.cons (Reads.int ty_int_24) (ReadsF.cons (Reads.int ty_int_24) (ReadsF.cons (Reads.int ty_int_24) (ReadsF.cons (Reads.ints (k := .u8) ty_un_86 ty_int_5 cells_u8 cells_seal) ReadsF.nil)))))))) (fun a => by simp [Tx.cells, txOf]) (fun W a h => by
 obtain ⟨⟨⟨h0, _⟩, ⟨h1, _⟩, ⟨h2, _⟩, ⟨h3, _⟩, ⟨h4, _⟩, ⟨h5, _⟩, ⟨⟨h6, h7⟩, _⟩, _⟩, _⟩ := h
 exact ⟨h0, fits64 h1, fits64 h2, fits64 h3, fits64 h4, fits64 h5, fun x hx => by have := h7 x hx; simp only [fits] at this; omega, h6⟩) (fun _ => by omega) (fun _ _ => trivial))
end Go.Proofs.YtfhjhaogmdaepaaGreatDoor

/- Plain: a transaction's bytes; walks: the writer's numbers and texts. Printed by gen.py. -/
set_option linter.unusedVariables false
set_option linter.unusedSimpArgs false
set_option maxRecDepth 100000
namespace Go.Proofs.YtfhjhaogmdaepaaGreatDoor
open Go Go.RowKit Go.Proofs
/-- A number in groups of seven bits, the lowest first. -/
def varF : Nat → Int → List Int
 | 0, v => [v]
 | f + 1, v => if 128 ≤ v then (v % 128 + 128) :: varF f (v / 128) else [v]
def varB (v : Int) : List Int := varF 9 v
theorem varF_fuel : ∀ (f g : Nat) (v : Int), v < 128 ^ (f + 1) → v < 128 ^ (g + 1) → varF f v = varF g v
 | 0, 0, _, _, _ => rfl
 | 0, g + 1, v, h, _ => by
  have : ¬ 128 ≤ v := by simp at h; omega
  rw [varF, varF, if_neg this]
 | f + 1, 0, v, _, h => by
  have : ¬ 128 ≤ v := by simp at h; omega
  rw [varF, varF, if_neg this]
 | f + 1, g + 1, v, h1, h2 => by
  rw [varF, varF]
  split
  ·rw [varF_fuel f g (v / 128) (by rw [Int.pow_succ] at h1; exact Int.ediv_lt_of_lt_mul (by decide) h1) (by rw [Int.pow_succ] at h2; exact Int.ediv_lt_of_lt_mul (by decide) h2)]
  ·rfl
theorem varB_small {v : Int} (h : ¬ 128 ≤ v) : varB v = [v] := by unfold varB; rw [varF, if_neg h]
theorem varB_big {v : Int} (hv : u64 v) (h : 128 ≤ v) : varB v = (v % 128 + 128) :: varB (v / 128) := by
 unfold varB
 rw [varF, if_pos h, varF_fuel 8 9 (v / 128) (by obtain ⟨_, h2⟩ := hv; simp; omega) (by obtain ⟨_, h2⟩ := hv; simp; omega)]
theorem u64_div {v : Int} (hv : u64 v) : u64 (v / 128) := by obtain ⟨h1, h2⟩ := hv; exact ⟨by omega, by omega⟩
theorem varF_len : ∀ (f : Nat) (v : Int), (varF f v).length ≤ f + 1
 | 0, _ => Nat.le_refl _
 | f + 1, v => by
  rw [varF]; split
  ·rw [List.length_cons]; have := varF_len f (v / 128); omega
  ·simp
theorem varB_len (v : Int) : (varB v).length ≤ 10 := varF_len 9 v
theorem varF_b : ∀ (f : Nat) (v : Int), 0 ≤ v → v < 128 ^ (f + 1) → IsB (varF f v)
 | 0, v, h0, h => by
  intro x hx; rw [varF, List.mem_singleton] at hx; subst hx; simp at h; omega
 | f + 1, v, h0, h => by
  intro x hx; rw [varF] at hx
  split at hx
  ·rcases List.mem_cons.1 hx with rfl | hx
   ·omega
   ·exact varF_b f (v / 128) (by omega) (by rw [Int.pow_succ] at h; exact Int.ediv_lt_of_lt_mul (by decide) h) x hx
  ·rw [List.mem_singleton] at hx; subst hx; omega
theorem varB_b {v : Int} (hv : u64 v) : IsB (varB v) := varF_b 9 v hv.1 (by obtain ⟨_, h⟩ := hv; simp; omega)
theorem or128_fin : ∀ m : Fin 256, (BitVec.ofInt 8 ((m.val : Nat) : Int) ||| BitVec.ofInt 8 128).toNat = m.val % 128 + 128 := by decide +kernel
theorem or128 {v : Int} (hv : 0 ≤ v) : bitI .or .u8 (IntKind.u8.wrap v) 128 = v % 128 + 128 := by
 have hw : IntKind.u8.wrap v = v % 256 := by simp only [IntKind.wrap, IntKind.signed, IntKind.bits, Bool.false_and, Bool.false_eq_true, if_false]; rfl
 obtain ⟨m, hm⟩ : ∃ m : Fin 256, v % 256 = ((m.val : Nat) : Int) := ⟨⟨(v % 256).toNat, by omega⟩, by simp; omega⟩
 unfold bitI
 rw [hw, hm]
 show IntKind.u8.wrap (((BitVec.ofInt 8 ((m.val : Nat) : Int) ||| BitVec.ofInt 8 128).toNat : Nat) : Int) = _
 rw [or128_fin m]
 simp only [IntKind.wrap, IntKind.signed, IntKind.bits, Bool.false_and, Bool.false_eq_true, if_false]
 omega
theorem shr7 {v : Int} (hv : u64 v) : shrI .u64 v 7 = v / 128 := by
 show v.fdiv (2 ^ 7) = _
 rw [Int.fdiv_eq_ediv_of_nonneg _ (by decide)]; rfl
theorem wrap8 {v : Int} (h0 : 0 ≤ v) (h : ¬ 128 ≤ v) : IntKind.u8.wrap v = v := wrap_fits (by simp only [fits]; omega)
def kindB (x : Int) : Int := IntKind.u8.wrap x
theorem kindB_b (x : Int) : 0 ≤ kindB x ∧ kindB x ≤ 255 := isB_u8 x
def txW (x : Tx) : List Int := [x.frm, x.to, x.amt, x.fee, x.non]
def varsB (ws : List Int) : List Int := ws.flatMap varB
theorem varsB_next {ws : List Int} {i : Nat} {x : Int} (h : ws[i]? = some x) : varsB (ws.take (i + 1)) = varsB (ws.take i) ++ varB x := by
 rw [List.take_add_one, h]; simp [varsB]
theorem varsB_len (ws : List Int) : (varsB ws).length ≤ 10 * ws.length := by
 induction ws with
 | nil => exact Nat.le_refl _
 | cons x ws ih =>
  have h := varB_len x
  have e : varsB (x :: ws) = varB x ++ varsB ws := rfl
  rw [e, List.length_append, List.length_cons]; omega
theorem varsB_b {ws : List Int} (h : ∀ x ∈ ws, u64 x) : IsB (varsB ws) := by
 intro y hy
 obtain ⟨x, hx, hy⟩ := List.mem_flatMap.1 hy
 exact varB_b (h x hx) y hy
/-- A transaction's form without its seal. -/
def txB (x : Tx) : List Int := kindB x.kind :: varsB (txW x)
theorem txB_len (x : Tx) : (txB x).length ≤ 51 := by have := varsB_len (txW x); show (varsB (txW x)).length + 1 ≤ 51; have : (txW x).length = 5 := rfl; omega
theorem txW_ok {x : Tx} (h : x.ok) : ∀ y ∈ txW x, u64 y := by
 intro y hy; simp only [txW, List.mem_cons, List.not_mem_nil, or_false] at hy
 rcases hy with rfl | rfl | rfl | rfl | rfl
 ·exact h.frm
 ·exact h.to
 ·exact h.amt
 ·exact h.fee
 ·exact h.non
theorem txB_b {x : Tx} (h : x.ok) : IsB (txB x) := IsB.cons (kindB_b _).1 (kindB_b _).2 (varsB_b (txW_ok h))
/-- What is wrong with a transaction by itself. -/
def plainE (x : Tx) : Int := if x.kind < 1 ∨ 4 < x.kind then 40 else if x.frm = 0 ∨ ((x.kind = 1) ↔ (x.to = 0)) then 41 else if MS < x.amt then 41 else if x.kind = 4 ∧ x.amt ≠ 0 then 41 else if MS < x.fee then 41 else 0
structure TxFine (x : Tx) : Prop where
 k1 : 1 ≤ x.kind
 k2 : x.kind ≤ 4
 frm : x.frm ≠ 0
 to : (x.kind = 1) ↔ ¬ x.to = 0
 amt : x.amt ≤ MS
 free : x.kind = 4 → x.amt = 0
 fee : x.fee ≤ MS
theorem txFine_of {x : Tx} (h : plainE x = 0) : TxFine x := by
 unfold plainE at h
 split at h
 ·omega
 ·split at h
  ·omega
  ·split at h
   ·omega
   ·split at h
    ·omega
    ·split at h
     ·omega
     ·rename_i h1 h2 h3 h4 h5
      have h6 : ¬ ((x.kind = 1) ↔ (x.to = 0)) := fun h => h2 (.inr h)
      exact ⟨by omega, by omega, fun h => h2 (.inl h), ⟨fun h7 h8 => h6 ⟨fun _ => h8, fun _ => h7⟩, fun h7 => Classical.byContradiction fun h8 => h6 ⟨fun h => absurd h h8, fun h => absurd h h7⟩⟩, by omega, fun h => Classical.not_not.1 fun h7 => h4 ⟨h, h7⟩, by omega⟩
def nameE (ch : List Int) : Int := if ch.length < 1 ∨ 16 < ch.length then 41 else 0
/-- What TxBytes refuses with. -/
def txbE (ch : List Int) (x : Tx) : Int := if nameE ch ≠ 0 then nameE ch else plainE x
/-- What is signed. -/
def saidB (ch : List Int) (x : Tx) : List Int := 84 :: (varB (ch.length : Int) ++ ch ++ txB x)
def txbB (ch : List Int) (x : Tx) : List Int := if txbE ch x = 0 then saidB ch x else []
theorem nameE_fine {ch : List Int} (h : nameE ch = 0) : 1 ≤ ch.length ∧ ch.length ≤ 16 := by
 unfold nameE at h; split at h
 ·omega
 ·omega
theorem txbE_fine {ch : List Int} {x : Tx} (h : txbE ch x = 0) : nameE ch = 0 ∧ plainE x = 0 := by
 unfold txbE at h; split at h
 ·rename_i h1; exact absurd h h1
 ·rename_i h1; exact ⟨Classical.not_not.1 h1, h⟩
theorem saidB_len {ch : List Int} (h : ch.length ≤ 16) (x : Tx) : (saidB ch x).length ≤ 78 := by
 have h1 := varB_len (ch.length : Int); have h2 := txB_len x
 show (varB (ch.length : Int) ++ ch ++ txB x).length + 1 ≤ 78
 rw [List.length_append, List.length_append]; omega
theorem saidB_b {ch : List Int} {x : Tx} (hc : IsB ch) (hl : ch.length ≤ 16) (hx : x.ok) : IsB (saidB ch x) := IsB.cons (by decide) (by decide) (IsB.append (IsB.append (varB_b ⟨by omega, by omega⟩) hc) (txB_b hx))
theorem txbB_b {ch : List Int} {x : Tx} (hc : IsB ch) (hx : x.ok) : IsB (txbB ch x) := by
 unfold txbB; split
 ·rename_i h; exact saidB_b hc (nameE_fine (txbE_fine h).1).2 hx
 ·exact fun y hy => by cases hy
theorem txbB_len (ch : List Int) (x : Tx) : (txbB ch x).length ≤ 78 := by
 unfold txbB; split
 ·rename_i h; exact saidB_len (nameE_fine (txbE_fine h).1).2 x
 ·exact Nat.zero_le _
/-- The first that is not nothing. -/
def allE : List Int → Int
 | [] => 0
 | e :: l => if e ≠ 0 then e else allE l
theorem allE_drop {l : List Int} {i : Nat} {e : Int} (h : l[i]? = some e) : allE (l.drop i) = if e ≠ 0 then e else allE (l.drop (i + 1)) := by rw [drop_at h]; rfl
def fieldE (b : Bool) : Int := if b = true then 41 else 0
theorem fieldE_true {p : Prop} [Decidable p] (h : p) : fieldE (decide p) = 41 := by rw [decide_eq_true h]; rfl
theorem fieldE_false {p : Prop} [Decidable p] (h : ¬ p) : fieldE (decide p) = 0 := by rw [decide_eq_false h]; rfl
theorem allE_ne {e : Int} {l : List Int} (h : e ≠ 0) : allE (e :: l) = e := if_pos h
theorem allE_zero {l : List Int} : allE (0 :: l) = allE l := rfl
def kindE4 (n : Int) : Int := if n < 1 ∨ 4 < n then 40 else 0
def amtE (a : Int) : Int := fieldE (decide (MS < a))
def sndB (x : Tx) : Bool := if x.frm = 0 then true else (decide (x.to ≠ 0) != decide (x.kind = 1))
theorem plainE_all (x : Tx) : allE [kindE4 x.kind, fieldE (sndB x), amtE x.amt, fieldE (decide (x.kind = 4) && decide (x.amt ≠ 0)), amtE x.fee] = plainE x := by
 have hs : sndB x = decide (x.frm = 0 ∨ ((x.kind = 1) ↔ (x.to = 0))) := by
  unfold sndB
  by_cases h1 : x.frm = 0
  ·rw [if_pos h1, decide_eq_true (.inl h1)]
  ·rw [if_neg h1]
   by_cases h2 : x.to = 0 <;> by_cases h3 : x.kind = 1 <;> simp [h1, h2, h3]
 rw [hs]
 unfold plainE amtE
 by_cases h1 : x.kind < 1 ∨ 4 < x.kind
 ·rw [show kindE4 x.kind = 40 from if_pos h1, allE_ne (by decide), if_pos h1]
 rw [show kindE4 x.kind = 0 from if_neg h1, allE_zero, if_neg h1]
 by_cases h2 : x.frm = 0 ∨ ((x.kind = 1) ↔ (x.to = 0))
 ·rw [fieldE_true h2, allE_ne (by decide), if_pos h2]
 rw [fieldE_false h2, allE_zero, if_neg h2]
 by_cases h3 : MS < x.amt
 ·rw [fieldE_true h3, allE_ne (by decide), if_pos h3]
 rw [fieldE_false h3, allE_zero, if_neg h3]
 by_cases h4 : x.kind = 4 ∧ x.amt ≠ 0
 ·rw [decide_eq_true h4.1, decide_eq_true h4.2, if_pos h4]; rfl
 rw [if_neg h4, show (decide (x.kind = 4) && decide (x.amt ≠ 0)) = false by
  cases hq : (decide (x.kind = 4) && decide (x.amt ≠ 0)) with
  | false => rfl
  | true => rw [Bool.and_eq_true, decide_eq_true_eq, decide_eq_true_eq] at hq; exact absurd hq h4, show fieldE false = 0 from rfl, allE_zero]
 by_cases h5 : MS < x.fee
 ·rw [fieldE_true h5, allE_ne (by decide), if_pos h5]
 rw [fieldE_false h5, allE_zero, if_neg h5]; rfl
theorem byte_ok {gl : Nat → Obj} (wb : Nat) (bv : Value) (n : Nat) (xs : List Int) (hn : n ≤ 90000000) (y : Int) : Spec (cx gl) 203 [.pointer (some ⟨wb, 0, none⟩), .int .u8 y] (fun _ _ => True) [blk wb [.bool true, bv, .int .i64 0] 263, ownS 5 1 (bv) (n) (ints .u8 (xs))] (fun v rs => v = .tuple #[] ∧ ∃ bv', rs = [blk wb [.bool true, bv', .int .i64 0] 263, ownS 5 1 (bv') (n + 1) (ints .u8 (xs ++ [y]))]) := by
 refine Spec.enter (C := cx gl) Tryz.func203 rfl 8 rfl rfl fun w0 h0 hsep hsub hpre => ?_
 show St (cx gl) _ [(0, .pointer (some ⟨wb, 0, none⟩)), (1, .int .u8 y)] _ _
 refine R_region ?_
 refine L_val rfl rfl rfl (OpP.v (P_move rfl rfl)) ?_
 refine L_val rfl rfl rfl (OpP.v (P_move rfl rfl)) ?_
 refine L_op rfl (W_lit (z := .nilIface) ([.int .u8 y]) rfl rfl rfl ty_sl_48 ty_lz_48 rfl rfl rfl (by decide) (by decide) (by simp [Value.cells]) (rfl) fun b6 => ?_)
 refine L_op rfl (W_call rfl rfl rfl rfl fn_ca_210 (put_ok wb bv (n) (xs) (by omega) (y) (some ⟨b6, 0, none⟩) 1 (by omega)) (Weak.pick (p := [_]) (Weak.pick (p := [_]) (Weak.keep (Weak.nil _)))) (Sn.pre (Sn.ofBlk .h0)) fun v9 rs9 ⟨e9, bv2, e8⟩ => ?_)
 subst e9; subst e8
 refine L_nil ?_
 refine St.env (.nil) ?_
 exact R_end0 (rs2 := _) rfl rfl (.nil) (⟨rfl, _, rfl⟩) (Weak.keep (Weak.keep (Weak.nil _)))
theorem var_ok {gl : Nat → Obj} (wb : Nat) (bv : Value) (n : Nat) (xs : List Int) (hn : n ≤ 90000000) (x : Int) (hx : u64 x) : Spec (cx gl) 208 [.pointer (some ⟨wb, 0, none⟩), .int .u64 x] (fun _ _ => True) [blk wb [.bool true, bv, .int .i64 0] 263, ownS 5 1 (bv) (n) (ints .u8 (xs))] (fun v rs => v = .tuple #[] ∧ ∃ bv', rs = [blk wb [.bool true, bv', .int .i64 0] 263, ownS 5 1 (bv') (n + (varB x).length) (ints .u8 (xs ++ varB x))]) := by
 refine Spec.enter (C := cx gl) Tryz.func208 rfl 19 rfl rfl fun w0 h0 hsep hsub hpre => ?_
 show St (cx gl) _ [(0, .pointer (some ⟨wb, 0, none⟩)), (1, .int .u64 x)] _ _
 have hvl := varB_len x
 refine R_seq ?_
 refine R_block ?_
 refine R_loopE (G := Int × Nat × List Int × Value) (.cons (t := 0) rfl .nil) (fun g => [(1, .int .u64 g.1)]) (fun g => [blk wb [.bool true, g.2.2.2, .int .i64 0] 263, ownS 5 1 (g.2.2.2) (g.2.1) (ints .u8 (g.2.2.1))]) (fun g => u64 g.1 ∧ g.2.2.1 ++ varB g.1 = xs ++ varB x ∧ g.2.1 + (varB g.1).length = n + (varB x).length) (fun g => g.1.toNat) (x, n, xs, bv) (by show u64 (x) ∧ (xs) ++ varB (x) = xs ++ varB x ∧ (n) + (varB (x)).length = n + (varB x).length; exact ⟨hx, rfl, rfl⟩) (by repeat (first | exact .nil | refine .cons rfl ?_ | refine .consE rfl (by first | rfl | (congr 1; omega) | (congr 1; push_cast; omega)) ?_)) (Weak.refl _) ?_
 rintro ⟨v, m, ys, bv⟩ hinv
 replace hinv : u64 v ∧ ys ++ varB v = xs ++ varB x ∧ m + (varB v).length = n + (varB x).length := hinv
 show St (cx gl) _ ((1, .int .u64 v) :: _) [blk wb [.bool true, bv, .int .i64 0] 263, ownS 5 1 (bv) (m) (ints .u8 (ys))] _
 obtain ⟨hv, hxy, hmn⟩ := hinv
 refine R_seq ?_
 refine R_seq ?_
 refine R_region ?_
 refine L_val rfl rfl rfl (OpP.v (P_move rfl rfl)) ?_
 refine L_val rfl rfl rfl (OpP.v (P_geq rfl rfl rfl)) ?_
 refine L_nil ?_
 refine Q_then ?_
 refine R_condP rfl (fun hb => ?_) (fun hb => ?_)
 ·skip
  have hb : 128 ≤ v := hb
  refine R_skip ?_
  refine Q_then ?_
  refine R_block ?_
  refine R_seq ?_
  refine R_region ?_
  refine L_val rfl rfl rfl (OpP.v (P_move rfl rfl)) ?_
  refine L_val rfl rfl rfl (OpP.v (P_move rfl rfl)) ?_
  refine L_val rfl rfl rfl (OpP.v (P_conv rfl ty_int_24 ty_int_5 rfl)) ?_
  refine L_val rfl rfl rfl (OpP.v (P_bit (op := .or) rfl rfl rfl rfl)) ?_
  refine E_as (t := 9) (v' := .int .u8 (v % 128 + 128)) rfl (by rw [or128 hv.1]) ?_
  refine L_op rfl (W_lit (z := .nilIface) ([.int .u8 (v % 128 + 128)]) rfl rfl rfl ty_sl_48 ty_lz_48 rfl rfl rfl (by decide) (by decide) (by simp [Value.cells]) (rfl) fun b10 => ?_)
  refine L_op rfl (W_call rfl rfl rfl rfl fn_ca_210 (put_ok wb bv (m) (ys) (by omega) (v % 128 + 128) (some ⟨b10, 0, none⟩) 1 (by omega)) (Weak.pick (p := [_]) (Weak.pick (p := [_]) (Weak.keep (Weak.nil _)))) (Sn.pre (Sn.ofBlk .h0)) fun v9 rs9 ⟨e9, bv2, e8⟩ => ?_)
  subst e9; subst e8
  refine L_nil ?_
  refine St.env (.cons (t := 0) rfl (.cons (t := 1) rfl (.cons (t := 4) rfl (.cons (t := 5) rfl (.cons (t := 6) rfl (.cons (t := 7) rfl (.cons (t := 8) rfl (.cons (t := 9) rfl (.cons (t := 10) rfl .nil))))))))) ?_
  refine Q_then ?_
  refine R_region ?_
  refine L_val rfl rfl rfl (OpP.v (P_move rfl rfl)) ?_
  refine L_val rfl rfl rfl (OpP.v (P_shr rfl rfl rfl (by omega))) ?_
  refine E_as (t := 13) (v' := .int .u64 (v / 128)) rfl (by rw [shr7 hv]) ?_
  refine L_val rfl rfl rfl (OpP.v (P_assign rfl rfl)) ?_
  refine L_nil ?_
  refine Q_block ?_
  exact Q_round (v / 128, m + 1, ys ++ [v % 128 + 128], bv2) (by show u64 (v / 128) ∧ (ys ++ [v % 128 + 128]) ++ varB (v / 128) = xs ++ varB x ∧ (m + 1) + (varB (v / 128)).length = n + (varB x).length; exact ⟨u64_div hv, by rw [← hxy, varB_big hv hb, List.append_assoc]; rfl, by rw [← hmn, varB_big hv hb, List.length_cons]; omega⟩) (by show (v / 128).toNat < v.toNat; have := hv.1; omega) (by repeat (first | exact .nil | refine .cons rfl ?_ | refine .consE rfl (by first | rfl | (congr 1; omega) | (congr 1; push_cast; omega)) ?_)) (Weak.keep (Weak.keep (Weak.nil _)))
 ·skip
  have hb : ¬ 128 ≤ v := hb
  rw [varB_small hb] at hxy hmn
  have hw := wrap8 hv.1 hb
  refine R_exit ?_
  refine Q_then_exit ?_
  refine Q_then_exit ?_
  refine Q_block_eq ?_
  refine St.env (.cons (t := 0) rfl (.cons (t := 1) rfl .nil)) ?_
  refine Q_then ?_
  refine R_region ?_
  refine L_val rfl rfl rfl (OpP.v (P_move rfl rfl)) ?_
  refine L_val rfl rfl rfl (OpP.v (P_move rfl rfl)) ?_
  refine L_val rfl rfl rfl (OpP.v (P_conv rfl ty_int_24 ty_int_5 rfl)) ?_
  refine E_as (t := 16) (v' := .int .u8 v) rfl (by rw [hw]) ?_
  refine L_op rfl (W_lit (z := .nilIface) ([.int .u8 v]) rfl rfl rfl ty_sl_48 ty_lz_48 rfl rfl rfl (by decide) (by decide) (by simp [Value.cells]) (rfl) fun b17 => ?_)
  refine L_op rfl (W_call rfl rfl rfl rfl fn_ca_210 (put_ok wb bv (m) (ys) (by omega) (v) (some ⟨b17, 0, none⟩) 1 (by omega)) (Weak.pick (p := [_]) (Weak.pick (p := [_]) (Weak.keep (Weak.nil _)))) (Sn.pre (Sn.ofBlk .h0)) fun v9 rs9 ⟨e9, bv2, e8⟩ => ?_)
  subst e9; subst e8
  refine L_nil ?_
  refine St.env (.nil) ?_
  exact R_end0 (rs2 := _) rfl rfl (.nil) (⟨rfl, _, rfl⟩) (by rw [hxy, show m + 1 = n + (varB x).length from hmn]; exact Weak.keep (Weak.keep (Weak.nil _)))
theorem putText_ok {gl : Nat → Obj} (wb : Nat) (bv : Value) (n : Nat) (xs : List Int) (hn : n ≤ 80000000) (ch : List Int) (hb : IsB ch) (hc : ch.length ≤ 1000) : Spec (cx gl) 229 [.pointer (some ⟨wb, 0, none⟩), .string (strOfNums ch)] (fun _ _ => True) [blk wb [.bool true, bv, .int .i64 0] 263, ownS 5 1 (bv) (n) (ints .u8 (xs))] (fun v rs => v = .tuple #[] ∧ ∃ bv', rs = [blk wb [.bool true, bv', .int .i64 0] 263, ownS 5 1 (bv') (n + (varB (ch.length : Int)).length + ch.length) (ints .u8 (xs ++ (varB (ch.length : Int) ++ ch)))]) := by
 refine Spec.enter (C := cx gl) Tryz.func229 rfl 20 rfl rfl fun w0 h0 hsep hsub hpre => ?_
 show St (cx gl) _ [(0, .pointer (some ⟨wb, 0, none⟩)), (1, .string (strOfNums ch))] _ _
 have hvl := varB_len (ch.length : Int)
 refine R_seq ?_
 refine R_region ?_
 refine L_val rfl rfl rfl (OpP.v (P_move rfl rfl)) ?_
 refine L_val rfl rfl rfl (OpP.v (P_move rfl rfl)) ?_
 refine L_val rfl rfl rfl (OpP.v (P_lenStrN rfl ty_str_9 rfl)) ?_
 refine L_val rfl rfl rfl (OpP.v (P_convN rfl ty_int_3 ty_int_24 rfl (by simp only [fits]; omega))) ?_
 refine L_op rfl (W_call rfl rfl rfl rfl fn_ca_208 (var_ok wb bv n xs (by omega) (ch.length : Int) ⟨by omega, by omega⟩) (Weak.refl _) (fun _ _ _ _ _ _ _ => trivial) fun v9 rs9 ⟨e9, bv2, e8⟩ => ?_)
 subst e9; subst e8
 refine L_nil ?_
 refine St.env (.cons (t := 0) rfl (.cons (t := 1) rfl .nil)) ?_
 refine Q_then ?_
 refine R_seq ?_
 refine R_region ?_
 refine L_val rfl rfl rfl (OpP.v (P_move rfl rfl)) ?_
 refine L_op rfl (W_callR rfl rfl rfl rfl fn_ca_230 (live_ok wb bv2) (Weak.keep (Weak.keep (Weak.nil _))) (fun _ _ _ _ _ _ _ => trivial) ?_)
 refine E_true (t := 10) rfl (rfl) ?_
 refine L_nil ?_
 refine St.env (.cons (t := 0) rfl (.cons (t := 1) rfl (.cons (t := 10) rfl .nil))) ?_
 refine Q_then ?_
 refine R_condT rfl ?_
 refine R_region ?_
 refine L_val rfl rfl rfl (OpP.v (P_move rfl rfl)) ?_
 refine L_val rfl rfl rfl (OpP.v (P_move rfl rfl)) ?_
 refine L_val rfl rfl rfl (OpP.v (P_nil rfl rfl)) ?_
 refine L_val rfl rfl rfl (OpP.v (P_fld0 rfl ty_fl_263_1 rfl)) ?_
 refine L_val rfl rfl rfl (V_load rfl rfl ty_sc_48 (Rd.blk .h0 rfl)) ?_
 refine L_val rfl rfl rfl (OpP.v (P_move rfl rfl)) ?_
 refine L_op rfl (W_append (p := [_]) rfl rfl rfl ty_sl_48 ty_ap_48 ty_src_9 rfl rfl rfl (Src.str hb) (by omega) (by simp only [maxLen]; omega) fun v17 => ?_)
 refine St.ownForm (p := [_]) fun nb nc hnv hnc => ?_
 subst hnv
 refine L_val rfl rfl rfl (OpP.v (P_nil rfl rfl)) ?_
 refine L_val rfl rfl rfl (OpP.v (P_fld0 rfl ty_fl_263_1 rfl)) ?_
 refine L_op rfl (W_store rfl rfl rfl rfl ty_sc_48 rfl .h0 (by first | decide | (simp [ints]; done) | (simp [ints]; omega)) ?_)
 refine L_nil ?_
 refine St.env (.nil) ?_
 exact R_end0 (rs2 := _) rfl rfl (.nil) (⟨rfl, _, rfl⟩) (Weak.keep (ownS.to2 rfl (by rw [ints_append, List.append_assoc])))
theorem text_ok {gl : Nat → Obj} (wb : Nat) (bv : Value) (n : Nat) (xs : List Int) (hn : n ≤ 80000000) (ch : List Int) (hb : IsB ch) (hc : ch.length ≤ 1000) : Spec (cx gl) 204 [.pointer (some ⟨wb, 0, none⟩), .string (strOfNums ch)] (fun _ _ => True) [blk wb [.bool true, bv, .int .i64 0] 263, ownS 5 1 (bv) (n) (ints .u8 (xs))] (fun v rs => v = .tuple #[] ∧ ∃ bv', rs = [blk wb [.bool true, bv', .int .i64 0] 263, ownS 5 1 (bv') (n + (varB (ch.length : Int)).length + ch.length) (ints .u8 (xs ++ (varB (ch.length : Int) ++ ch)))]) := by
 refine Spec.enter (C := cx gl) Tryz.func204 rfl 7 rfl rfl fun w0 h0 hsep hsub hpre => ?_
 show St (cx gl) _ [(0, .pointer (some ⟨wb, 0, none⟩)), (1, .string (strOfNums ch))] _ _
 refine R_region ?_
 refine L_val rfl rfl rfl (OpP.v (P_move rfl rfl)) ?_
 refine L_val rfl rfl rfl (OpP.v (P_move rfl rfl)) ?_
 refine L_op rfl (W_call rfl rfl rfl rfl fn_ca_229 (putText_ok wb bv n xs hn ch hb hc) (Weak.refl _) (fun _ _ _ _ _ _ _ => trivial) fun v9 rs9 ⟨e9, bv2, e8⟩ => ?_)
 subst e9; subst e8
 refine L_nil ?_
 refine St.env (.nil) ?_
 exact R_end0 (rs2 := _) rfl rfl (.nil) (⟨rfl, _, rfl⟩) (Weak.refl _)
theorem field_ok {gl : Nat → Obj} (b : Bool) : SpecV (cx gl) 206 [.bool b] noPre (.int .i64 (fieldE b)) := by
 refine Spec.enter (C := cx gl) Tryz.func206 rfl 4 rfl rfl fun w0 h0 hsep hsub hpre => ?_
 obtain rfl : h0 = Heap.none := hsep
 show St (cx gl) _ [(0, .bool b)] _ _
 refine R_seq ?_
 refine R_region ?_
 refine L_val rfl rfl rfl (OpP.v (P_assign rfl rfl)) ?_
 refine L_nil ?_
 refine Q_then ?_
 refine R_seq ?_
 refine R_seq ?_
 refine R_region ?_
 refine L_val rfl rfl rfl (OpP.v (P_move rfl rfl)) ?_
 refine L_nil ?_
 refine St.env (.cons (t := 2) rfl (.cons (t := 3) rfl .nil)) ?_
 refine Q_then ?_
 refine R_cond rfl (fun hb => ?_) (fun hb => ?_)
 ·skip
  refine R_seq ?_
  refine R_region ?_
  refine L_val rfl rfl rfl (OpP.v (P_assign rfl rfl)) ?_
  refine L_nil ?_
  refine St.env (.cons (t := 2) rfl .nil) ?_
  refine Q_then ?_
  refine R_ret ?_
  refine Q_then_ret ?_
  exact R_endV rfl rfl (.tmp rfl .nil) (by unfold fieldE; rw [if_pos hb]; rfl)
 ·skip
  refine R_skip ?_
  refine Q_then ?_
  refine R_seq ?_
  refine R_region ?_
  refine L_val rfl rfl rfl (OpP.v (P_assign rfl rfl)) ?_
  refine L_nil ?_
  refine St.env (.cons (t := 2) rfl .nil) ?_
  refine Q_then ?_
  refine R_ret ?_
  exact R_endV rfl rfl (.tmp rfl .nil) (by unfold fieldE; rw [if_neg (by rw [hb]; decide)]; rfl)
theorem wkind_ok {gl : Nat → Obj} (n : Int) : SpecV (cx gl) 205 [.int .i64 n, .int .i64 1, .int .i64 4] noPre (.int .i64 (kindE4 n)) := by
 refine Spec.enter (C := cx gl) Tryz.func205 rfl 15 rfl rfl fun w0 h0 hsep hsub hpre => ?_
 obtain rfl : h0 = Heap.none := hsep
 show St (cx gl) _ [(0, .int .i64 n), (1, .int .i64 1), (2, .int .i64 4)] _ _
 refine R_seq ?_
 refine R_region ?_
 refine L_val rfl rfl rfl (OpP.v (P_assign rfl rfl)) ?_
 refine L_nil ?_
 refine Q_then ?_
 refine R_seq ?_
 refine R_seq ?_
 refine R_region ?_
 refine L_val rfl rfl rfl (OpP.v (P_move rfl rfl)) ?_
 refine L_val rfl rfl rfl (OpP.v (P_move rfl rfl)) ?_
 refine L_val rfl rfl rfl (OpP.v (P_lss rfl rfl rfl)) ?_
 refine E_bool (t := 9) rfl (fun h1 => ?_) (fun h1 => ?_)
 ·skip
  have h1 := of_decide_eq_true h1
  refine L_val rfl rfl rfl (OpP.v (P_move rfl rfl)) ?_
  refine L_no rfl rfl rfl ?_
  refine L_no rfl rfl rfl ?_
  refine L_no rfl rfl rfl ?_
  refine L_val rfl rfl rfl (OpP.v (P_pick rfl rfl rfl)) ?_
  refine L_nil ?_
  refine St.env (.cons (t := 6) rfl (.cons (t := 14) rfl .nil)) ?_
  refine Q_then ?_
  refine R_condT rfl ?_
  refine R_seq ?_
  refine R_region ?_
  refine L_val rfl rfl rfl (OpP.v (P_assign rfl rfl)) ?_
  refine L_nil ?_
  refine St.env (.cons (t := 6) rfl .nil) ?_
  refine Q_then ?_
  refine R_ret ?_
  refine Q_then_ret ?_
  exact R_endV rfl rfl (.tmp rfl .nil) (by unfold kindE4; rw [if_pos (by omega)]; rfl)
 ·skip
  have h1 := of_decide_eq_false h1
  refine L_val rfl rfl rfl (OpP.v (P_move rfl rfl)) ?_
  refine L_val rfl rfl rfl (OpP.v (P_move rfl rfl)) ?_
  refine L_val rfl rfl rfl (OpP.v (P_move rfl rfl)) ?_
  refine L_val rfl rfl rfl (OpP.v (P_gtr rfl rfl rfl)) ?_
  refine L_val rfl rfl rfl (OpP.v (P_pick rfl rfl rfl)) ?_
  refine L_nil ?_
  refine St.env (.cons (t := 6) rfl (.cons (t := 14) rfl .nil)) ?_
  refine Q_then ?_
  refine R_condP rfl (fun h2 => ?_) (fun h2 => ?_)
  ·skip
   refine R_seq ?_
   refine R_region ?_
   refine L_val rfl rfl rfl (OpP.v (P_assign rfl rfl)) ?_
   refine L_nil ?_
   refine St.env (.cons (t := 6) rfl .nil) ?_
   refine Q_then ?_
   refine R_ret ?_
   refine Q_then_ret ?_
   exact R_endV rfl rfl (.tmp rfl .nil) (by unfold kindE4; rw [if_pos (by omega)]; rfl)
  ·skip
   refine R_skip ?_
   refine Q_then ?_
   refine R_seq ?_
   refine R_region ?_
   refine L_val rfl rfl rfl (OpP.v (P_assign rfl rfl)) ?_
   refine L_nil ?_
   refine St.env (.cons (t := 6) rfl .nil) ?_
   refine Q_then ?_
   refine R_ret ?_
   exact R_endV rfl rfl (.tmp rfl .nil) (by unfold kindE4; rw [if_neg (by omega)]; rfl)
theorem amount_ok {gl : Nat → Obj} (a : Int) : SpecV (cx gl) 207 [.int .u64 a] noPre (.int .i64 (amtE a)) := by
 refine Spec.enter (C := cx gl) Tryz.func207 rfl 6 rfl rfl fun w0 h0 hsep hsub hpre => ?_
 obtain rfl : h0 = Heap.none := hsep
 show St (cx gl) _ [(0, .int .u64 a)] _ _
 refine R_seq ?_
 refine R_region ?_
 refine L_val rfl rfl rfl (OpP.v (P_assign rfl rfl)) ?_
 refine L_nil ?_
 refine Q_then ?_
 refine R_seq ?_
 refine R_region ?_
 refine L_val rfl rfl rfl (OpP.v (P_move rfl rfl)) ?_
 refine L_val rfl rfl rfl (OpP.v (P_gtr rfl rfl rfl)) ?_
 refine L_op rfl (W_callV rfl rfl rfl rfl fn_ca_206 (field_ok (decide (MS < a))) (fun _ _ => trivial) ?_)
 refine L_val rfl rfl rfl (OpP.v (P_assign rfl rfl)) ?_
 refine L_nil ?_
 refine St.env (.cons (t := 2) rfl .nil) ?_
 refine Q_then ?_
 refine R_ret ?_
 exact R_endV rfl rfl (.tmp rfl .nil) (rfl)
theorem named_ok {gl : Nat → Obj} (ch : List Int) : SpecV (cx gl) 202 [.string (strOfNums ch)] noPre (.int .i64 (nameE ch)) := by
 refine Spec.enter (C := cx gl) Tryz.func202 rfl 12 rfl rfl fun w0 h0 hsep hsub hpre => ?_
 obtain rfl : h0 = Heap.none := hsep
 show St (cx gl) _ [(0, .string (strOfNums ch))] _ _
 refine R_seq ?_
 refine R_region ?_
 refine L_val rfl rfl rfl (OpP.v (P_assign rfl rfl)) ?_
 refine L_nil ?_
 refine Q_then ?_
 refine R_seq ?_
 refine R_region ?_
 refine L_val rfl rfl rfl (OpP.v (P_move rfl rfl)) ?_
 refine L_val rfl rfl rfl (OpP.v (P_lenStrN rfl ty_str_9 rfl)) ?_
 refine L_val rfl rfl rfl (OpP.v (P_lss rfl rfl rfl)) ?_
 refine E_bool (t := 5) rfl (fun h1 => ?_) (fun h1 => ?_)
 ·skip
  have h1 := of_decide_eq_true h1
  have hF : nameE ch = fieldE true := by unfold nameE; rw [if_pos (.inl (by omega))]; rfl
  refine L_val rfl rfl rfl (OpP.v (P_move rfl rfl)) ?_
  refine L_no rfl rfl rfl ?_
  refine L_no rfl rfl rfl ?_
  refine L_no rfl rfl rfl ?_
  refine L_val rfl rfl rfl (OpP.v (P_pick rfl rfl rfl)) ?_
  refine L_op rfl (W_callV rfl rfl rfl rfl fn_ca_206 (field_ok _) (fun _ _ => trivial) ?_)
  refine E_as (t := 11) (v' := .int .i64 (nameE ch)) rfl (by rw [hF]) ?_
  refine L_val rfl rfl rfl (OpP.v (P_assign rfl rfl)) ?_
  refine L_nil ?_
  refine St.env (.cons (t := 2) rfl .nil) ?_
  refine Q_then ?_
  refine R_ret ?_
  exact R_endV rfl rfl (.tmp rfl .nil) (rfl)
 ·skip
  have h1 := of_decide_eq_false h1
  refine L_val rfl rfl rfl (OpP.v (P_move rfl rfl)) ?_
  refine L_val rfl rfl rfl (OpP.v (P_move rfl rfl)) ?_
  refine L_val rfl rfl rfl (OpP.v (P_lenStrN rfl ty_str_9 rfl)) ?_
  refine L_val rfl rfl rfl (OpP.v (P_gtr rfl rfl rfl)) ?_
  refine E_bool (t := 9) rfl (fun h2 => ?_) (fun h2 => ?_)
  ·skip
   have h2 := of_decide_eq_true h2
   have hF : nameE ch = fieldE true := by unfold nameE; rw [if_pos (.inr (by omega))]; rfl
   refine L_val rfl rfl rfl (OpP.v (P_pick rfl rfl rfl)) ?_
   refine L_op rfl (W_callV rfl rfl rfl rfl fn_ca_206 (field_ok _) (fun _ _ => trivial) ?_)
   refine E_as (t := 11) (v' := .int .i64 (nameE ch)) rfl (by rw [hF]) ?_
   refine L_val rfl rfl rfl (OpP.v (P_assign rfl rfl)) ?_
   refine L_nil ?_
   refine St.env (.cons (t := 2) rfl .nil) ?_
   refine Q_then ?_
   refine R_ret ?_
   exact R_endV rfl rfl (.tmp rfl .nil) (rfl)
  ·skip
   have h2 := of_decide_eq_false h2
   have hF : nameE ch = fieldE false := by unfold nameE; rw [if_neg (by omega)]; rfl
   refine L_val rfl rfl rfl (OpP.v (P_pick rfl rfl rfl)) ?_
   refine L_op rfl (W_callV rfl rfl rfl rfl fn_ca_206 (field_ok _) (fun _ _ => trivial) ?_)
   refine E_as (t := 11) (v' := .int .i64 (nameE ch)) rfl (by rw [hF]) ?_
   refine L_val rfl rfl rfl (OpP.v (P_assign rfl rfl)) ?_
   refine L_nil ?_
   refine St.env (.cons (t := 2) rfl .nil) ?_
   refine Q_then ?_
   refine R_ret ?_
   exact R_endV rfl rfl (.tmp rfl .nil) (rfl)
theorem all_ok {gl : Nat → Obj} (b c : Nat) (l : List Int) (hl : l.length ≤ c) (hm : l.length ≤ 1000) : SpecV (cx gl) 201 [.slice (some ⟨b, 0, none⟩) l.length c] (fun w => RowAt w ⟨b, 0, none⟩ (ints .i64 l)) (.int .i64 (allE l)) := by
 refine Spec.enter (C := cx gl) Tryz.func201 rfl 15 rfl rfl fun w0 h0 hsep hsub hpre => ?_
 obtain rfl : h0 = Heap.none := hsep
 show St (cx gl) _ [(0, .slice (some ⟨b, 0, none⟩) l.length c)] _ _
 refine R_seq ?_
 refine R_region ?_
 refine L_val rfl rfl rfl (OpP.v (P_assign rfl rfl)) ?_
 refine L_nil ?_
 refine Q_then ?_
 refine R_seq ?_
 refine R_seq ?_
 refine R_region ?_
 refine L_val rfl rfl rfl (OpP.v (P_move rfl rfl)) ?_
 refine L_val rfl rfl rfl (OpP.v (P_len rfl ty_sl_311 rfl)) ?_
 refine L_val rfl rfl rfl (OpP.v (P_move rfl rfl)) ?_
 refine L_nil ?_
 refine St.env (.cons (t := 2) rfl (.cons (t := 5) rfl (.cons (t := 6) rfl (.cons (t := 7) rfl .nil)))) ?_
 refine Q_then ?_
 refine R_block ?_
 refine R_loopE (G := Nat) (.cons (t := 2) rfl (.cons (t := 5) rfl (.cons (t := 6) rfl .nil))) (fun g => [(7, .int .i64 ((g : Int)))]) (fun _ => _) (fun g => g ≤ l.length ∧ allE l = allE (l.drop g)) (fun g => l.length - g) (0) (by show (0) ≤ l.length ∧ allE l = allE (l.drop (0)); exact ⟨Nat.zero_le _, rfl⟩) (by repeat (first | exact .nil | refine .cons rfl ?_ | refine .consE rfl (by first | rfl | (congr 1; omega) | (congr 1; push_cast; omega)) ?_)) (Weak.refl _) ?_
 intro i hinv
 replace hinv : i ≤ l.length ∧ allE l = allE (l.drop i) := hinv
 show St (cx gl) _ ((7, .int .i64 ((i : Int))) :: _) _ _
 obtain ⟨hi, ho⟩ := hinv
 refine R_seq ?_
 refine R_region ?_
 refine L_val rfl rfl rfl (OpP.v (P_lss rfl rfl rfl)) ?_
 refine L_nil ?_
 refine Q_then ?_
 refine R_seq ?_
 refine R_condP rfl (fun hlt => ?_) (fun hlt => ?_)
 ·skip
  obtain ⟨x, hx⟩ : ∃ x, l[i]? = some x := ⟨_, List.getElem?_eq_getElem (by omega)⟩
  refine R_skip ?_
  refine Q_then ?_
  refine R_seq ?_
  refine R_block ?_
  refine R_seq ?_
  refine R_region ?_
  refine L_val rfl rfl rfl (OpP.v (P_ixs (i) rfl ty_sl_311 rfl rfl (by first | rfl | omega) (by omega))) ?_
  refine L_val rfl rfl rfl (V_load rfl rfl ty_sc_34 (Rd.row hpre rfl (show (ints .i64 l)[i]? = some (.int .i64 x) by simp [ints, hx]))) ?_
  refine L_val rfl rfl rfl (OpP.v (P_assign rfl rfl)) ?_
  refine L_nil ?_
  refine Q_then ?_
  refine R_seq ?_
  refine R_region ?_
  refine L_val rfl rfl rfl (OpP.v (P_move rfl rfl)) ?_
  refine L_val rfl rfl rfl (OpP.v (P_neq rfl rfl rfl)) ?_
  refine L_nil ?_
  refine Q_then ?_
  refine R_condP rfl (fun hz => ?_) (fun hz => ?_)
  ·skip
   refine R_seq ?_
   refine R_region ?_
   refine L_val rfl rfl rfl (OpP.v (P_move rfl rfl)) ?_
   refine L_val rfl rfl rfl (OpP.v (P_assign rfl rfl)) ?_
   refine L_nil ?_
   refine Q_then ?_
   refine R_ret ?_
   refine Q_block_ret ?_
   refine Q_then_ret ?_
   refine Q_then_ret ?_
   refine Q_block_ret ?_
   refine Q_then_ret ?_
   exact R_endV rfl rfl (.tmp rfl .nil) (by rw [ho, allE_drop hx, if_pos hz]; rfl)
  ·skip
   refine R_skip ?_
   refine Q_block ?_
   refine Q_then ?_
   refine R_region ?_
   first | (refine L_val rfl rfl rfl (OpP.v (P_addN rfl rfl rfl (by simp only [fits]; omega))) ?_) | (refine L_val rfl rfl rfl (OpP.v (P_add rfl rfl rfl)) ?_)
   refine L_val rfl rfl rfl (OpP.v (P_move rfl rfl)) ?_
   refine L_nil ?_
   exact Q_round (i + 1) (by show (i + 1) ≤ l.length ∧ allE l = allE (l.drop (i + 1)); exact ⟨by omega, by rw [ho, allE_drop hx, if_neg hz]⟩) (by show l.length - (i + 1) < l.length - i; omega) (by repeat (first | exact .nil | refine .cons rfl ?_ | refine .consE rfl (by first | rfl | (congr 1; omega) | (congr 1; push_cast; omega)) ?_)) (Weak.refl _)
 ·skip
  refine R_exit ?_
  refine Q_then_exit ?_
  refine Q_then_exit ?_
  refine Q_block_eq ?_
  refine St.env (.cons (t := 2) rfl .nil) ?_
  refine Q_then ?_
  refine R_seq ?_
  refine R_region ?_
  refine L_val rfl rfl rfl (OpP.v (P_assign rfl rfl)) ?_
  refine L_nil ?_
  refine Q_then ?_
  refine R_ret ?_
  exact R_endV rfl rfl (.tmp rfl .nil) (by rw [ho, List.drop_eq_nil_of_le (by omega)]; rfl)
end Go.Proofs.YtfhjhaogmdaepaaGreatDoor

/- Walks: PlainTx, TxBytes. Printed by gen.py. -/
set_option linter.unusedVariables false
set_option linter.unusedSimpArgs false
set_option maxRecDepth 100000
namespace Go.Proofs.YtfhjhaogmdaepaaGreatDoor
open Go Go.RowKit Go.Proofs
theorem plain_ok {gl : Nat → Obj} (x : Tx) (hx : x.ok) : SpecV (cx gl) 165 [.agg x.cells.toArray] noPre (.int .i64 (plainE x)) := by
 refine Spec.enter (C := cx gl) Tryz.func165 rfl 36 rfl rfl fun w0 h0 hsep hsub hpre => ?_
 obtain rfl : h0 = Heap.none := hsep
 show St (cx gl) _ [(0, .agg x.cells.toArray)] _ _
 refine R_seq ?_
 refine R_region ?_
 refine L_op rfl (W_box (x.cells) rfl rfl rfl rfl rfl fun b1 => ?_)
 refine L_val rfl rfl rfl (OpP.v (P_assign rfl rfl)) ?_
 refine L_nil ?_
 refine St.env (.cons (t := 1) rfl (.cons (t := 2) rfl .nil)) ?_
 refine Q_then ?_
 refine R_seq ?_
 refine R_open [(0, 0), (1, 1), (3, 0), (4, 1), (5, 0), (16, 0), (17, 1), (19, 0), (20, 1), (21, 0), (28, 0), (29, 1), (2, 2), (6, 0), (7, 0), (8, 1), (9, 0), (10, 0), (11, 1), (12, 0), (13, 0), (14, 0), (15, 2), (18, 2), (22, 0), (23, 0), (24, 1), (25, 0), (26, 0), (27, 2), (30, 2), (31, 2), (32, 2), (33, 0)] mixed (by kernel_rfl) (QOk.then QOk.body) ?_
 refine O_pure rfl rfl rfl rfl (P_fld0 rfl ty_fl_88_0 rfl) ?_
 refine O_val rfl rfl rfl rfl (V_load rfl rfl ty_sc_3 (Rd.blk .h0 rfl)) ?_
 refine O_pure rfl rfl rfl rfl (P_fld0 rfl ty_fl_88_1 rfl) ?_
 refine O_val rfl rfl rfl rfl (V_load rfl rfl ty_sc_27 (Rd.blk .h0 rfl)) ?_
 refine O_pure rfl rfl rfl rfl (P_eql rfl rfl rfl) ?_
 refine E_bool (t := 8) rfl (fun h1 => ?_) (fun h1 => ?_)
 ·skip
  have h1 := of_decide_eq_true h1
  refine O_pure rfl rfl rfl rfl (P_fld0 rfl ty_fl_88_3 rfl) ?_
  refine O_val rfl rfl rfl rfl (V_load rfl rfl ty_sc_24 (Rd.blk .h0 rfl)) ?_
  refine O_pure rfl rfl rfl rfl (P_fld0 rfl ty_fl_88_0 rfl) ?_
  refine O_val rfl rfl rfl rfl (V_load rfl rfl ty_sc_3 (Rd.blk .h0 rfl)) ?_
  refine O_pure rfl rfl rfl rfl (P_eql rfl rfl rfl) ?_
  refine E_bool (t := 24) rfl (fun h2 => ?_) (fun h2 => ?_)
  ·skip
   have h2 := of_decide_eq_true h2
   refine O_pure rfl rfl rfl rfl (P_fld0 rfl ty_fl_88_4 rfl) ?_
   refine O_val rfl rfl rfl rfl (V_load rfl rfl ty_sc_24 (Rd.blk .h0 rfl)) ?_
   refine O_keep rfl rfl (W_callV rfl rfl rfl rfl fn_ca_205 (wkind_ok x.kind) (fun _ _ => trivial) (K_keep (Weak.refl _) ?_))
   refine O_pure rfl rfl rfl rfl (P_move rfl rfl) ?_
   refine O_no rfl rfl rfl rfl ?_
   refine O_noX rfl rfl rfl rfl ?_
   refine O_no rfl rfl rfl rfl ?_
   refine O_no rfl rfl rfl rfl ?_
   refine O_noX rfl rfl rfl rfl ?_
   refine O_no rfl rfl rfl rfl ?_
   refine O_no rfl rfl rfl rfl ?_
   refine O_pure rfl rfl rfl rfl (P_pick rfl rfl rfl) ?_
   refine O_keep rfl rfl (W_callV rfl rfl rfl rfl fn_ca_206 (field_ok _) (fun _ _ => trivial) (K_keep (Weak.refl _) ?_))
   refine O_keep rfl rfl (W_callV rfl rfl rfl rfl fn_ca_207 (amount_ok x.amt) (fun _ _ => trivial) (K_keep (Weak.refl _) ?_))
   refine O_pure rfl rfl rfl rfl (P_move rfl rfl) ?_
   refine O_pure rfl rfl rfl rfl (P_fld0 rfl ty_fl_88_3 rfl) ?_
   refine O_val rfl rfl rfl rfl (V_load rfl rfl ty_sc_24 (Rd.blk .h0 rfl)) ?_
   refine O_pure rfl rfl rfl rfl (P_neq rfl rfl rfl) ?_
   refine O_pure rfl rfl rfl rfl (P_pick rfl rfl rfl) ?_
   refine O_keep rfl rfl (W_callV rfl rfl rfl rfl fn_ca_206 (field_ok _) (fun _ _ => trivial) (K_keep (Weak.refl _) ?_))
   refine O_keep rfl rfl (W_callV rfl rfl rfl rfl fn_ca_207 (amount_ok x.fee) (fun _ _ => trivial) (K_keep (Weak.refl _) ?_))
   refine O_keep rfl rfl (W_lit (z := .nilIface) (ints .i64 [kindE4 x.kind, fieldE (sndB x), amtE x.amt, fieldE (decide (x.kind = 4) && decide (x.amt ≠ 0)), amtE x.fee]) rfl rfl rfl ty_sl_311 ty_lz_311 rfl rfl rfl (by decide) (by decide) (by simp [Value.cells]) (by first | rfl | (simp only [sndB, if_pos h1, h2, decide_true, decide_false, Bool.true_and, Bool.false_and]; rfl) | (simp only [sndB, if_neg h1, h2, decide_true, decide_false, Bool.true_and, Bool.false_and]; rfl)) fun b34 => (K_keep (Weak.drop (Weak.refl _)) ?_))
   refine O_keep rfl rfl (W_callV rfl rfl rfl rfl fn_ca_201 (all_ok b34 5 [kindE4 x.kind, fieldE (sndB x), amtE x.amt, fieldE (decide (x.kind = 4) && decide (x.amt ≠ 0)), amtE x.fee] (Nat.le_refl 5) (show 5 ≤ 1000 by decide)) (fun w nw => (Sn.ofBlk .h0).rowAt0 (fun _ _ h => h) w nw) (K_keep (Weak.refl _) ?_))
   refine O_pure rfl rfl rfl rfl (P_assign rfl rfl) ?_
   refine O_nil ?_
   refine St.env (.cons (t := 2) rfl .nil) ?_
   refine Q_then ?_
   refine R_ret ?_
   exact R_endV rfl rfl (.tmp rfl .nil) (congrArg (Value.int .i64) (plainE_all x))
  ·skip
   have h2 := of_decide_eq_false h2
   refine O_pure rfl rfl rfl rfl (P_fld0 rfl ty_fl_88_4 rfl) ?_
   refine O_val rfl rfl rfl rfl (V_load rfl rfl ty_sc_24 (Rd.blk .h0 rfl)) ?_
   refine O_keep rfl rfl (W_callV rfl rfl rfl rfl fn_ca_205 (wkind_ok x.kind) (fun _ _ => trivial) (K_keep (Weak.refl _) ?_))
   refine O_pure rfl rfl rfl rfl (P_move rfl rfl) ?_
   refine O_no rfl rfl rfl rfl ?_
   refine O_noX rfl rfl rfl rfl ?_
   refine O_no rfl rfl rfl rfl ?_
   refine O_no rfl rfl rfl rfl ?_
   refine O_noX rfl rfl rfl rfl ?_
   refine O_no rfl rfl rfl rfl ?_
   refine O_no rfl rfl rfl rfl ?_
   refine O_pure rfl rfl rfl rfl (P_pick rfl rfl rfl) ?_
   refine O_keep rfl rfl (W_callV rfl rfl rfl rfl fn_ca_206 (field_ok _) (fun _ _ => trivial) (K_keep (Weak.refl _) ?_))
   refine O_keep rfl rfl (W_callV rfl rfl rfl rfl fn_ca_207 (amount_ok x.amt) (fun _ _ => trivial) (K_keep (Weak.refl _) ?_))
   refine O_pure rfl rfl rfl rfl (P_move rfl rfl) ?_
   refine O_no rfl rfl rfl rfl ?_
   refine O_noX rfl rfl rfl rfl ?_
   refine O_no rfl rfl rfl rfl ?_
   refine O_pure rfl rfl rfl rfl (P_pick rfl rfl rfl) ?_
   refine O_keep rfl rfl (W_callV rfl rfl rfl rfl fn_ca_206 (field_ok _) (fun _ _ => trivial) (K_keep (Weak.refl _) ?_))
   refine O_keep rfl rfl (W_callV rfl rfl rfl rfl fn_ca_207 (amount_ok x.fee) (fun _ _ => trivial) (K_keep (Weak.refl _) ?_))
   refine O_keep rfl rfl (W_lit (z := .nilIface) (ints .i64 [kindE4 x.kind, fieldE (sndB x), amtE x.amt, fieldE (decide (x.kind = 4) && decide (x.amt ≠ 0)), amtE x.fee]) rfl rfl rfl ty_sl_311 ty_lz_311 rfl rfl rfl (by decide) (by decide) (by simp [Value.cells]) (by first | rfl | (simp only [sndB, if_pos h1, h2, decide_true, decide_false, Bool.true_and, Bool.false_and]; rfl) | (simp only [sndB, if_neg h1, h2, decide_true, decide_false, Bool.true_and, Bool.false_and]; rfl)) fun b34 => (K_keep (Weak.drop (Weak.refl _)) ?_))
   refine O_keep rfl rfl (W_callV rfl rfl rfl rfl fn_ca_201 (all_ok b34 5 [kindE4 x.kind, fieldE (sndB x), amtE x.amt, fieldE (decide (x.kind = 4) && decide (x.amt ≠ 0)), amtE x.fee] (Nat.le_refl 5) (show 5 ≤ 1000 by decide)) (fun w nw => (Sn.ofBlk .h0).rowAt0 (fun _ _ h => h) w nw) (K_keep (Weak.refl _) ?_))
   refine O_pure rfl rfl rfl rfl (P_assign rfl rfl) ?_
   refine O_nil ?_
   refine St.env (.cons (t := 2) rfl .nil) ?_
   refine Q_then ?_
   refine R_ret ?_
   exact R_endV rfl rfl (.tmp rfl .nil) (congrArg (Value.int .i64) (plainE_all x))
 ·skip
  have h1 := of_decide_eq_false h1
  refine O_pure rfl rfl rfl rfl (P_fld0 rfl ty_fl_88_3 rfl) ?_
  refine O_val rfl rfl rfl rfl (V_load rfl rfl ty_sc_24 (Rd.blk .h0 rfl)) ?_
  refine O_pure rfl rfl rfl rfl (P_fld0 rfl ty_fl_88_0 rfl) ?_
  refine O_val rfl rfl rfl rfl (V_load rfl rfl ty_sc_3 (Rd.blk .h0 rfl)) ?_
  refine O_pure rfl rfl rfl rfl (P_eql rfl rfl rfl) ?_
  refine E_bool (t := 24) rfl (fun h2 => ?_) (fun h2 => ?_)
  ·skip
   have h2 := of_decide_eq_true h2
   refine O_pure rfl rfl rfl rfl (P_fld0 rfl ty_fl_88_4 rfl) ?_
   refine O_val rfl rfl rfl rfl (V_load rfl rfl ty_sc_24 (Rd.blk .h0 rfl)) ?_
   refine O_keep rfl rfl (W_callV rfl rfl rfl rfl fn_ca_205 (wkind_ok x.kind) (fun _ _ => trivial) (K_keep (Weak.refl _) ?_))
   refine O_pure rfl rfl rfl rfl (P_move rfl rfl) ?_
   refine O_pure rfl rfl rfl rfl (P_fld0 rfl ty_fl_88_2 rfl) ?_
   refine O_val rfl rfl rfl rfl (V_load rfl rfl ty_sc_27 (Rd.blk .h0 rfl)) ?_
   refine O_pure rfl rfl rfl rfl (P_neq rfl rfl rfl) ?_
   refine O_pure rfl rfl rfl rfl (P_fld0 rfl ty_fl_88_0 rfl) ?_
   refine O_val rfl rfl rfl rfl (V_load rfl rfl ty_sc_3 (Rd.blk .h0 rfl)) ?_
   refine O_pure rfl rfl rfl rfl (P_eql rfl rfl rfl) ?_
   refine O_pure rfl rfl rfl rfl (P_neq_bool rfl ty_bool_4 rfl rfl) ?_
   refine O_pure rfl rfl rfl rfl (P_pick rfl rfl rfl) ?_
   refine O_keep rfl rfl (W_callV rfl rfl rfl rfl fn_ca_206 (field_ok _) (fun _ _ => trivial) (K_keep (Weak.refl _) ?_))
   refine O_keep rfl rfl (W_callV rfl rfl rfl rfl fn_ca_207 (amount_ok x.amt) (fun _ _ => trivial) (K_keep (Weak.refl _) ?_))
   refine O_pure rfl rfl rfl rfl (P_move rfl rfl) ?_
   refine O_pure rfl rfl rfl rfl (P_fld0 rfl ty_fl_88_3 rfl) ?_
   refine O_val rfl rfl rfl rfl (V_load rfl rfl ty_sc_24 (Rd.blk .h0 rfl)) ?_
   refine O_pure rfl rfl rfl rfl (P_neq rfl rfl rfl) ?_
   refine O_pure rfl rfl rfl rfl (P_pick rfl rfl rfl) ?_
   refine O_keep rfl rfl (W_callV rfl rfl rfl rfl fn_ca_206 (field_ok _) (fun _ _ => trivial) (K_keep (Weak.refl _) ?_))
   refine O_keep rfl rfl (W_callV rfl rfl rfl rfl fn_ca_207 (amount_ok x.fee) (fun _ _ => trivial) (K_keep (Weak.refl _) ?_))
   refine O_keep rfl rfl (W_lit (z := .nilIface) (ints .i64 [kindE4 x.kind, fieldE (sndB x), amtE x.amt, fieldE (decide (x.kind = 4) && decide (x.amt ≠ 0)), amtE x.fee]) rfl rfl rfl ty_sl_311 ty_lz_311 rfl rfl rfl (by decide) (by decide) (by simp [Value.cells]) (by first | rfl | (simp only [sndB, if_pos h1, h2, decide_true, decide_false, Bool.true_and, Bool.false_and]; rfl) | (simp only [sndB, if_neg h1, h2, decide_true, decide_false, Bool.true_and, Bool.false_and]; rfl)) fun b34 => (K_keep (Weak.drop (Weak.refl _)) ?_))
   refine O_keep rfl rfl (W_callV rfl rfl rfl rfl fn_ca_201 (all_ok b34 5 [kindE4 x.kind, fieldE (sndB x), amtE x.amt, fieldE (decide (x.kind = 4) && decide (x.amt ≠ 0)), amtE x.fee] (Nat.le_refl 5) (show 5 ≤ 1000 by decide)) (fun w nw => (Sn.ofBlk .h0).rowAt0 (fun _ _ h => h) w nw) (K_keep (Weak.refl _) ?_))
   refine O_pure rfl rfl rfl rfl (P_assign rfl rfl) ?_
   refine O_nil ?_
   refine St.env (.cons (t := 2) rfl .nil) ?_
   refine Q_then ?_
   refine R_ret ?_
   exact R_endV rfl rfl (.tmp rfl .nil) (congrArg (Value.int .i64) (plainE_all x))
  ·skip
   have h2 := of_decide_eq_false h2
   refine O_pure rfl rfl rfl rfl (P_fld0 rfl ty_fl_88_4 rfl) ?_
   refine O_val rfl rfl rfl rfl (V_load rfl rfl ty_sc_24 (Rd.blk .h0 rfl)) ?_
   refine O_keep rfl rfl (W_callV rfl rfl rfl rfl fn_ca_205 (wkind_ok x.kind) (fun _ _ => trivial) (K_keep (Weak.refl _) ?_))
   refine O_pure rfl rfl rfl rfl (P_move rfl rfl) ?_
   refine O_pure rfl rfl rfl rfl (P_fld0 rfl ty_fl_88_2 rfl) ?_
   refine O_val rfl rfl rfl rfl (V_load rfl rfl ty_sc_27 (Rd.blk .h0 rfl)) ?_
   refine O_pure rfl rfl rfl rfl (P_neq rfl rfl rfl) ?_
   refine O_pure rfl rfl rfl rfl (P_fld0 rfl ty_fl_88_0 rfl) ?_
   refine O_val rfl rfl rfl rfl (V_load rfl rfl ty_sc_3 (Rd.blk .h0 rfl)) ?_
   refine O_pure rfl rfl rfl rfl (P_eql rfl rfl rfl) ?_
   refine O_pure rfl rfl rfl rfl (P_neq_bool rfl ty_bool_4 rfl rfl) ?_
   refine O_pure rfl rfl rfl rfl (P_pick rfl rfl rfl) ?_
   refine O_keep rfl rfl (W_callV rfl rfl rfl rfl fn_ca_206 (field_ok _) (fun _ _ => trivial) (K_keep (Weak.refl _) ?_))
   refine O_keep rfl rfl (W_callV rfl rfl rfl rfl fn_ca_207 (amount_ok x.amt) (fun _ _ => trivial) (K_keep (Weak.refl _) ?_))
   refine O_pure rfl rfl rfl rfl (P_move rfl rfl) ?_
   refine O_no rfl rfl rfl rfl ?_
   refine O_noX rfl rfl rfl rfl ?_
   refine O_no rfl rfl rfl rfl ?_
   refine O_pure rfl rfl rfl rfl (P_pick rfl rfl rfl) ?_
   refine O_keep rfl rfl (W_callV rfl rfl rfl rfl fn_ca_206 (field_ok _) (fun _ _ => trivial) (K_keep (Weak.refl _) ?_))
   refine O_keep rfl rfl (W_callV rfl rfl rfl rfl fn_ca_207 (amount_ok x.fee) (fun _ _ => trivial) (K_keep (Weak.refl _) ?_))
   refine O_keep rfl rfl (W_lit (z := .nilIface) (ints .i64 [kindE4 x.kind, fieldE (sndB x), amtE x.amt, fieldE (decide (x.kind = 4) && decide (x.amt ≠ 0)), amtE x.fee]) rfl rfl rfl ty_sl_311 ty_lz_311 rfl rfl rfl (by decide) (by decide) (by simp [Value.cells]) (by first | rfl | (simp only [sndB, if_pos h1, h2, decide_true, decide_false, Bool.true_and, Bool.false_and]; rfl) | (simp only [sndB, if_neg h1, h2, decide_true, decide_false, Bool.true_and, Bool.false_and]; rfl)) fun b34 => (K_keep (Weak.drop (Weak.refl _)) ?_))
   refine O_keep rfl rfl (W_callV rfl rfl rfl rfl fn_ca_201 (all_ok b34 5 [kindE4 x.kind, fieldE (sndB x), amtE x.amt, fieldE (decide (x.kind = 4) && decide (x.amt ≠ 0)), amtE x.fee] (Nat.le_refl 5) (show 5 ≤ 1000 by decide)) (fun w nw => (Sn.ofBlk .h0).rowAt0 (fun _ _ h => h) w nw) (K_keep (Weak.refl _) ?_))
   refine O_pure rfl rfl rfl rfl (P_assign rfl rfl) ?_
   refine O_nil ?_
   refine St.env (.cons (t := 2) rfl .nil) ?_
   refine Q_then ?_
   refine R_ret ?_
   exact R_endV rfl rfl (.tmp rfl .nil) (congrArg (Value.int .i64) (plainE_all x))
theorem noSeal_ok {gl : Nat → Obj} (v : Value) : SpecV (cx gl) 168 [v] noPre (.tuple #[]) := by
 refine Spec.enter (C := cx gl) Tryz.func168 rfl 2 rfl rfl fun w0 h0 hsep hsub hpre => ?_
 obtain rfl : h0 = Heap.none := hsep
 show St (cx gl) _ [(0, v)] _ _
 refine R_skip ?_
 exact R_endV0 rfl rfl (.nil) (rfl)
theorem putTx_ok {gl : Nat → Obj} (wb : Nat) (bv : Value) (n : Nat) (xs : List Int) (hn : n ≤ 80000000) (x : Tx) (hx : x.ok) : Spec (cx gl) 167 [.pointer (some ⟨wb, 0, none⟩), .agg x.cells.toArray, .func (.func 168) #[] #[]] (fun _ _ => True) [blk wb [.bool true, bv, .int .i64 0] 263, ownS 5 1 (bv) (n) (ints .u8 (xs))] (fun v rs => v = .tuple #[] ∧ ∃ bv', rs = [blk wb [.bool true, bv', .int .i64 0] 263, ownS 5 1 (bv') (n + (txB x).length) (ints .u8 (xs ++ txB x))]) := by
 refine Spec.enter (C := cx gl) Tryz.func167 rfl 35 rfl rfl fun w0 h0 hsep hsub hpre => ?_
 show St (cx gl) _ [(0, .pointer (some ⟨wb, 0, none⟩)), (1, .agg x.cells.toArray), (2, .func (.func 168) #[] #[])] _ _
 refine R_seq ?_
 refine R_region ?_
 refine L_op rfl (W_box (x.cells) rfl rfl rfl rfl rfl fun b4 => ?_)
 refine L_nil ?_
 refine St.env (.cons (t := 0) rfl (.cons (t := 2) rfl (.cons (t := 4) rfl .nil))) ?_
 refine Q_then ?_
 refine R_seq ?_
 refine R_region ?_
 refine L_val rfl rfl rfl (OpP.v (P_move rfl rfl)) ?_
 refine L_val rfl rfl rfl (OpP.v (P_fld0 rfl ty_fl_88_0 rfl)) ?_
 refine L_val rfl rfl rfl (V_load rfl rfl ty_sc_3 (Rd.blk .h0 rfl)) ?_
 refine L_val rfl rfl rfl (OpP.v (P_conv rfl ty_int_3 ty_int_5 rfl)) ?_
 refine L_op rfl (W_call rfl rfl rfl rfl fn_ca_203 (byte_ok wb bv n xs (by omega) (kindB x.kind)) (Weak.pick (p := [_]) (Weak.pick (p := [_]) (Weak.keep (Weak.nil _)))) (fun _ _ _ _ _ _ _ => trivial) fun v9 rs9 ⟨e9, bv2, e8⟩ => ?_)
 subst e9; subst e8
 refine L_nil ?_
 refine St.env (.cons (t := 0) rfl (.cons (t := 2) rfl (.cons (t := 4) rfl .nil))) ?_
 refine Q_then ?_
 refine R_seq ?_
 refine R_seq ?_
 refine R_region ?_
 refine L_val rfl rfl rfl (OpP.v (P_fld0 rfl ty_fl_88_1 rfl)) ?_
 refine L_val rfl rfl rfl (V_load rfl rfl ty_sc_27 (Rd.blk .h2 rfl)) ?_
 refine L_val rfl rfl rfl (OpP.v (P_fld0 rfl ty_fl_88_2 rfl)) ?_
 refine L_val rfl rfl rfl (V_load rfl rfl ty_sc_27 (Rd.blk .h2 rfl)) ?_
 refine L_val rfl rfl rfl (OpP.v (P_fld0 rfl ty_fl_88_3 rfl)) ?_
 refine L_val rfl rfl rfl (V_load rfl rfl ty_sc_24 (Rd.blk .h2 rfl)) ?_
 refine L_val rfl rfl rfl (OpP.v (P_fld0 rfl ty_fl_88_4 rfl)) ?_
 refine L_val rfl rfl rfl (V_load rfl rfl ty_sc_24 (Rd.blk .h2 rfl)) ?_
 refine L_val rfl rfl rfl (OpP.v (P_fld0 rfl ty_fl_88_5 rfl)) ?_
 refine L_val rfl rfl rfl (V_load rfl rfl ty_sc_24 (Rd.blk .h2 rfl)) ?_
 refine L_val rfl rfl rfl (OpP.v (P_buildArr rfl ty_ar_288 ty_ze_288 rfl rfl rfl rfl (by simp [Value.oneCell']))) ?_
 refine E_as (t := 23) (v' := .agg (ints .u64 (txW x)).toArray) rfl (rfl) ?_
 refine L_val rfl rfl rfl (OpP.v (P_move rfl rfl)) ?_
 refine L_nil ?_
 refine St.env (.cons (t := 0) rfl (.cons (t := 2) rfl (.cons (t := 4) rfl (.cons (t := 23) rfl (.cons (t := 24) rfl .nil))))) ?_
 refine Q_then ?_
 refine R_block ?_
 refine R_loopE (G := Nat × Value) (.cons (t := 0) rfl (.cons (t := 2) rfl (.cons (t := 4) rfl (.cons (t := 23) rfl .nil)))) (fun g => [(24, .int .i64 ((g.1 : Int)))]) (fun g => [blk wb [.bool true, g.2, .int .i64 0] 263, ownS 5 1 (g.2) (n + 1 + (varsB ((txW x).take g.1)).length) (ints .u8 (xs ++ [kindB x.kind] ++ varsB ((txW x).take g.1))), blk b4 x.cells 88]) (fun g => g.1 ≤ 5) (fun g => 5 - g.1) (0, bv2) (Nat.zero_le _) (by repeat (first | exact .nil | refine .cons rfl ?_ | refine .consE rfl (by first | rfl | (congr 1; omega) | (congr 1; push_cast; omega)) ?_)) (Weak.keep (ownS.to1 (by simp [varsB]) (by simp [varsB]))) ?_
 rintro ⟨j, bv⟩ hinv
 replace hinv : j ≤ 5 := hinv
 show St (cx gl) _ ((24, .int .i64 ((j : Int))) :: _) [blk wb [.bool true, bv, .int .i64 0] 263, ownS 5 1 (bv) (n + 1 + (varsB ((txW x).take j)).length) (ints .u8 (xs ++ [kindB x.kind] ++ varsB ((txW x).take j))), blk b4 x.cells 88] _
 refine R_seq ?_
 refine R_region ?_
 refine L_val rfl rfl rfl (OpP.v (P_lss rfl rfl rfl)) ?_
 refine L_nil ?_
 refine Q_then ?_
 refine R_seq ?_
 refine R_condP rfl (fun hlt => ?_) (fun hlt => ?_)
 ·skip
  have hj : j < (txW x).length := by show j < 5; omega
  obtain ⟨y, hw⟩ : ∃ y, (txW x)[j]? = some y := ⟨_, List.getElem?_eq_getElem hj⟩
  have hvb := varsB_len ((txW x).take j)
  rw [List.length_take] at hvb
  refine R_skip ?_
  refine Q_then ?_
  refine R_seq ?_
  refine R_block ?_
  refine R_seq ?_
  refine R_region ?_
  refine L_val rfl rfl rfl (OpP.v (P_index (j) rfl ty_ar_288 ty_sc_24 rfl rfl (by first | rfl | omega) (by omega) (show (ints .u64 (txW x))[j]? = some (.int .u64 y) by simp [ints, hw]))) ?_
  refine L_val rfl rfl rfl (OpP.v (P_assign rfl rfl)) ?_
  refine L_nil ?_
  refine Q_then ?_
  refine R_region ?_
  refine L_val rfl rfl rfl (OpP.v (P_move rfl rfl)) ?_
  refine L_val rfl rfl rfl (OpP.v (P_move rfl rfl)) ?_
  refine L_op rfl (W_call rfl rfl rfl rfl fn_ca_208 (var_ok wb bv (n + 1 + (varsB ((txW x).take j)).length) (xs ++ [kindB x.kind] ++ varsB ((txW x).take j)) (by omega) y (txW_ok hx y (List.mem_of_getElem? hw))) (Weak.refl _) (fun _ _ _ _ _ _ _ => trivial) fun v9 rs9 ⟨e9, bv3, e8⟩ => ?_)
  subst e9; subst e8
  refine L_nil ?_
  refine St.env (.cons (t := 0) rfl (.cons (t := 2) rfl (.cons (t := 4) rfl (.cons (t := 7) rfl (.cons (t := 23) rfl (.cons (t := 24) rfl (.cons (t := 25) rfl (.cons (t := 26) rfl (.cons (t := 27) rfl (.cons (t := 28) rfl .nil)))))))))) ?_
  refine Q_block ?_
  refine Q_then ?_
  refine R_region ?_
  first | (refine L_val rfl rfl rfl (OpP.v (P_addN rfl rfl rfl (by simp only [fits]; omega))) ?_) | (refine L_val rfl rfl rfl (OpP.v (P_add rfl rfl rfl)) ?_)
  refine L_val rfl rfl rfl (OpP.v (P_move rfl rfl)) ?_
  refine L_nil ?_
  exact Q_round (j + 1, bv3) (by omega) (by show 5 - (j + 1) < 5 - j; omega) (by repeat (first | exact .nil | refine .cons rfl ?_ | refine .consE rfl (by first | rfl | (congr 1; omega) | (congr 1; push_cast; omega)) ?_)) (Weak.keep (ownS.to1 (by rw [varsB_next hw, List.length_append]; omega) (by rw [varsB_next hw, ← List.append_assoc])))
 ·skip
  obtain rfl : j = 5 := by omega
  refine R_exit ?_
  refine Q_then_exit ?_
  refine Q_then_exit ?_
  refine Q_block_eq ?_
  refine St.env (.cons (t := 2) rfl (.cons (t := 4) rfl .nil)) ?_
  refine Q_then ?_
  refine R_region ?_
  refine L_val rfl rfl rfl (OpP.v (P_move rfl rfl)) ?_
  refine L_val rfl rfl rfl (OpP.v (P_fld0 rfl ty_fl_88_6 rfl)) ?_
  refine L_val rfl rfl rfl (OpP.v (P_sliceAll rfl ty_ar_86 rfl)) ?_
  refine L_op rfl (W_callFV (fi := []) (ca := []) rfl rfl rfl rfl rfl rfl fn_ca_168 (noSeal_ok _) (fun _ _ => trivial) ?_)
  refine L_nil ?_
  refine St.env (.nil) ?_
  exact R_end0 (rs2 := _) rfl rfl (.nil) (⟨rfl, _, rfl⟩) (Weak.keep (Weak.trans (ownS.to1 (by show n + 1 + (varsB (txW x)).length = n + (txB x).length; show _ = n + ((varsB (txW x)).length + 1); omega) (by show ints .u8 (xs ++ [kindB x.kind] ++ varsB (txW x)) = ints .u8 (xs ++ txB x); rw [List.append_assoc]; rfl)) (Weak.keep (Weak.nil _))))
theorem tx1_ok {gl : Nat → Obj} (tb : Nat) (wb : Nat) (bv : Value) (n : Nat) (xs : List Int) (hn : n ≤ 80000000) (x : Tx) (hx : x.ok) : Spec (cx gl) 166 [.pointer (some ⟨wb, 0, none⟩), .pointer (some ⟨tb, 0, none⟩)] (fun w h => Seen w h (some ⟨tb, 0, none⟩) x.cells) [blk wb [.bool true, bv, .int .i64 0] 263, ownS 5 1 (bv) (n) (ints .u8 (xs))] (fun v rs => v = .tuple #[] ∧ ∃ bv', rs = [blk wb [.bool true, bv', .int .i64 0] 263, ownS 5 1 (bv') (n + (txB x).length) (ints .u8 (xs ++ txB x))]) := by
 refine Spec.enter (C := cx gl) Tryz.func166 rfl 6 rfl rfl fun w0 h0 hsep hsub hpre => ?_
 show St (cx gl) _ [(0, .pointer (some ⟨wb, 0, none⟩)), (1, .pointer (some ⟨tb, 0, none⟩))] _ _
 refine R_region ?_
 refine L_val rfl rfl rfl (OpP.v (P_move rfl rfl)) ?_
 refine L_val rfl rfl rfl (V_loadAgg rfl rfl ty_ag_88 ((Sn.old hpre).rds) (hx.cellsLen)) ?_
 refine L_op rfl (W_call rfl rfl rfl rfl fn_ca_167 (putTx_ok wb bv n xs hn x hx) (Weak.refl _) (fun _ _ _ _ _ _ _ => trivial) fun v9 rs9 ⟨e9, bv2, e8⟩ => ?_)
 subst e9; subst e8
 refine L_nil ?_
 refine St.env (.nil) ?_
 exact R_end0 (rs2 := _) rfl rfl (.nil) (⟨rfl, _, rfl⟩) (Weak.refl _)
theorem allE2 (a b : Int) : allE [a, b] = if a ≠ 0 then a else b := by
 show (if a ≠ 0 then a else if b ≠ 0 then b else 0) = _
 split
 ·rfl
 ·split
  ·rfl
  ·omega
theorem txbB_bad {ch : List Int} {x : Tx} (h : txbE ch x ≠ 0) : txbB ch x = [] := if_neg h
theorem txbB_fine {ch : List Int} {x : Tx} (h : txbE ch x = 0) : txbB ch x = saidB ch x := if_pos h
theorem saidB_length (ch : List Int) (x : Tx) : (saidB ch x).length = 0 + 1 + (varB (ch.length : Int)).length + ch.length + (txB x).length := by
 show (varB (ch.length : Int) ++ ch ++ txB x).length + 1 = _
 rw [List.length_append, List.length_append]; omega
theorem said_ok {gl : Nat → Obj} (tb : Nat) (ch : List Int) (hb : IsB ch) (x : Tx) (hx : x.ok) : Spec (cx gl) 164 [.int .u8 84, .string (strOfNums ch), .int .i64 (plainE x), .func (.func 166) #[] #[.pointer (some ⟨tb, 0, none⟩)]] (fun w h => Seen w h (some ⟨tb, 0, none⟩) x.cells) [] (fun v rs => ∃ u, v = .tuple #[u, .int .i64 (txbE ch x)] ∧ rs = [ownS 5 1 (u) ((txbB ch x).length) (ints .u8 (txbB ch x))]) := by
 refine Spec.enter (C := cx gl) Tryz.func164 rfl 34 rfl rfl fun w0 h0 hsep hsub hpre => ?_
 show St (cx gl) _ [(0, .int .u8 84), (1, .string (strOfNums ch)), (2, .int .i64 (plainE x)), (3, .func (.func 166) #[] #[.pointer (some ⟨tb, 0, none⟩)])] _ _
 refine R_seq ?_
 refine R_region ?_
 refine L_val rfl rfl rfl (OpP.v (P_assign rfl rfl)) ?_
 refine L_val rfl rfl rfl (OpP.v (P_assign rfl rfl)) ?_
 refine L_nil ?_
 refine Q_then ?_
 refine R_seq ?_
 refine R_seq ?_
 refine R_region ?_
 refine L_val rfl rfl rfl (OpP.v (P_move rfl rfl)) ?_
 refine L_op rfl (W_callV rfl rfl rfl rfl fn_ca_202 (named_ok ch) (fun _ _ => trivial) ?_)
 refine L_val rfl rfl rfl (OpP.v (P_move rfl rfl)) ?_
 refine L_op rfl (W_lit (z := .nilIface) (ints .i64 [nameE ch, plainE x]) rfl rfl rfl ty_sl_311 ty_lz_311 rfl rfl rfl (by decide) (by decide) (by simp [Value.cells]) (rfl) fun b15 => ?_)
 refine L_op rfl (W_callV rfl rfl rfl rfl fn_ca_201 (all_ok b15 2 [nameE ch, plainE x] (Nat.le_refl 2) (show 2 ≤ 1000 by decide)) (fun w nw => (Sn.ofBlk .h0).rowAt0 (fun _ _ h => h) w nw) ?_)
 refine E_as (t := 16) (v' := .int .i64 (txbE ch x)) rfl (by rw [allE2]; rfl) ?_
 refine L_val rfl rfl rfl (OpP.v (P_assign rfl rfl)) ?_
 refine L_nil ?_
 refine St.env (.cons (t := 0) rfl (.cons (t := 1) rfl (.cons (t := 3) rfl (.cons (t := 8) rfl (.cons (t := 9) rfl (.cons (t := 10) rfl .nil)))))) ?_
 refine Q_then ?_
 refine R_seq ?_
 refine R_region ?_
 refine L_val rfl rfl rfl (OpP.v (P_move rfl rfl)) ?_
 refine L_val rfl rfl rfl (OpP.v (P_neq rfl rfl rfl)) ?_
 refine L_nil ?_
 refine St.env (.cons (t := 0) rfl (.cons (t := 1) rfl (.cons (t := 3) rfl (.cons (t := 8) rfl (.cons (t := 9) rfl (.cons (t := 10) rfl (.cons (t := 18) rfl .nil))))))) ?_
 refine Q_then ?_
 refine R_condP rfl (fun he => ?_) (fun he => ?_)
 ·skip
  refine R_seq ?_
  refine R_region ?_
  refine L_val rfl rfl rfl (OpP.v (P_move rfl rfl)) ?_
  refine L_val rfl rfl rfl (OpP.v (P_assign rfl rfl)) ?_
  refine L_val rfl rfl rfl (OpP.v (P_assign rfl rfl)) ?_
  refine L_nil ?_
  refine St.env (.cons (t := 0) rfl (.cons (t := 1) rfl (.cons (t := 3) rfl (.cons (t := 8) rfl (.cons (t := 9) rfl .nil))))) ?_
  refine Q_then ?_
  refine R_ret ?_
  refine Q_then_ret ?_
  exact R_end (rs2 := [ownS 5 1 (.slice none 0 0) ((txbB ch x).length) (ints .u8 (txbB ch x))]) rfl rfl (.tmp rfl (.tmp rfl .nil)) (⟨_, rfl, rfl⟩) (by rw [txbB_bad he]; exact Weak.trans (Weak.newNil (T := 5) (sz := 1)) (Weak.keep (Weak.nil _)))
 ·skip
  have he : txbE ch x = 0 := Classical.not_not.1 he
  obtain ⟨hc1, hc2⟩ := nameE_fine (txbE_fine he).1
  have hvl := varB_len (ch.length : Int)
  have htl := txB_len x
  refine R_skip ?_
  refine Q_then ?_
  refine R_seq ?_
  refine R_region ?_
  refine L_op rfl (W_call rfl rfl rfl rfl fn_ca_120 (newW_ok) (Split.nil _) (fun _ _ _ _ _ _ _ => trivial) fun v1 rs1 ⟨wb, e1, e2⟩ => ?_)
  subst e1; subst e2
  refine L_val rfl rfl rfl (OpP.v (P_assign rfl rfl)) ?_
  refine L_nil ?_
  refine St.env (.cons (t := 0) rfl (.cons (t := 1) rfl (.cons (t := 3) rfl (.cons (t := 8) rfl (.cons (t := 9) rfl (.cons (t := 11) rfl .nil)))))) ?_
  refine Q_then ?_
  refine R_seq ?_
  refine St.res (rs' := [blk wb [.bool true, .slice none 0 0, .int .i64 0] 263, ownS 5 1 (.slice none 0 0) (0) (ints .u8 ([]))]) (Weak.trans (Weak.keep (Weak.newNil (T := 5) (sz := 1))) (Weak.keep (Weak.keep (Weak.nil _)))) ?_
  refine R_region ?_
  refine L_val rfl rfl rfl (OpP.v (P_move rfl rfl)) ?_
  refine L_val rfl rfl rfl (OpP.v (P_move rfl rfl)) ?_
  refine L_op rfl (W_call rfl rfl rfl rfl fn_ca_203 (byte_ok wb _ 0 [] (by omega) 84) (Weak.refl _) (fun _ _ _ _ _ _ _ => trivial) fun v9 rs9 ⟨e9, bv2, e8⟩ => ?_)
  subst e9; subst e8
  refine L_nil ?_
  refine St.env (.cons (t := 1) rfl (.cons (t := 3) rfl (.cons (t := 8) rfl (.cons (t := 9) rfl (.cons (t := 11) rfl .nil))))) ?_
  refine Q_then ?_
  refine R_seq ?_
  refine R_region ?_
  refine L_val rfl rfl rfl (OpP.v (P_move rfl rfl)) ?_
  refine L_val rfl rfl rfl (OpP.v (P_move rfl rfl)) ?_
  refine L_op rfl (W_call rfl rfl rfl rfl fn_ca_204 (text_ok wb bv2 (0 + 1) ([] ++ [84]) (by omega) ch hb (by omega)) (Weak.refl _) (fun _ _ _ _ _ _ _ => trivial) fun v8 rs8 ⟨e9, bv3, e8⟩ => ?_)
  subst e9; subst e8
  refine L_nil ?_
  refine St.env (.cons (t := 3) rfl (.cons (t := 8) rfl (.cons (t := 9) rfl (.cons (t := 11) rfl .nil)))) ?_
  refine Q_then ?_
  refine R_seq ?_
  refine R_region ?_
  refine L_val rfl rfl rfl (OpP.v (P_move rfl rfl)) ?_
  refine L_val rfl rfl rfl (OpP.v (P_move rfl rfl)) ?_
  refine L_op rfl (W_callF (fi := []) (ca := [.pointer (some ⟨tb, 0, none⟩)]) rfl rfl rfl rfl rfl rfl fn_ca_166 (tx1_ok tb wb bv3 (0 + 1 + (varB (ch.length : Int)).length + ch.length) ([] ++ [84] ++ (varB (ch.length : Int) ++ ch)) (by omega) x hx) (Weak.refl _) (Sn.pre (Sn.old hpre)) fun v7 rs7 ⟨e9, bv4, e8⟩ => ?_)
  subst e9; subst e8
  refine St.ownForm (p := [_]) fun ob oc hov hoc => ?_
  subst hov
  have hsl := saidB_length ch x
  refine St.res (rs' := [blk wb [.bool true, .slice ob (saidB ch x).length oc, .int .i64 0] 263, ownS 5 1 (.slice ob (saidB ch x).length oc) ((saidB ch x).length) (ints .u8 (saidB ch x))]) (by rw [hsl]; exact Weak.keep (ownS.to1 rfl rfl)) ?_
  refine L_nil ?_
  refine St.env (.cons (t := 8) rfl (.cons (t := 9) rfl (.cons (t := 11) rfl .nil))) ?_
  refine Q_then ?_
  refine R_seq ?_
  refine R_region ?_
  refine L_val rfl rfl rfl (OpP.v (P_move rfl rfl)) ?_
  refine L_op rfl (W_call rfl rfl rfl rfl fn_ca_122 (Out_ok wb ob oc (saidB ch x) (by omega) (by omega) (by omega)) (Weak.refl _) (fun _ _ _ _ _ _ _ => trivial) fun v4 rs4 ⟨u, e7, e8⟩ => ?_)
  subst e7; subst e8
  refine L_val rfl rfl rfl (OpP.v (P_extract rfl rfl rfl)) ?_
  refine L_val rfl rfl rfl (OpP.v (P_extract rfl rfl rfl)) ?_
  refine L_val rfl rfl rfl (OpP.v (P_assign rfl rfl)) ?_
  refine L_val rfl rfl rfl (OpP.v (P_assign rfl rfl)) ?_
  refine L_nil ?_
  refine St.env (.cons (t := 8) rfl (.cons (t := 9) rfl .nil)) ?_
  refine Q_then ?_
  refine R_ret ?_
  exact R_end (rs2 := _) rfl rfl (.tmp rfl (.tmp rfl .nil)) (⟨_, by rw [he]; rfl, by rw [txbB_fine he]⟩) (Weak.keep (Weak.nil _))
theorem txBytes_ok {gl : Nat → Obj} (ch : List Int) (hb : IsB ch) (x : Tx) (hx : x.ok) : Spec (cx gl) 110 [.string (strOfNums ch), .agg x.cells.toArray] (fun _ _ => True) [] (fun v rs => ∃ u, v = .tuple #[u, .int .i64 (txbE ch x)] ∧ rs = [ownS 5 1 (u) ((txbB ch x).length) (ints .u8 (txbB ch x))]) := by
 refine Spec.enter (C := cx gl) Tryz.func110 rfl 13 rfl rfl fun w0 h0 hsep hsub hpre => ?_
 obtain rfl : h0 = Heap.none := hsep
 show St (cx gl) _ [(0, .string (strOfNums ch)), (1, .agg x.cells.toArray)] _ _
 refine R_seq ?_
 refine R_region ?_
 refine L_op rfl (W_box (x.cells) rfl rfl rfl rfl rfl fun b3 => ?_)
 refine L_val rfl rfl rfl (OpP.v (P_assign rfl rfl)) ?_
 refine L_val rfl rfl rfl (OpP.v (P_assign rfl rfl)) ?_
 refine L_nil ?_
 refine St.env (.cons (t := 0) rfl (.cons (t := 3) rfl (.cons (t := 4) rfl (.cons (t := 5) rfl .nil)))) ?_
 refine Q_then ?_
 refine R_seq ?_
 refine R_region ?_
 refine L_val rfl rfl rfl (OpP.v (P_move rfl rfl)) ?_
 refine L_val rfl rfl rfl (V_loadAgg rfl rfl ty_ag_88 (Rds.blk .h0) (hx.cellsLen)) ?_
 refine L_op rfl (W_callV rfl rfl rfl rfl fn_ca_165 (plain_ok x hx) (fun _ _ => trivial) ?_)
 refine L_val rfl rfl rfl (OpP.v (P_func rfl rfl rfl)) ?_
 refine L_op rfl (W_call rfl rfl rfl rfl fn_ca_164 (said_ok b3 ch hb x hx) (Split.nil _) (Sn.pre (Sn.ofBlk .h0)) fun v1 rs1 ⟨u, e1, e2⟩ => ?_)
 subst e1; subst e2
 refine L_val rfl rfl rfl (OpP.v (P_extract rfl rfl rfl)) ?_
 refine L_val rfl rfl rfl (OpP.v (P_extract rfl rfl rfl)) ?_
 refine L_val rfl rfl rfl (OpP.v (P_assign rfl rfl)) ?_
 refine L_val rfl rfl rfl (OpP.v (P_assign rfl rfl)) ?_
 refine L_nil ?_
 refine St.env (.cons (t := 4) rfl (.cons (t := 5) rfl .nil)) ?_
 refine Q_then ?_
 refine R_ret ?_
 exact R_end (rs2 := _) rfl rfl (.tmp rfl (.tmp rfl .nil)) (⟨u, rfl, rfl⟩) (Weak.keep (Weak.nil _))
end Go.Proofs.YtfhjhaogmdaepaaGreatDoor

/- The mutex; a registry's memory. Printed by gen.py. -/
set_option linter.unusedVariables false
set_option linter.unusedSimpArgs false
set_option maxRecDepth 100000
namespace Go.Proofs.YtfhjhaogmdaepaaGreatDoor
open Go Go.RowKit Go.Proofs
abbrev kU64 : Int → Value := fun k => .int .u64 k
abbrev Rcd := Int × List Int
structure Sgd where
 a : Int
 v : Value
 ms : List (List Int)
def strV (ms : List (List Int)) : List Value := ms.map fun m => .string (strOfNums m)
def sgM (sg : List (Int × Nat)) : List (Int × Value) := sg.map fun x => (x.1, .pointer (some ⟨x.2, 0, none⟩))
def rcM (rc : List Rcd) : List (Rcd × Value) := rc.map fun x => (x, .agg #[])
def sdM (sd : List Sgd) : List (Int × Value) := sd.map fun x => (x.a, x.v)
def sgH (p : Nat) (x : Int × Nat) : HP := blk x.2 [.pointer (some ⟨p, 0, none⟩), .int .u64 x.1] 230
def sdH (x : Sgd) : HP := ownS 9 1 x.v x.ms.length (strV x.ms)
/-- The messages of an address. -/
def msgsOf (rc : List Rcd) (a : Int) : List (List Int) := (rc.filter (fun x => x.1 = a)).map (·.2)
def RegOK (rc : List Rcd) (sd : List Sgd) : Prop := (∀ x ∈ rc, IsB x.2 ∧ x.2.length ≤ 1048576) ∧ (∀ a, ((sd.find? (fun s => s.a = a)).map (·.ms)).getD [] = msgsOf rc a)
def regL (p m1 m2 m3 : Nat) (sg : List (Int × Nat)) (rc : List Rcd) (sd : List Sgd) : List HP :=
 [blk p [.int .i32 0, .int .u32 0, .map (some m1), .map (some m2), .map (some m3)] 117, mapK kU64 m1 (sgM sg), mapK recK m2 (rcM rc), mapK kU64 m3 (sdM sd), fam (sgH p) sg, fam sdH sd]
/-- A registry: who was entered (with the signers), what was signed. -/
def REG (p : Nat) (sg : List (Int × Nat)) (rc : List Rcd) : HP := ExP (fun x : Nat × Nat × Nat × List Sgd => RegOK rc x.2.2.2) fun x => bundle (regL p x.1 x.2.1 x.2.2.1 sg rc x.2.2.2)
theorem reg_close {p m1 m2 m3 : Nat} {sg : List (Int × Nat)} {rc : List Rcd} {sd : List Sgd} {rs : List HP} (h : RegOK rc sd) : Weak (regL p m1 m2 m3 sg rc sd ++ rs) (REG p sg rc :: rs) :=
 Weak.bundle.trans (Weak.toEx (p := fun x : Nat × Nat × Nat × List Sgd => RegOK rc x.2.2.2) (s := fun x => bundle (regL p x.1 x.2.1 x.2.2.1 sg rc x.2.2.2)) (m1, m2, m3, sd) h)
/-- The signer of an address. -/
def sgP (sg : List (Int × Nat)) (a : Int) : Option Addr := (sg.find? (fun x => x.1 = a)).map fun x => ⟨x.2, 0, none⟩
theorem findK_map {κ α : Type} [DecidableEq κ] (f : α → κ) (g : α → Value) (k : κ) : ∀ (l : List α) (i : Nat), (findK k (l.map fun x => (f x, g x)) i).map (·.2) = (l.find? (fun x => f x = k)).map g
 | [], _ => rfl
 | x :: l, i => by
  by_cases h : f x = k
  ·simp [findK, h]
  ·have h2 : ¬ k = f x := fun e => h e.symm
   have ih := findK_map f g k l (i + 1)
   simp only [List.map_cons, findK, h2, if_false, List.find?_cons, h, decide_false]
   exact ih
theorem lookV_map {κ α : Type} [DecidableEq κ] (f : α → κ) (g : α → Value) (k : κ) (l : List α) (z : Value) : lookV false (findK k (l.map fun x => (f x, g x)) 0) z = ((l.find? (fun x => f x = k)).map g).getD z := by
 rw [← findK_map f g k l 0]
 cases findK k (l.map fun x => (f x, g x)) 0 <;> rfl
theorem look_sg (sg : List (Int × Nat)) (a : Int) : lookV false (findK a (sgM sg) 0) (.pointer none) = .pointer (sgP sg a) := by
 unfold sgM
 rw [lookV_map (fun x : Int × Nat => x.1) (fun x => .pointer (some ⟨x.2, 0, none⟩)) a sg]
 unfold sgP
 cases sg.find? (fun x => decide (x.1 = a)) <;> rfl
/-- Was it entered? -/
def isIn (sg : List (Int × Nat)) (a : Int) : Bool := (sgP sg a).isSome
theorem look_rc (rc : List Rcd) (x : Rcd) : lookV true (findK x (rcM rc) 0) (.agg #[]) = .tuple #[.agg #[], .bool (decide (x ∈ rc))] := by
 have h := findK_map (fun x : Rcd => x) (fun _ => Value.agg #[]) x rc 0
 unfold rcM
 by_cases hm : x ∈ rc
 ·have h2 : rc.find? (fun y => y = x) = some x := by
   cases hf : rc.find? (fun y => decide (y = x)) with
   | none => have := List.find?_eq_none.1 hf x hm; simp at this
   | some y => have := List.find?_some hf; simp at this; rw [this]
  rw [h2] at h
  cases hk : findK x (rc.map fun x => (x, Value.agg #[])) 0 with
  | none => rw [hk] at h; simp at h
  | some p => rw [hk] at h; simp at h; obtain ⟨q, v⟩ := p; simp at h; simp [lookV, h, hm]
 ·have h2 : rc.find? (fun y => y = x) = none := List.find?_eq_none.2 fun y hy => by simp; rintro rfl; exact hm hy
  rw [h2] at h
  cases hk : findK x (rc.map fun x => (x, Value.agg #[])) 0 with
  | none => simp [lookV, hm]
  | some p => rw [hk] at h; simp at h
theorem rcM_ok {rc : List Rcd} (h : ∀ x ∈ rc, IsB x.2 ∧ x.2.length ≤ 1048576) : ∀ x ∈ rcM rc, IsB x.1.2 := fun x hx => by
 obtain ⟨y, hy, rfl⟩ := List.mem_map.1 hx
 exact (h y hy).1
theorem rec_238 : recB Tryz.prog 238 = true := by kernel_rfl
theorem disable_run (w : World) : (callFunc 219 #[]).run Tryz.prog w = .ok (.value (.tuple #[])) w := run_call_mark0 Tryz.func219 (by kernel_rfl) (by kernel_rfl) (by kernel_rfl) .disable (by kernel_rfl) w
theorem enable_run (w : World) : (callFunc 221 #[]).run Tryz.prog w = .ok (.value (.tuple #[])) w := run_call_mark0 Tryz.func221 (by kernel_rfl) (by kernel_rfl) (by kernel_rfl) .enable (by kernel_rfl) w
theorem acquire_run (a : Addr) (w : World) : (callFunc 222 #[.pointer (some a)]).run Tryz.prog w = .ok (.value (.tuple #[])) w := run_call_marked Tryz.func222 (by kernel_rfl) (by kernel_rfl) (by kernel_rfl) .acquire (by kernel_rfl) a w
theorem relMerge_run (a : Addr) (w : World) : (callFunc 224 #[.pointer (some a)]).run Tryz.prog w = .ok (.value (.tuple #[])) w := run_call_marked Tryz.func224 (by kernel_rfl) (by kernel_rfl) (by kernel_rfl) .releaseMerge (by kernel_rfl) a w
theorem cas_run {b : Nat} {w : World} (hc : w.cell? ⟨b, 0, none⟩ = some (.int .i32 0)) (hz : w.frozen? ⟨b, 0, none⟩ = false) : (callFunc 220 #[.pointer (some ⟨b, 0, none⟩), .int .i32 0, .int .i32 1]).run Tryz.prog w = .ok (.value (.bool true)) (w.setCell ⟨b, 0, none⟩ (.int .i32 1)) := run_call_cas_hit Tryz.func220 (by kernel_rfl) (by kernel_rfl) (by kernel_rfl) .i32 (by kernel_rfl) hc hz
theorem add_run {b : Nat} {w : World} (hc : w.cell? ⟨b, 0, none⟩ = some (.int .i32 1)) (hz : w.frozen? ⟨b, 0, none⟩ = false) : (callFunc 225 #[.pointer (some ⟨b, 0, none⟩), .int .i32 (-1)]).run Tryz.prog w = .ok (.value (.int .i32 0)) (w.setCell ⟨b, 0, none⟩ (.int .i32 0)) := run_call_add Tryz.func225 (by kernel_rfl) (by kernel_rfl) (by kernel_rfl) .i32 (by kernel_rfl) hc hz (by rfl)
theorem und_uns : Tryz.prog.underlying 306 = some .unsafePointer := by kernel_rfl
theorem sz_mu : (Tryz.prog.info? 110).map (fun i => decide (i.size = 0)) = some false := by kernel_rfl
end Go.Proofs.YtfhjhaogmdaepaaGreatDoor

/- The mutex. Printed by gen.py. -/
set_option linter.unusedVariables false
set_option linter.unusedSimpArgs false
set_option maxRecDepth 100000
namespace Go.Proofs.YtfhjhaogmdaepaaGreatDoor
open Go Go.RowKit Go.Proofs
theorem ilock_ok {gl : Nat → Obj} (p T : Nat) (cs : List Value) : SpecR (cx gl) 192 [.pointer (some ⟨p, 0, none⟩)] (fun _ _ => True) [blk p (.int .i32 0 :: cs) T] (.tuple #[]) [blk p (.int .i32 1 :: cs) T] := by
 refine Spec.enter (C := cx gl) Tryz.func192 rfl 13 rfl rfl fun w0 h0 hsep hsub hpre => ?_
 show St (cx gl) _ [(0, .pointer (some ⟨p, 0, none⟩))] _ _
 refine R_seq ?_
 refine R_region ?_
 refine L_val rfl rfl rfl (OpP.v (P_ext rfl rfl (disable_run))) ?_
 refine L_nil ?_
 refine St.env (.cons (t := 0) rfl .nil) ?_
 refine Q_then ?_
 refine R_seq ?_
 refine R_seq ?_
 refine R_region ?_
 refine L_val rfl rfl rfl (OpP.v (P_move rfl rfl)) ?_
 refine L_val rfl rfl rfl (OpP.v (P_nil rfl rfl)) ?_
 refine L_val rfl rfl rfl (OpP.v (P_fld0 rfl ty_fl_110_0 rfl)) ?_
 refine L_op rfl (W_extSet (j := 0) rfl rfl rfl rfl rfl (fun w hc hz => cas_run hc hz) .h0 ?_)
 refine E_true (t := 6) rfl (rfl) ?_
 refine L_nil ?_
 refine St.env (.cons (t := 0) rfl (.cons (t := 6) rfl .nil)) ?_
 refine Q_then ?_
 refine R_condT rfl ?_
 refine R_seq ?_
 refine R_condT rfl ?_
 refine R_seq ?_
 refine R_region ?_
 refine L_val rfl rfl rfl (OpP.v (P_ext rfl rfl (enable_run))) ?_
 refine L_nil ?_
 refine St.env (.cons (t := 0) rfl .nil) ?_
 refine Q_then ?_
 refine R_region ?_
 refine L_val rfl rfl rfl (OpP.v (P_move rfl rfl)) ?_
 refine L_val rfl rfl rfl (V_toUnsafe rfl ty_ptr_302 und_uns sz_mu rfl .h0 rfl) ?_
 refine L_val rfl rfl rfl (OpP.v (P_ext rfl rfl (acquire_run _))) ?_
 refine L_nil ?_
 refine St.env (.cons (t := 0) rfl .nil) ?_
 refine Q_then ?_
 refine R_ret ?_
 refine Q_then_ret ?_
 exact R_end (rs2 := _) rfl rfl (.nil) (⟨rfl, rfl⟩) (Weak.refl _)
theorem iunlock_ok {gl : Nat → Obj} (p T : Nat) (cs : List Value) : SpecR (cx gl) 193 [.pointer (some ⟨p, 0, none⟩)] (fun _ _ => True) [blk p (.int .i32 1 :: cs) T] (.tuple #[]) [blk p (.int .i32 0 :: cs) T] := by
 refine Spec.enter (C := cx gl) Tryz.func193 rfl 21 rfl rfl fun w0 h0 hsep hsub hpre => ?_
 show St (cx gl) _ [(0, .pointer (some ⟨p, 0, none⟩))] _ _
 refine R_seq ?_
 refine R_condT rfl ?_
 refine R_seq ?_
 refine R_region ?_
 refine L_val rfl rfl rfl (OpP.v (P_move rfl rfl)) ?_
 refine L_val rfl rfl rfl (OpP.v (P_nil rfl rfl)) ?_
 refine L_val rfl rfl rfl (OpP.v (P_fld0 rfl ty_fl_110_0 rfl)) ?_
 refine L_val rfl rfl rfl (V_load rfl rfl ty_sc_21 (by first | exact Rd.blk .h0 rfl | exact Rd.blk .h1 rfl | exact Rd.blk .h2 rfl | exact Rd.blk .h3 rfl | exact Rd.blk .h4 rfl | exact Rd.blk .h5 rfl | exact Rd.blk .h6 rfl | exact Rd.blk .h7 rfl)) ?_
 refine L_nil ?_
 refine St.env (.cons (t := 0) rfl .nil) ?_
 refine Q_then ?_
 refine R_seq ?_
 refine R_region ?_
 refine L_val rfl rfl rfl (OpP.v (P_move rfl rfl)) ?_
 refine L_val rfl rfl rfl (V_toUnsafe rfl ty_ptr_302 und_uns sz_mu rfl .h0 rfl) ?_
 refine L_val rfl rfl rfl (OpP.v (P_ext rfl rfl (relMerge_run _))) ?_
 refine L_nil ?_
 refine St.env (.cons (t := 0) rfl .nil) ?_
 refine Q_then ?_
 refine R_region ?_
 refine L_val rfl rfl rfl (OpP.v (P_ext rfl rfl (disable_run))) ?_
 refine L_nil ?_
 refine St.env (.cons (t := 0) rfl .nil) ?_
 refine Q_then ?_
 refine R_seq ?_
 refine R_region ?_
 refine L_val rfl rfl rfl (OpP.v (P_move rfl rfl)) ?_
 refine L_val rfl rfl rfl (OpP.v (P_nil rfl rfl)) ?_
 refine L_val rfl rfl rfl (OpP.v (P_fld0 rfl ty_fl_110_0 rfl)) ?_
 refine L_op rfl (W_extSet (j := 0) rfl rfl rfl rfl rfl (fun w hc hz => add_run hc hz) .h0 ?_)
 refine L_val rfl rfl rfl (OpP.v (P_assign rfl rfl)) ?_
 refine L_nil ?_
 refine St.env (.cons (t := 0) rfl (.cons (t := 2) rfl .nil)) ?_
 refine Q_then ?_
 refine R_seq ?_
 refine R_seq ?_
 refine R_region ?_
 refine L_val rfl rfl rfl (OpP.v (P_move rfl rfl)) ?_
 refine L_val rfl rfl rfl (OpP.v (P_neq rfl rfl rfl)) ?_
 refine E_false (t := 16) rfl (rfl) ?_
 refine L_nil ?_
 refine St.env (.cons (t := 0) rfl (.cons (t := 2) rfl (.cons (t := 16) rfl .nil))) ?_
 refine Q_then ?_
 refine R_condF rfl ?_
 refine R_skip ?_
 refine Q_then ?_
 refine R_region ?_
 refine L_val rfl rfl rfl (OpP.v (P_ext rfl rfl (enable_run))) ?_
 refine L_nil ?_
 refine St.env (.nil) ?_
 exact R_end0 (rs2 := _) rfl rfl (.nil) (⟨rfl, rfl⟩) (Weak.refl _)
theorem lock_ok {gl : Nat → Obj} (p T : Nat) (cs : List Value) : SpecR (cx gl) 149 [.pointer (some ⟨p, 0, none⟩)] (fun _ _ => True) [blk p (.int .i32 0 :: cs) T] (.tuple #[]) [blk p (.int .i32 1 :: cs) T] := by
 refine Spec.enter (C := cx gl) Tryz.func149 rfl 6 rfl rfl fun w0 h0 hsep hsub hpre => ?_
 show St (cx gl) _ [(0, .pointer (some ⟨p, 0, none⟩))] _ _
 refine R_region ?_
 refine L_val rfl rfl rfl (OpP.v (P_move rfl rfl)) ?_
 refine L_val rfl rfl rfl (OpP.v (P_nil rfl rfl)) ?_
 refine L_val rfl rfl rfl (OpP.v (P_fld0 rfl ty_fl_112_1 rfl)) ?_
 refine L_op rfl (W_callR rfl rfl rfl rfl fn_ca_192 (ilock_ok p T cs) (Split.one (p := [])) (fun _ _ _ _ _ _ _ => trivial) ?_)
 refine L_nil ?_
 refine St.env (.nil) ?_
 exact R_end0 (rs2 := _) rfl rfl (.nil) (⟨rfl, rfl⟩) (Weak.refl _)
theorem unlockD_ok {gl : Nat → Obj} (p T : Nat) (cs : List Value) : SpecD (cx gl) 150 [.pointer (some ⟨p, 0, none⟩)] (fun _ _ => True) [blk p (.int .i32 1 :: cs) T] [blk p (.int .i32 0 :: cs) T] := by
 refine SpecD.enter (post := fun _ rs => rs = [blk p (.int .i32 0 :: cs) T]) (fun _ _ h => h) (C := cx gl) Tryz.func150 rfl 6 rfl rfl fun w0 h0 hsep hsub hpre => ?_
 show St (cx gl) _ [(0, .pointer (some ⟨p, 0, none⟩))] _ _
 refine R_region ?_
 refine L_val rfl rfl rfl (OpP.v (P_move rfl rfl)) ?_
 refine L_val rfl rfl rfl (OpP.v (P_nil rfl rfl)) ?_
 refine L_val rfl rfl rfl (OpP.v (P_fld0 rfl ty_fl_112_1 rfl)) ?_
 refine L_op rfl (W_callR rfl rfl rfl rfl fn_ca_193 (iunlock_ok p T cs) (Split.one (p := [])) (fun _ _ _ _ _ _ _ => trivial) ?_)
 refine L_nil ?_
 refine St.env (.nil) ?_
 exact R_end0 (rs2 := _) rfl rfl (.nil) (rfl) (Weak.refl _)
end Go.Proofs.YtfhjhaogmdaepaaGreatDoor

/- A registry: New, Known, Count. Printed by gen.py. -/
set_option linter.unusedVariables false
set_option linter.unusedSimpArgs false
set_option maxRecDepth 100000
namespace Go.Proofs.YtfhjhaogmdaepaaGreatDoor
open Go Go.RowKit Go.Proofs
theorem snew_ok {gl : Nat → Obj} : Spec (cx gl) 94 [] (fun _ _ => True) [] (fun v rs => ∃ p, v = .pointer (some ⟨p, 0, none⟩) ∧ rs = [REG p [] []]) := by
 refine Spec.enter (C := cx gl) Tryz.func94 rfl 6 rfl rfl fun w0 h0 hsep hsub hpre => ?_
 obtain rfl : h0 = Heap.none := hsep
 show St (cx gl) _ [] _ _
 refine R_seq ?_
 refine R_region ?_
 refine L_val rfl rfl rfl (OpP.v (P_assign rfl rfl)) ?_
 refine L_nil ?_
 refine Q_then ?_
 refine R_seq ?_
 refine R_region ?_
 refine L_op rfl (W_makeMapK (kU64) rfl rfl rfl fun m1 => ?_)
 refine L_op rfl (W_makeMapK (recK) rfl rfl rfl fun m2 => ?_)
 refine L_op rfl (W_makeMapK (kU64) rfl rfl rfl fun m3 => ?_)
 refine L_val rfl rfl rfl (OpP.v (P_buildStruct rfl ty_pl_117 ty_ze_117 rfl rfl (rfl))) ?_
 refine L_op rfl (W_box (_) rfl rfl rfl rfl rfl fun b5 => ?_)
 refine L_val rfl rfl rfl (OpP.v (P_assign rfl rfl)) ?_
 refine L_nil ?_
 refine St.env (.cons (t := 0) rfl .nil) ?_
 refine Q_then ?_
 refine R_ret ?_
 refine St.res (rs' := [blk b5 [.int .i32 0, .int .u32 0, .map (some m1), .map (some m2), .map (some m3)] 117, mapK kU64 m1 (sgM []), mapK recK m2 (rcM []), mapK kU64 m3 (sdM []), fam (sgH b5) [], fam sdH []]) ((Weak.keep (Weak.p2 (Weak.p1 (Weak.keep (Weak.famNil.trans (Weak.keep Weak.famNil))))))) ?_
 exact R_end (rs2 := _) rfl rfl (.tmp rfl .nil) (⟨b5, rfl, rfl⟩) (reg_close (rs := []) ⟨fun _ h => (by cases h), fun a => rfl⟩)
theorem missing_ok {gl : Nat → Obj} (p : Nat) (mu x m2 m3 : Value) (m : Option Nat) : SpecR (cx gl) 148 [.pointer (some ⟨p, 0, none⟩)] (fun _ _ => True) [blk p [mu, x, .map m, m2, m3] 117] (.bool m.isNone) [blk p [mu, x, .map m, m2, m3] 117] := by
 refine Spec.enter (C := cx gl) Tryz.func148 rfl 12 rfl rfl fun w0 h0 hsep hsub hpre => ?_
 show St (cx gl) _ [(0, .pointer (some ⟨p, 0, none⟩))] _ _
 refine R_seq ?_
 refine R_region ?_
 refine L_val rfl rfl rfl (OpP.v (P_assign rfl rfl)) ?_
 refine L_nil ?_
 refine Q_then ?_
 refine R_seq ?_
 refine R_region ?_
 refine L_val rfl rfl rfl (OpP.v (P_move rfl rfl)) ?_
 refine L_val rfl rfl rfl (OpP.v (P_eqNil rfl ty_ptr_96 rfl rfl)) ?_
 refine L_val rfl rfl rfl (OpP.v (P_move rfl rfl)) ?_
 refine L_val rfl rfl rfl (OpP.v (P_move rfl rfl)) ?_
 refine L_val rfl rfl rfl (OpP.v (P_nil rfl rfl)) ?_
 refine L_val rfl rfl rfl (OpP.v (P_fld0 rfl ty_fl_117_1 rfl)) ?_
 refine L_val rfl rfl rfl (V_load rfl rfl ty_sc_113 (by first | exact Rd.blk .h0 rfl | exact Rd.blk .h1 rfl | exact Rd.blk .h2 rfl | exact Rd.blk .h3 rfl | exact Rd.blk .h4 rfl | exact Rd.blk .h5 rfl | exact Rd.blk .h6 rfl | exact Rd.blk .h7 rfl)) ?_
 refine L_val rfl rfl rfl (OpP.v (P_eqlMap rfl ty_map_113 rfl rfl)) ?_
 refine L_val rfl rfl rfl (OpP.v (P_pick rfl rfl rfl)) ?_
 refine L_val rfl rfl rfl (OpP.v (P_assign rfl rfl)) ?_
 refine L_nil ?_
 refine St.env (.cons (t := 2) rfl .nil) ?_
 refine Q_then ?_
 refine R_ret ?_
 exact R_end (rs2 := _) rfl rfl (.tmp rfl .nil) (⟨rfl, rfl⟩) (Weak.refl _)
end Go.Proofs.YtfhjhaogmdaepaaGreatDoor

/- The seal of an address and a message. Printed by gen.py. -/
set_option linter.unusedVariables false
set_option linter.unusedSimpArgs false
set_option maxRecDepth 100000
namespace Go.Proofs.YtfhjhaogmdaepaaGreatDoor
open Go Go.RowKit Go.Proofs
/-- A byte of an address. -/
def bF (a : Int) (j : Nat) : Int := IntKind.u8.wrap (shrI .u64 a (8 * (j : Int)))
def be8 (a : Int) : List Int := (List.range 8).map fun i => bF a (7 - i)
theorem be8_length (a : Int) : (be8 a).length = 8 := by simp [be8]
theorem be8_next (a : Int) (j : Nat) (h : j < 8) : (be8 a).take (j + 1) = (be8 a).take j ++ [bF a (7 - j)] := by
 rw [List.take_add_one]
 congr 1
 rw [List.getElem?_eq_getElem (by rw [be8_length]; exact h)]
 simp [be8]
/-- The seal of an address and a message. -/
def sealH (a : Int) (xs : List Int) : List Int := (sha (be8 a ++ xs)).take 16
theorem sealH_length (a : Int) (xs : List Int) : (sealH a xs).length = 16 := by simp [sealH, sha_length]
theorem splice_full {cs news : List Value} (h : news.length = cs.length) : splice cs 0 news = news := by
 unfold splice
 simp [h]
/-- The first i bytes of a text, then zeros. -/
def cp16 (H : List Int) (i : Nat) : List Value := ints .u8 (H.take i ++ List.replicate (16 - i) 0)
theorem cp16_zero (H : List Int) : cp16 H 0 = List.replicate 16 (.int .u8 0) := by simp [cp16, ints]
theorem cp16_length {H : List Int} {i : Nat} (h : 16 ≤ H.length) (hi : i ≤ 16) : (cp16 H i).length = 16 := by simp [cp16, ints]; omega
theorem cp16_next {H : List Int} {i : Nat} (h : 16 ≤ H.length) (hi : i < 16) : (cp16 H i).set i (.int .u8 (H.getD i 0)) = cp16 H (i + 1) := by
 unfold cp16 ints
 have e : Value.int .u8 (H.getD i 0) = (fun x => Value.int .u8 x) (H.getD i 0) := rfl
 rw [e, ← List.map_set]
 congr 1
 rw [List.set_append_right _ _ (by rw [List.length_take]; omega)]
 rw [List.length_take, Nat.min_eq_left (by omega), Nat.sub_self]
 obtain ⟨k, hk⟩ : ∃ k, 16 - i = k + 1 := ⟨15 - i, by omega⟩
 rw [hk, List.replicate_succ, List.set_cons_zero, List.take_add_one, show 16 - (i + 1) = k by omega, List.append_assoc]
 congr 1
 rw [List.getElem?_eq_getElem (by omega)]
 simp [List.getD_eq_getElem?_getD, List.getElem?_eq_getElem (show i < H.length by omega)]
theorem cp16_full (H : List Int) : cp16 H 16 = ints .u8 (H.take 16) := by simp [cp16]
theorem seal_ok {gl : Nat → Obj} (hG : Globs gl) (a : Int) (base : Option Addr) (c : Nat) (xs : List Int) (hmax : xs.length ≤ 140737488355000) : SpecV (cx gl) 155 [.int .u64 a, .slice base xs.length c] (fun w => Row w base (ints .u8 xs)) (.agg (ints .u8 (sealH a xs)).toArray) := by
 refine Spec.enter (C := cx gl) Tryz.func155 rfl 33 rfl rfl fun w0 h0 hsep hsub hpre => ?_
 obtain rfl : h0 = Heap.none := hsep
 show St (cx gl) _ [(0, .int .u64 a), (1, .slice base xs.length c)] _ _
 have hl : (be8 a ++ xs).length = 8 + xs.length := by rw [List.length_append, be8_length]
 refine R_seq ?_
 refine R_region ?_
 refine L_op rfl (W_alloc rfl rfl rfl ty_ze_86 fun b4 => ?_)
 refine L_nil ?_
 refine Q_then ?_
 refine R_seq ?_
 refine R_region ?_
 refine L_val rfl rfl rfl (OpP.v (P_move rfl rfl)) ?_
 refine L_val rfl rfl rfl (OpP.v (P_len rfl ty_sl_48 rfl)) ?_
 first | (refine L_val rfl rfl rfl (OpP.v (P_addN rfl rfl rfl (by simp only [fits]; omega))) ?_) | (refine L_val rfl rfl rfl (OpP.v (P_add rfl rfl rfl)) ?_)
 refine E_nat (t := 10) (n := 8 + xs.length) rfl (by omega) ?_
 refine L_op rfl (W_make0 (n := 8 + xs.length) rfl rfl rfl ty_sl_48 ty_ze_5 rfl rfl (by omega) (by simp only [maxLen]; omega) fun v11 => ?_)
 refine L_val rfl rfl rfl (OpP.v (P_assign rfl rfl)) ?_
 refine L_nil ?_
 refine St.env (.cons (t := 0) rfl (.cons (t := 1) rfl (.cons (t := 4) rfl (.cons (t := 5) rfl .nil)))) ?_
 refine Q_then ?_
 refine R_seq ?_
 refine R_seq ?_
 refine R_region ?_
 refine L_val rfl rfl rfl (OpP.v (P_move rfl rfl)) ?_
 refine L_nil ?_
 refine Q_then ?_
 refine R_block ?_
 refine R_loopE (G := Value × Nat) (.cons (t := 0) rfl (.cons (t := 1) rfl (.cons (t := 4) rfl .nil))) (fun g => [(5, g.1), (12, .int .i64 (g.2 : Int))]) (fun g => [ownS 5 1 (g.1) (g.2) (ints .u8 ((be8 a).take g.2)), blk b4 (List.replicate 16 (.int .u8 0)) 86]) (fun g => g.2 ≤ 8) (fun g => 8 - g.2) (v11, 0) (Nat.zero_le _) (by repeat (first | exact .nil | refine .cons rfl ?_ | refine .consE rfl (by first | rfl | (congr 1; omega) | (congr 1; push_cast; omega)) ?_)) (Weak.refl _) ?_
 rintro ⟨v, i⟩ hinv
 replace hinv : i ≤ 8 := hinv
 show St (cx gl) _ ((5, v) :: (12, .int .i64 (i : Int)) :: _) [ownS 5 1 (v) (i) (ints .u8 ((be8 a).take i)), blk b4 (List.replicate 16 (.int .u8 0)) 86] _
 have hi := hinv
 refine R_seq ?_
 refine R_region ?_
 refine L_val rfl rfl rfl (OpP.v (P_lss rfl rfl rfl)) ?_
 refine L_nil ?_
 refine Q_then ?_
 refine R_seq ?_
 refine R_condP rfl (fun hlt => ?_) (fun hlt => ?_)
 ·skip
  refine R_skip ?_
  refine Q_then ?_
  refine R_seq ?_
  refine R_block ?_
  refine R_seq ?_
  refine R_region ?_
  refine L_val rfl rfl rfl (OpP.v (P_move rfl rfl)) ?_
  refine L_val rfl rfl rfl (OpP.v (P_assign rfl rfl)) ?_
  refine L_nil ?_
  refine Q_then ?_
  refine R_region ?_
  refine L_val rfl rfl rfl (OpP.v (P_move rfl rfl)) ?_
  refine L_val rfl rfl rfl (OpP.v (P_move rfl rfl)) ?_
  refine L_val rfl rfl rfl (OpP.v (P_move rfl rfl)) ?_
  first | (refine L_val rfl rfl rfl (OpP.v (P_mulN rfl rfl rfl (by simp only [fits]; omega))) ?_) | (refine L_val rfl rfl rfl (OpP.v (P_mul rfl rfl rfl)) ?_)
  first | (refine L_val rfl rfl rfl (OpP.v (P_subN rfl rfl rfl (by simp only [fits]; omega))) ?_) | (refine L_val rfl rfl rfl (OpP.v (P_sub rfl rfl rfl)) ?_)
  refine L_val rfl rfl rfl (OpP.v (P_shr rfl rfl rfl (by omega))) ?_
  refine L_val rfl rfl rfl (OpP.v (P_conv rfl ty_int_27 ty_int_5 rfl)) ?_
  refine E_as (t := 21) (v' := .int .u8 (bF a (7 - i))) rfl (by unfold bF; congr 3; omega) ?_
  refine L_op rfl (W_lit (z := .nilIface) (ints .u8 [bF a (7 - i)]) rfl rfl rfl ty_sl_48 ty_lz_48 rfl rfl rfl (by decide) (by decide) (by simp [Value.cells]) (rfl) fun b22 => ?_)
  refine L_op rfl (W_append (p := [_]) rfl rfl rfl ty_sl_48 ty_ap_48 ty_src_48 rfl rfl rfl (Src.slice (sz := 1) (news := ints .u8 [bF a (7 - i)]) (Rds.blk .h0) rfl ints_one) (by omega) (by simp only [maxLen]; omega) fun v23 => ?_)
  refine L_val rfl rfl rfl (OpP.v (P_assign rfl rfl)) ?_
  refine L_nil ?_
  refine Q_block ?_
  refine Q_then ?_
  refine R_region ?_
  first | (refine L_val rfl rfl rfl (OpP.v (P_addN rfl rfl rfl (by simp only [fits]; omega))) ?_) | (refine L_val rfl rfl rfl (OpP.v (P_add rfl rfl rfl)) ?_)
  refine L_val rfl rfl rfl (OpP.v (P_move rfl rfl)) ?_
  refine L_nil ?_
  exact Q_round (v23, i + 1) (by show (i + 1) ≤ 8; omega) (by show 8 - (i + 1) < 8 - i; omega) (by repeat (first | exact .nil | refine .cons rfl ?_ | refine .consE rfl (by first | rfl | (congr 1; omega) | (congr 1; push_cast; omega)) ?_)) (Weak.drop (ownS.to rfl (by rw [be8_next _ _ (by omega), ints_append])))
 ·skip
  obtain rfl : i = 8 := by omega
  refine R_exit ?_
  refine Q_then_exit ?_
  refine Q_then_exit ?_
  refine Q_block_eq ?_
  refine St.env (.cons (t := 1) rfl (.cons (t := 4) rfl (.cons (t := 5) rfl .nil))) ?_
  refine Q_then ?_
  refine R_seq ?_
  refine R_region ?_
  refine L_val rfl rfl rfl (OpP.v (P_move rfl rfl)) ?_
  refine L_val rfl rfl rfl (OpP.v (P_move rfl rfl)) ?_
  refine L_op rfl (W_append (p := []) rfl rfl rfl ty_sl_48 ty_ap_48 ty_src_48 rfl rfl rfl (Src.row (Sn.row hpre rfl).rw_ (by rw [ints_length]; omega) ints_one) (by omega) (by simp only [maxLen]; omega) fun v27 => ?_)
  refine St.ownForm (p := []) fun ub uc huv huc => ?_
  subst huv
  refine St.res (rs' := [ownS 5 1 (.slice ub (8 + xs.length) uc) (8 + xs.length) (ints .u8 (be8 a ++ xs)), blk b4 (List.replicate 16 (.int .u8 0)) 86]) (ownS.to rfl (by rw [List.take_of_length_le (by rw [be8_length]; omega), ints_append])) ?_
  refine L_op rfl (W_callV rfl rfl rfl rfl fn_ca_123 (by have h := sum_ok hG ub uc (be8 a ++ xs) (by rw [hl]; exact huc); rw [hl] at h; exact h) ((Sn.own .h0 rfl).rw_) ?_)
  refine L_op rfl (W_alloc rfl rfl rfl ty_ze_29 fun b7 => ?_)
  refine L_op rfl (W_storeAll rfl rfl rfl rfl ty_ag_29 (by rw [ints_length, sha_length]) (ints_one) .h0 (by rw [ints_length, sha_length]; rfl) ?_)
  refine L_nil ?_
  refine St.env (.cons (t := 4) rfl (.cons (t := 7) rfl .nil)) ?_
  refine Q_then ?_
  refine R_seq ?_
  refine R_open [(0, 0), (1, 0), (2, 3)] mixed (by kernel_rfl) (QOk.then QOk.body) ?_
  refine O_pure rfl rfl rfl rfl (P_sliceAll rfl ty_ar_86 rfl) ?_
  refine O_pure rfl rfl rfl rfl (P_sliceAll rfl ty_ar_29 rfl) ?_
  refine O_new rfl rfl (W_copy (k := 16) (news := ints .u8 (sealH a xs)) rfl rfl rfl ty_sl_48 rfl rfl rfl (rfl) (fun w nw => by have := Src.part (C := cx gl) (sz := 1) (k := 16) (m := 32) (c := 32) (Sn.ofBlk .h0).rw_ (by rw [ints_length, sha_length]; decide) w nw; rwa [Nat.mul_one, ints_take] at this) (ints_one) .h2 (by rw [ints_length, sealH_length]; simp) (K_new ?_))
  rw [splice_full (by rw [ints_length, sealH_length]; rfl)]
  refine O_nil ?_
  refine St.env (.cons (t := 4) rfl .nil) ?_
  refine Q_then ?_
  refine R_seq ?_
  refine R_region ?_
  refine L_val rfl rfl rfl (V_loadAgg rfl rfl ty_ag_86 (Rds.blk .h2) (by rw [ints_length, sealH_length])) ?_
  refine L_op rfl (W_storeAll rfl rfl rfl rfl ty_ag_86 (by rw [ints_length, sealH_length]) (ints_one) .h2 (by simp [ints_length, sealH_length]) ?_)
  refine L_nil ?_
  refine St.env (.cons (t := 4) rfl .nil) ?_
  refine Q_then ?_
  refine R_ret ?_
  exact R_endV rfl rfl (.cell rfl (Rds.loadVar ty_ag_86 (Rds.blk .h2) (by rw [ints_length, sealH_length])) .nil) (rfl)
theorem of_ok {gl : Nat → Obj} (hG : GlobsR gl) (a : Int) (base : Option Addr) (c : Nat) (xs : List Int) (hmax : xs.length ≤ 140737488355000) : SpecV (cx gl) 157 [.int .u64 a, .slice base xs.length c] (fun w => Row w base (ints .u8 xs)) (.agg (ints .u8 (sealH a xs)).toArray) := by
 refine Spec.enter (C := cx gl) Tryz.func157 rfl 38 rfl rfl fun w0 h0 hsep hsub hpre => ?_
 obtain rfl : h0 = Heap.none := hsep
 show St (cx gl) _ [(0, .int .u64 a), (1, .slice base xs.length c)] _ _
 have hl : (be8 a ++ xs).length = 8 + xs.length := by rw [List.length_append, be8_length]
 have hsl := sha_length (be8 a ++ xs)
 refine R_seq ?_
 refine R_region ?_
 refine L_op rfl (W_alloc rfl rfl rfl ty_ze_86 fun b4 => ?_)
 refine L_nil ?_
 refine Q_then ?_
 refine R_seq ?_
 refine R_region ?_
 refine L_val rfl rfl rfl (OpP.v (P_assign rfl rfl)) ?_
 refine L_nil ?_
 refine Q_then ?_
 refine R_seq ?_
 refine R_seq ?_
 refine St.res (rs' := [ownS 5 1 (.slice none 0 0) (0) ([]), blk b4 (List.replicate 16 (.int .u8 0)) 86]) (Weak.newNil) ?_
 refine R_region ?_
 refine L_val rfl rfl rfl (OpP.v (P_assign rfl rfl)) ?_
 refine L_nil ?_
 refine Q_then ?_
 refine R_block ?_
 refine R_loopE (G := Value × Nat) (.cons (t := 0) rfl (.cons (t := 1) rfl (.cons (t := 4) rfl .nil))) (fun g => [(5, g.1), (6, .int .i64 (7 - (g.2 : Int)))]) (fun g => [ownS 5 1 (g.1) (g.2) (ints .u8 ((be8 a).take g.2)), blk b4 (List.replicate 16 (.int .u8 0)) 86]) (fun g => g.2 ≤ 8) (fun g => 8 - g.2) (.slice none 0 0, 0) (Nat.zero_le _) (by repeat (first | exact .nil | refine .cons rfl ?_ | refine .consE rfl (by first | rfl | (congr 1; omega) | (congr 1; push_cast; omega)) ?_)) (Weak.refl _) ?_
 rintro ⟨v, i⟩ hinv
 replace hinv : i ≤ 8 := hinv
 show St (cx gl) _ ((5, v) :: (6, .int .i64 (7 - (i : Int))) :: _) [ownS 5 1 (v) (i) (ints .u8 ((be8 a).take i)), blk b4 (List.replicate 16 (.int .u8 0)) 86] _
 have hi := hinv
 refine R_seq ?_
 refine R_seq ?_
 refine R_region ?_
 refine L_val rfl rfl rfl (OpP.v (P_move rfl rfl)) ?_
 refine L_val rfl rfl rfl (OpP.v (P_geq rfl rfl rfl)) ?_
 refine L_nil ?_
 refine Q_then ?_
 refine R_condP rfl (fun hlt => ?_) (fun hlt => ?_)
 ·skip
  have hlt : i < 8 := by omega
  refine R_skip ?_
  refine Q_then ?_
  refine R_seq ?_
  refine R_block ?_
  refine R_region ?_
  refine L_val rfl rfl rfl (OpP.v (P_move rfl rfl)) ?_
  refine L_val rfl rfl rfl (OpP.v (P_move rfl rfl)) ?_
  refine L_val rfl rfl rfl (OpP.v (P_move rfl rfl)) ?_
  first | (refine L_val rfl rfl rfl (OpP.v (P_mulN rfl rfl rfl (by simp only [fits]; omega))) ?_) | (refine L_val rfl rfl rfl (OpP.v (P_mul rfl rfl rfl)) ?_)
  refine L_val rfl rfl rfl (OpP.v (P_convN rfl ty_int_3 ty_int_133 rfl (by simp only [fits]; omega))) ?_
  refine L_val rfl rfl rfl (OpP.v (P_shr rfl rfl rfl (by omega))) ?_
  refine L_val rfl rfl rfl (OpP.v (P_conv rfl ty_int_24 ty_int_5 rfl)) ?_
  refine E_as (t := 20) (v' := .int .u8 (bF a (7 - i))) rfl (by unfold bF; congr 3; omega) ?_
  refine L_op rfl (W_lit (z := .nilIface) (ints .u8 [bF a (7 - i)]) rfl rfl rfl ty_sl_48 ty_lz_48 rfl rfl rfl (by decide) (by decide) (by simp [Value.cells]) (rfl) fun b21 => ?_)
  refine L_op rfl (W_append (p := [_]) rfl rfl rfl ty_sl_48 ty_ap_48 ty_src_48 rfl rfl rfl (Src.slice (sz := 1) (news := ints .u8 [bF a (7 - i)]) (Rds.blk .h0) rfl ints_one) (by omega) (by simp only [maxLen]; omega) fun v22 => ?_)
  refine L_val rfl rfl rfl (OpP.v (P_assign rfl rfl)) ?_
  refine L_nil ?_
  refine Q_block ?_
  refine Q_then ?_
  refine R_region ?_
  refine L_val rfl rfl rfl (OpP.v (P_move rfl rfl)) ?_
  first | (refine L_val rfl rfl rfl (OpP.v (P_subN rfl rfl rfl (by simp only [fits]; omega))) ?_) | (refine L_val rfl rfl rfl (OpP.v (P_sub rfl rfl rfl)) ?_)
  refine L_val rfl rfl rfl (OpP.v (P_assign rfl rfl)) ?_
  refine L_nil ?_
  exact Q_round (v22, i + 1) (by show (i + 1) ≤ 8; omega) (by show 8 - (i + 1) < 8 - i; omega) (by repeat (first | exact .nil | refine .cons rfl ?_ | refine .consE rfl (by first | rfl | (congr 1; omega) | (congr 1; push_cast; omega)) ?_)) (Weak.drop (ownS.to rfl (by rw [be8_next _ _ (by omega), ints_append])))
 ·skip
  obtain rfl : i = 8 := by omega
  refine R_exit ?_
  refine Q_then_exit ?_
  refine Q_then_exit ?_
  refine Q_block_eq ?_
  refine St.env (.cons (t := 1) rfl (.cons (t := 4) rfl (.cons (t := 5) rfl .nil))) ?_
  refine Q_then ?_
  refine R_seq ?_
  refine R_region ?_
  refine L_val rfl rfl rfl (OpP.v (P_move rfl rfl)) ?_
  refine L_val rfl rfl rfl (OpP.v (P_move rfl rfl)) ?_
  refine L_op rfl (W_append (p := []) rfl rfl rfl ty_sl_48 ty_ap_48 ty_src_48 rfl rfl rfl (Src.row (Sn.row hpre rfl).rw_ (by rw [ints_length]; omega) ints_one) (by omega) (by simp only [maxLen]; omega) fun v25 => ?_)
  refine St.ownForm (p := []) fun ub uc huv huc => ?_
  subst huv
  refine St.res (rs' := [ownS 5 1 (.slice ub (8 + xs.length) uc) (8 + xs.length) (ints .u8 (be8 a ++ xs)), blk b4 (List.replicate 16 (.int .u8 0)) 86]) (ownS.to rfl (by rw [List.take_of_length_le (by rw [be8_length]; omega), ints_append])) ?_
  refine L_val rfl rfl rfl (OpP.v (P_assign rfl rfl)) ?_
  refine L_nil ?_
  refine St.env (.cons (t := 4) rfl (.cons (t := 5) rfl .nil)) ?_
  refine Q_then ?_
  refine R_seq ?_
  refine R_region ?_
  refine L_val rfl rfl rfl (OpP.v (P_move rfl rfl)) ?_
  refine L_op rfl (W_callV rfl rfl rfl rfl fn_ca_17 (by have h := rsum_ok hG ub uc (be8 a ++ xs) (by rw [hl]; exact huc) (by omega); rw [hl] at h; exact h) ((Sn.own .h0 rfl).rw_) ?_)
  refine L_op rfl (W_alloc rfl rfl rfl ty_ze_29 fun b7 => ?_)
  refine L_op rfl (W_storeAll rfl rfl rfl rfl ty_ag_29 (by rw [ints_length, sha_length]) (ints_one) .h0 (by rw [ints_length, sha_length]; rfl) ?_)
  refine L_nil ?_
  refine St.env (.cons (t := 4) rfl (.cons (t := 7) rfl .nil)) ?_
  refine Q_then ?_
  refine R_seq ?_
  refine R_region ?_
  refine L_op rfl (W_alloc rfl rfl rfl ty_ze_86 fun b8 => ?_)
  refine L_nil ?_
  refine Q_then ?_
  refine R_seq ?_
  refine R_seq ?_
  refine R_region ?_
  refine L_val rfl rfl rfl (OpP.v (P_assign rfl rfl)) ?_
  refine L_nil ?_
  refine Q_then ?_
  refine R_block ?_
  refine R_loopE (G := Nat) (.cons (t := 4) rfl (.cons (t := 7) rfl (.cons (t := 8) rfl .nil))) (fun g => [(9, .int .i64 (g : Int))]) (fun g => [blk b8 (cp16 (sha (be8 a ++ xs)) g) 86, blk b7 (ints .u8 (sha (be8 a ++ xs))) 29, blk b4 (List.replicate 16 (.int .u8 0)) 86]) (fun g => g ≤ 16) (fun g => 16 - g) (0) (Nat.zero_le _) (by repeat (first | exact .nil | refine .cons rfl ?_ | refine .consE rfl (by first | rfl | (congr 1; omega) | (congr 1; push_cast; omega)) ?_)) (by rw [cp16_zero]; exact Weak.keep (Weak.keep (Weak.drop (Weak.refl _)))) ?_
  intro j hinv
  replace hinv : j ≤ 16 := hinv
  show St (cx gl) _ ((9, .int .i64 (j : Int)) :: _) [blk b8 (cp16 (sha (be8 a ++ xs)) j) 86, blk b7 (ints .u8 (sha (be8 a ++ xs))) 29, blk b4 (List.replicate 16 (.int .u8 0)) 86] _
  have hj := hinv
  refine R_seq ?_
  refine R_seq ?_
  refine R_region ?_
  refine L_val rfl rfl rfl (OpP.v (P_move rfl rfl)) ?_
  refine L_val rfl rfl rfl (OpP.v (P_lss rfl rfl rfl)) ?_
  refine L_nil ?_
  refine Q_then ?_
  refine R_condP rfl (fun hlt2 => ?_) (fun hlt2 => ?_)
  ·skip
   refine R_skip ?_
   refine Q_then ?_
   refine R_seq ?_
   refine R_block ?_
   refine R_region ?_
   refine L_val rfl rfl rfl (OpP.v (P_move rfl rfl)) ?_
   refine L_val rfl rfl rfl (OpP.v (P_move rfl rfl)) ?_
   first | (refine L_val rfl rfl rfl (OpP.v (P_ixa0 (j) rfl ty_ar_29 rfl rfl (by first | rfl | omega) (by omega))) ?_) | (refine L_val rfl rfl rfl (OpP.v (P_ixa (j) rfl ty_ar_29 rfl rfl (by first | rfl | omega) (by omega))) ?_)
   refine L_val rfl rfl rfl (V_load rfl rfl ty_sc_5 (Rd.blk .h1 (ints_at (k := .u8) (xs := sha (be8 a ++ xs)) (i := j) (by omega)))) ?_
   first | (refine L_val rfl rfl rfl (OpP.v (P_ixa0 (j) rfl ty_ar_86 rfl rfl (by first | rfl | omega) (by omega))) ?_) | (refine L_val rfl rfl rfl (OpP.v (P_ixa (j) rfl ty_ar_86 rfl rfl (by first | rfl | omega) (by omega))) ?_)
   refine L_op rfl (W_store rfl rfl rfl rfl ty_sc_5 rfl .h0 (by rw [cp16_length (by omega) (by omega)]; omega) ?_)
   refine L_nil ?_
   refine Q_block ?_
   refine Q_then ?_
   refine R_region ?_
   refine L_val rfl rfl rfl (OpP.v (P_move rfl rfl)) ?_
   first | (refine L_val rfl rfl rfl (OpP.v (P_addN rfl rfl rfl (by simp only [fits]; omega))) ?_) | (refine L_val rfl rfl rfl (OpP.v (P_add rfl rfl rfl)) ?_)
   refine L_val rfl rfl rfl (OpP.v (P_assign rfl rfl)) ?_
   refine L_nil ?_
   exact Q_round (j + 1) (by show (j + 1) ≤ 16; omega) (by show 16 - (j + 1) < 16 - j; omega) (by repeat (first | exact .nil | refine .cons rfl ?_ | refine .consE rfl (by first | rfl | (congr 1; omega) | (congr 1; push_cast; omega)) ?_)) (by rw [cp16_next (by omega) (by omega)]; exact Weak.refl _)
  ·skip
   obtain rfl : j = 16 := by omega
   refine R_exit ?_
   refine Q_then_exit ?_
   refine Q_then_exit ?_
   refine Q_block_eq ?_
   refine St.env (.cons (t := 4) rfl (.cons (t := 8) rfl .nil)) ?_
   refine Q_then ?_
   refine R_seq ?_
   refine R_region ?_
   refine L_val rfl rfl rfl (V_loadAgg rfl rfl ty_ag_86 (Rds.blk .h0) (by rw [cp16_length (by omega) (by omega)])) ?_
   refine E_as (t := 37) (v' := .agg (ints .u8 (sealH a xs)).toArray) rfl (by rw [cp16_full]; rfl) ?_
   refine L_op rfl (W_storeAll rfl rfl rfl rfl ty_ag_86 (by rw [ints_length, sealH_length]) (ints_one) .h2 (by simp [ints_length, sealH_length]) ?_)
   refine L_nil ?_
   refine St.env (.cons (t := 4) rfl .nil) ?_
   refine Q_then ?_
   refine R_ret ?_
   exact R_endV rfl rfl (.cell rfl (Rds.loadVar ty_ag_86 (Rds.blk .h2) (by rw [ints_length, sealH_length])) .nil) (rfl)
end Go.Proofs.YtfhjhaogmdaepaaGreatDoor

/- A registry: Enter, Addr. Printed by gen.py. -/
set_option linter.unusedVariables false
set_option linter.unusedSimpArgs false
set_option maxRecDepth 100000
namespace Go.Proofs.YtfhjhaogmdaepaaGreatDoor
open Go Go.RowKit Go.Proofs
theorem sgP_none {sg : List (Int × Nat)} {a : Int} (h : isIn sg a = false) : sgP sg a = none := by
 unfold isIn at h
 cases e : sgP sg a with
 | none => rfl
 | some _ => rw [e] at h; cases h
theorem set_sg {sg : List (Int × Nat)} {a : Int} (b : Nat) (h : isIn sg a = false) : setK a (.pointer (some ⟨b, 0, none⟩)) (sgM sg) = sgM (sg ++ [(a, b)]) := by
 have h1 := look_sg sg a
 rw [sgP_none h] at h1
 have h2 : findK a (sgM sg) 0 = none := by
  cases e : findK a (sgM sg) 0 with
  | none => rfl
  | some p =>
   obtain ⟨i, v⟩ := p
   have hf := findK_map (fun x : Int × Nat => x.1) (fun x => Value.pointer (some ⟨x.2, 0, none⟩)) a sg 0
   have hs : (sgP sg a) = none := sgP_none h
   unfold sgP at hs
   have hs2 : sg.find? (fun x => decide (x.1 = a)) = none := by
    cases e2 : sg.find? (fun x => decide (x.1 = a)) with
    | none => rfl
    | some y => rw [e2] at hs; cases hs
   rw [hs2] at hf
   have e : findK a (sg.map fun x => (x.1, Value.pointer (some ⟨x.2, 0, none⟩))) 0 = some (i, v) := e
   rw [e] at hf; cases hf
 unfold setK
 rw [h2]
 simp [sgM]
section
variable {C : Cx} {F : Fx} {rs : List HP}
theorem rd_sg {p i : Nat} {a : Int} {s : Nat} {sg : List (Int × Nat)} (m : Has rs (fam (sgH p) sg) (fam (sgH p) sg) rs) (hi : sg[i]? = some (a, s)) : Rd C F rs ⟨s, 0, none⟩ (.pointer (some ⟨p, 0, none⟩)) ∧ Rd C F rs ⟨s, 1, none⟩ (.int .u64 a) := by
 have h : Sn C F rs (some ⟨s, 0, none⟩) [.pointer (some ⟨p, 0, none⟩), .int .u64 a] := Sn.fam m hi fun rs m => Sn.ofBlk m
 have key : ∀ (j : Nat) (u : Value), [Value.pointer (some ⟨p, 0, none⟩), .int .u64 a][j]? = some u → Rd C F rs ⟨s, j, none⟩ u := fun j u hu w nw => by
  obtain ⟨ad, e, hc⟩ := h.rw_ w nw j u hu
  rw [Option.some.injEq] at e
  subst e
  rwa [add_zero_off, Nat.zero_add] at hc
 exact ⟨key 0 _ rfl, key 1 _ rfl⟩
end
theorem enter_zero {gl : Nat → Obj} (p : Nat) (sg : List (Int × Nat)) (rc : List Rcd) : SpecR (cx gl) 97 [.pointer (some ⟨p, 0, none⟩), .int .u64 0] (fun _ _ => True) [REG p sg rc] (.tuple #[.pointer none, .int .i64 2]) [REG p sg rc] := by
 refine Spec.enterX (C := cx gl) Tryz.func97 rfl 36 rfl rfl fun w0 h0 hsep hsub hpre => ?_
 show St (cx gl) _ [(0, .pointer (some ⟨p, 0, none⟩)), (1, .int .u64 0)] _ _
 refine St.openP (p := []) (fun ⟨m1, m2, m3, sd⟩ hreg => ?_)
 refine St.unbundle [] ?_
 refine R_seq ?_
 refine R_region ?_
 refine L_val rfl rfl rfl (OpP.v (P_assign rfl rfl)) ?_
 refine L_val rfl rfl rfl (OpP.v (P_assign rfl rfl)) ?_
 refine L_nil ?_
 refine Q_then ?_
 refine R_seq ?_
 refine R_seq ?_
 refine R_region ?_
 refine L_val rfl rfl rfl (OpP.v (P_move rfl rfl)) ?_
 refine L_op rfl (W_callR rfl rfl rfl rfl fn_ca_148 (missing_ok p (.int .i32 0) (.int .u32 0) (.map (some m2)) (.map (some m3)) (some m1)) (Split.one (p := [])) (fun _ _ _ _ _ _ _ => trivial) ?_)
 refine St.res (rs' := [blk p [.int .i32 0, .int .u32 0, .map (some m1), .map (some m2), .map (some m3)] 117, mapK kU64 m1 (sgM sg), mapK recK m2 (rcM rc), mapK kU64 m3 (sdM sd), fam (sgH p) sg, fam sdH sd]) (Weak.refl _) ?_
 refine E_false (t := 8) rfl (rfl) ?_
 refine L_nil ?_
 refine St.env (.cons (t := 0) rfl (.cons (t := 1) rfl (.cons (t := 4) rfl (.cons (t := 5) rfl (.cons (t := 8) rfl .nil))))) ?_
 refine Q_then ?_
 refine R_condF rfl ?_
 refine R_skip ?_
 refine Q_then ?_
 refine R_seq ?_
 refine R_seq ?_
 refine R_region ?_
 refine L_val rfl rfl rfl (OpP.v (P_move rfl rfl)) ?_
 refine L_val rfl rfl rfl (OpP.v (P_eql rfl rfl rfl)) ?_
 refine E_true (t := 10) rfl (rfl) ?_
 refine L_nil ?_
 refine St.env (.cons (t := 0) rfl (.cons (t := 1) rfl (.cons (t := 4) rfl (.cons (t := 5) rfl (.cons (t := 10) rfl .nil))))) ?_
 refine Q_then ?_
 refine R_condT rfl ?_
 refine R_seq ?_
 refine R_region ?_
 refine L_val rfl rfl rfl (OpP.v (P_assign rfl rfl)) ?_
 refine L_val rfl rfl rfl (OpP.v (P_assign rfl rfl)) ?_
 refine L_nil ?_
 refine St.env (.cons (t := 0) rfl (.cons (t := 1) rfl (.cons (t := 4) rfl (.cons (t := 5) rfl .nil)))) ?_
 refine Q_then ?_
 refine R_ret ?_
 refine Q_then_ret ?_
 exact R_endN (rs2 := [REG p (sg) (rc)]) rfl rfl (.tmp rfl (.tmp rfl .nil)) (⟨rfl, rfl⟩) (reg_close (rs := []) hreg)
theorem enter_new {gl : Nat → Obj} (p : Nat) (sg : List (Int × Nat)) (rc : List Rcd) (a : Int) (ha : a ≠ 0) (hin : isIn sg a = false) : Spec (cx gl) 97 [.pointer (some ⟨p, 0, none⟩), .int .u64 a] (fun _ _ => True) [REG p sg rc] (fun v rs => ∃ s, v = .tuple #[.pointer (some ⟨s, 0, none⟩), .int .i64 0] ∧ rs = [REG p (sg ++ [(a, s)]) rc]) := by
 refine Spec.enterX (C := cx gl) Tryz.func97 rfl 36 rfl rfl fun w0 h0 hsep hsub hpre => ?_
 show St (cx gl) _ [(0, .pointer (some ⟨p, 0, none⟩)), (1, .int .u64 a)] _ _
 refine St.openP (p := []) (fun ⟨m1, m2, m3, sd⟩ hreg => ?_)
 refine St.unbundle [] ?_
 refine R_seq ?_
 refine R_region ?_
 refine L_val rfl rfl rfl (OpP.v (P_assign rfl rfl)) ?_
 refine L_val rfl rfl rfl (OpP.v (P_assign rfl rfl)) ?_
 refine L_nil ?_
 refine Q_then ?_
 refine R_seq ?_
 refine R_seq ?_
 refine R_region ?_
 refine L_val rfl rfl rfl (OpP.v (P_move rfl rfl)) ?_
 refine L_op rfl (W_callR rfl rfl rfl rfl fn_ca_148 (missing_ok p (.int .i32 0) (.int .u32 0) (.map (some m2)) (.map (some m3)) (some m1)) (Split.one (p := [])) (fun _ _ _ _ _ _ _ => trivial) ?_)
 refine St.res (rs' := [blk p [.int .i32 0, .int .u32 0, .map (some m1), .map (some m2), .map (some m3)] 117, mapK kU64 m1 (sgM sg), mapK recK m2 (rcM rc), mapK kU64 m3 (sdM sd), fam (sgH p) sg, fam sdH sd]) (Weak.refl _) ?_
 refine E_false (t := 8) rfl (rfl) ?_
 refine L_nil ?_
 refine St.env (.cons (t := 0) rfl (.cons (t := 1) rfl (.cons (t := 4) rfl (.cons (t := 5) rfl (.cons (t := 8) rfl .nil))))) ?_
 refine Q_then ?_
 refine R_condF rfl ?_
 refine R_skip ?_
 refine Q_then ?_
 refine R_seq ?_
 refine R_seq ?_
 refine R_region ?_
 refine L_val rfl rfl rfl (OpP.v (P_move rfl rfl)) ?_
 refine L_val rfl rfl rfl (OpP.v (P_eql rfl rfl rfl)) ?_
 refine E_false (t := 10) rfl (decide_eq_false ha) ?_
 refine L_nil ?_
 refine St.env (.cons (t := 0) rfl (.cons (t := 1) rfl (.cons (t := 4) rfl (.cons (t := 5) rfl (.cons (t := 10) rfl .nil))))) ?_
 refine Q_then ?_
 refine R_condF rfl ?_
 refine R_skip ?_
 refine Q_then ?_
 refine R_seq ?_
 refine R_region ?_
 refine L_val rfl rfl rfl (OpP.v (P_move rfl rfl)) ?_
 refine L_val rfl rfl rfl (OpP.v (P_nil rfl rfl)) ?_
 refine L_val rfl rfl rfl (OpP.v (P_fld0 rfl ty_fl_117_0 rfl)) ?_
 refine L_op rfl (W_callR rfl rfl rfl rfl fn_ca_149 (lock_ok p 117 [.int .u32 0, .map (some m1), .map (some m2), .map (some m3)]) (Split.one (p := [])) (fun _ _ _ _ _ _ _ => trivial) ?_)
 refine St.res (rs' := [blk p [.int .i32 1, .int .u32 0, .map (some m1), .map (some m2), .map (some m3)] 117, mapK kU64 m1 (sgM sg), mapK recK m2 (rcM rc), mapK kU64 m3 (sdM sd), fam (sgH p) sg, fam sdH sd]) (Weak.refl _) ?_
 refine L_nil ?_
 refine St.env (.cons (t := 0) rfl (.cons (t := 1) rfl (.cons (t := 4) rfl (.cons (t := 5) rfl .nil)))) ?_
 refine Q_then ?_
 refine R_seq ?_
 refine R_region ?_
 refine L_val rfl rfl rfl (OpP.v (P_move rfl rfl)) ?_
 refine L_val rfl rfl rfl (OpP.v (P_nil rfl rfl)) ?_
 refine L_val rfl rfl rfl (OpP.v (P_fld0 rfl ty_fl_117_0 rfl)) ?_
 refine L_op rfl (W_defer rfl rfl rfl ?_)
 refine L_nil ?_
 refine St.env (.cons (t := 0) rfl (.cons (t := 1) rfl (.cons (t := 4) rfl (.cons (t := 5) rfl .nil)))) ?_
 refine Q_then ?_
 refine R_seq ?_
 refine R_seq ?_
 refine R_region ?_
 refine L_val rfl rfl rfl (OpP.v (P_move rfl rfl)) ?_
 refine L_val rfl rfl rfl (OpP.v (P_nil rfl rfl)) ?_
 refine L_val rfl rfl rfl (OpP.v (P_fld0 rfl ty_fl_117_1 rfl)) ?_
 refine L_val rfl rfl rfl (V_load rfl rfl ty_sc_113 (by first | exact Rd.blk .h0 rfl | exact Rd.blk .h1 rfl | exact Rd.blk .h2 rfl | exact Rd.blk .h3 rfl | exact Rd.blk .h4 rfl | exact Rd.blk .h5 rfl | exact Rd.blk .h6 rfl | exact Rd.blk .h7 rfl)) ?_
 refine L_val rfl rfl rfl (OpP.v (P_move rfl rfl)) ?_
 refine L_val rfl rfl rfl (V_lookupK rfl ty_map_113 (keyU64 ty_int_27) rfl rfl (trivial) (fun _ _ => trivial) .h1 (run_zeroValue_of ty_zv_169)) ?_
 refine E_as (t := 23) (v' := .pointer (sgP sg a)) rfl (look_sg sg a) ?_
 refine L_val rfl rfl rfl (OpP.v (P_neP rfl ty_ptr_169 rfl rfl)) ?_
 refine E_as (t := 24) (v' := .bool (isIn sg a)) rfl (by simp [isIn]) ?_
 refine E_false (t := 24) rfl (hin) ?_
 refine L_nil ?_
 refine St.env (.cons (t := 0) rfl (.cons (t := 1) rfl (.cons (t := 4) rfl (.cons (t := 5) rfl (.cons (t := 24) rfl .nil))))) ?_
 refine Q_then ?_
 refine R_condF rfl ?_
 refine R_skip ?_
 refine Q_then ?_
 refine R_seq ?_
 refine R_region ?_
 refine L_val rfl rfl rfl (OpP.v (P_move rfl rfl)) ?_
 refine L_val rfl rfl rfl (OpP.v (P_move rfl rfl)) ?_
 refine L_val rfl rfl rfl (OpP.v (P_buildStruct rfl ty_pl_230 ty_ze_230 rfl rfl (rfl))) ?_
 refine L_op rfl (W_box (_) rfl rfl rfl rfl rfl fun b28 => ?_)
 refine L_val rfl rfl rfl (OpP.v (P_assign rfl rfl)) ?_
 refine L_nil ?_
 refine St.env (.cons (t := 0) rfl (.cons (t := 1) rfl (.cons (t := 4) rfl (.cons (t := 5) rfl (.cons (t := 6) rfl .nil))))) ?_
 refine Q_then ?_
 refine R_seq ?_
 refine R_region ?_
 refine L_val rfl rfl rfl (OpP.v (P_move rfl rfl)) ?_
 refine L_val rfl rfl rfl (OpP.v (P_nil rfl rfl)) ?_
 refine L_val rfl rfl rfl (OpP.v (P_fld0 rfl ty_fl_117_1 rfl)) ?_
 refine L_val rfl rfl rfl (V_load rfl rfl ty_sc_113 (by first | exact Rd.blk .h0 rfl | exact Rd.blk .h1 rfl | exact Rd.blk .h2 rfl | exact Rd.blk .h3 rfl | exact Rd.blk .h4 rfl | exact Rd.blk .h5 rfl | exact Rd.blk .h6 rfl | exact Rd.blk .h7 rfl)) ?_
 refine L_val rfl rfl rfl (OpP.v (P_move rfl rfl)) ?_
 refine L_val rfl rfl rfl (OpP.v (P_move rfl rfl)) ?_
 refine L_op rfl (W_mapSet rfl rfl ty_map_113 (keyU64 ty_int_27) rfl rfl rfl (trivial) (fun _ _ => trivial) .h2 .h2 ?_)
 refine St.res (rs' := [blk p [.int .i32 1, .int .u32 0, .map (some m1), .map (some m2), .map (some m3)] 117, mapK kU64 m1 (sgM (sg ++ [(a, b28)])), mapK recK m2 (rcM rc), mapK kU64 m3 (sdM sd), fam (sgH p) (sg ++ [(a, b28)]), fam sdH sd]) (by rw [set_sg b28 hin]; exact Weak.p1 (Weak.p1 (Weak.p1 (Weak.p1 (Weak.famAdd (f := sgH p) (x := (a, b28))))))) ?_
 refine L_nil ?_
 refine St.env (.cons (t := 4) rfl (.cons (t := 5) rfl (.cons (t := 6) rfl .nil))) ?_
 refine Q_then ?_
 refine R_seq ?_
 refine R_region ?_
 refine L_val rfl rfl rfl (OpP.v (P_move rfl rfl)) ?_
 refine L_val rfl rfl rfl (OpP.v (P_assign rfl rfl)) ?_
 refine L_val rfl rfl rfl (OpP.v (P_assign rfl rfl)) ?_
 refine L_nil ?_
 refine St.env (.cons (t := 4) rfl (.cons (t := 5) rfl .nil)) ?_
 refine Q_then ?_
 refine R_ret ?_
 exact R_endX (rs2 := _) rfl fn_ca_150 (unlockD_ok p 117 [.int .u32 0, .map (some m1), .map (some m2), .map (some m3)]) (Split.one (p := [])) (fun _ _ _ _ _ _ _ => trivial) rfl (.tmp rfl (.tmp rfl .nil)) (⟨b28, rfl, rfl⟩) (reg_close (rs := []) hreg)
end Go.Proofs.YtfhjhaogmdaepaaGreatDoor

/- A registry: Check. Printed by gen.py. -/
set_option linter.unusedVariables false
set_option linter.unusedSimpArgs false
set_option maxRecDepth 100000
namespace Go.Proofs.YtfhjhaogmdaepaaGreatDoor
open Go Go.RowKit Go.Proofs
theorem check_ok {gl : Nat → Obj} (hG : Globs gl) (p : Nat) (sg : List (Int × Nat)) (rc : List Rcd) (a : Int) (base : Option Addr) (c : Nat) (xs : List Int) (sl : List Int) (hb : IsB xs) (hmax : xs.length ≤ 140737488355000) (hsl : sl.length = 16) : SpecR (cx gl) 111 [.pointer (some ⟨p, 0, none⟩), .int .u64 a, .slice base xs.length c, .agg (ints .u8 sl).toArray] (fun w h => Seen w h base (ints .u8 xs)) [REG p sg rc] (.bool (decide ((a, xs) ∈ rc) && decide (sl = sealH a xs))) [REG p sg rc] := by
 refine Spec.enterX (C := cx gl) Tryz.func111 rfl 40 rfl rfl fun w0 h0 hsep hsub hpre => ?_
 show St (cx gl) _ [(0, .pointer (some ⟨p, 0, none⟩)), (1, .int .u64 a), (2, .slice base xs.length c), (3, .agg (ints .u8 sl).toArray)] _ _
 refine St.openP (p := []) (fun ⟨m1, m2, m3, sd⟩ hreg => ?_)
 refine St.unbundle [] ?_
 refine R_seq ?_
 refine R_region ?_
 refine L_op rfl (W_box (ints .u8 sl) rfl rfl rfl rfl rfl fun b7 => ?_)
 refine L_val rfl rfl rfl (OpP.v (P_assign rfl rfl)) ?_
 refine L_nil ?_
 refine St.env (.cons (t := 0) rfl (.cons (t := 1) rfl (.cons (t := 2) rfl (.cons (t := 7) rfl (.cons (t := 8) rfl .nil))))) ?_
 refine Q_then ?_
 refine R_seq ?_
 refine R_seq ?_
 refine St.res (rs' := [blk p [.int .i32 0, .int .u32 0, .map (some m1), .map (some m2), .map (some m3)] 117, mapK kU64 m1 (sgM sg), mapK recK m2 (rcM rc), mapK kU64 m3 (sdM sd), fam (sgH p) sg, fam sdH sd, blk b7 (ints .u8 sl) 86]) (Weak.p1 (Weak.p1 (Weak.p1 (Weak.p1 (Weak.p1 (Weak.p1 (Weak.refl _))))))) ?_
 refine R_region ?_
 refine L_val rfl rfl rfl (OpP.v (P_move rfl rfl)) ?_
 refine L_op rfl (W_callR rfl rfl rfl rfl fn_ca_148 (missing_ok p (.int .i32 0) (.int .u32 0) (.map (some m2)) (.map (some m3)) (some m1)) (Split.one (p := [])) (fun _ _ _ _ _ _ _ => trivial) ?_)
 refine St.res (rs' := [blk p [.int .i32 0, .int .u32 0, .map (some m1), .map (some m2), .map (some m3)] 117, mapK kU64 m1 (sgM sg), mapK recK m2 (rcM rc), mapK kU64 m3 (sdM sd), fam (sgH p) sg, fam sdH sd, blk b7 (ints .u8 sl) 86]) (Weak.refl _) ?_
 refine E_false (t := 12) rfl (rfl) ?_
 refine L_nil ?_
 refine St.env (.cons (t := 0) rfl (.cons (t := 1) rfl (.cons (t := 2) rfl (.cons (t := 7) rfl (.cons (t := 8) rfl (.cons (t := 12) rfl .nil)))))) ?_
 refine Q_then ?_
 refine R_condF rfl ?_
 refine R_skip ?_
 refine Q_then ?_
 refine R_seq ?_
 refine R_region ?_
 refine L_val rfl rfl rfl (OpP.v (P_move rfl rfl)) ?_
 refine L_val rfl rfl rfl (OpP.v (P_nil rfl rfl)) ?_
 refine L_val rfl rfl rfl (OpP.v (P_fld0 rfl ty_fl_117_0 rfl)) ?_
 refine L_op rfl (W_callR rfl rfl rfl rfl fn_ca_149 (lock_ok p 117 [.int .u32 0, .map (some m1), .map (some m2), .map (some m3)]) (Split.one (p := [])) (fun _ _ _ _ _ _ _ => trivial) ?_)
 refine St.res (rs' := [blk p [.int .i32 1, .int .u32 0, .map (some m1), .map (some m2), .map (some m3)] 117, mapK kU64 m1 (sgM sg), mapK recK m2 (rcM rc), mapK kU64 m3 (sdM sd), fam (sgH p) sg, fam sdH sd, blk b7 (ints .u8 sl) 86]) (Weak.refl _) ?_
 refine L_nil ?_
 refine St.env (.cons (t := 0) rfl (.cons (t := 1) rfl (.cons (t := 2) rfl (.cons (t := 7) rfl (.cons (t := 8) rfl .nil))))) ?_
 refine Q_then ?_
 refine R_seq ?_
 refine R_region ?_
 refine L_val rfl rfl rfl (OpP.v (P_move rfl rfl)) ?_
 refine L_val rfl rfl rfl (OpP.v (P_nil rfl rfl)) ?_
 refine L_val rfl rfl rfl (OpP.v (P_fld0 rfl ty_fl_117_0 rfl)) ?_
 refine L_op rfl (W_defer rfl rfl rfl ?_)
 refine L_nil ?_
 refine St.env (.cons (t := 0) rfl (.cons (t := 1) rfl (.cons (t := 2) rfl (.cons (t := 7) rfl (.cons (t := 8) rfl .nil))))) ?_
 refine Q_then ?_
 refine R_seq ?_
 refine R_open [(0, 0), (1, 0), (2, 0), (3, 1), (4, 0), (5, 0), (6, 1), (7, 0), (8, 1), (9, 0), (10, 0), (11, 0), (12, 2), (13, 3), (14, 0)] mixed (by kernel_rfl) (QOk.then QOk.bodyX) ?_
 refine O_pure rfl rfl rfl rfl (P_move rfl rfl) ?_
 refine O_pure rfl rfl rfl rfl (P_nil rfl rfl) ?_
 refine O_pure rfl rfl rfl rfl (P_fld0 rfl ty_fl_117_2 rfl) ?_
 refine O_val rfl rfl rfl rfl (V_load rfl rfl ty_sc_114 (by first | exact Rd.blk .h0 rfl | exact Rd.blk .h1 rfl | exact Rd.blk .h2 rfl | exact Rd.blk .h3 rfl | exact Rd.blk .h4 rfl | exact Rd.blk .h5 rfl | exact Rd.blk .h6 rfl | exact Rd.blk .h7 rfl)) ?_
 refine O_pure rfl rfl rfl rfl (P_move rfl rfl) ?_
 refine O_pure rfl rfl rfl rfl (P_move rfl rfl) ?_
 refine O_val rfl rfl rfl rfl (V_str rfl (slB_spec ty_sl_48).1 ty_int_5 ty_str_9 rfl ((Sn.old hpre).rw_)) ?_
 refine O_pure rfl rfl rfl rfl (P_buildStruct rfl ty_pl_238 ty_ze_238 rfl rfl (rfl)) ?_
 refine O_val rfl rfl rfl rfl (V_lookupK (k := (a, xs)) rfl ty_map_114 (keyRec rec_238) rfl rfl (hb) (rcM_ok hreg.1) .h2 (run_zeroValue_of ty_zv_106)) ?_
 refine E_as (t := 29) (v' := .tuple #[.agg #[], .bool (decide ((a, xs) ∈ rc))]) rfl (look_rc rc (a, xs)) ?_
 refine O_pure rfl rfl rfl rfl (P_move rfl rfl) ?_
 refine O_pure rfl rfl rfl rfl (P_extract rfl rfl rfl) ?_
 refine O_pure rfl rfl rfl rfl (P_extract rfl rfl rfl) ?_
 refine O_keep rfl rfl (W_alloc rfl rfl rfl ty_ze_106 fun b9 => (K_keep (Weak.drop (Weak.refl _)) ?_))
 refine O_new rfl rfl (W_storeAll rfl rfl rfl rfl ty_ag_106 (rfl) (fun _ h => by cases h) .h0 (rfl) (K_new ?_))
 refine O_pure rfl rfl rfl rfl (P_assign rfl rfl) ?_
 refine O_nil ?_
 refine St.env (.cons (t := 1) rfl (.cons (t := 2) rfl (.cons (t := 7) rfl (.cons (t := 8) rfl (.cons (t := 10) rfl .nil))))) ?_
 refine Q_then ?_
 refine R_seq ?_
 refine St.res (rs' := [blk p [.int .i32 1, .int .u32 0, .map (some m1), .map (some m2), .map (some m3)] 117, mapK kU64 m1 (sgM sg), mapK recK m2 (rcM rc), mapK kU64 m3 (sdM sd), fam (sgH p) sg, fam sdH sd, blk b7 (ints .u8 sl) 86]) (Weak.drop (Weak.refl _)) ?_
 refine R_open [(0, 0), (1, 0), (2, 1), (3, 0), (4, 0), (5, 2), (6, 0), (7, 0), (8, 0)] mixed (by kernel_rfl) (QOk.then QOk.bodyX) ?_
 refine O_pure rfl rfl rfl rfl (P_move rfl rfl) ?_
 refine O_pure rfl rfl rfl rfl (P_move rfl rfl) ?_
 refine E_bool (t := 33) rfl (fun hok => ?_) (fun hok => ?_)
 ·skip
  refine O_val rfl rfl rfl rfl (V_loadAgg rfl rfl ty_ag_86 (Rds.blk .h6) (by rw [ints_length, hsl])) ?_
  refine O_pure rfl rfl rfl rfl (P_move rfl rfl) ?_
  refine O_pure rfl rfl rfl rfl (P_move rfl rfl) ?_
  refine O_keep rfl rfl (W_callV rfl rfl rfl rfl fn_ca_155 (seal_ok hG a base c xs hmax) ((Sn.old hpre).rw_) (K_keep (Weak.refl _) ?_))
  refine O_pure rfl rfl rfl rfl (P_eqArr rfl rfl rfl ty_un_86 ty_int_5 ty_sc_5 ty_eg_86 (hsl) (sealH_length _ _)) ?_
  refine O_pure rfl rfl rfl rfl (P_pick rfl rfl rfl) ?_
  refine O_pure rfl rfl rfl rfl (P_assign rfl rfl) ?_
  refine O_nil ?_
  refine St.env (.cons (t := 8) rfl .nil) ?_
  refine Q_then ?_
  refine R_ret ?_
  exact R_endX (rs2 := [REG p (sg) (rc)]) rfl fn_ca_150 (unlockD_ok p 117 [.int .u32 0, .map (some m1), .map (some m2), .map (some m3)]) (Split.one (p := [])) (fun _ _ _ _ _ _ _ => trivial) rfl (.tmp rfl .nil) (⟨by show Value.bool _ = Value.bool _; rw [hok]; rfl, rfl⟩) ((reg_close (rs := [blk b7 (ints .u8 sl) 86]) hreg).trans (Weak.keep (Weak.nil _)))
 ·skip
  refine O_noX rfl rfl rfl rfl ?_
  refine O_no rfl rfl rfl rfl ?_
  refine O_no rfl rfl rfl rfl ?_
  refine O_no2 rfl rfl rfl rfl ?_
  refine O_no rfl rfl rfl rfl ?_
  refine O_pure rfl rfl rfl rfl (P_pick rfl rfl rfl) ?_
  refine O_pure rfl rfl rfl rfl (P_assign rfl rfl) ?_
  refine O_nil ?_
  refine St.env (.cons (t := 8) rfl .nil) ?_
  refine Q_then ?_
  refine R_ret ?_
  exact R_endX (rs2 := [REG p (sg) (rc)]) rfl fn_ca_150 (unlockD_ok p 117 [.int .u32 0, .map (some m1), .map (some m2), .map (some m3)]) (Split.one (p := [])) (fun _ _ _ _ _ _ _ => trivial) rfl (.tmp rfl .nil) (⟨by show Value.bool _ = Value.bool _; rw [hok]; rfl, rfl⟩) ((reg_close (rs := [blk b7 (ints .u8 sl) 86]) hreg).trans (Weak.keep (Weak.nil _)))
end Go.Proofs.YtfhjhaogmdaepaaGreatDoor

/- Walks: rows, spends, kind. Printed by gen.py. -/
set_option linter.unusedVariables false
set_option linter.unusedSimpArgs false
set_option maxRecDepth 100000
namespace Go.Proofs.YtfhjhaogmdaepaaGreatDoor
open Go Go.RowKit Go.Proofs
def rowK (h a : Int) : Rel := ⟨h, a, 0, 0⟩
/-- Where a row of a height and an address stands, or would stand. -/
def rowI (r : List Rel) (h a : Int) : Nat := bsN (fun i => decide (laterI (relAt r i) (rowK h a) < 0)) 0 r.length
def rowB (r : List Rel) (h a : Int) : Bool := decide (rowI r h a < r.length) && decide (laterI (relAt r (rowI r h a)) (rowK h a) = 0)
theorem rowI_le (r : List Rel) (h a : Int) : rowI r h a ≤ r.length := (bsN_bound _ _ 0 r.length (Nat.le_refl _) (Nat.zero_le _)).2
/-- What a transaction takes from its sender's balance. -/
def costI (x : Tx) : Int := if x.kind = 1 ∨ x.kind = 2 then x.fee + x.amt else x.fee
/-- What Check asks by the kind. -/
def kindE (L : Led) (p : Par) (h : Int) (x : Tx) (A : Acc) : Int :=
 if x.kind = 1 then (if spotB L.acc x.to = false ∧ 65536 ≤ L.acc.length then 86 else 0)
 else if x.kind = 3 then (if x.amt = 0 ∨ A.bond < x.amt then 82 else if rowB L.rel (h + p.p3) x.frm = false ∧ 65536 ≤ L.rel.length then 86 else 0)
 else if x.kind = 4 then (if A.jail = false then 83 else if A.bond < p.mb then 82 else 0) else 0
def seald (rc : List Rcd) (ch : List Int) (x : Tx) : Bool := decide ((x.frm, txbB ch x) ∈ rc) && decide (x.sg16 = sealH x.frm (txbB ch x))
def timeB (p : Par) (h : Int) : Prop := h = 0 ∨ 1099511627776 < h ∨ 4294967296 < p.p3
instance (p : Par) (h : Int) : Decidable (timeB p h) := inferInstanceAs (Decidable (_ ∨ _ ∨ _))
def senderA (L : Led) (x : Tx) : Acc := accAt L.acc (spotI L.acc x.frm)
/-- What Check answers. -/
def chkE (rc : List Rcd) (ch : List Int) (L : Led) (p : Par) (h : Int) (x : Tx) : Int :=
 if timeB p h then 2 else if txbE ch x ≠ 0 then txbE ch x else if seald rc ch x = false then 84 else if spotB L.acc x.frm = false then 85
 else if x.non ≠ (senderA L x).non ∨ x.non = 18446744073709551615 then 80 else if (senderA L x).bal < costI x then 81 else kindE L p h x (senderA L x)
structure ChkFine (rc : List Rcd) (ch : List Int) (L : Led) (p : Par) (h : Int) (x : Tx) : Prop where
 time : ¬ timeB p h
 tx : txbE ch x = 0
 sealed : seald rc ch x = true
 frm : spotB L.acc x.frm = true
 non : x.non = (senderA L x).non
 top : x.non ≠ 18446744073709551615
 bal : costI x ≤ (senderA L x).bal
 kind : kindE L p h x (senderA L x) = 0
theorem chkFine_of {rc : List Rcd} {ch : List Int} {L : Led} {p : Par} {h : Int} {x : Tx} (he : chkE rc ch L p h x = 0) : ChkFine rc ch L p h x := by
 unfold chkE at he
 split at he
 ·omega
 ·split at he
  ·rename_i h1 h2; exact absurd he h2
  ·split at he
   ·omega
   ·split at he
    ·omega
    ·split at he
     ·omega
     ·split at he
      ·omega
      ·rename_i h1 h2 h3 h4 h5 h6
       exact ⟨h1, Classical.not_not.1 h2, by simpa using h3, by simpa using h4, Classical.not_not.1 fun h7 => h5 (.inl h7), fun h7 => h5 (.inr h7), by omega, he⟩
theorem bsR_ok {gl : Nat → Obj} (h a : Int) (base' : Option Addr) (c' : Nat) (r : List Rel) (hc' : r.length ≤ c') (hm' : r.length ≤ 4398046511104) : SpecV (cx gl) 160 [.slice base' r.length c', .agg (rowK h a).cells.toArray, .func (.func 107) #[] #[]] (fun w => Row w base' (rc r)) (.tuple #[.int .i64 (rowI r h a), .bool (rowB r h a)]) := by
 refine Spec.enter (C := cx gl) Tryz.func160 rfl 49 rfl rfl fun w0 h0 hsep hsub hpre => ?_
 obtain rfl : h0 = Heap.none := hsep
 show St (cx gl) _ [(0, .slice base' r.length c'), (1, .agg (rowK h a).cells.toArray), (2, .func (.func 107) #[] #[])] _ _
 refine R_seq ?_
 refine R_region ?_
 refine L_op rfl (W_box ((rowK h a).cells) rfl rfl rfl rfl rfl fun b4 => ?_)
 refine L_val rfl rfl rfl (OpP.v (P_assign rfl rfl)) ?_
 refine L_val rfl rfl rfl (OpP.v (P_assign rfl rfl)) ?_
 refine L_nil ?_
 refine St.env (.cons (t := 0) rfl (.cons (t := 2) rfl (.cons (t := 4) rfl (.cons (t := 6) rfl (.cons (t := 7) rfl .nil))))) ?_
 refine Q_then ?_
 refine R_seq ?_
 refine R_region ?_
 refine L_val rfl rfl rfl (OpP.v (P_move rfl rfl)) ?_
 refine L_val rfl rfl rfl (OpP.v (P_len rfl ty_sl_23 rfl)) ?_
 refine L_val rfl rfl rfl (OpP.v (P_assign rfl rfl)) ?_
 refine L_nil ?_
 refine St.env (.cons (t := 0) rfl (.cons (t := 2) rfl (.cons (t := 4) rfl (.cons (t := 6) rfl (.cons (t := 7) rfl (.cons (t := 8) rfl .nil)))))) ?_
 refine Q_then ?_
 refine R_seq ?_
 refine R_region ?_
 refine L_val rfl rfl rfl (OpP.v (P_move rfl rfl)) ?_
 refine L_val rfl rfl rfl (OpP.v (P_assign rfl rfl)) ?_
 refine L_val rfl rfl rfl (OpP.v (P_assign rfl rfl)) ?_
 refine L_nil ?_
 refine St.env (.cons (t := 0) rfl (.cons (t := 2) rfl (.cons (t := 4) rfl (.cons (t := 6) rfl (.cons (t := 7) rfl (.cons (t := 8) rfl (.cons (t := 9) rfl (.cons (t := 10) rfl .nil)))))))) ?_
 refine Q_then ?_
 refine R_seq ?_
 refine R_block ?_
 refine R_loopE (G := Nat × Nat) (.cons (t := 0) rfl (.cons (t := 2) rfl (.cons (t := 4) rfl (.cons (t := 6) rfl (.cons (t := 7) rfl (.cons (t := 8) rfl .nil)))))) (fun g => [(9, .int .i64 ((g.1 : Nat) : Int)), (10, .int .i64 ((g.2 : Nat) : Int))]) (fun _ => _) (fun g => g.1 ≤ g.2 ∧ g.2 ≤ r.length ∧ rowI r h a = bsN (fun i => decide (laterI (relAt r i) (rowK h a) < 0)) g.1 g.2) (fun g => g.2 - g.1) (0, r.length) (by show (0) ≤ (r.length) ∧ (r.length) ≤ r.length ∧ rowI r h a = bsN (fun i => decide (laterI (relAt r i) (rowK h a) < 0)) (0) (r.length); exact ⟨Nat.zero_le _, Nat.le_refl _, rfl⟩) (by repeat (first | exact .nil | refine .cons rfl ?_ | refine .consE rfl (by first | rfl | (congr 1; omega) | (congr 1; push_cast; omega)) ?_)) (Weak.refl _) ?_
 rintro ⟨lo, hi⟩ hinv
 replace hinv : lo ≤ hi ∧ hi ≤ r.length ∧ rowI r h a = bsN (fun i => decide (laterI (relAt r i) (rowK h a) < 0)) lo hi := hinv
 show St (cx gl) _ ((9, .int .i64 ((lo : Nat) : Int)) :: (10, .int .i64 ((hi : Nat) : Int)) :: _) _ _
 obtain ⟨h1, h2, h3⟩ := hinv
 refine R_seq ?_
 refine R_seq ?_
 refine R_region ?_
 refine L_val rfl rfl rfl (OpP.v (P_move rfl rfl)) ?_
 refine L_val rfl rfl rfl (OpP.v (P_move rfl rfl)) ?_
 refine L_val rfl rfl rfl (OpP.v (P_lss rfl rfl rfl)) ?_
 refine L_nil ?_
 refine Q_then ?_
 refine R_condP rfl (fun hlt => ?_) (fun hlt => ?_)
 ·skip
  have hx := relAt_get (l := r) (i := (lo + hi) / 2) (by omega)
  obtain ⟨pb, pj, rfl, hrow⟩ := hpre.some_ (by rw [rc_length]; show 0 < _ * 4; omega)
  refine R_skip ?_
  refine Q_then ?_
  refine R_block ?_
  refine R_seq ?_
  refine R_region ?_
  refine L_val rfl rfl rfl (OpP.v (P_move rfl rfl)) ?_
  refine L_val rfl rfl rfl (OpP.v (P_move rfl rfl)) ?_
  first | (refine L_val rfl rfl rfl (OpP.v (P_addN rfl rfl rfl (by simp only [fits]; omega))) ?_) | (refine L_val rfl rfl rfl (OpP.v (P_add rfl rfl rfl)) ?_)
  first | (refine L_val rfl rfl rfl (OpP.v (P_convN rfl ty_int_3 ty_int_133 rfl (by simp only [fits]; omega))) ?_) | (refine L_val rfl rfl rfl (OpP.v (P_conv rfl ty_int_3 ty_int_133 rfl)) ?_)
  refine L_val rfl rfl rfl (OpP.v (P_shr rfl rfl rfl (by omega))) ?_
  refine E_as (t := 22) (v' := .int .u64 (((lo + hi) / 2 : Nat) : Int)) rfl (by have h9 := half_nat (lo + hi); push_cast at h9 ⊢; rw [h9]) ?_
  first | (refine L_val rfl rfl rfl (OpP.v (P_convN rfl ty_int_133 ty_int_3 rfl (by simp only [fits]; omega))) ?_) | (refine L_val rfl rfl rfl (OpP.v (P_conv rfl ty_int_133 ty_int_3 rfl)) ?_)
  refine L_val rfl rfl rfl (OpP.v (P_assign rfl rfl)) ?_
  refine L_nil ?_
  refine Q_then ?_
  refine R_seq ?_
  refine R_open [(0, 0), (1, 0), (2, 0), (3, 0), (4, 1), (5, 1), (6, 2), (7, 0)] mixed (by kernel_rfl) (QOk.then (QOk.block (QOk.then (QOk.block (QOk.then QOk.body))))) ?_
  refine O_pure rfl rfl rfl rfl (P_move rfl rfl) ?_
  refine O_pure rfl rfl rfl rfl (P_move rfl rfl) ?_
  refine O_pure rfl rfl rfl rfl (P_move rfl rfl) ?_
  refine O_pure rfl rfl rfl rfl (P_ixs ((lo + hi) / 2) rfl ty_sl_23 rfl rfl (by first | rfl | omega) (by omega)) ?_
  refine O_val rfl rfl rfl rfl (V_loadAgg rfl rfl ty_ag_135 (rds_rc (Rds.row hrow rfl) hx) (rfl)) ?_
  refine O_val rfl rfl rfl rfl (V_loadAgg rfl rfl ty_ag_135 (Rds.blk .h0) (rfl)) ?_
  refine O_keep rfl rfl (W_callFV (fi := []) (ca := []) rfl rfl rfl rfl rfl rfl fn_ca_107 (later_ok (relAt r ((lo + hi) / 2)) (rowK h a)) (fun _ _ => trivial) (K_keep (Weak.refl _) ?_))
  refine O_pure rfl rfl rfl rfl (P_lss rfl rfl rfl) ?_
  refine O_nil ?_
  refine Q_then ?_
  refine R_condP rfl (fun hb => ?_) (fun hb => ?_)
  ·skip
   refine R_region ?_
   refine L_val rfl rfl rfl (OpP.v (P_move rfl rfl)) ?_
   first | (refine L_val rfl rfl rfl (OpP.v (P_addN rfl rfl rfl (by simp only [fits]; omega))) ?_) | (refine L_val rfl rfl rfl (OpP.v (P_add rfl rfl rfl)) ?_)
   refine L_val rfl rfl rfl (OpP.v (P_assign rfl rfl)) ?_
   refine L_nil ?_
   refine Q_block ?_
   exact Q_round ((lo + hi) / 2 + 1, hi) (by show ((lo + hi) / 2 + 1) ≤ (hi) ∧ (hi) ≤ r.length ∧ rowI r h a = bsN (fun i => decide (laterI (relAt r i) (rowK h a) < 0)) ((lo + hi) / 2 + 1) (hi); exact ⟨by omega, h2, by rw [h3]; exact bsN_up (by omega) (decide_eq_true hb)⟩) (by show hi - ((lo + hi) / 2 + 1) < hi - lo; omega) (by repeat (first | exact .nil | refine .cons rfl ?_ | refine .consE rfl (by first | rfl | (congr 1; omega) | (congr 1; push_cast; omega)) ?_)) (Weak.refl _)
  ·skip
   refine R_region ?_
   refine L_val rfl rfl rfl (OpP.v (P_move rfl rfl)) ?_
   refine L_val rfl rfl rfl (OpP.v (P_assign rfl rfl)) ?_
   refine L_nil ?_
   refine Q_block ?_
   exact Q_round (lo, (lo + hi) / 2) (by show (lo) ≤ ((lo + hi) / 2) ∧ ((lo + hi) / 2) ≤ r.length ∧ rowI r h a = bsN (fun i => decide (laterI (relAt r i) (rowK h a) < 0)) (lo) ((lo + hi) / 2); exact ⟨by omega, by omega, by rw [h3]; exact bsN_down (by omega) (decide_eq_false hb)⟩) (by show (lo + hi) / 2 - lo < hi - lo; omega) (by repeat (first | exact .nil | refine .cons rfl ?_ | refine .consE rfl (by first | rfl | (congr 1; omega) | (congr 1; push_cast; omega)) ?_)) (Weak.refl _)
 ·skip
  have hin : hi = lo := by omega
  have hsp : rowI r h a = lo := by rw [h3]; exact bsN_end (by omega)
  refine R_exit ?_
  refine Q_then_exit ?_
  refine Q_then_exit ?_
  refine Q_block_eq ?_
  refine St.env (.cons (t := 0) rfl (.cons (t := 2) rfl (.cons (t := 4) rfl (.cons (t := 6) rfl (.cons (t := 7) rfl (.cons (t := 8) rfl (.cons (t := 9) rfl .nil))))))) ?_
  refine Q_then ?_
  refine R_seq ?_
  refine R_open [(0, 0), (1, 0), (2, 0), (3, 0), (4, 0), (5, 0), (6, 0), (7, 0), (8, 0), (9, 1), (10, 1), (11, 2), (12, 0), (13, 0), (14, 0), (15, 0)] mixed (by kernel_rfl) (QOk.then QOk.body) ?_
  refine O_pure rfl rfl rfl rfl (P_move rfl rfl) ?_
  refine O_pure rfl rfl rfl rfl (P_move rfl rfl) ?_
  refine O_pure rfl rfl rfl rfl (P_move rfl rfl) ?_
  refine O_pure rfl rfl rfl rfl (P_lss rfl rfl rfl) ?_
  refine E_bool (t := 38) rfl (fun hl2 => ?_) (fun hl2 => ?_)
  ·skip
   have hl2 : lo < r.length := by have := of_decide_eq_true hl2; omega
   have hx := relAt_get hl2
   obtain ⟨pb, pj, rfl, hrow⟩ := hpre.some_ (by rw [rc_length]; show 0 < _ * 4; omega)
   refine O_pure rfl rfl rfl rfl (P_move rfl rfl) ?_
   refine O_pure rfl rfl rfl rfl (P_move rfl rfl) ?_
   refine O_pure rfl rfl rfl rfl (P_move rfl rfl) ?_
   refine O_pure rfl rfl rfl rfl (P_move rfl rfl) ?_
   refine O_pure rfl rfl rfl rfl (P_ixs (lo) rfl ty_sl_23 rfl rfl (by first | rfl | omega) (by omega)) ?_
   refine O_val rfl rfl rfl rfl (V_loadAgg rfl rfl ty_ag_135 (rds_rc (Rds.row hrow rfl) hx) (rfl)) ?_
   refine O_val rfl rfl rfl rfl (V_loadAgg rfl rfl ty_ag_135 (Rds.blk .h0) (rfl)) ?_
   refine O_keep rfl rfl (W_callFV (fi := []) (ca := []) rfl rfl rfl rfl rfl rfl fn_ca_107 (later_ok (relAt r lo) (rowK h a)) (fun _ _ => trivial) (K_keep (Weak.refl _) ?_))
   refine O_pure rfl rfl rfl rfl (P_eql rfl rfl rfl) ?_
   refine O_pure rfl rfl rfl rfl (P_pick rfl rfl rfl) ?_
   refine O_pure rfl rfl rfl rfl (P_assign rfl rfl) ?_
   refine O_pure rfl rfl rfl rfl (P_assign rfl rfl) ?_
   refine O_nil ?_
   refine St.env (.cons (t := 6) rfl (.cons (t := 7) rfl .nil)) ?_
   refine Q_then ?_
   refine R_ret ?_
   exact R_endV rfl rfl (.tmp rfl (.tmp rfl .nil)) (by unfold rowB; rw [hsp]; first | (rw [decide_eq_false hl2]; rfl) | (rw [decide_eq_true hl2, Bool.true_and]; rfl))
  ·skip
   have hl2 : ¬ lo < r.length := by have := of_decide_eq_false hl2; omega
   refine O_pure rfl rfl rfl rfl (P_move rfl rfl) ?_
   refine O_no rfl rfl rfl rfl ?_
   refine O_no rfl rfl rfl rfl ?_
   refine O_no rfl rfl rfl rfl ?_
   refine O_no rfl rfl rfl rfl ?_
   refine O_noX rfl rfl rfl rfl ?_
   refine O_noX rfl rfl rfl rfl ?_
   refine O_no2 rfl rfl rfl rfl ?_
   refine O_no rfl rfl rfl rfl ?_
   refine O_pure rfl rfl rfl rfl (P_pick rfl rfl rfl) ?_
   refine O_pure rfl rfl rfl rfl (P_assign rfl rfl) ?_
   refine O_pure rfl rfl rfl rfl (P_assign rfl rfl) ?_
   refine O_nil ?_
   refine St.env (.cons (t := 6) rfl (.cons (t := 7) rfl .nil)) ?_
   refine Q_then ?_
   refine R_ret ?_
   exact R_endV rfl rfl (.tmp rfl (.tmp rfl .nil)) (by unfold rowB; rw [hsp]; first | (rw [decide_eq_false hl2]; rfl) | (rw [decide_eq_true hl2, Bool.true_and]; rfl))
theorem row_ok {gl : Nat → Obj} (u : Value) (hu : u.oneCell' = true) (base' : Option Addr) (c' : Nat) (r : List Rel) (hc' : r.length ≤ c') (hm' : r.length ≤ 4398046511104) (bu su h a : Int) : SpecV (cx gl) 105 [.agg (ledV u (.slice base' r.length c') bu su).toArray, .int .u64 h, .int .u64 a] (fun w => Row w base' (rc r)) (.tuple #[.int .i64 (rowI r h a), .bool (rowB r h a)]) := by
 refine Spec.enter (C := cx gl) Tryz.func105 rfl 16 rfl rfl fun w0 h0 hsep hsub hpre => ?_
 obtain rfl : h0 = Heap.none := hsep
 show St (cx gl) _ [(0, .agg (ledV u (.slice base' r.length c') bu su).toArray), (1, .int .u64 h), (2, .int .u64 a)] _ _
 refine R_seq ?_
 refine R_region ?_
 refine L_op rfl (W_box (ledV u (.slice base' r.length c') bu su) rfl rfl rfl rfl rfl fun b3 => ?_)
 refine L_val rfl rfl rfl (OpP.v (P_assign rfl rfl)) ?_
 refine L_val rfl rfl rfl (OpP.v (P_assign rfl rfl)) ?_
 refine L_nil ?_
 refine St.env (.cons (t := 1) rfl (.cons (t := 2) rfl (.cons (t := 3) rfl (.cons (t := 6) rfl (.cons (t := 7) rfl .nil))))) ?_
 refine Q_then ?_
 refine R_seq ?_
 refine R_region ?_
 refine L_val rfl rfl rfl (OpP.v (P_fld0 rfl ty_fl_26_1 rfl)) ?_
 refine L_val rfl rfl rfl (V_load rfl rfl ty_sc_23 (Rd.blk .h0 rfl)) ?_
 refine L_val rfl rfl rfl (OpP.v (P_move rfl rfl)) ?_
 refine L_val rfl rfl rfl (OpP.v (P_move rfl rfl)) ?_
 refine L_val rfl rfl rfl (OpP.v (P_buildStruct rfl ty_pl_135 ty_ze_135 rfl rfl (rfl))) ?_
 refine E_as (t := 12) (v' := .agg (rowK h a).cells.toArray) rfl (rfl) ?_
 refine L_op rfl (W_callV rfl rfl rfl rfl fn_ca_160 (bsR_ok h a base' c' r hc' hm') (fun w nw => (Sn.row hpre rfl).rw_ w nw) ?_)
 refine L_val rfl rfl rfl (OpP.v (P_extract rfl rfl rfl)) ?_
 refine L_val rfl rfl rfl (OpP.v (P_extract rfl rfl rfl)) ?_
 refine L_val rfl rfl rfl (OpP.v (P_assign rfl rfl)) ?_
 refine L_val rfl rfl rfl (OpP.v (P_assign rfl rfl)) ?_
 refine L_nil ?_
 refine St.env (.cons (t := 6) rfl (.cons (t := 7) rfl .nil)) ?_
 refine Q_then ?_
 refine R_ret ?_
 exact R_endV rfl rfl (.tmp rfl (.tmp rfl .nil)) (rfl)
theorem spends_ok {gl : Nat → Obj} (x : Tx) (hx : x.ok) (h1 : x.amt ≤ MS) (h2 : x.fee ≤ MS) : SpecV (cx gl) 103 [.agg x.cells.toArray] noPre (.int .u64 (costI x)) := by
 refine Spec.enter (C := cx gl) Tryz.func103 rfl 18 rfl rfl fun w0 h0 hsep hsub hpre => ?_
 obtain rfl : h0 = Heap.none := hsep
 show St (cx gl) _ [(0, .agg x.cells.toArray)] _ _
 have hms : MS = 1152921504606846975 := rfl
 have ha := hx.amt
 have hf := hx.fee
 obtain ⟨ha0, ha1⟩ := ha
 obtain ⟨hf0, hf1⟩ := hf
 refine R_seq ?_
 refine R_region ?_
 refine L_op rfl (W_box (x.cells) rfl rfl rfl rfl rfl fun b1 => ?_)
 refine L_val rfl rfl rfl (OpP.v (P_assign rfl rfl)) ?_
 refine L_nil ?_
 refine St.env (.cons (t := 1) rfl (.cons (t := 2) rfl .nil)) ?_
 refine Q_then ?_
 refine R_seq ?_
 refine R_seq ?_
 refine R_region ?_
 refine L_val rfl rfl rfl (OpP.v (P_fld0 rfl ty_fl_88_0 rfl)) ?_
 refine L_val rfl rfl rfl (V_load rfl rfl ty_sc_3 (Rd.blk .h0 rfl)) ?_
 refine L_val rfl rfl rfl (OpP.v (P_eql rfl rfl rfl)) ?_
 refine E_bool (t := 5) rfl (fun k1 => ?_) (fun k1 => ?_)
 ·skip
  have k1 := of_decide_eq_true k1
  refine L_val rfl rfl rfl (OpP.v (P_move rfl rfl)) ?_
  refine L_no rfl rfl rfl ?_
  refine L_no rfl rfl rfl ?_
  refine L_no rfl rfl rfl ?_
  refine L_val rfl rfl rfl (OpP.v (P_pick rfl rfl rfl)) ?_
  refine L_nil ?_
  refine St.env (.cons (t := 1) rfl (.cons (t := 2) rfl (.cons (t := 10) rfl .nil))) ?_
  refine Q_then ?_
  refine R_condT rfl ?_
  refine R_seq ?_
  refine R_region ?_
  refine L_val rfl rfl rfl (OpP.v (P_fld0 rfl ty_fl_88_4 rfl)) ?_
  refine L_val rfl rfl rfl (V_load rfl rfl ty_sc_24 (Rd.blk .h0 rfl)) ?_
  refine L_val rfl rfl rfl (OpP.v (P_fld0 rfl ty_fl_88_3 rfl)) ?_
  refine L_val rfl rfl rfl (V_load rfl rfl ty_sc_24 (Rd.blk .h0 rfl)) ?_
  refine L_val rfl rfl rfl (OpP.v (P_addN rfl rfl rfl (by simp only [fits]; omega))) ?_
  refine L_val rfl rfl rfl (OpP.v (P_assign rfl rfl)) ?_
  refine L_nil ?_
  refine St.env (.cons (t := 1) rfl (.cons (t := 2) rfl .nil)) ?_
  refine Q_then ?_
  refine R_ret ?_
  refine Q_then_ret ?_
  exact R_endV rfl rfl (.tmp rfl .nil) (by unfold costI; rw [if_pos (by omega)]; rfl)
 ·skip
  have k1 := of_decide_eq_false k1
  refine L_val rfl rfl rfl (OpP.v (P_move rfl rfl)) ?_
  refine L_val rfl rfl rfl (OpP.v (P_fld0 rfl ty_fl_88_0 rfl)) ?_
  refine L_val rfl rfl rfl (V_load rfl rfl ty_sc_3 (Rd.blk .h0 rfl)) ?_
  refine L_val rfl rfl rfl (OpP.v (P_eql rfl rfl rfl)) ?_
  refine L_val rfl rfl rfl (OpP.v (P_pick rfl rfl rfl)) ?_
  refine L_nil ?_
  refine St.env (.cons (t := 1) rfl (.cons (t := 2) rfl (.cons (t := 10) rfl .nil))) ?_
  refine Q_then ?_
  refine R_condP rfl (fun k2 => ?_) (fun k2 => ?_)
  ·skip
   refine R_seq ?_
   refine R_region ?_
   refine L_val rfl rfl rfl (OpP.v (P_fld0 rfl ty_fl_88_4 rfl)) ?_
   refine L_val rfl rfl rfl (V_load rfl rfl ty_sc_24 (Rd.blk .h0 rfl)) ?_
   refine L_val rfl rfl rfl (OpP.v (P_fld0 rfl ty_fl_88_3 rfl)) ?_
   refine L_val rfl rfl rfl (V_load rfl rfl ty_sc_24 (Rd.blk .h0 rfl)) ?_
   refine L_val rfl rfl rfl (OpP.v (P_addN rfl rfl rfl (by simp only [fits]; omega))) ?_
   refine L_val rfl rfl rfl (OpP.v (P_assign rfl rfl)) ?_
   refine L_nil ?_
   refine St.env (.cons (t := 1) rfl (.cons (t := 2) rfl .nil)) ?_
   refine Q_then ?_
   refine R_ret ?_
   refine Q_then_ret ?_
   exact R_endV rfl rfl (.tmp rfl .nil) (by unfold costI; rw [if_pos (by omega)]; rfl)
  ·skip
   refine R_skip ?_
   refine Q_then ?_
   refine R_seq ?_
   refine R_region ?_
   refine L_val rfl rfl rfl (OpP.v (P_fld0 rfl ty_fl_88_4 rfl)) ?_
   refine L_val rfl rfl rfl (V_load rfl rfl ty_sc_24 (Rd.blk .h0 rfl)) ?_
   refine L_val rfl rfl rfl (OpP.v (P_assign rfl rfl)) ?_
   refine L_nil ?_
   refine St.env (.cons (t := 2) rfl .nil) ?_
   refine Q_then ?_
   refine R_ret ?_
   exact R_endV rfl rfl (.tmp rfl .nil) (by unfold costI; rw [if_neg (by omega)]; rfl)
theorem lkind_ok {gl : Nat → Obj} (base : Option Addr) (c : Nat) (l : List Acc) (hc : l.length ≤ c) (hm : l.length ≤ 3518437208800) (base' : Option Addr) (c' : Nat) (r : List Rel) (hc' : r.length ≤ c') (hm' : r.length ≤ 4398046511104) (bu su : Int) (p : Par) (h : Int) (hh : 0 ≤ h ∧ h ≤ 1099511627776) (hp3 : 0 ≤ p.p3 ∧ p.p3 ≤ 4294967296) (x : Tx) (hx : x.ok) (A : Acc) : SpecV (cx gl) 112 [.agg (ledV (.slice base l.length c) (.slice base' r.length c') bu su).toArray, .agg p.cells.toArray, .int .u64 h, .agg x.cells.toArray, .agg A.cells.toArray] (fun w => Row w base (rc l) ∧ Row w base' (rc r)) (.int .i64 (kindE (⟨l, r, bu, su⟩ : Led) p h x A)) := by
 refine Spec.enter (C := cx gl) Tryz.func112 rfl 69 rfl rfl fun w0 h0 hsep hsub hpre => ?_
 obtain rfl : h0 = Heap.none := hsep
 show St (cx gl) _ [(0, .agg (ledV (.slice base l.length c) (.slice base' r.length c') bu su).toArray), (1, .agg p.cells.toArray), (2, .int .u64 h), (3, .agg x.cells.toArray), (4, .agg A.cells.toArray)] _ _
 refine R_seq ?_
 refine R_region ?_
 refine L_op rfl (W_box (ledV (.slice base l.length c) (.slice base' r.length c') bu su) rfl rfl rfl rfl rfl fun b5 => ?_)
 refine L_op rfl (W_box (p.cells) rfl rfl rfl rfl rfl fun b6 => ?_)
 refine L_op rfl (W_box (x.cells) rfl rfl rfl rfl rfl fun b8 => ?_)
 refine L_op rfl (W_box (A.cells) rfl rfl rfl rfl rfl fun b9 => ?_)
 refine L_val rfl rfl rfl (OpP.v (P_assign rfl rfl)) ?_
 refine L_nil ?_
 refine St.env (.cons (t := 2) rfl (.cons (t := 5) rfl (.cons (t := 6) rfl (.cons (t := 8) rfl (.cons (t := 9) rfl (.cons (t := 10) rfl .nil)))))) ?_
 refine Q_then ?_
 refine R_seq ?_
 refine R_seq ?_
 refine R_region ?_
 refine L_val rfl rfl rfl (OpP.v (P_fld0 rfl ty_fl_88_0 rfl)) ?_
 refine L_val rfl rfl rfl (V_load rfl rfl ty_sc_3 (Rd.blk .h1 rfl)) ?_
 refine L_nil ?_
 refine St.env (.cons (t := 2) rfl (.cons (t := 5) rfl (.cons (t := 6) rfl (.cons (t := 8) rfl (.cons (t := 9) rfl (.cons (t := 10) rfl (.cons (t := 14) rfl .nil))))))) ?_
 refine Q_then ?_
 refine R_block ?_
 refine R_seq ?_
 refine R_region ?_
 refine L_val rfl rfl rfl (OpP.v (P_eql rfl rfl rfl)) ?_
 refine E_bool (t := 16) rfl (fun k1 => ?_) (fun k1 => ?_)
 ·skip
  have k1 := of_decide_eq_true k1
  refine L_val rfl rfl rfl (OpP.v (P_assign rfl rfl)) ?_
  refine L_nil ?_
  refine St.env (.cons (t := 2) rfl (.cons (t := 5) rfl (.cons (t := 6) rfl (.cons (t := 8) rfl (.cons (t := 9) rfl (.cons (t := 10) rfl (.cons (t := 14) rfl (.cons (t := 15) rfl .nil)))))))) ?_
  refine Q_then ?_
  refine R_condT rfl ?_
  refine R_seq ?_
  refine R_region ?_
  refine L_val rfl rfl rfl (V_loadAgg rfl rfl ty_ag_26 (Rds.blk .h3) (rfl)) ?_
  refine L_val rfl rfl rfl (OpP.v (P_fld0 rfl ty_fl_88_2 rfl)) ?_
  refine L_val rfl rfl rfl (V_load rfl rfl ty_sc_27 (Rd.blk .h1 rfl)) ?_
  refine L_op rfl (W_callV rfl rfl rfl rfl fn_ca_76 (place_ok base c l hc (by omega) (.slice base' r.length c') rfl bu su x.to) (fun w nw => (Sn.row hpre.1 rfl).rw_ w nw) ?_)
  refine L_val rfl rfl rfl (OpP.v (P_lss rfl rfl rfl)) ?_
  refine E_bool (t := 21) rfl (fun q1 => ?_) (fun q1 => ?_)
  ·skip
   have q1 := (place_neg _ _).1 (of_decide_eq_true q1)
   refine L_val rfl rfl rfl (OpP.v (P_move rfl rfl)) ?_
   refine L_val rfl rfl rfl (OpP.v (P_fld0 rfl ty_fl_26_0 rfl)) ?_
   refine L_val rfl rfl rfl (V_load rfl rfl ty_sc_22 (Rd.blk .h3 rfl)) ?_
   refine L_val rfl rfl rfl (OpP.v (P_len rfl ty_sl_22 rfl)) ?_
   refine L_val rfl rfl rfl (OpP.v (P_geq rfl rfl rfl)) ?_
   refine L_val rfl rfl rfl (OpP.v (P_pick rfl rfl rfl)) ?_
   refine L_nil ?_
   refine St.env (.cons (t := 10) rfl (.cons (t := 27) rfl .nil)) ?_
   refine Q_then ?_
   refine R_condP rfl (fun q2 => ?_) (fun q2 => ?_)
   ·skip
    refine R_seq ?_
    refine R_region ?_
    refine L_val rfl rfl rfl (OpP.v (P_assign rfl rfl)) ?_
    refine L_nil ?_
    refine St.env (.cons (t := 10) rfl .nil) ?_
    refine Q_then ?_
    refine R_ret ?_
    refine Q_block_ret ?_
    refine Q_then_ret ?_
    exact R_endV rfl rfl (.tmp rfl .nil) (by rw [show kindE (⟨l, r, bu, su⟩ : Led) p h x A = 86 by unfold kindE; rw [if_pos k1, if_pos ⟨q1, by show 65536 ≤ l.length; omega⟩]]; rfl)
   ·skip
    refine R_skip ?_
    refine Q_block ?_
    refine Q_then ?_
    refine R_seq ?_
    refine R_region ?_
    refine L_val rfl rfl rfl (OpP.v (P_assign rfl rfl)) ?_
    refine L_nil ?_
    refine St.env (.cons (t := 10) rfl .nil) ?_
    refine Q_then ?_
    refine R_ret ?_
    exact R_endV rfl rfl (.tmp rfl .nil) (by rw [show kindE (⟨l, r, bu, su⟩ : Led) p h x A = 0 by unfold kindE; first | (rw [if_pos k1, if_neg (fun h9 => q1 h9.1)]; done) | (rw [if_pos k1, if_neg (fun h9 => q2 (by have h8 : 65536 ≤ l.length := h9.2; omega))]; done) | (rw [if_neg k1, if_pos k3, if_neg (by omega), if_neg (fun h9 => q5 h9.1)]; done) | (rw [if_neg k1, if_pos k3, if_neg (by omega), if_neg (fun h9 => q6 (by have h8 : 65536 ≤ r.length := h9.2; omega))]; done) | (rw [if_neg k1, if_neg k3, if_pos k4, if_neg (by simpa using q7), if_neg q8]; done) | (rw [if_neg k1, if_neg k3, if_neg k4]; done)]; rfl)
  ·skip
   have q1 : ¬ spotB l x.to = false := fun h9 => of_decide_eq_false q1 ((place_neg _ _).2 h9)
   refine L_val rfl rfl rfl (OpP.v (P_move rfl rfl)) ?_
   refine L_no rfl rfl rfl ?_
   refine L_no rfl rfl rfl ?_
   refine L_no rfl rfl rfl ?_
   refine L_no rfl rfl rfl ?_
   refine L_val rfl rfl rfl (OpP.v (P_pick rfl rfl rfl)) ?_
   refine L_nil ?_
   refine St.env (.cons (t := 10) rfl (.cons (t := 27) rfl .nil)) ?_
   refine Q_then ?_
   refine R_condF rfl ?_
   refine R_skip ?_
   refine Q_block ?_
   refine Q_then ?_
   refine R_seq ?_
   refine R_region ?_
   refine L_val rfl rfl rfl (OpP.v (P_assign rfl rfl)) ?_
   refine L_nil ?_
   refine St.env (.cons (t := 10) rfl .nil) ?_
   refine Q_then ?_
   refine R_ret ?_
   exact R_endV rfl rfl (.tmp rfl .nil) (by rw [show kindE (⟨l, r, bu, su⟩ : Led) p h x A = 0 by unfold kindE; first | (rw [if_pos k1, if_neg (fun h9 => q1 h9.1)]; done) | (rw [if_pos k1, if_neg (fun h9 => q2 (by have h8 : 65536 ≤ l.length := h9.2; omega))]; done) | (rw [if_neg k1, if_pos k3, if_neg (by omega), if_neg (fun h9 => q5 h9.1)]; done) | (rw [if_neg k1, if_pos k3, if_neg (by omega), if_neg (fun h9 => q6 (by have h8 : 65536 ≤ r.length := h9.2; omega))]; done) | (rw [if_neg k1, if_neg k3, if_pos k4, if_neg (by simpa using q7), if_neg q8]; done) | (rw [if_neg k1, if_neg k3, if_neg k4]; done)]; rfl)
 ·skip
  have k1 := of_decide_eq_false k1
  refine L_val rfl rfl rfl (OpP.v (P_assign rfl rfl)) ?_
  refine L_nil ?_
  refine St.env (.cons (t := 2) rfl (.cons (t := 5) rfl (.cons (t := 6) rfl (.cons (t := 8) rfl (.cons (t := 9) rfl (.cons (t := 10) rfl (.cons (t := 14) rfl (.cons (t := 15) rfl .nil)))))))) ?_
  refine Q_then ?_
  refine R_condF rfl ?_
  refine R_seq ?_
  refine R_region ?_
  refine L_val rfl rfl rfl (OpP.v (P_eql rfl rfl rfl)) ?_
  refine E_bool (t := 29) rfl (fun k3 => ?_) (fun k3 => ?_)
  ·skip
   have k3 := of_decide_eq_true k3
   refine L_val rfl rfl rfl (OpP.v (P_assign rfl rfl)) ?_
   refine L_nil ?_
   refine St.env (.cons (t := 2) rfl (.cons (t := 5) rfl (.cons (t := 6) rfl (.cons (t := 8) rfl (.cons (t := 9) rfl (.cons (t := 10) rfl (.cons (t := 14) rfl (.cons (t := 28) rfl .nil)))))))) ?_
   refine Q_then ?_
   refine R_condT rfl ?_
   refine R_seq ?_
   refine R_seq ?_
   refine R_region ?_
   refine L_val rfl rfl rfl (OpP.v (P_fld0 rfl ty_fl_88_3 rfl)) ?_
   refine L_val rfl rfl rfl (V_load rfl rfl ty_sc_24 (Rd.blk .h1 rfl)) ?_
   refine L_val rfl rfl rfl (OpP.v (P_eql rfl rfl rfl)) ?_
   refine E_bool (t := 32) rfl (fun q3 => ?_) (fun q3 => ?_)
   ·skip
    have q3 := of_decide_eq_true q3
    refine L_val rfl rfl rfl (OpP.v (P_move rfl rfl)) ?_
    refine L_no rfl rfl rfl ?_
    refine L_no rfl rfl rfl ?_
    refine L_no rfl rfl rfl ?_
    refine L_no rfl rfl rfl ?_
    refine L_no rfl rfl rfl ?_
    refine L_val rfl rfl rfl (OpP.v (P_pick rfl rfl rfl)) ?_
    refine L_nil ?_
    refine St.env (.cons (t := 2) rfl (.cons (t := 5) rfl (.cons (t := 6) rfl (.cons (t := 8) rfl (.cons (t := 10) rfl (.cons (t := 39) rfl .nil)))))) ?_
    refine Q_then ?_
    refine R_condT rfl ?_
    refine R_seq ?_
    refine R_region ?_
    refine L_val rfl rfl rfl (OpP.v (P_assign rfl rfl)) ?_
    refine L_nil ?_
    refine St.env (.cons (t := 2) rfl (.cons (t := 5) rfl (.cons (t := 6) rfl (.cons (t := 8) rfl (.cons (t := 10) rfl .nil))))) ?_
    refine Q_then ?_
    refine R_ret ?_
    refine Q_then_ret ?_
    refine Q_block_ret ?_
    refine Q_then_ret ?_
    exact R_endV rfl rfl (.tmp rfl .nil) (by rw [show kindE (⟨l, r, bu, su⟩ : Led) p h x A = 82 by unfold kindE; rw [if_neg k1, if_pos k3, if_pos (by omega)]]; rfl)
   ·skip
    have q3 := of_decide_eq_false q3
    refine L_val rfl rfl rfl (OpP.v (P_move rfl rfl)) ?_
    refine L_val rfl rfl rfl (OpP.v (P_fld0 rfl ty_fl_88_3 rfl)) ?_
    refine L_val rfl rfl rfl (V_load rfl rfl ty_sc_24 (Rd.blk .h1 rfl)) ?_
    refine L_val rfl rfl rfl (OpP.v (P_fld0 rfl ty_fl_38_2 rfl)) ?_
    refine L_val rfl rfl rfl (V_load rfl rfl ty_sc_24 (Rd.blk .h0 rfl)) ?_
    refine L_val rfl rfl rfl (OpP.v (P_gtr rfl rfl rfl)) ?_
    refine L_val rfl rfl rfl (OpP.v (P_pick rfl rfl rfl)) ?_
    refine L_nil ?_
    refine St.env (.cons (t := 2) rfl (.cons (t := 5) rfl (.cons (t := 6) rfl (.cons (t := 8) rfl (.cons (t := 10) rfl (.cons (t := 39) rfl .nil)))))) ?_
    refine Q_then ?_
    refine R_condP rfl (fun q4 => ?_) (fun q4 => ?_)
    ·skip
     refine R_seq ?_
     refine R_region ?_
     refine L_val rfl rfl rfl (OpP.v (P_assign rfl rfl)) ?_
     refine L_nil ?_
     refine St.env (.cons (t := 2) rfl (.cons (t := 5) rfl (.cons (t := 6) rfl (.cons (t := 8) rfl (.cons (t := 10) rfl .nil))))) ?_
     refine Q_then ?_
     refine R_ret ?_
     refine Q_then_ret ?_
     refine Q_block_ret ?_
     refine Q_then_ret ?_
     exact R_endV rfl rfl (.tmp rfl .nil) (by rw [show kindE (⟨l, r, bu, su⟩ : Led) p h x A = 82 by unfold kindE; rw [if_neg k1, if_pos k3, if_pos (by omega)]]; rfl)
    ·skip
     refine R_skip ?_
     refine Q_then ?_
     refine R_seq ?_
     refine R_region ?_
     refine L_val rfl rfl rfl (V_loadAgg rfl rfl ty_ag_26 (Rds.blk .h3) (rfl)) ?_
     refine L_val rfl rfl rfl (OpP.v (P_move rfl rfl)) ?_
     refine L_val rfl rfl rfl (OpP.v (P_fld0 rfl ty_fl_62_3 rfl)) ?_
     refine L_val rfl rfl rfl (V_load rfl rfl ty_sc_24 (Rd.blk .h2 rfl)) ?_
     refine L_val rfl rfl rfl (OpP.v (P_addN rfl rfl rfl (by simp only [fits]; omega))) ?_
     refine L_val rfl rfl rfl (OpP.v (P_fld0 rfl ty_fl_88_1 rfl)) ?_
     refine L_val rfl rfl rfl (V_load rfl rfl ty_sc_27 (Rd.blk .h1 rfl)) ?_
     refine L_op rfl (W_callV rfl rfl rfl rfl fn_ca_105 (row_ok (.slice base l.length c) rfl base' c' r hc' hm' bu su (h + p.p3) x.frm) (fun w nw => (Sn.row hpre.2 rfl).rw_ w nw) ?_)
     refine L_val rfl rfl rfl (OpP.v (P_move rfl rfl)) ?_
     refine L_val rfl rfl rfl (OpP.v (P_extract rfl rfl rfl)) ?_
     refine L_val rfl rfl rfl (OpP.v (P_extract rfl rfl rfl)) ?_
     refine L_val rfl rfl rfl (OpP.v (P_assign rfl rfl)) ?_
     refine L_val rfl rfl rfl (OpP.v (P_assign rfl rfl)) ?_
     refine L_nil ?_
     refine St.env (.cons (t := 5) rfl (.cons (t := 10) rfl (.cons (t := 12) rfl .nil))) ?_
     refine Q_then ?_
     refine R_seq ?_
     refine R_region ?_
     refine L_val rfl rfl rfl (OpP.v (P_move rfl rfl)) ?_
     refine L_val rfl rfl rfl (OpP.v (P_not rfl rfl)) ?_
     refine E_bool (t := 52) rfl (fun q5 => ?_) (fun q5 => ?_)
     ·skip
      have q5 : rowB r (h + p.p3) x.frm = false := by simpa using q5
      refine L_val rfl rfl rfl (OpP.v (P_move rfl rfl)) ?_
      refine L_val rfl rfl rfl (OpP.v (P_fld0 rfl ty_fl_26_1 rfl)) ?_
      refine L_val rfl rfl rfl (V_load rfl rfl ty_sc_23 (Rd.blk .h3 rfl)) ?_
      refine L_val rfl rfl rfl (OpP.v (P_len rfl ty_sl_23 rfl)) ?_
      refine L_val rfl rfl rfl (OpP.v (P_geq rfl rfl rfl)) ?_
      refine L_val rfl rfl rfl (OpP.v (P_pick rfl rfl rfl)) ?_
      refine L_nil ?_
      refine St.env (.cons (t := 10) rfl (.cons (t := 58) rfl .nil)) ?_
      refine Q_then ?_
      refine R_condP rfl (fun q6 => ?_) (fun q6 => ?_)
      ·skip
       refine R_seq ?_
       refine R_region ?_
       refine L_val rfl rfl rfl (OpP.v (P_assign rfl rfl)) ?_
       refine L_nil ?_
       refine St.env (.cons (t := 10) rfl .nil) ?_
       refine Q_then ?_
       refine R_ret ?_
       refine Q_block_ret ?_
       refine Q_then_ret ?_
       exact R_endV rfl rfl (.tmp rfl .nil) (by rw [show kindE (⟨l, r, bu, su⟩ : Led) p h x A = 86 by unfold kindE; rw [if_neg k1, if_pos k3, if_neg (by omega), if_pos ⟨q5, by show 65536 ≤ r.length; omega⟩]]; rfl)
      ·skip
       refine R_skip ?_
       refine Q_block ?_
       refine Q_then ?_
       refine R_seq ?_
       refine R_region ?_
       refine L_val rfl rfl rfl (OpP.v (P_assign rfl rfl)) ?_
       refine L_nil ?_
       refine St.env (.cons (t := 10) rfl .nil) ?_
       refine Q_then ?_
       refine R_ret ?_
       exact R_endV rfl rfl (.tmp rfl .nil) (by rw [show kindE (⟨l, r, bu, su⟩ : Led) p h x A = 0 by unfold kindE; first | (rw [if_pos k1, if_neg (fun h9 => q1 h9.1)]; done) | (rw [if_pos k1, if_neg (fun h9 => q2 (by have h8 : 65536 ≤ l.length := h9.2; omega))]; done) | (rw [if_neg k1, if_pos k3, if_neg (by omega), if_neg (fun h9 => q5 h9.1)]; done) | (rw [if_neg k1, if_pos k3, if_neg (by omega), if_neg (fun h9 => q6 (by have h8 : 65536 ≤ r.length := h9.2; omega))]; done) | (rw [if_neg k1, if_neg k3, if_pos k4, if_neg (by simpa using q7), if_neg q8]; done) | (rw [if_neg k1, if_neg k3, if_neg k4]; done)]; rfl)
     ·skip
      have q5 : ¬ rowB r (h + p.p3) x.frm = false := by simpa using q5
      refine L_val rfl rfl rfl (OpP.v (P_move rfl rfl)) ?_
      refine L_no rfl rfl rfl ?_
      refine L_no rfl rfl rfl ?_
      refine L_no rfl rfl rfl ?_
      refine L_no rfl rfl rfl ?_
      refine L_val rfl rfl rfl (OpP.v (P_pick rfl rfl rfl)) ?_
      refine L_nil ?_
      refine St.env (.cons (t := 10) rfl (.cons (t := 58) rfl .nil)) ?_
      refine Q_then ?_
      refine R_condF rfl ?_
      refine R_skip ?_
      refine Q_block ?_
      refine Q_then ?_
      refine R_seq ?_
      refine R_region ?_
      refine L_val rfl rfl rfl (OpP.v (P_assign rfl rfl)) ?_
      refine L_nil ?_
      refine St.env (.cons (t := 10) rfl .nil) ?_
      refine Q_then ?_
      refine R_ret ?_
      exact R_endV rfl rfl (.tmp rfl .nil) (by rw [show kindE (⟨l, r, bu, su⟩ : Led) p h x A = 0 by unfold kindE; first | (rw [if_pos k1, if_neg (fun h9 => q1 h9.1)]; done) | (rw [if_pos k1, if_neg (fun h9 => q2 (by have h8 : 65536 ≤ l.length := h9.2; omega))]; done) | (rw [if_neg k1, if_pos k3, if_neg (by omega), if_neg (fun h9 => q5 h9.1)]; done) | (rw [if_neg k1, if_pos k3, if_neg (by omega), if_neg (fun h9 => q6 (by have h8 : 65536 ≤ r.length := h9.2; omega))]; done) | (rw [if_neg k1, if_neg k3, if_pos k4, if_neg (by simpa using q7), if_neg q8]; done) | (rw [if_neg k1, if_neg k3, if_neg k4]; done)]; rfl)
  ·skip
   have k3 := of_decide_eq_false k3
   refine L_val rfl rfl rfl (OpP.v (P_assign rfl rfl)) ?_
   refine L_nil ?_
   refine St.env (.cons (t := 2) rfl (.cons (t := 5) rfl (.cons (t := 6) rfl (.cons (t := 8) rfl (.cons (t := 9) rfl (.cons (t := 10) rfl (.cons (t := 14) rfl (.cons (t := 28) rfl .nil)))))))) ?_
   refine Q_then ?_
   refine R_condF rfl ?_
   refine R_seq ?_
   refine R_region ?_
   refine L_val rfl rfl rfl (OpP.v (P_eql rfl rfl rfl)) ?_
   refine E_bool (t := 60) rfl (fun k4 => ?_) (fun k4 => ?_)
   ·skip
    have k4 := of_decide_eq_true k4
    refine L_val rfl rfl rfl (OpP.v (P_assign rfl rfl)) ?_
    refine L_nil ?_
    refine St.env (.cons (t := 6) rfl (.cons (t := 9) rfl (.cons (t := 10) rfl (.cons (t := 59) rfl .nil)))) ?_
    refine Q_then ?_
    refine R_condT rfl ?_
    refine R_seq ?_
    refine R_seq ?_
    refine R_region ?_
    refine L_val rfl rfl rfl (OpP.v (P_fld0 rfl ty_fl_38_4 rfl)) ?_
    refine L_val rfl rfl rfl (V_load rfl rfl ty_sc_4 (Rd.blk .h0 rfl)) ?_
    refine L_val rfl rfl rfl (OpP.v (P_not rfl rfl)) ?_
    refine L_nil ?_
    refine St.env (.cons (t := 6) rfl (.cons (t := 9) rfl (.cons (t := 10) rfl (.cons (t := 63) rfl .nil)))) ?_
    refine Q_then ?_
    refine R_cond rfl (fun q7 => ?_) (fun q7 => ?_)
    ·skip
     refine R_seq ?_
     refine R_region ?_
     refine L_val rfl rfl rfl (OpP.v (P_assign rfl rfl)) ?_
     refine L_nil ?_
     refine St.env (.cons (t := 6) rfl (.cons (t := 9) rfl (.cons (t := 10) rfl .nil))) ?_
     refine Q_then ?_
     refine R_ret ?_
     refine Q_then_ret ?_
     refine Q_block_ret ?_
     refine Q_then_ret ?_
     exact R_endV rfl rfl (.tmp rfl .nil) (by rw [show kindE (⟨l, r, bu, su⟩ : Led) p h x A = 83 by unfold kindE; rw [if_neg k1, if_neg k3, if_pos k4, if_pos (by simpa using q7)]]; rfl)
    ·skip
     refine R_skip ?_
     refine Q_then ?_
     refine R_seq ?_
     refine R_region ?_
     refine L_val rfl rfl rfl (OpP.v (P_fld0 rfl ty_fl_38_2 rfl)) ?_
     refine L_val rfl rfl rfl (V_load rfl rfl ty_sc_24 (Rd.blk .h0 rfl)) ?_
     refine L_val rfl rfl rfl (OpP.v (P_fld0 rfl ty_fl_62_0 rfl)) ?_
     refine L_val rfl rfl rfl (V_load rfl rfl ty_sc_24 (Rd.blk .h2 rfl)) ?_
     refine L_val rfl rfl rfl (OpP.v (P_lss rfl rfl rfl)) ?_
     refine L_nil ?_
     refine St.env (.cons (t := 10) rfl (.cons (t := 68) rfl .nil)) ?_
     refine Q_then ?_
     refine R_condP rfl (fun q8 => ?_) (fun q8 => ?_)
     ·skip
      refine R_seq ?_
      refine R_region ?_
      refine L_val rfl rfl rfl (OpP.v (P_assign rfl rfl)) ?_
      refine L_nil ?_
      refine St.env (.cons (t := 10) rfl .nil) ?_
      refine Q_then ?_
      refine R_ret ?_
      refine Q_block_ret ?_
      refine Q_then_ret ?_
      exact R_endV rfl rfl (.tmp rfl .nil) (by rw [show kindE (⟨l, r, bu, su⟩ : Led) p h x A = 82 by unfold kindE; rw [if_neg k1, if_neg k3, if_pos k4, if_neg (by simpa using q7), if_pos q8]]; rfl)
     ·skip
      refine R_skip ?_
      refine Q_block ?_
      refine Q_then ?_
      refine R_seq ?_
      refine R_region ?_
      refine L_val rfl rfl rfl (OpP.v (P_assign rfl rfl)) ?_
      refine L_nil ?_
      refine St.env (.cons (t := 10) rfl .nil) ?_
      refine Q_then ?_
      refine R_ret ?_
      exact R_endV rfl rfl (.tmp rfl .nil) (by rw [show kindE (⟨l, r, bu, su⟩ : Led) p h x A = 0 by unfold kindE; first | (rw [if_pos k1, if_neg (fun h9 => q1 h9.1)]; done) | (rw [if_pos k1, if_neg (fun h9 => q2 (by have h8 : 65536 ≤ l.length := h9.2; omega))]; done) | (rw [if_neg k1, if_pos k3, if_neg (by omega), if_neg (fun h9 => q5 h9.1)]; done) | (rw [if_neg k1, if_pos k3, if_neg (by omega), if_neg (fun h9 => q6 (by have h8 : 65536 ≤ r.length := h9.2; omega))]; done) | (rw [if_neg k1, if_neg k3, if_pos k4, if_neg (by simpa using q7), if_neg q8]; done) | (rw [if_neg k1, if_neg k3, if_neg k4]; done)]; rfl)
   ·skip
    have k4 := of_decide_eq_false k4
    refine L_val rfl rfl rfl (OpP.v (P_assign rfl rfl)) ?_
    refine L_nil ?_
    refine St.env (.cons (t := 6) rfl (.cons (t := 9) rfl (.cons (t := 10) rfl (.cons (t := 59) rfl .nil)))) ?_
    refine Q_then ?_
    refine R_condF rfl ?_
    refine R_skip ?_
    refine Q_block ?_
    refine Q_then ?_
    refine R_seq ?_
    refine R_region ?_
    refine L_val rfl rfl rfl (OpP.v (P_assign rfl rfl)) ?_
    refine L_nil ?_
    refine St.env (.cons (t := 10) rfl .nil) ?_
    refine Q_then ?_
    refine R_ret ?_
    exact R_endV rfl rfl (.tmp rfl .nil) (by rw [show kindE (⟨l, r, bu, su⟩ : Led) p h x A = 0 by unfold kindE; first | (rw [if_pos k1, if_neg (fun h9 => q1 h9.1)]; done) | (rw [if_pos k1, if_neg (fun h9 => q2 (by have h8 : 65536 ≤ l.length := h9.2; omega))]; done) | (rw [if_neg k1, if_pos k3, if_neg (by omega), if_neg (fun h9 => q5 h9.1)]; done) | (rw [if_neg k1, if_pos k3, if_neg (by omega), if_neg (fun h9 => q6 (by have h8 : 65536 ≤ r.length := h9.2; omega))]; done) | (rw [if_neg k1, if_neg k3, if_pos k4, if_neg (by simpa using q7), if_neg q8]; done) | (rw [if_neg k1, if_neg k3, if_neg k4]; done)]; rfl)
end Go.Proofs.YtfhjhaogmdaepaaGreatDoor
