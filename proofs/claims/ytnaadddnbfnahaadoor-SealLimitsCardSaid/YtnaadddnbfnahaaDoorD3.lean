/- Walks: one chunk is worked in, by the program and by the reference. Printed by gen.py. -/
import Derived.Test.YtnaadddnbfnahaaDoorD2
set_option linter.unusedVariables false
set_option linter.unusedSimpArgs false
set_option maxRecDepth 100000
namespace Go.Proofs.YtnaadddnbfnahaaDoor
open Go Go.RowKit Go.Proofs
set_option maxHeartbeats 4000000 in
theorem block_ok {gl : Nat → Obj} (hG : ∃ T fr, gl 0 = .cells (ints .u32 addsK).toArray T fr) (s p : List Int) (hs : s.length = 8) (hp : p.length = 64) (sb so c : Nat) : SpecV (cx gl) 59 [.agg (ints .u32 s).toArray, .slice (some ⟨sb, so, none⟩) 64 c] (fun w => RowAt w ⟨sb, so, none⟩ (ints .u8 p)) (.agg (ints .u32 (mixF addsK s p)).toArray) := by
  refine Spec.enter (C := cx gl) Tryd.func59 rfl 223 rfl rfl fun w0 h0 hsep hsub hpre => ?_
  obtain rfl : h0 = Heap.none := hsep
  show St (cx gl) _ [(0, .agg (ints .u32 s).toArray), (1, .slice (some ⟨sb, so, none⟩) 64 c)] _ _
  refine R_seq ?_
  refine R_region ?_
  refine L_op rfl (W_box (_) rfl rfl rfl rfl rfl fun b2 => ?_)
  refine L_op rfl (W_alloc rfl rfl rfl ty_ze_121 fun b4 => ?_)
  refine L_nil ?_
  refine St.env (.cons (t := 1) rfl (.cons (t := 2) rfl (.cons (t := 4) rfl .nil))) ?_
  refine Q_then ?_
  refine R_seq ?_
  refine R_region ?_
  refine L_op rfl (W_alloc rfl rfl rfl ty_ze_144 fun b5 => ?_)
  rw [rep_ints]
  refine L_nil ?_
  refine Q_then ?_
  refine R_seq ?_
  refine R_seq ?_
  refine R_region ?_
  refine L_val rfl rfl rfl (OpP.v (P_assign rfl rfl)) ?_
  refine L_nil ?_
  refine Q_then ?_
  refine R_block ?_
  refine R_loop (G := Nat) (fun k => [(1, .slice (some ⟨sb, so, none⟩) 64 c), (2, .pointer (some ⟨b2, 0, none⟩)), (4, .pointer (some ⟨b4, 0, none⟩)), (5, .pointer (some ⟨b5, 0, none⟩)), (6, .int .i64 (k : Int))]) (fun k => [blk b5 (ints .u32 (sch1 p k)) 144, blk b4 (List.replicate 8 (.int .u32 0)) 121, blk b2 (ints .u32 s) 121]) (fun k => k ≤ 16) (fun k => 16 - k) (0) (by omega) (by repeat (first | exact .nil | refine .cons rfl ?_)) (Weak.refl _) ?_
  intro k hk
  have hl := sch1_length p k
  refine R_seq ?_
  refine R_seq ?_
  refine R_region ?_
  refine L_val rfl rfl rfl (OpP.v (P_move rfl rfl)) ?_
  refine L_val rfl rfl rfl (OpP.v (P_lss rfl rfl rfl)) ?_
  refine L_nil ?_
  refine Q_then ?_
  refine R_condP rfl (fun hlt => ?_) (fun hlt => ?_)
  · skip
    refine R_skip ?_
    refine Q_then ?_
    refine R_seq ?_
    refine R_block ?_
    refine R_open [(0, 0), (1, 0), (2, 0), (3, 0), (4, 0), (5, 1), (6, 0), (7, 0), (8, 0), (9, 0), (10, 0), (11, 0), (12, 0), (13, 1), (14, 0), (15, 0), (16, 0), (17, 0), (18, 0), (19, 0), (20, 0), (21, 0), (22, 1), (23, 0), (24, 0), (25, 0), (26, 0), (27, 0), (28, 0), (29, 0), (30, 0), (31, 1), (32, 0), (33, 0), (34, 0), (35, 3)] mixed (by kernel_rfl) (QOk.block (QOk.then (QOk.then (QOk.block (QOk.then QOk.body))))) ?_
    refine O_pure rfl rfl rfl rfl (P_move rfl rfl) ?_
    refine O_pure rfl rfl rfl rfl (P_move rfl rfl) ?_
    refine O_pure rfl rfl rfl rfl (P_move rfl rfl) ?_
    first | (refine O_pure rfl rfl rfl rfl (P_mulN rfl rfl rfl (by simp only [fits]; omega)) ?_) | (refine O_pure rfl rfl rfl rfl (P_mul rfl rfl rfl) ?_)
    refine O_pure rfl rfl rfl rfl (P_ixs (4 * k) rfl ty_sl_24 rfl rfl (by first | rfl | omega) (by omega)) ?_
    refine O_val rfl rfl rfl rfl (V_load rfl rfl ty_sc_5 (Rd.row hpre rfl (ints_at (by omega)))) ?_
    refine O_pure rfl rfl rfl rfl (P_conv rfl ty_int_5 ty_int_88 rfl) ?_
    refine O_pure rfl rfl rfl rfl (P_shl rfl rfl rfl (by decide)) ?_
    refine O_pure rfl rfl rfl rfl (P_move rfl rfl) ?_
    refine O_pure rfl rfl rfl rfl (P_move rfl rfl) ?_
    first | (refine O_pure rfl rfl rfl rfl (P_mulN rfl rfl rfl (by simp only [fits]; omega)) ?_) | (refine O_pure rfl rfl rfl rfl (P_mul rfl rfl rfl) ?_)
    first | (refine O_pure rfl rfl rfl rfl (P_addN rfl rfl rfl (by simp only [fits]; omega)) ?_) | (refine O_pure rfl rfl rfl rfl (P_add rfl rfl rfl) ?_)
    refine O_pure rfl rfl rfl rfl (P_ixs (4 * k + 1) rfl ty_sl_24 rfl rfl (by first | rfl | omega) (by omega)) ?_
    refine O_val rfl rfl rfl rfl (V_load rfl rfl ty_sc_5 (Rd.row hpre rfl (ints_at (by omega)))) ?_
    refine O_pure rfl rfl rfl rfl (P_conv rfl ty_int_5 ty_int_88 rfl) ?_
    refine O_pure rfl rfl rfl rfl (P_shl rfl rfl rfl (by decide)) ?_
    refine O_pure rfl rfl rfl rfl (P_bit (op := .or) rfl rfl rfl rfl) ?_
    refine O_pure rfl rfl rfl rfl (P_move rfl rfl) ?_
    refine O_pure rfl rfl rfl rfl (P_move rfl rfl) ?_
    first | (refine O_pure rfl rfl rfl rfl (P_mulN rfl rfl rfl (by simp only [fits]; omega)) ?_) | (refine O_pure rfl rfl rfl rfl (P_mul rfl rfl rfl) ?_)
    first | (refine O_pure rfl rfl rfl rfl (P_addN rfl rfl rfl (by simp only [fits]; omega)) ?_) | (refine O_pure rfl rfl rfl rfl (P_add rfl rfl rfl) ?_)
    refine O_pure rfl rfl rfl rfl (P_ixs (4 * k + 2) rfl ty_sl_24 rfl rfl (by first | rfl | omega) (by omega)) ?_
    refine O_val rfl rfl rfl rfl (V_load rfl rfl ty_sc_5 (Rd.row hpre rfl (ints_at (by omega)))) ?_
    refine O_pure rfl rfl rfl rfl (P_conv rfl ty_int_5 ty_int_88 rfl) ?_
    refine O_pure rfl rfl rfl rfl (P_shl rfl rfl rfl (by decide)) ?_
    refine O_pure rfl rfl rfl rfl (P_bit (op := .or) rfl rfl rfl rfl) ?_
    refine O_pure rfl rfl rfl rfl (P_move rfl rfl) ?_
    refine O_pure rfl rfl rfl rfl (P_move rfl rfl) ?_
    first | (refine O_pure rfl rfl rfl rfl (P_mulN rfl rfl rfl (by simp only [fits]; omega)) ?_) | (refine O_pure rfl rfl rfl rfl (P_mul rfl rfl rfl) ?_)
    first | (refine O_pure rfl rfl rfl rfl (P_addN rfl rfl rfl (by simp only [fits]; omega)) ?_) | (refine O_pure rfl rfl rfl rfl (P_add rfl rfl rfl) ?_)
    refine O_pure rfl rfl rfl rfl (P_ixs (4 * k + 3) rfl ty_sl_24 rfl rfl (by first | rfl | omega) (by omega)) ?_
    refine O_val rfl rfl rfl rfl (V_load rfl rfl ty_sc_5 (Rd.row hpre rfl (ints_at (by omega)))) ?_
    refine O_pure rfl rfl rfl rfl (P_conv rfl ty_int_5 ty_int_88 rfl) ?_
    refine O_pure rfl rfl rfl rfl (P_bit (op := .or) rfl rfl rfl rfl) ?_
    first | (refine O_pure rfl rfl rfl rfl (P_ixa0 (k) rfl ty_ar_144 rfl rfl (by first | rfl | omega) (by omega)) ?_) | (refine O_pure rfl rfl rfl rfl (P_ixa (k) rfl ty_ar_144 rfl rfl (by first | rfl | omega) (by omega)) ?_)
    refine O_new rfl rfl (W_store rfl rfl rfl rfl ty_sc_88 rfl .h0 (by rw [ints_length, hl]; omega) (K_new ?_))
    rw [ints_set]
    refine O_nil ?_
    refine Q_block ?_
    refine Q_then ?_
    refine R_region ?_
    refine L_val rfl rfl rfl (OpP.v (P_move rfl rfl)) ?_
    first | (refine L_val rfl rfl rfl (OpP.v (P_addN rfl rfl rfl (by simp only [fits]; omega))) ?_) | (refine L_val rfl rfl rfl (OpP.v (P_add rfl rfl rfl)) ?_)
    refine L_val rfl rfl rfl (OpP.v (P_assign rfl rfl)) ?_
    refine L_nil ?_
    refine E_nat (t := 6) (n := k + 1) rfl (by omega) ?_
    exact Q_round (k + 1) (by omega) (by omega) (by repeat (first | exact .nil | refine .cons rfl ?_)) (Weak.refl _)
  · skip
    refine R_exit ?_
    refine Q_then_exit ?_
    refine Q_then_exit ?_
    refine Q_block_eq ?_
    refine St.env (.cons (t := 2) rfl (.cons (t := 4) rfl (.cons (t := 5) rfl .nil))) ?_
    refine Q_then ?_
    refine R_seq ?_
    refine R_seq ?_
    refine R_region ?_
    refine L_val rfl rfl rfl (OpP.v (P_assign rfl rfl)) ?_
    refine L_nil ?_
    refine Q_then ?_
    refine R_block ?_
    obtain rfl : k = 16 := by omega
    refine R_loop (G := Nat) (fun k => [(2, .pointer (some ⟨b2, 0, none⟩)), (4, .pointer (some ⟨b4, 0, none⟩)), (5, .pointer (some ⟨b5, 0, none⟩)), (7, .int .i64 ((16 + k : Nat) : Int))]) (fun k => [blk b5 (ints .u32 (sch2 (sch1 p 16) k)) 144, blk b4 (List.replicate 8 (.int .u32 0)) 121, blk b2 (ints .u32 s) 121]) (fun k => k ≤ 48) (fun k => 48 - k) (0) (by omega) (by repeat (first | exact .nil | refine .cons rfl ?_)) (Weak.refl _) ?_
    intro k hk
    have hl : (sch2 (sch1 p 16) k).length = 64 := by rw [sch2_length, sch1_length]
    refine R_seq ?_
    refine R_seq ?_
    refine R_region ?_
    refine L_val rfl rfl rfl (OpP.v (P_move rfl rfl)) ?_
    refine L_val rfl rfl rfl (OpP.v (P_lss rfl rfl rfl)) ?_
    refine L_nil ?_
    refine Q_then ?_
    refine R_condP rfl (fun hlt2 => ?_) (fun hlt2 => ?_)
    · skip
      refine R_skip ?_
      refine Q_then ?_
      refine R_seq ?_
      refine R_block ?_
      refine R_seq ?_
      refine R_open [(0, 0), (1, 0), (2, 0), (3, 1), (5, 0), (6, 0), (7, 0), (8, 1), (11, 0), (12, 0), (13, 0), (14, 1), (15, 0), (4, 2), (9, 2), (10, 0), (16, 0), (17, 0)] mixed (by kernel_rfl) (QOk.then (QOk.block (QOk.then (QOk.then (QOk.block (QOk.then QOk.body)))))) ?_
      refine O_pure rfl rfl rfl rfl (P_move rfl rfl) ?_
      first | (refine O_pure rfl rfl rfl rfl (P_subN rfl rfl rfl (by simp only [fits]; omega)) ?_) | (refine O_pure rfl rfl rfl rfl (P_sub rfl rfl rfl) ?_)
      first | (refine O_pure rfl rfl rfl rfl (P_ixa0 (k + 1) rfl ty_ar_144 rfl rfl (by first | rfl | omega) (by omega)) ?_) | (refine O_pure rfl rfl rfl rfl (P_ixa (k + 1) rfl ty_ar_144 rfl rfl (by first | rfl | omega) (by omega)) ?_)
      refine O_val rfl rfl rfl rfl (V_load rfl rfl ty_sc_88 (Rd.blk .h0 (ints_at (by omega)))) ?_
      refine O_pure rfl rfl rfl rfl (P_move rfl rfl) ?_
      first | (refine O_pure rfl rfl rfl rfl (P_subN rfl rfl rfl (by simp only [fits]; omega)) ?_) | (refine O_pure rfl rfl rfl rfl (P_sub rfl rfl rfl) ?_)
      first | (refine O_pure rfl rfl rfl rfl (P_ixa0 (k + 1) rfl ty_ar_144 rfl rfl (by first | rfl | omega) (by omega)) ?_) | (refine O_pure rfl rfl rfl rfl (P_ixa (k + 1) rfl ty_ar_144 rfl rfl (by first | rfl | omega) (by omega)) ?_)
      refine O_val rfl rfl rfl rfl (V_load rfl rfl ty_sc_88 (Rd.blk .h0 (ints_at (by omega)))) ?_
      refine O_pure rfl rfl rfl rfl (P_move rfl rfl) ?_
      first | (refine O_pure rfl rfl rfl rfl (P_subN rfl rfl rfl (by simp only [fits]; omega)) ?_) | (refine O_pure rfl rfl rfl rfl (P_sub rfl rfl rfl) ?_)
      first | (refine O_pure rfl rfl rfl rfl (P_ixa0 (k + 1) rfl ty_ar_144 rfl rfl (by first | rfl | omega) (by omega)) ?_) | (refine O_pure rfl rfl rfl rfl (P_ixa (k + 1) rfl ty_ar_144 rfl rfl (by first | rfl | omega) (by omega)) ?_)
      refine O_val rfl rfl rfl rfl (V_load rfl rfl ty_sc_88 (Rd.blk .h0 (ints_at (by omega)))) ?_
      refine O_pure rfl rfl rfl rfl (P_shr rfl rfl rfl (by decide)) ?_
      refine O_keep rfl rfl (W_callV rfl rfl rfl rfl fn_ca_79 (turn_ok gl _ 7 (by decide)) (fun _ _ => trivial) (K_keep (Weak.refl _) ?_))
      refine O_keep rfl rfl (W_callV rfl rfl rfl rfl fn_ca_79 (turn_ok gl _ 18 (by decide)) (fun _ _ => trivial) (K_keep (Weak.refl _) ?_))
      refine O_pure rfl rfl rfl rfl (P_bit (op := .xor) rfl rfl rfl rfl) ?_
      refine O_pure rfl rfl rfl rfl (P_bit (op := .xor) rfl rfl rfl rfl) ?_
      refine O_pure rfl rfl rfl rfl (P_assign rfl rfl) ?_
      refine O_nil ?_
      refine Q_then ?_
      refine R_seq ?_
      refine R_open [(0, 0), (1, 0), (2, 0), (3, 1), (5, 0), (6, 0), (7, 0), (8, 1), (11, 0), (12, 0), (13, 0), (14, 1), (15, 0), (4, 2), (9, 2), (10, 0), (16, 0), (17, 0)] mixed (by kernel_rfl) (QOk.then (QOk.block (QOk.then (QOk.then (QOk.block (QOk.then QOk.body)))))) ?_
      refine O_pure rfl rfl rfl rfl (P_move rfl rfl) ?_
      first | (refine O_pure rfl rfl rfl rfl (P_subN rfl rfl rfl (by simp only [fits]; omega)) ?_) | (refine O_pure rfl rfl rfl rfl (P_sub rfl rfl rfl) ?_)
      first | (refine O_pure rfl rfl rfl rfl (P_ixa0 (k + 14) rfl ty_ar_144 rfl rfl (by first | rfl | omega) (by omega)) ?_) | (refine O_pure rfl rfl rfl rfl (P_ixa (k + 14) rfl ty_ar_144 rfl rfl (by first | rfl | omega) (by omega)) ?_)
      refine O_val rfl rfl rfl rfl (V_load rfl rfl ty_sc_88 (Rd.blk .h0 (ints_at (by omega)))) ?_
      refine O_pure rfl rfl rfl rfl (P_move rfl rfl) ?_
      first | (refine O_pure rfl rfl rfl rfl (P_subN rfl rfl rfl (by simp only [fits]; omega)) ?_) | (refine O_pure rfl rfl rfl rfl (P_sub rfl rfl rfl) ?_)
      first | (refine O_pure rfl rfl rfl rfl (P_ixa0 (k + 14) rfl ty_ar_144 rfl rfl (by first | rfl | omega) (by omega)) ?_) | (refine O_pure rfl rfl rfl rfl (P_ixa (k + 14) rfl ty_ar_144 rfl rfl (by first | rfl | omega) (by omega)) ?_)
      refine O_val rfl rfl rfl rfl (V_load rfl rfl ty_sc_88 (Rd.blk .h0 (ints_at (by omega)))) ?_
      refine O_pure rfl rfl rfl rfl (P_move rfl rfl) ?_
      first | (refine O_pure rfl rfl rfl rfl (P_subN rfl rfl rfl (by simp only [fits]; omega)) ?_) | (refine O_pure rfl rfl rfl rfl (P_sub rfl rfl rfl) ?_)
      first | (refine O_pure rfl rfl rfl rfl (P_ixa0 (k + 14) rfl ty_ar_144 rfl rfl (by first | rfl | omega) (by omega)) ?_) | (refine O_pure rfl rfl rfl rfl (P_ixa (k + 14) rfl ty_ar_144 rfl rfl (by first | rfl | omega) (by omega)) ?_)
      refine O_val rfl rfl rfl rfl (V_load rfl rfl ty_sc_88 (Rd.blk .h0 (ints_at (by omega)))) ?_
      refine O_pure rfl rfl rfl rfl (P_shr rfl rfl rfl (by decide)) ?_
      refine O_keep rfl rfl (W_callV rfl rfl rfl rfl fn_ca_79 (turn_ok gl _ 17 (by decide)) (fun _ _ => trivial) (K_keep (Weak.refl _) ?_))
      refine O_keep rfl rfl (W_callV rfl rfl rfl rfl fn_ca_79 (turn_ok gl _ 19 (by decide)) (fun _ _ => trivial) (K_keep (Weak.refl _) ?_))
      refine O_pure rfl rfl rfl rfl (P_bit (op := .xor) rfl rfl rfl rfl) ?_
      refine O_pure rfl rfl rfl rfl (P_bit (op := .xor) rfl rfl rfl rfl) ?_
      refine O_pure rfl rfl rfl rfl (P_assign rfl rfl) ?_
      refine O_nil ?_
      refine Q_then ?_
      refine R_open [(0, 0), (1, 0), (2, 0), (3, 0), (4, 1), (5, 0), (6, 0), (7, 0), (8, 0), (9, 0), (10, 1), (11, 0), (12, 0), (13, 0), (14, 0), (15, 3)] mixed (by kernel_rfl) (QOk.block (QOk.then (QOk.then (QOk.block (QOk.then QOk.body))))) ?_
      refine O_pure rfl rfl rfl rfl (P_move rfl rfl) ?_
      refine O_pure rfl rfl rfl rfl (P_move rfl rfl) ?_
      first | (refine O_pure rfl rfl rfl rfl (P_subN rfl rfl rfl (by simp only [fits]; omega)) ?_) | (refine O_pure rfl rfl rfl rfl (P_sub rfl rfl rfl) ?_)
      first | (refine O_pure rfl rfl rfl rfl (P_ixa0 (k) rfl ty_ar_144 rfl rfl (by first | rfl | omega) (by omega)) ?_) | (refine O_pure rfl rfl rfl rfl (P_ixa (k) rfl ty_ar_144 rfl rfl (by first | rfl | omega) (by omega)) ?_)
      refine O_val rfl rfl rfl rfl (V_load rfl rfl ty_sc_88 (Rd.blk .h0 (ints_at (by omega)))) ?_
      refine O_pure rfl rfl rfl rfl (P_move rfl rfl) ?_
      refine O_pure rfl rfl rfl rfl (P_add rfl rfl rfl) ?_
      refine O_pure rfl rfl rfl rfl (P_move rfl rfl) ?_
      first | (refine O_pure rfl rfl rfl rfl (P_subN rfl rfl rfl (by simp only [fits]; omega)) ?_) | (refine O_pure rfl rfl rfl rfl (P_sub rfl rfl rfl) ?_)
      first | (refine O_pure rfl rfl rfl rfl (P_ixa0 (k + 9) rfl ty_ar_144 rfl rfl (by first | rfl | omega) (by omega)) ?_) | (refine O_pure rfl rfl rfl rfl (P_ixa (k + 9) rfl ty_ar_144 rfl rfl (by first | rfl | omega) (by omega)) ?_)
      refine O_val rfl rfl rfl rfl (V_load rfl rfl ty_sc_88 (Rd.blk .h0 (ints_at (by omega)))) ?_
      refine O_pure rfl rfl rfl rfl (P_add rfl rfl rfl) ?_
      refine O_pure rfl rfl rfl rfl (P_move rfl rfl) ?_
      refine O_pure rfl rfl rfl rfl (P_add rfl rfl rfl) ?_
      first | (refine O_pure rfl rfl rfl rfl (P_ixa0 (16 + k) rfl ty_ar_144 rfl rfl (by first | rfl | omega) (by omega)) ?_) | (refine O_pure rfl rfl rfl rfl (P_ixa (16 + k) rfl ty_ar_144 rfl rfl (by first | rfl | omega) (by omega)) ?_)
      refine O_new rfl rfl (W_store rfl rfl rfl rfl ty_sc_88 rfl .h0 (by rw [ints_length, hl]; omega) (K_new ?_))
      rw [ints_set]
      refine O_nil ?_
      refine Q_block ?_
      refine Q_then ?_
      refine R_region ?_
      refine L_val rfl rfl rfl (OpP.v (P_move rfl rfl)) ?_
      first | (refine L_val rfl rfl rfl (OpP.v (P_addN rfl rfl rfl (by simp only [fits]; omega))) ?_) | (refine L_val rfl rfl rfl (OpP.v (P_add rfl rfl rfl)) ?_)
      refine L_val rfl rfl rfl (OpP.v (P_assign rfl rfl)) ?_
      refine L_nil ?_
      refine E_nat (t := 7) (n := 16 + (k + 1)) rfl (by omega) ?_
      exact Q_round (k + 1) (by omega) (by omega) (by repeat (first | exact .nil | refine .cons rfl ?_)) (Weak.refl _)
    · skip
      refine R_exit ?_
      refine Q_then_exit ?_
      refine Q_then_exit ?_
      refine Q_block_eq ?_
      refine St.env (.cons (t := 2) rfl (.cons (t := 4) rfl (.cons (t := 5) rfl .nil))) ?_
      refine Q_then ?_
      refine R_seq ?_
      refine R_region ?_
      refine L_val rfl rfl rfl (V_loadAgg rfl rfl ty_ag_121 (Rds.blk .h2) (by rw [ints_length, hs])) ?_
      refine L_op rfl (W_alloc rfl rfl rfl ty_ze_121 fun b10 => ?_)
      refine L_op rfl (W_storeAll rfl rfl rfl rfl ty_ag_121 (by rw [ints_length, hs]) (ints_one) .h0 (by rw [ints_length, List.length_replicate]; exact hs) ?_)
      refine L_nil ?_
      refine St.env (.cons (t := 2) rfl (.cons (t := 4) rfl (.cons (t := 5) rfl (.cons (t := 10) rfl .nil)))) ?_
      refine Q_then ?_
      refine R_seq ?_
      refine R_seq ?_
      refine R_region ?_
      refine L_val rfl rfl rfl (OpP.v (P_assign rfl rfl)) ?_
      refine L_nil ?_
      refine Q_then ?_
      refine R_block ?_
      obtain rfl : k = 48 := by omega
      refine R_loop (G := Nat) (fun k => [(2, .pointer (some ⟨b2, 0, none⟩)), (4, .pointer (some ⟨b4, 0, none⟩)), (5, .pointer (some ⟨b5, 0, none⟩)), (10, .pointer (some ⟨b10, 0, none⟩)), (11, .int .i64 (k : Int))]) (fun k => [blk b10 (ints .u32 (rnds addsK (sch2 (sch1 p 16) 48) s k)) 121, blk b5 (ints .u32 (sch2 (sch1 p 16) 48)) 144, blk b4 (List.replicate 8 (.int .u32 0)) 121, blk b2 (ints .u32 s) 121]) (fun k => k ≤ 64) (fun k => 64 - k) (0) (by omega) (by repeat (first | exact .nil | refine .cons rfl ?_)) (Weak.refl _) ?_
      intro k hk
      have hl : (sch2 (sch1 p 16) 48).length = 64 := by rw [sch2_length, sch1_length]
      have hr : (rnds addsK (sch2 (sch1 p 16) 48) s k).length = 8 := by rw [rnds_length, hs]
      obtain ⟨va, vb, vc, vd, ve, vf, vg, vh, e8⟩ := list8 hr
      rw [e8]
      refine R_seq ?_
      refine R_seq ?_
      refine R_region ?_
      refine L_val rfl rfl rfl (OpP.v (P_move rfl rfl)) ?_
      refine L_val rfl rfl rfl (OpP.v (P_lss rfl rfl rfl)) ?_
      refine L_nil ?_
      refine Q_then ?_
      refine R_condP rfl (fun hlt3 => ?_) (fun hlt3 => ?_)
      · skip
        refine R_skip ?_
        refine Q_then ?_
        refine R_seq ?_
        refine R_block ?_
        refine R_seq ?_
        refine R_open [(0, 0), (1, 1), (3, 0), (4, 1), (7, 0), (8, 1), (2, 2), (5, 2), (6, 0), (9, 2), (10, 0), (11, 0)] mixed (by kernel_rfl) (QOk.then (QOk.block (QOk.then (QOk.then (QOk.block (QOk.then QOk.body)))))) ?_
        first | (refine O_pure rfl rfl rfl rfl (P_ixa0 (4) rfl ty_ar_121 rfl rfl (by first | rfl | omega) (by omega)) ?_) | (refine O_pure rfl rfl rfl rfl (P_ixa (4) rfl ty_ar_121 rfl rfl (by first | rfl | omega) (by omega)) ?_)
        refine O_val rfl rfl rfl rfl (V_load rfl rfl ty_sc_88 (by first | exact Rd.blk .h0 rfl | exact Rd.blk .h1 rfl | exact Rd.blk .h2 rfl | exact Rd.blk .h3 rfl | exact Rd.blk .h4 rfl | exact Rd.blk .h5 rfl | exact Rd.blk .h6 rfl | exact Rd.blk .h7 rfl)) ?_
        first | (refine O_pure rfl rfl rfl rfl (P_ixa0 (4) rfl ty_ar_121 rfl rfl (by first | rfl | omega) (by omega)) ?_) | (refine O_pure rfl rfl rfl rfl (P_ixa (4) rfl ty_ar_121 rfl rfl (by first | rfl | omega) (by omega)) ?_)
        refine O_val rfl rfl rfl rfl (V_load rfl rfl ty_sc_88 (by first | exact Rd.blk .h0 rfl | exact Rd.blk .h1 rfl | exact Rd.blk .h2 rfl | exact Rd.blk .h3 rfl | exact Rd.blk .h4 rfl | exact Rd.blk .h5 rfl | exact Rd.blk .h6 rfl | exact Rd.blk .h7 rfl)) ?_
        first | (refine O_pure rfl rfl rfl rfl (P_ixa0 (4) rfl ty_ar_121 rfl rfl (by first | rfl | omega) (by omega)) ?_) | (refine O_pure rfl rfl rfl rfl (P_ixa (4) rfl ty_ar_121 rfl rfl (by first | rfl | omega) (by omega)) ?_)
        refine O_val rfl rfl rfl rfl (V_load rfl rfl ty_sc_88 (by first | exact Rd.blk .h0 rfl | exact Rd.blk .h1 rfl | exact Rd.blk .h2 rfl | exact Rd.blk .h3 rfl | exact Rd.blk .h4 rfl | exact Rd.blk .h5 rfl | exact Rd.blk .h6 rfl | exact Rd.blk .h7 rfl)) ?_
        refine O_keep rfl rfl (W_callV rfl rfl rfl rfl fn_ca_79 (turn_ok gl _ 6 (by decide)) (fun _ _ => trivial) (K_keep (Weak.refl _) ?_))
        refine O_keep rfl rfl (W_callV rfl rfl rfl rfl fn_ca_79 (turn_ok gl _ 11 (by decide)) (fun _ _ => trivial) (K_keep (Weak.refl _) ?_))
        refine O_pure rfl rfl rfl rfl (P_bit (op := .xor) rfl rfl rfl rfl) ?_
        refine O_keep rfl rfl (W_callV rfl rfl rfl rfl fn_ca_79 (turn_ok gl _ 25 (by decide)) (fun _ _ => trivial) (K_keep (Weak.refl _) ?_))
        refine O_pure rfl rfl rfl rfl (P_bit (op := .xor) rfl rfl rfl rfl) ?_
        refine O_pure rfl rfl rfl rfl (P_assign rfl rfl) ?_
        refine O_nil ?_
        refine Q_then ?_
        refine R_seq ?_
        refine R_region ?_
        first | (refine L_val rfl rfl rfl (OpP.v (P_ixa0 (4) rfl ty_ar_121 rfl rfl (by first | rfl | omega) (by omega))) ?_) | (refine L_val rfl rfl rfl (OpP.v (P_ixa (4) rfl ty_ar_121 rfl rfl (by first | rfl | omega) (by omega))) ?_)
        refine L_val rfl rfl rfl (V_load rfl rfl ty_sc_88 (by first | exact Rd.blk .h0 rfl | exact Rd.blk .h1 rfl | exact Rd.blk .h2 rfl | exact Rd.blk .h3 rfl | exact Rd.blk .h4 rfl | exact Rd.blk .h5 rfl | exact Rd.blk .h6 rfl | exact Rd.blk .h7 rfl)) ?_
        first | (refine L_val rfl rfl rfl (OpP.v (P_ixa0 (5) rfl ty_ar_121 rfl rfl (by first | rfl | omega) (by omega))) ?_) | (refine L_val rfl rfl rfl (OpP.v (P_ixa (5) rfl ty_ar_121 rfl rfl (by first | rfl | omega) (by omega))) ?_)
        refine L_val rfl rfl rfl (V_load rfl rfl ty_sc_88 (by first | exact Rd.blk .h0 rfl | exact Rd.blk .h1 rfl | exact Rd.blk .h2 rfl | exact Rd.blk .h3 rfl | exact Rd.blk .h4 rfl | exact Rd.blk .h5 rfl | exact Rd.blk .h6 rfl | exact Rd.blk .h7 rfl)) ?_
        refine L_val rfl rfl rfl (OpP.v (P_bit (op := .and) rfl rfl rfl rfl)) ?_
        first | (refine L_val rfl rfl rfl (OpP.v (P_ixa0 (4) rfl ty_ar_121 rfl rfl (by first | rfl | omega) (by omega))) ?_) | (refine L_val rfl rfl rfl (OpP.v (P_ixa (4) rfl ty_ar_121 rfl rfl (by first | rfl | omega) (by omega))) ?_)
        refine L_val rfl rfl rfl (V_load rfl rfl ty_sc_88 (by first | exact Rd.blk .h0 rfl | exact Rd.blk .h1 rfl | exact Rd.blk .h2 rfl | exact Rd.blk .h3 rfl | exact Rd.blk .h4 rfl | exact Rd.blk .h5 rfl | exact Rd.blk .h6 rfl | exact Rd.blk .h7 rfl)) ?_
        refine L_val rfl rfl rfl (OpP.v (P_compl rfl rfl)) ?_
        first | (refine L_val rfl rfl rfl (OpP.v (P_ixa0 (6) rfl ty_ar_121 rfl rfl (by first | rfl | omega) (by omega))) ?_) | (refine L_val rfl rfl rfl (OpP.v (P_ixa (6) rfl ty_ar_121 rfl rfl (by first | rfl | omega) (by omega))) ?_)
        refine L_val rfl rfl rfl (V_load rfl rfl ty_sc_88 (by first | exact Rd.blk .h0 rfl | exact Rd.blk .h1 rfl | exact Rd.blk .h2 rfl | exact Rd.blk .h3 rfl | exact Rd.blk .h4 rfl | exact Rd.blk .h5 rfl | exact Rd.blk .h6 rfl | exact Rd.blk .h7 rfl)) ?_
        refine L_val rfl rfl rfl (OpP.v (P_bit (op := .and) rfl rfl rfl rfl)) ?_
        refine L_val rfl rfl rfl (OpP.v (P_bit (op := .xor) rfl rfl rfl rfl)) ?_
        refine L_val rfl rfl rfl (OpP.v (P_assign rfl rfl)) ?_
        refine L_nil ?_
        refine Q_then ?_
        refine R_seq ?_
        refine R_open [(0, 0), (1, 1), (2, 0), (3, 0), (4, 0), (5, 0), (6, 0), (7, 0), (8, 1), (9, 0), (10, 0), (11, 0), (12, 1), (13, 0), (14, 0)] mixed (by kernel_rfl) (QOk.then (QOk.block (QOk.then (QOk.then (QOk.block (QOk.then QOk.body)))))) ?_
        first | (refine O_pure rfl rfl rfl rfl (P_ixa0 (7) rfl ty_ar_121 rfl rfl (by first | rfl | omega) (by omega)) ?_) | (refine O_pure rfl rfl rfl rfl (P_ixa (7) rfl ty_ar_121 rfl rfl (by first | rfl | omega) (by omega)) ?_)
        refine O_val rfl rfl rfl rfl (V_load rfl rfl ty_sc_88 (by first | exact Rd.blk .h0 rfl | exact Rd.blk .h1 rfl | exact Rd.blk .h2 rfl | exact Rd.blk .h3 rfl | exact Rd.blk .h4 rfl | exact Rd.blk .h5 rfl | exact Rd.blk .h6 rfl | exact Rd.blk .h7 rfl)) ?_
        refine O_pure rfl rfl rfl rfl (P_move rfl rfl) ?_
        refine O_pure rfl rfl rfl rfl (P_add rfl rfl rfl) ?_
        refine O_pure rfl rfl rfl rfl (P_move rfl rfl) ?_
        refine O_pure rfl rfl rfl rfl (P_add rfl rfl rfl) ?_
        refine O_pure rfl rfl rfl rfl (P_move rfl rfl) ?_
        first | (refine O_pure rfl rfl rfl rfl (P_ixa0 (k) rfl ty_ar_144 rfl rfl (by first | rfl | omega) (by omega)) ?_) | (refine O_pure rfl rfl rfl rfl (P_ixa (k) rfl ty_ar_144 rfl rfl (by first | rfl | omega) (by omega)) ?_)
        refine O_val rfl rfl rfl rfl (V_load rfl rfl ty_sc_88 (hG.elim fun T h => h.elim fun fr h => Rd.glob rfl h (ints_at (by rw [addsK_length]; omega)))) ?_
        refine O_pure rfl rfl rfl rfl (P_add rfl rfl rfl) ?_
        refine O_pure rfl rfl rfl rfl (P_move rfl rfl) ?_
        first | (refine O_pure rfl rfl rfl rfl (P_ixa0 (k) rfl ty_ar_144 rfl rfl (by first | rfl | omega) (by omega)) ?_) | (refine O_pure rfl rfl rfl rfl (P_ixa (k) rfl ty_ar_144 rfl rfl (by first | rfl | omega) (by omega)) ?_)
        refine O_val rfl rfl rfl rfl (V_load rfl rfl ty_sc_88 (Rd.blk .h1 (ints_at (by omega)))) ?_
        refine O_pure rfl rfl rfl rfl (P_add rfl rfl rfl) ?_
        refine O_pure rfl rfl rfl rfl (P_assign rfl rfl) ?_
        refine O_nil ?_
        refine Q_then ?_
        refine R_seq ?_
        refine R_open [(0, 0), (1, 1), (3, 0), (4, 1), (7, 0), (8, 1), (2, 2), (5, 2), (6, 0), (9, 2), (10, 0), (11, 0)] mixed (by kernel_rfl) (QOk.then (QOk.block (QOk.then (QOk.then (QOk.block (QOk.then QOk.body)))))) ?_
        first | (refine O_pure rfl rfl rfl rfl (P_ixa0 (0) rfl ty_ar_121 rfl rfl (by first | rfl | omega) (by omega)) ?_) | (refine O_pure rfl rfl rfl rfl (P_ixa (0) rfl ty_ar_121 rfl rfl (by first | rfl | omega) (by omega)) ?_)
        refine O_val rfl rfl rfl rfl (V_load rfl rfl ty_sc_88 (by first | exact Rd.blk .h0 rfl | exact Rd.blk .h1 rfl | exact Rd.blk .h2 rfl | exact Rd.blk .h3 rfl | exact Rd.blk .h4 rfl | exact Rd.blk .h5 rfl | exact Rd.blk .h6 rfl | exact Rd.blk .h7 rfl)) ?_
        first | (refine O_pure rfl rfl rfl rfl (P_ixa0 (0) rfl ty_ar_121 rfl rfl (by first | rfl | omega) (by omega)) ?_) | (refine O_pure rfl rfl rfl rfl (P_ixa (0) rfl ty_ar_121 rfl rfl (by first | rfl | omega) (by omega)) ?_)
        refine O_val rfl rfl rfl rfl (V_load rfl rfl ty_sc_88 (by first | exact Rd.blk .h0 rfl | exact Rd.blk .h1 rfl | exact Rd.blk .h2 rfl | exact Rd.blk .h3 rfl | exact Rd.blk .h4 rfl | exact Rd.blk .h5 rfl | exact Rd.blk .h6 rfl | exact Rd.blk .h7 rfl)) ?_
        first | (refine O_pure rfl rfl rfl rfl (P_ixa0 (0) rfl ty_ar_121 rfl rfl (by first | rfl | omega) (by omega)) ?_) | (refine O_pure rfl rfl rfl rfl (P_ixa (0) rfl ty_ar_121 rfl rfl (by first | rfl | omega) (by omega)) ?_)
        refine O_val rfl rfl rfl rfl (V_load rfl rfl ty_sc_88 (by first | exact Rd.blk .h0 rfl | exact Rd.blk .h1 rfl | exact Rd.blk .h2 rfl | exact Rd.blk .h3 rfl | exact Rd.blk .h4 rfl | exact Rd.blk .h5 rfl | exact Rd.blk .h6 rfl | exact Rd.blk .h7 rfl)) ?_
        refine O_keep rfl rfl (W_callV rfl rfl rfl rfl fn_ca_79 (turn_ok gl _ 2 (by decide)) (fun _ _ => trivial) (K_keep (Weak.refl _) ?_))
        refine O_keep rfl rfl (W_callV rfl rfl rfl rfl fn_ca_79 (turn_ok gl _ 13 (by decide)) (fun _ _ => trivial) (K_keep (Weak.refl _) ?_))
        refine O_pure rfl rfl rfl rfl (P_bit (op := .xor) rfl rfl rfl rfl) ?_
        refine O_keep rfl rfl (W_callV rfl rfl rfl rfl fn_ca_79 (turn_ok gl _ 22 (by decide)) (fun _ _ => trivial) (K_keep (Weak.refl _) ?_))
        refine O_pure rfl rfl rfl rfl (P_bit (op := .xor) rfl rfl rfl rfl) ?_
        refine O_pure rfl rfl rfl rfl (P_assign rfl rfl) ?_
        refine O_nil ?_
        refine Q_then ?_
        refine R_seq ?_
        refine R_region ?_
        first | (refine L_val rfl rfl rfl (OpP.v (P_ixa0 (0) rfl ty_ar_121 rfl rfl (by first | rfl | omega) (by omega))) ?_) | (refine L_val rfl rfl rfl (OpP.v (P_ixa (0) rfl ty_ar_121 rfl rfl (by first | rfl | omega) (by omega))) ?_)
        refine L_val rfl rfl rfl (V_load rfl rfl ty_sc_88 (by first | exact Rd.blk .h0 rfl | exact Rd.blk .h1 rfl | exact Rd.blk .h2 rfl | exact Rd.blk .h3 rfl | exact Rd.blk .h4 rfl | exact Rd.blk .h5 rfl | exact Rd.blk .h6 rfl | exact Rd.blk .h7 rfl)) ?_
        first | (refine L_val rfl rfl rfl (OpP.v (P_ixa0 (1) rfl ty_ar_121 rfl rfl (by first | rfl | omega) (by omega))) ?_) | (refine L_val rfl rfl rfl (OpP.v (P_ixa (1) rfl ty_ar_121 rfl rfl (by first | rfl | omega) (by omega))) ?_)
        refine L_val rfl rfl rfl (V_load rfl rfl ty_sc_88 (by first | exact Rd.blk .h0 rfl | exact Rd.blk .h1 rfl | exact Rd.blk .h2 rfl | exact Rd.blk .h3 rfl | exact Rd.blk .h4 rfl | exact Rd.blk .h5 rfl | exact Rd.blk .h6 rfl | exact Rd.blk .h7 rfl)) ?_
        refine L_val rfl rfl rfl (OpP.v (P_bit (op := .and) rfl rfl rfl rfl)) ?_
        first | (refine L_val rfl rfl rfl (OpP.v (P_ixa0 (0) rfl ty_ar_121 rfl rfl (by first | rfl | omega) (by omega))) ?_) | (refine L_val rfl rfl rfl (OpP.v (P_ixa (0) rfl ty_ar_121 rfl rfl (by first | rfl | omega) (by omega))) ?_)
        refine L_val rfl rfl rfl (V_load rfl rfl ty_sc_88 (by first | exact Rd.blk .h0 rfl | exact Rd.blk .h1 rfl | exact Rd.blk .h2 rfl | exact Rd.blk .h3 rfl | exact Rd.blk .h4 rfl | exact Rd.blk .h5 rfl | exact Rd.blk .h6 rfl | exact Rd.blk .h7 rfl)) ?_
        first | (refine L_val rfl rfl rfl (OpP.v (P_ixa0 (2) rfl ty_ar_121 rfl rfl (by first | rfl | omega) (by omega))) ?_) | (refine L_val rfl rfl rfl (OpP.v (P_ixa (2) rfl ty_ar_121 rfl rfl (by first | rfl | omega) (by omega))) ?_)
        refine L_val rfl rfl rfl (V_load rfl rfl ty_sc_88 (by first | exact Rd.blk .h0 rfl | exact Rd.blk .h1 rfl | exact Rd.blk .h2 rfl | exact Rd.blk .h3 rfl | exact Rd.blk .h4 rfl | exact Rd.blk .h5 rfl | exact Rd.blk .h6 rfl | exact Rd.blk .h7 rfl)) ?_
        refine L_val rfl rfl rfl (OpP.v (P_bit (op := .and) rfl rfl rfl rfl)) ?_
        refine L_val rfl rfl rfl (OpP.v (P_bit (op := .xor) rfl rfl rfl rfl)) ?_
        first | (refine L_val rfl rfl rfl (OpP.v (P_ixa0 (1) rfl ty_ar_121 rfl rfl (by first | rfl | omega) (by omega))) ?_) | (refine L_val rfl rfl rfl (OpP.v (P_ixa (1) rfl ty_ar_121 rfl rfl (by first | rfl | omega) (by omega))) ?_)
        refine L_val rfl rfl rfl (V_load rfl rfl ty_sc_88 (by first | exact Rd.blk .h0 rfl | exact Rd.blk .h1 rfl | exact Rd.blk .h2 rfl | exact Rd.blk .h3 rfl | exact Rd.blk .h4 rfl | exact Rd.blk .h5 rfl | exact Rd.blk .h6 rfl | exact Rd.blk .h7 rfl)) ?_
        first | (refine L_val rfl rfl rfl (OpP.v (P_ixa0 (2) rfl ty_ar_121 rfl rfl (by first | rfl | omega) (by omega))) ?_) | (refine L_val rfl rfl rfl (OpP.v (P_ixa (2) rfl ty_ar_121 rfl rfl (by first | rfl | omega) (by omega))) ?_)
        refine L_val rfl rfl rfl (V_load rfl rfl ty_sc_88 (by first | exact Rd.blk .h0 rfl | exact Rd.blk .h1 rfl | exact Rd.blk .h2 rfl | exact Rd.blk .h3 rfl | exact Rd.blk .h4 rfl | exact Rd.blk .h5 rfl | exact Rd.blk .h6 rfl | exact Rd.blk .h7 rfl)) ?_
        refine L_val rfl rfl rfl (OpP.v (P_bit (op := .and) rfl rfl rfl rfl)) ?_
        refine L_val rfl rfl rfl (OpP.v (P_bit (op := .xor) rfl rfl rfl rfl)) ?_
        refine L_val rfl rfl rfl (OpP.v (P_assign rfl rfl)) ?_
        refine L_nil ?_
        refine Q_then ?_
        refine R_seq ?_
        refine R_region ?_
        first | (refine L_val rfl rfl rfl (OpP.v (P_ixa0 (6) rfl ty_ar_121 rfl rfl (by first | rfl | omega) (by omega))) ?_) | (refine L_val rfl rfl rfl (OpP.v (P_ixa (6) rfl ty_ar_121 rfl rfl (by first | rfl | omega) (by omega))) ?_)
        refine L_val rfl rfl rfl (V_load rfl rfl ty_sc_88 (by first | exact Rd.blk .h0 rfl | exact Rd.blk .h1 rfl | exact Rd.blk .h2 rfl | exact Rd.blk .h3 rfl | exact Rd.blk .h4 rfl | exact Rd.blk .h5 rfl | exact Rd.blk .h6 rfl | exact Rd.blk .h7 rfl)) ?_
        first | (refine L_val rfl rfl rfl (OpP.v (P_ixa0 (7) rfl ty_ar_121 rfl rfl (by first | rfl | omega) (by omega))) ?_) | (refine L_val rfl rfl rfl (OpP.v (P_ixa (7) rfl ty_ar_121 rfl rfl (by first | rfl | omega) (by omega))) ?_)
        refine L_op rfl (W_store rfl rfl rfl rfl ty_sc_88 rfl .h0 (by simp [ints]) ?_)
        refine L_nil ?_
        refine Q_then ?_
        refine R_seq ?_
        refine R_region ?_
        first | (refine L_val rfl rfl rfl (OpP.v (P_ixa0 (5) rfl ty_ar_121 rfl rfl (by first | rfl | omega) (by omega))) ?_) | (refine L_val rfl rfl rfl (OpP.v (P_ixa (5) rfl ty_ar_121 rfl rfl (by first | rfl | omega) (by omega))) ?_)
        refine L_val rfl rfl rfl (V_load rfl rfl ty_sc_88 (by first | exact Rd.blk .h0 rfl | exact Rd.blk .h1 rfl | exact Rd.blk .h2 rfl | exact Rd.blk .h3 rfl | exact Rd.blk .h4 rfl | exact Rd.blk .h5 rfl | exact Rd.blk .h6 rfl | exact Rd.blk .h7 rfl)) ?_
        first | (refine L_val rfl rfl rfl (OpP.v (P_ixa0 (6) rfl ty_ar_121 rfl rfl (by first | rfl | omega) (by omega))) ?_) | (refine L_val rfl rfl rfl (OpP.v (P_ixa (6) rfl ty_ar_121 rfl rfl (by first | rfl | omega) (by omega))) ?_)
        refine L_op rfl (W_store rfl rfl rfl rfl ty_sc_88 rfl .h0 (by simp [ints]) ?_)
        refine L_nil ?_
        refine Q_then ?_
        refine R_seq ?_
        refine R_region ?_
        first | (refine L_val rfl rfl rfl (OpP.v (P_ixa0 (4) rfl ty_ar_121 rfl rfl (by first | rfl | omega) (by omega))) ?_) | (refine L_val rfl rfl rfl (OpP.v (P_ixa (4) rfl ty_ar_121 rfl rfl (by first | rfl | omega) (by omega))) ?_)
        refine L_val rfl rfl rfl (V_load rfl rfl ty_sc_88 (by first | exact Rd.blk .h0 rfl | exact Rd.blk .h1 rfl | exact Rd.blk .h2 rfl | exact Rd.blk .h3 rfl | exact Rd.blk .h4 rfl | exact Rd.blk .h5 rfl | exact Rd.blk .h6 rfl | exact Rd.blk .h7 rfl)) ?_
        first | (refine L_val rfl rfl rfl (OpP.v (P_ixa0 (5) rfl ty_ar_121 rfl rfl (by first | rfl | omega) (by omega))) ?_) | (refine L_val rfl rfl rfl (OpP.v (P_ixa (5) rfl ty_ar_121 rfl rfl (by first | rfl | omega) (by omega))) ?_)
        refine L_op rfl (W_store rfl rfl rfl rfl ty_sc_88 rfl .h0 (by simp [ints]) ?_)
        refine L_nil ?_
        refine Q_then ?_
        refine R_seq ?_
        refine R_region ?_
        first | (refine L_val rfl rfl rfl (OpP.v (P_ixa0 (3) rfl ty_ar_121 rfl rfl (by first | rfl | omega) (by omega))) ?_) | (refine L_val rfl rfl rfl (OpP.v (P_ixa (3) rfl ty_ar_121 rfl rfl (by first | rfl | omega) (by omega))) ?_)
        refine L_val rfl rfl rfl (V_load rfl rfl ty_sc_88 (by first | exact Rd.blk .h0 rfl | exact Rd.blk .h1 rfl | exact Rd.blk .h2 rfl | exact Rd.blk .h3 rfl | exact Rd.blk .h4 rfl | exact Rd.blk .h5 rfl | exact Rd.blk .h6 rfl | exact Rd.blk .h7 rfl)) ?_
        refine L_val rfl rfl rfl (OpP.v (P_move rfl rfl)) ?_
        refine L_val rfl rfl rfl (OpP.v (P_add rfl rfl rfl)) ?_
        first | (refine L_val rfl rfl rfl (OpP.v (P_ixa0 (4) rfl ty_ar_121 rfl rfl (by first | rfl | omega) (by omega))) ?_) | (refine L_val rfl rfl rfl (OpP.v (P_ixa (4) rfl ty_ar_121 rfl rfl (by first | rfl | omega) (by omega))) ?_)
        refine L_op rfl (W_store rfl rfl rfl rfl ty_sc_88 rfl .h0 (by simp [ints]) ?_)
        refine L_nil ?_
        refine Q_then ?_
        refine R_seq ?_
        refine R_region ?_
        first | (refine L_val rfl rfl rfl (OpP.v (P_ixa0 (2) rfl ty_ar_121 rfl rfl (by first | rfl | omega) (by omega))) ?_) | (refine L_val rfl rfl rfl (OpP.v (P_ixa (2) rfl ty_ar_121 rfl rfl (by first | rfl | omega) (by omega))) ?_)
        refine L_val rfl rfl rfl (V_load rfl rfl ty_sc_88 (by first | exact Rd.blk .h0 rfl | exact Rd.blk .h1 rfl | exact Rd.blk .h2 rfl | exact Rd.blk .h3 rfl | exact Rd.blk .h4 rfl | exact Rd.blk .h5 rfl | exact Rd.blk .h6 rfl | exact Rd.blk .h7 rfl)) ?_
        first | (refine L_val rfl rfl rfl (OpP.v (P_ixa0 (3) rfl ty_ar_121 rfl rfl (by first | rfl | omega) (by omega))) ?_) | (refine L_val rfl rfl rfl (OpP.v (P_ixa (3) rfl ty_ar_121 rfl rfl (by first | rfl | omega) (by omega))) ?_)
        refine L_op rfl (W_store rfl rfl rfl rfl ty_sc_88 rfl .h0 (by simp [ints]) ?_)
        refine L_nil ?_
        refine Q_then ?_
        refine R_seq ?_
        refine R_region ?_
        first | (refine L_val rfl rfl rfl (OpP.v (P_ixa0 (1) rfl ty_ar_121 rfl rfl (by first | rfl | omega) (by omega))) ?_) | (refine L_val rfl rfl rfl (OpP.v (P_ixa (1) rfl ty_ar_121 rfl rfl (by first | rfl | omega) (by omega))) ?_)
        refine L_val rfl rfl rfl (V_load rfl rfl ty_sc_88 (by first | exact Rd.blk .h0 rfl | exact Rd.blk .h1 rfl | exact Rd.blk .h2 rfl | exact Rd.blk .h3 rfl | exact Rd.blk .h4 rfl | exact Rd.blk .h5 rfl | exact Rd.blk .h6 rfl | exact Rd.blk .h7 rfl)) ?_
        first | (refine L_val rfl rfl rfl (OpP.v (P_ixa0 (2) rfl ty_ar_121 rfl rfl (by first | rfl | omega) (by omega))) ?_) | (refine L_val rfl rfl rfl (OpP.v (P_ixa (2) rfl ty_ar_121 rfl rfl (by first | rfl | omega) (by omega))) ?_)
        refine L_op rfl (W_store rfl rfl rfl rfl ty_sc_88 rfl .h0 (by simp [ints]) ?_)
        refine L_nil ?_
        refine Q_then ?_
        refine R_seq ?_
        refine R_region ?_
        first | (refine L_val rfl rfl rfl (OpP.v (P_ixa0 (0) rfl ty_ar_121 rfl rfl (by first | rfl | omega) (by omega))) ?_) | (refine L_val rfl rfl rfl (OpP.v (P_ixa (0) rfl ty_ar_121 rfl rfl (by first | rfl | omega) (by omega))) ?_)
        refine L_val rfl rfl rfl (V_load rfl rfl ty_sc_88 (by first | exact Rd.blk .h0 rfl | exact Rd.blk .h1 rfl | exact Rd.blk .h2 rfl | exact Rd.blk .h3 rfl | exact Rd.blk .h4 rfl | exact Rd.blk .h5 rfl | exact Rd.blk .h6 rfl | exact Rd.blk .h7 rfl)) ?_
        first | (refine L_val rfl rfl rfl (OpP.v (P_ixa0 (1) rfl ty_ar_121 rfl rfl (by first | rfl | omega) (by omega))) ?_) | (refine L_val rfl rfl rfl (OpP.v (P_ixa (1) rfl ty_ar_121 rfl rfl (by first | rfl | omega) (by omega))) ?_)
        refine L_op rfl (W_store rfl rfl rfl rfl ty_sc_88 rfl .h0 (by simp [ints]) ?_)
        refine L_nil ?_
        refine Q_then ?_
        refine R_region ?_
        refine L_val rfl rfl rfl (OpP.v (P_move rfl rfl)) ?_
        refine L_val rfl rfl rfl (OpP.v (P_move rfl rfl)) ?_
        refine L_val rfl rfl rfl (OpP.v (P_add rfl rfl rfl)) ?_
        refine L_val rfl rfl rfl (OpP.v (P_move rfl rfl)) ?_
        refine L_val rfl rfl rfl (OpP.v (P_add rfl rfl rfl)) ?_
        refine E_as (t := 207) (v' := .int .u32 (addW _ (addW _ _))) rfl (congrArg (Value.int .u32) (addW_assoc _ _ _)) ?_
        first | (refine L_val rfl rfl rfl (OpP.v (P_ixa0 (0) rfl ty_ar_121 rfl rfl (by first | rfl | omega) (by omega))) ?_) | (refine L_val rfl rfl rfl (OpP.v (P_ixa (0) rfl ty_ar_121 rfl rfl (by first | rfl | omega) (by omega))) ?_)
        refine L_op rfl (W_store rfl rfl rfl rfl ty_sc_88 rfl .h0 (by simp [ints]) ?_)
        refine L_nil ?_
        refine Q_block ?_
        refine Q_then ?_
        refine R_region ?_
        refine L_val rfl rfl rfl (OpP.v (P_move rfl rfl)) ?_
        first | (refine L_val rfl rfl rfl (OpP.v (P_addN rfl rfl rfl (by simp only [fits]; omega))) ?_) | (refine L_val rfl rfl rfl (OpP.v (P_add rfl rfl rfl)) ?_)
        refine L_val rfl rfl rfl (OpP.v (P_assign rfl rfl)) ?_
        refine L_nil ?_
        refine E_nat (t := 11) (n := k + 1) rfl (by omega) ?_
        exact Q_round (k + 1) (by omega) (by omega) (by repeat (first | exact .nil | refine .cons rfl ?_)) (by rw [rnds, e8]; exact Weak.refl _)
      · skip
        refine R_exit ?_
        refine Q_then_exit ?_
        refine Q_then_exit ?_
        refine Q_block_eq ?_
        refine St.env (.cons (t := 2) rfl (.cons (t := 4) rfl (.cons (t := 10) rfl .nil))) ?_
        refine Q_then ?_
        refine R_seq ?_
        refine R_seq ?_
        refine R_region ?_
        refine L_val rfl rfl rfl (OpP.v (P_assign rfl rfl)) ?_
        refine L_nil ?_
        refine Q_then ?_
        refine R_block ?_
        obtain rfl : k = 64 := by omega
        rw [← e8]
        refine R_loop (G := Nat) (fun k => [(2, .pointer (some ⟨b2, 0, none⟩)), (4, .pointer (some ⟨b4, 0, none⟩)), (10, .pointer (some ⟨b10, 0, none⟩)), (17, .int .i64 (k : Int))]) (fun k => [blk b10 (ints .u32 (rnds addsK (sch2 (sch1 p 16) 48) s 64)) 121, blk b5 (ints .u32 (sch2 (sch1 p 16) 48)) 144, blk b4 (List.replicate 8 (.int .u32 0)) 121, blk b2 (ints .u32 (fin8 s (rnds addsK (sch2 (sch1 p 16) 48) s 64) k)) 121]) (fun k => k ≤ 8) (fun k => 8 - k) (0) (by omega) (by repeat (first | exact .nil | refine .cons rfl ?_)) (Weak.refl _) ?_
        intro k hk
        have hf : (fin8 s (rnds addsK (sch2 (sch1 p 16) 48) s 64) k).length = 8 := by rw [fin8_length, hs]
        have hr : (rnds addsK (sch2 (sch1 p 16) 48) s 64).length = 8 := by rw [rnds_length, hs]
        refine R_seq ?_
        refine R_seq ?_
        refine R_region ?_
        refine L_val rfl rfl rfl (OpP.v (P_move rfl rfl)) ?_
        refine L_val rfl rfl rfl (OpP.v (P_lss rfl rfl rfl)) ?_
        refine L_nil ?_
        refine Q_then ?_
        refine R_condP rfl (fun hlt4 => ?_) (fun hlt4 => ?_)
        · skip
          refine R_skip ?_
          refine Q_then ?_
          refine R_seq ?_
          refine R_block ?_
          refine R_open [(0, 0), (1, 0), (2, 0), (3, 1), (4, 0), (5, 0), (6, 1), (7, 0), (8, 0), (9, 3)] mixed (by kernel_rfl) (QOk.block (QOk.then (QOk.then (QOk.block (QOk.then QOk.body))))) ?_
          refine O_pure rfl rfl rfl rfl (P_move rfl rfl) ?_
          refine O_pure rfl rfl rfl rfl (P_move rfl rfl) ?_
          first | (refine O_pure rfl rfl rfl rfl (P_ixa0 (k) rfl ty_ar_121 rfl rfl (by first | rfl | omega) (by omega)) ?_) | (refine O_pure rfl rfl rfl rfl (P_ixa (k) rfl ty_ar_121 rfl rfl (by first | rfl | omega) (by omega)) ?_)
          refine O_val rfl rfl rfl rfl (V_load rfl rfl ty_sc_88 (Rd.blk .h3 (ints_at (by omega)))) ?_
          refine O_pure rfl rfl rfl rfl (P_move rfl rfl) ?_
          first | (refine O_pure rfl rfl rfl rfl (P_ixa0 (k) rfl ty_ar_121 rfl rfl (by first | rfl | omega) (by omega)) ?_) | (refine O_pure rfl rfl rfl rfl (P_ixa (k) rfl ty_ar_121 rfl rfl (by first | rfl | omega) (by omega)) ?_)
          refine O_val rfl rfl rfl rfl (V_load rfl rfl ty_sc_88 (Rd.blk .h0 (ints_at (by omega)))) ?_
          refine O_pure rfl rfl rfl rfl (P_add rfl rfl rfl) ?_
          first | (refine O_pure rfl rfl rfl rfl (P_ixa0 (k) rfl ty_ar_121 rfl rfl (by first | rfl | omega) (by omega)) ?_) | (refine O_pure rfl rfl rfl rfl (P_ixa (k) rfl ty_ar_121 rfl rfl (by first | rfl | omega) (by omega)) ?_)
          refine O_new rfl rfl (W_store rfl rfl rfl rfl ty_sc_88 rfl .h3 (by rw [ints_length, hf]; omega) (K_new ?_))
          rw [ints_set]
          refine O_nil ?_
          refine Q_block ?_
          refine Q_then ?_
          refine R_region ?_
          refine L_val rfl rfl rfl (OpP.v (P_move rfl rfl)) ?_
          first | (refine L_val rfl rfl rfl (OpP.v (P_addN rfl rfl rfl (by simp only [fits]; omega))) ?_) | (refine L_val rfl rfl rfl (OpP.v (P_add rfl rfl rfl)) ?_)
          refine L_val rfl rfl rfl (OpP.v (P_assign rfl rfl)) ?_
          refine L_nil ?_
          refine E_nat (t := 17) (n := k + 1) rfl (by omega) ?_
          exact Q_round (k + 1) (by omega) (by omega) (by repeat (first | exact .nil | refine .cons rfl ?_)) (Weak.refl _)
        · skip
          refine R_exit ?_
          refine Q_then_exit ?_
          refine Q_then_exit ?_
          refine Q_block_eq ?_
          refine St.env (.cons (t := 2) rfl (.cons (t := 4) rfl .nil)) ?_
          refine Q_then ?_
          refine R_seq ?_
          refine R_region ?_
          obtain rfl : k = 8 := by omega
          refine L_val rfl rfl rfl (V_loadAgg rfl rfl ty_ag_121 (Rds.blk .h3) (by rw [ints_length, hf])) ?_
          refine L_op rfl (W_storeAll rfl rfl rfl rfl ty_ag_121 (by rw [ints_length, hf]) (ints_one) .h2 (by rw [ints_length, hf]; rfl) ?_)
          refine L_nil ?_
          refine St.env (.cons (t := 4) rfl .nil) ?_
          refine Q_then ?_
          refine R_ret ?_
          exact R_endV rfl rfl (.cell rfl (Rds.loadVar ty_ag_121 (Rds.blk .h2) (by rw [ints_length, hf])) .nil) (rfl)
end Go.Proofs.YtnaadddnbfnahaaDoor
