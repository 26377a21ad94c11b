/- Walks: Turn, Proposer. Printed by gen.py. -/
import Derived.Test.YtjhhpagcejgclaaC4
import Derived.Test.YtjhhpagcejgclaaC45
set_option linter.unusedVariables false
set_option linter.unusedSimpArgs false
set_option maxRecDepth 100000
namespace Go.Proofs.Ytjhhpagcejgclaa
open Go Go.RowKit Go.Proofs
theorem Turn_ok {gl : Nat → Obj} (base : Option Addr) (c : Nat) (l : List Mem) (hc : l.length ≤ c) (hmax : l.length ≤ 5864062014700) (hok : ∀ m ∈ l, m.ok) (n : Int) : Spec (cx gl) 26 [.agg [.slice base l.length c].toArray, .int .i64 n] (fun w _ => Row w base (memC l)) [] (fun v rs => ∃ u, v = .tuple #[.agg [u].toArray, .int .i64 (turnE l n)] ∧ rs = [ownS 48 3 (u) ((turnM l n).length) (memC (turnM l n))]) := by
  refine Spec.enter (C := cx gl) Try.func26 rfl 36 rfl rfl fun w0 h0 hsep hsub hpre => ?_
  obtain rfl : h0 = Heap.none := hsep
  show St (cx gl) _ [(0, .agg [.slice base l.length c].toArray), (1, .int .i64 n)] _ _
  have hms : msK = 1152921504606846975 := rfl
  refine R_seq ?_
  refine R_region ?_
  refine L_op rfl (W_box ([.slice base l.length c]) rfl rfl rfl rfl rfl fun b2 => ?_)
  refine L_op rfl (W_alloc rfl rfl rfl ty_ze_25 fun b4 => ?_)
  refine L_val rfl rfl rfl (OpP.v (P_assign rfl rfl)) ?_
  refine L_nil ?_
  refine St.env (.cons (t := 1) rfl (.cons (t := 2) rfl (.cons (t := 4) rfl (.cons (t := 5) rfl .nil)))) ?_
  refine Q_then ?_
  refine R_seq ?_
  refine R_region ?_
  refine L_val rfl rfl rfl (V_loadAgg rfl rfl ty_ag_25 (Rds.blk .h1) (rfl)) ?_
  refine L_op rfl (W_callV rfl rfl rfl rfl fn_ca_48 (sound_ok base c l hc hmax hok) ((Sn.row hpre rfl).rw_) ?_)
  refine L_val rfl rfl rfl (OpP.v (P_move rfl rfl)) ?_
  refine L_val rfl rfl rfl (OpP.v (P_extract rfl rfl rfl)) ?_
  refine L_val rfl rfl rfl (OpP.v (P_extract rfl rfl rfl)) ?_
  refine L_val rfl rfl rfl (OpP.v (P_assign rfl rfl)) ?_
  refine L_val rfl rfl rfl (OpP.v (P_assign rfl rfl)) ?_
  refine L_nil ?_
  refine St.env (.cons (t := 1) rfl (.cons (t := 2) rfl (.cons (t := 4) rfl (.cons (t := 5) rfl (.cons (t := 6) rfl (.cons (t := 7) rfl .nil)))))) ?_
  refine Q_then ?_
  refine R_seq ?_
  refine R_seq ?_
  refine R_region ?_
  refine L_val rfl rfl rfl (OpP.v (P_move rfl rfl)) ?_
  refine L_val rfl rfl rfl (OpP.v (P_neq rfl rfl rfl)) ?_
  refine L_nil ?_
  refine St.env (.cons (t := 1) rfl (.cons (t := 2) rfl (.cons (t := 4) rfl (.cons (t := 5) rfl (.cons (t := 6) rfl (.cons (t := 7) rfl (.cons (t := 15) rfl .nil))))))) ?_
  refine Q_then ?_
  refine R_condP rfl (fun he => ?_) (fun he => ?_)
  · skip
    refine R_seq ?_
    refine R_region ?_
    refine L_val rfl rfl rfl (OpP.v (P_buildStruct rfl ty_pl_25 ty_ze_25 rfl rfl (rfl))) ?_
    refine E_as (t := 16) (v' := .agg [.slice none 0 0].toArray) rfl rfl ?_
    refine L_val rfl rfl rfl (OpP.v (P_move rfl rfl)) ?_
    refine L_op rfl (W_storeAll rfl rfl rfl rfl ty_ag_25 (rfl) (by intro v hv; simp only [List.mem_singleton] at hv; subst hv; rfl) .h0 (rfl) ?_)
    refine L_val rfl rfl rfl (OpP.v (P_assign rfl rfl)) ?_
    refine L_nil ?_
    refine St.env (.cons (t := 1) rfl (.cons (t := 2) rfl (.cons (t := 4) rfl (.cons (t := 5) rfl (.cons (t := 6) rfl .nil))))) ?_
    refine Q_then ?_
    refine R_ret ?_
    refine Q_then_ret ?_
    exact R_end (rs2 := [ownS 48 3 (.slice none 0 0) ((turnM l n).length) (memC (turnM l n))]) rfl rfl (.cell rfl (Rds.loadVar ty_ag_25 (Rds.blk .h0) rfl) (.tmp rfl .nil)) (⟨_, by rw [turnE_bad he]; rfl, rfl⟩) (Weak.trans (Weak.newNil (T := 48) (sz := 3)) (Weak.keep_to (fun h hh => by rw [turnM_bad (by rw [turnE_bad he]; exact he)]; exact hh)))
  · skip
    have he : soundE l = 0 := Classical.not_not.1 he
    have hS := sane_of hok he
    have hsT : soundT l = sumP l := by unfold soundT; rw [if_pos he]
    have hT0 := hS.t0
    have hT1 := hS.t1
    have hpos := hS.pos
    refine R_skip ?_
    refine Q_then ?_
    refine R_seq ?_
    refine R_seq ?_
    refine R_region ?_
    refine L_val rfl rfl rfl (OpP.v (P_move rfl rfl)) ?_
    refine L_val rfl rfl rfl (OpP.v (P_lss rfl rfl rfl)) ?_
    refine E_bool (t := 19) rfl (fun hn0 => ?_) (fun hn0 => ?_)
    · skip
      have hn0 := of_decide_eq_true hn0
      refine L_val rfl rfl rfl (OpP.v (P_move rfl rfl)) ?_
      refine L_no rfl rfl rfl ?_
      refine L_no rfl rfl rfl ?_
      refine L_val rfl rfl rfl (OpP.v (P_pick rfl rfl rfl)) ?_
      refine L_nil ?_
      refine St.env (.cons (t := 1) rfl (.cons (t := 2) rfl (.cons (t := 4) rfl (.cons (t := 5) rfl (.cons (t := 6) rfl (.cons (t := 23) rfl .nil)))))) ?_
      refine Q_then ?_
      refine R_condT rfl ?_
      refine R_seq ?_
      refine R_region ?_
      refine L_val rfl rfl rfl (OpP.v (P_buildStruct rfl ty_pl_25 ty_ze_25 rfl rfl (rfl))) ?_
      refine E_as (t := 24) (v' := .agg [.slice none 0 0].toArray) rfl rfl ?_
      refine L_op rfl (W_storeAll rfl rfl rfl rfl ty_ag_25 (rfl) (by intro v hv; simp only [List.mem_singleton] at hv; subst hv; rfl) .h0 (rfl) ?_)
      refine L_val rfl rfl rfl (OpP.v (P_assign rfl rfl)) ?_
      refine L_nil ?_
      refine St.env (.cons (t := 1) rfl (.cons (t := 2) rfl (.cons (t := 4) rfl (.cons (t := 5) rfl (.cons (t := 6) rfl .nil))))) ?_
      refine Q_then ?_
      refine R_ret ?_
      refine Q_then_ret ?_
      exact R_end (rs2 := [ownS 48 3 (.slice none 0 0) ((turnM l n).length) (memC (turnM l n))]) rfl rfl (.cell rfl (Rds.loadVar ty_ag_25 (Rds.blk .h0) rfl) (.tmp rfl .nil)) (⟨_, by rw [turnE_arg he (by omega)]; rfl, rfl⟩) (Weak.trans (Weak.newNil (T := 48) (sz := 3)) (Weak.keep_to (fun h hh => by rw [turnM_bad (by rw [turnE_arg he (by omega)]; decide)]; exact hh)))
    · skip
      have hn0 := of_decide_eq_false hn0
      refine L_val rfl rfl rfl (OpP.v (P_move rfl rfl)) ?_
      refine L_val rfl rfl rfl (OpP.v (P_move rfl rfl)) ?_
      refine L_val rfl rfl rfl (OpP.v (P_gtr rfl rfl rfl)) ?_
      refine L_val rfl rfl rfl (OpP.v (P_pick rfl rfl rfl)) ?_
      refine L_nil ?_
      refine St.env (.cons (t := 1) rfl (.cons (t := 2) rfl (.cons (t := 4) rfl (.cons (t := 5) rfl (.cons (t := 6) rfl (.cons (t := 23) rfl .nil)))))) ?_
      refine Q_then ?_
      refine R_condP rfl (fun hn1 => ?_) (fun hn1 => ?_)
      · skip
        refine R_seq ?_
        refine R_region ?_
        refine L_val rfl rfl rfl (OpP.v (P_buildStruct rfl ty_pl_25 ty_ze_25 rfl rfl (rfl))) ?_
        refine E_as (t := 24) (v' := .agg [.slice none 0 0].toArray) rfl rfl ?_
        refine L_op rfl (W_storeAll rfl rfl rfl rfl ty_ag_25 (rfl) (by intro v hv; simp only [List.mem_singleton] at hv; subst hv; rfl) .h0 (rfl) ?_)
        refine L_val rfl rfl rfl (OpP.v (P_assign rfl rfl)) ?_
        refine L_nil ?_
        refine St.env (.cons (t := 1) rfl (.cons (t := 2) rfl (.cons (t := 4) rfl (.cons (t := 5) rfl (.cons (t := 6) rfl .nil))))) ?_
        refine Q_then ?_
        refine R_ret ?_
        refine Q_then_ret ?_
        exact R_end (rs2 := [ownS 48 3 (.slice none 0 0) ((turnM l n).length) (memC (turnM l n))]) rfl rfl (.cell rfl (Rds.loadVar ty_ag_25 (Rds.blk .h0) rfl) (.tmp rfl .nil)) (⟨_, by rw [turnE_arg he (by omega)]; rfl, rfl⟩) (Weak.trans (Weak.newNil (T := 48) (sz := 3)) (Weak.keep_to (fun h hh => by rw [turnM_bad (by rw [turnE_arg he (by omega)]; decide)]; exact hh)))
      · skip
        have hn : ¬ (n < 0 ∨ 65536 < n) := by omega
        refine R_skip ?_
        refine Q_then ?_
        refine R_seq ?_
        refine R_region ?_
        refine L_val rfl rfl rfl (V_loadAgg rfl rfl ty_ag_25 (Rds.blk .h1) (rfl)) ?_
        refine L_op rfl (W_call rfl rfl rfl rfl fn_ca_44 (copied_ok base c l hc hmax) (Split.nil _) (fun w a b _ hb dj m => (Sn.row hpre rfl).rw_ w ⟨_, hb, m.le (Heap.le_join_right dj)⟩) fun v26 rs1 ⟨u, e1, e2⟩ => ?_)
        subst e1; subst e2
        refine St.ownSome (p := []) hpos fun ub uc huv huc => ?_
        subst huv
        refine L_op rfl (W_alloc rfl rfl rfl ty_ze_25 fun b8 => ?_)
        refine L_op rfl (W_storeAll rfl rfl rfl rfl ty_ag_25 (rfl) (by intro v hv; simp only [List.mem_singleton] at hv; subst hv; rfl) .h0 (rfl) ?_)
        refine L_nil ?_
        refine St.env (.cons (t := 1) rfl (.cons (t := 4) rfl (.cons (t := 5) rfl (.cons (t := 6) rfl (.cons (t := 8) rfl .nil))))) ?_
        refine Q_then ?_
        refine R_seq ?_
        refine R_seq ?_
        refine R_region ?_
        refine L_val rfl rfl rfl (OpP.v (P_move rfl rfl)) ?_
        refine L_val rfl rfl rfl (OpP.v (P_move rfl rfl)) ?_
        refine L_nil ?_
        refine St.env (.cons (t := 4) rfl (.cons (t := 5) rfl (.cons (t := 6) rfl (.cons (t := 8) rfl (.cons (t := 27) rfl (.cons (t := 28) rfl .nil)))))) ?_
        refine Q_then ?_
        refine R_block ?_
        refine R_loopE (G := Nat) (.cons (t := 4) rfl (.cons (t := 5) rfl (.cons (t := 6) rfl (.cons (t := 8) rfl (.cons (t := 27) rfl .nil))))) (fun g => [(28, .int .i64 (g : Int))]) (fun g => [blk b8 [.slice (some ⟨ub, 0, none⟩) l.length uc] 25, ownS 48 3 (.slice (some ⟨ub, 0, none⟩) l.length uc) (l.length) (memC (turnsL (sumP l) g l)), blk b4 [.slice none 0 0] 25, blk b2 [.slice base l.length c] 25]) (fun g => (g : Int) ≤ n) (fun g => n.toNat - g) (0) (by show (0 : Int) ≤ n; omega) (by repeat (first | exact .nil | refine .cons rfl ?_ | refine .consE rfl (by first | rfl | (congr 1; omega) | (congr 1; push_cast; omega)) ?_)) (Weak.refl _) ?_
        intro i hinv
        replace hinv : (i : Int) ≤ n := hinv
        show St (cx gl) _ ((28, .int .i64 (i : Int)) :: _) [blk b8 [.slice (some ⟨ub, 0, none⟩) l.length uc] 25, ownS 48 3 (.slice (some ⟨ub, 0, none⟩) l.length uc) (l.length) (memC (turnsL (sumP l) i l)), blk b4 [.slice none 0 0] 25, blk b2 [.slice base l.length c] 25] _
        refine R_seq ?_
        refine R_region ?_
        refine L_val rfl rfl rfl (OpP.v (P_lss rfl rfl rfl)) ?_
        refine L_nil ?_
        refine Q_then ?_
        refine R_seq ?_
        refine R_condP rfl (fun hlt => ?_) (fun hlt => ?_)
        · skip
          refine R_skip ?_
          refine Q_then ?_
          refine R_seq ?_
          refine R_block ?_
          have h9 := turn_ok (gl := gl) (sumP l) (turnsL (sumP l) i l) (hS.turns i) ub uc
          rw [turnsL_length] at h9
          refine R_region ?_
          refine L_val rfl rfl rfl (V_loadAgg rfl rfl ty_ag_25 (Rds.blk .h0) (rfl)) ?_
          refine L_val rfl rfl rfl (OpP.v (P_move rfl rfl)) ?_
          rw [hsT]
          first | (refine L_val rfl rfl rfl (OpP.v (P_convN rfl ty_int_32 ty_int_2 rfl (by simp only [fits]; omega))) ?_) | (refine L_val rfl rfl rfl (OpP.v (P_conv rfl ty_int_32 ty_int_2 rfl)) ?_)
          refine L_op rfl (W_callR rfl rfl rfl rfl fn_ca_49 (h9) (Split.one (p := [_])) (fun _ _ _ _ _ _ _ => trivial) ?_)
          refine St.res (rs' := [blk b8 [.slice (some ⟨ub, 0, none⟩) l.length uc] 25, ownS 48 3 (.slice (some ⟨ub, 0, none⟩) l.length uc) (l.length) (memC (turnsL (sumP l) (i + 1) l)), blk b4 [.slice none 0 0] 25, blk b2 [.slice base l.length c] 25]) (Weak.swap) ?_
          refine L_nil ?_
          refine St.env (.cons (t := 4) rfl (.cons (t := 5) rfl (.cons (t := 6) rfl (.cons (t := 8) rfl (.cons (t := 27) rfl (.cons (t := 28) rfl (.cons (t := 29) rfl (.cons (t := 30) rfl (.cons (t := 31) rfl (.cons (t := 32) rfl .nil)))))))))) ?_
          refine Q_block ?_
          refine Q_then ?_
          refine R_region ?_
          first | (refine L_val rfl rfl rfl (OpP.v (P_addN rfl rfl rfl (by simp only [fits]; omega))) ?_) | (refine L_val rfl rfl rfl (OpP.v (P_add rfl rfl rfl)) ?_)
          refine L_val rfl rfl rfl (OpP.v (P_move rfl rfl)) ?_
          refine L_nil ?_
          exact Q_round (i + 1) (by show ((i + 1 : Nat) : Int) ≤ n; omega) (by show n.toNat - (i + 1) < n.toNat - i; omega) (by repeat (first | exact .nil | refine .cons rfl ?_ | refine .consE rfl (by first | rfl | (congr 1; omega) | (congr 1; push_cast; omega)) ?_)) (Weak.refl _)
        · skip
          have hin : i = n.toNat := by omega
          refine R_exit ?_
          refine Q_then_exit ?_
          refine Q_then_exit ?_
          refine Q_block_eq ?_
          refine St.env (.cons (t := 4) rfl (.cons (t := 5) rfl (.cons (t := 8) rfl .nil))) ?_
          refine Q_then ?_
          refine R_seq ?_
          refine R_region ?_
          refine L_val rfl rfl rfl (V_loadAgg rfl rfl ty_ag_25 (Rds.blk .h0) (rfl)) ?_
          refine L_op rfl (W_storeAll rfl rfl rfl rfl ty_ag_25 (rfl) (by intro v hv; simp only [List.mem_singleton] at hv; subst hv; rfl) .h2 (rfl) ?_)
          refine L_val rfl rfl rfl (OpP.v (P_assign rfl rfl)) ?_
          refine L_nil ?_
          refine St.env (.cons (t := 4) rfl (.cons (t := 5) rfl .nil)) ?_
          refine Q_then ?_
          refine R_ret ?_
          exact R_end (rs2 := [ownS 48 3 (.slice (some ⟨ub, 0, none⟩) l.length uc) ((turnM l n).length) (memC (turnM l n))]) rfl rfl (.cell rfl (Rds.loadVar ty_ag_25 (Rds.blk .h2) rfl) (.tmp rfl .nil)) (⟨_, by rw [turnE_fine he hn]; rfl, rfl⟩) (Weak.drop (ownS.to2 (by rw [turnM_fine (turnE_fine he hn), turnsL_length]) (by rw [turnM_fine (turnE_fine he hn), hin])))
theorem rTurn_ok {gl : Nat → Obj} (base : Option Addr) (c : Nat) (l : List Mem) (hc : l.length ≤ c) (hmax : l.length ≤ 5864062014700) (hok : ∀ m ∈ l, m.ok) (n : Int) : Spec (cx gl) 28 [.agg [.slice base l.length c].toArray, .int .i64 n] (fun w _ => Row w base (memC l)) [] (fun v rs => ∃ u, v = .tuple #[.agg [u].toArray, .int .i64 (turnE l n)] ∧ rs = [ownS 48 3 (u) ((turnM l n).length) (memC (turnM l n))]) := by
  refine Spec.enter (C := cx gl) Try.func28 rfl 38 rfl rfl fun w0 h0 hsep hsub hpre => ?_
  obtain rfl : h0 = Heap.none := hsep
  show St (cx gl) _ [(0, .agg [.slice base l.length c].toArray), (1, .int .i64 n)] _ _
  have hms : msK = 1152921504606846975 := rfl
  have hp0 : ∀ m ∈ l, 0 ≤ m.p := fun m hm => (hok m hm).2.1.1
  refine R_seq ?_
  refine R_region ?_
  refine L_op rfl (W_box ([.slice base l.length c]) rfl rfl rfl rfl rfl fun b2 => ?_)
  refine L_op rfl (W_alloc rfl rfl rfl ty_ze_25 fun b4 => ?_)
  refine L_val rfl rfl rfl (OpP.v (P_assign rfl rfl)) ?_
  refine L_nil ?_
  refine St.env (.cons (t := 1) rfl (.cons (t := 2) rfl (.cons (t := 4) rfl (.cons (t := 5) rfl .nil)))) ?_
  refine Q_then ?_
  refine R_seq ?_
  refine R_region ?_
  refine L_val rfl rfl rfl (V_loadAgg rfl rfl ty_ag_25 (Rds.blk .h1) (rfl)) ?_
  refine L_op rfl (W_callV rfl rfl rfl rfl fn_ca_20 (rSound_ok base c l hc hmax hok) ((Sn.row hpre rfl).rw_) ?_)
  refine L_val rfl rfl rfl (OpP.v (P_assign rfl rfl)) ?_
  refine L_nil ?_
  refine St.env (.cons (t := 1) rfl (.cons (t := 2) rfl (.cons (t := 4) rfl (.cons (t := 5) rfl (.cons (t := 6) rfl .nil))))) ?_
  refine Q_then ?_
  refine R_seq ?_
  refine R_seq ?_
  refine R_region ?_
  refine L_val rfl rfl rfl (OpP.v (P_move rfl rfl)) ?_
  refine L_val rfl rfl rfl (OpP.v (P_neq rfl rfl rfl)) ?_
  refine L_nil ?_
  refine St.env (.cons (t := 1) rfl (.cons (t := 2) rfl (.cons (t := 4) rfl (.cons (t := 5) rfl (.cons (t := 6) rfl (.cons (t := 13) rfl .nil)))))) ?_
  refine Q_then ?_
  refine R_condP rfl (fun he => ?_) (fun he => ?_)
  · skip
    refine R_seq ?_
    refine R_region ?_
    refine L_val rfl rfl rfl (OpP.v (P_buildStruct rfl ty_pl_25 ty_ze_25 rfl rfl (rfl))) ?_
    refine E_as (t := 14) (v' := .agg [.slice none 0 0].toArray) rfl rfl ?_
    refine L_val rfl rfl rfl (OpP.v (P_move rfl rfl)) ?_
    refine L_op rfl (W_storeAll rfl rfl rfl rfl ty_ag_25 (rfl) (by intro v hv; simp only [List.mem_singleton] at hv; subst hv; rfl) .h0 (rfl) ?_)
    refine L_val rfl rfl rfl (OpP.v (P_assign rfl rfl)) ?_
    refine L_nil ?_
    refine St.env (.cons (t := 1) rfl (.cons (t := 2) rfl (.cons (t := 4) rfl (.cons (t := 5) rfl .nil)))) ?_
    refine Q_then ?_
    refine R_ret ?_
    refine Q_then_ret ?_
    exact R_end (rs2 := [ownS 48 3 (.slice none 0 0) ((turnM l n).length) (memC (turnM l n))]) rfl rfl (.cell rfl (Rds.loadVar ty_ag_25 (Rds.blk .h0) rfl) (.tmp rfl .nil)) (⟨_, by rw [turnE_bad he]; rfl, rfl⟩) (Weak.trans (Weak.newNil (T := 48) (sz := 3)) (Weak.keep_to (fun h hh => by rw [turnM_bad (by rw [turnE_bad he]; exact he)]; exact hh)))
  · skip
    have he : soundE l = 0 := Classical.not_not.1 he
    have hS := sane_of hok he
    have hsT : soundT l = sumP l := by unfold soundT; rw [if_pos he]
    have hT0 := hS.t0
    have hT1 := hS.t1
    have hpos := hS.pos
    refine R_skip ?_
    refine Q_then ?_
    refine R_seq ?_
    refine R_seq ?_
    refine R_region ?_
    refine L_val rfl rfl rfl (OpP.v (P_move rfl rfl)) ?_
    refine L_val rfl rfl rfl (OpP.v (P_lss rfl rfl rfl)) ?_
    refine E_bool (t := 17) rfl (fun hn0 => ?_) (fun hn0 => ?_)
    · skip
      have hn0 := of_decide_eq_true hn0
      refine L_val rfl rfl rfl (OpP.v (P_move rfl rfl)) ?_
      refine L_no rfl rfl rfl ?_
      refine L_no rfl rfl rfl ?_
      refine L_val rfl rfl rfl (OpP.v (P_pick rfl rfl rfl)) ?_
      refine L_nil ?_
      refine St.env (.cons (t := 1) rfl (.cons (t := 2) rfl (.cons (t := 4) rfl (.cons (t := 5) rfl (.cons (t := 21) rfl .nil))))) ?_
      refine Q_then ?_
      refine R_condT rfl ?_
      refine R_seq ?_
      refine R_region ?_
      refine L_val rfl rfl rfl (OpP.v (P_buildStruct rfl ty_pl_25 ty_ze_25 rfl rfl (rfl))) ?_
      refine E_as (t := 22) (v' := .agg [.slice none 0 0].toArray) rfl rfl ?_
      refine L_op rfl (W_storeAll rfl rfl rfl rfl ty_ag_25 (rfl) (by intro v hv; simp only [List.mem_singleton] at hv; subst hv; rfl) .h0 (rfl) ?_)
      refine L_val rfl rfl rfl (OpP.v (P_assign rfl rfl)) ?_
      refine L_nil ?_
      refine St.env (.cons (t := 1) rfl (.cons (t := 2) rfl (.cons (t := 4) rfl (.cons (t := 5) rfl .nil)))) ?_
      refine Q_then ?_
      refine R_ret ?_
      refine Q_then_ret ?_
      exact R_end (rs2 := [ownS 48 3 (.slice none 0 0) ((turnM l n).length) (memC (turnM l n))]) rfl rfl (.cell rfl (Rds.loadVar ty_ag_25 (Rds.blk .h0) rfl) (.tmp rfl .nil)) (⟨_, by rw [turnE_arg he (by omega)]; rfl, rfl⟩) (Weak.trans (Weak.newNil (T := 48) (sz := 3)) (Weak.keep_to (fun h hh => by rw [turnM_bad (by rw [turnE_arg he (by omega)]; decide)]; exact hh)))
    · skip
      have hn0 := of_decide_eq_false hn0
      refine L_val rfl rfl rfl (OpP.v (P_move rfl rfl)) ?_
      refine L_val rfl rfl rfl (OpP.v (P_move rfl rfl)) ?_
      refine L_val rfl rfl rfl (OpP.v (P_gtr rfl rfl rfl)) ?_
      refine L_val rfl rfl rfl (OpP.v (P_pick rfl rfl rfl)) ?_
      refine L_nil ?_
      refine St.env (.cons (t := 1) rfl (.cons (t := 2) rfl (.cons (t := 4) rfl (.cons (t := 5) rfl (.cons (t := 21) rfl .nil))))) ?_
      refine Q_then ?_
      refine R_condP rfl (fun hn1 => ?_) (fun hn1 => ?_)
      · skip
        refine R_seq ?_
        refine R_region ?_
        refine L_val rfl rfl rfl (OpP.v (P_buildStruct rfl ty_pl_25 ty_ze_25 rfl rfl (rfl))) ?_
        refine E_as (t := 22) (v' := .agg [.slice none 0 0].toArray) rfl rfl ?_
        refine L_op rfl (W_storeAll rfl rfl rfl rfl ty_ag_25 (rfl) (by intro v hv; simp only [List.mem_singleton] at hv; subst hv; rfl) .h0 (rfl) ?_)
        refine L_val rfl rfl rfl (OpP.v (P_assign rfl rfl)) ?_
        refine L_nil ?_
        refine St.env (.cons (t := 1) rfl (.cons (t := 2) rfl (.cons (t := 4) rfl (.cons (t := 5) rfl .nil)))) ?_
        refine Q_then ?_
        refine R_ret ?_
        refine Q_then_ret ?_
        exact R_end (rs2 := [ownS 48 3 (.slice none 0 0) ((turnM l n).length) (memC (turnM l n))]) rfl rfl (.cell rfl (Rds.loadVar ty_ag_25 (Rds.blk .h0) rfl) (.tmp rfl .nil)) (⟨_, by rw [turnE_arg he (by omega)]; rfl, rfl⟩) (Weak.trans (Weak.newNil (T := 48) (sz := 3)) (Weak.keep_to (fun h hh => by rw [turnM_bad (by rw [turnE_arg he (by omega)]; decide)]; exact hh)))
      · skip
        have hn : ¬ (n < 0 ∨ 65536 < n) := by omega
        refine R_skip ?_
        refine Q_then ?_
        refine R_seq ?_
        refine R_region ?_
        refine L_val rfl rfl rfl (V_loadAgg rfl rfl ty_ag_25 (Rds.blk .h1) (rfl)) ?_
        refine L_op rfl (W_call rfl rfl rfl rfl fn_ca_50 (rcopied_ok base c l hc hmax) (Split.nil _) (fun w a b _ hb dj m => (Sn.row hpre rfl).rw_ w ⟨_, hb, m.le (Heap.le_join_right dj)⟩) fun v24 rs1 (e1 : rs1 = _) => ?_)
        subst e1
        refine St.ownSome (p := []) hpos fun ub uc huv huc => ?_
        subst huv
        refine L_val rfl rfl rfl (OpP.v (P_assign rfl rfl)) ?_
        refine L_nil ?_
        refine St.env (.cons (t := 1) rfl (.cons (t := 4) rfl (.cons (t := 5) rfl (.cons (t := 7) rfl .nil)))) ?_
        refine Q_then ?_
        refine R_seq ?_
        refine R_region ?_
        refine L_val rfl rfl rfl (OpP.v (P_move rfl rfl)) ?_
        refine L_op rfl (W_callV rfl rfl rfl rfl fn_ca_46 (rtotal_ok (some ⟨ub, 0, none⟩) uc l huc hmax hok) ((Sn.own .h0 rfl).rw_) ?_)
        rw [rtV_small hp0 hT1]
        first | (refine L_val rfl rfl rfl (OpP.v (P_convN rfl ty_int_32 ty_int_2 rfl (by simp only [fits]; omega))) ?_) | (refine L_val rfl rfl rfl (OpP.v (P_conv rfl ty_int_32 ty_int_2 rfl)) ?_)
        refine L_val rfl rfl rfl (OpP.v (P_assign rfl rfl)) ?_
        refine L_nil ?_
        refine St.env (.cons (t := 1) rfl (.cons (t := 4) rfl (.cons (t := 5) rfl (.cons (t := 7) rfl (.cons (t := 8) rfl .nil))))) ?_
        refine Q_then ?_
        refine R_seq ?_
        refine R_seq ?_
        refine R_region ?_
        refine L_val rfl rfl rfl (OpP.v (P_assign rfl rfl)) ?_
        refine L_nil ?_
        refine Q_then ?_
        refine R_block ?_
        refine R_loopE (G := Nat) (.cons (t := 1) rfl (.cons (t := 4) rfl (.cons (t := 5) rfl (.cons (t := 7) rfl (.cons (t := 8) rfl .nil))))) (fun g => [(9, .int .i64 (g : Int))]) (fun g => [ownS 48 3 (.slice (some ⟨ub, 0, none⟩) l.length uc) (l.length) (memC (turnsL (sumP l) g l)), blk b4 [.slice none 0 0] 25, blk b2 [.slice base l.length c] 25]) (fun g => (g : Int) ≤ n) (fun g => n.toNat - g) (0) (by show (0 : Int) ≤ n; omega) (by repeat (first | exact .nil | refine .cons rfl ?_ | refine .consE rfl (by first | rfl | (congr 1; omega) | (congr 1; push_cast; omega)) ?_)) (Weak.refl _) ?_
        intro i hinv
        replace hinv : (i : Int) ≤ n := hinv
        show St (cx gl) _ ((9, .int .i64 (i : Int)) :: _) [ownS 48 3 (.slice (some ⟨ub, 0, none⟩) l.length uc) (l.length) (memC (turnsL (sumP l) i l)), blk b4 [.slice none 0 0] 25, blk b2 [.slice base l.length c] 25] _
        refine R_seq ?_
        refine R_seq ?_
        refine R_region ?_
        refine L_val rfl rfl rfl (OpP.v (P_move rfl rfl)) ?_
        refine L_val rfl rfl rfl (OpP.v (P_move rfl rfl)) ?_
        refine L_val rfl rfl rfl (OpP.v (P_lss rfl rfl rfl)) ?_
        refine L_nil ?_
        refine Q_then ?_
        refine R_condP rfl (fun hlt => ?_) (fun hlt => ?_)
        · skip
          refine R_skip ?_
          refine Q_then ?_
          refine R_seq ?_
          refine R_block ?_
          have h9 := once_ok (gl := gl) (sumP l) (turnsL (sumP l) i l) (hS.turns i) ub uc
          rw [turnsL_length] at h9
          refine R_region ?_
          refine L_val rfl rfl rfl (OpP.v (P_move rfl rfl)) ?_
          refine L_val rfl rfl rfl (OpP.v (P_move rfl rfl)) ?_
          refine L_op rfl (W_callR rfl rfl rfl rfl fn_ca_51 (h9) (Split.one (p := [])) (fun _ _ _ _ _ _ _ => trivial) ?_)
          refine L_nil ?_
          refine St.env (.cons (t := 1) rfl (.cons (t := 4) rfl (.cons (t := 5) rfl (.cons (t := 7) rfl (.cons (t := 8) rfl (.cons (t := 9) rfl (.cons (t := 28) rfl (.cons (t := 29) rfl (.cons (t := 30) rfl (.cons (t := 33) rfl (.cons (t := 34) rfl .nil))))))))))) ?_
          refine Q_block ?_
          refine Q_then ?_
          refine R_region ?_
          refine L_val rfl rfl rfl (OpP.v (P_move rfl rfl)) ?_
          first | (refine L_val rfl rfl rfl (OpP.v (P_addN rfl rfl rfl (by simp only [fits]; omega))) ?_) | (refine L_val rfl rfl rfl (OpP.v (P_add rfl rfl rfl)) ?_)
          refine L_val rfl rfl rfl (OpP.v (P_assign rfl rfl)) ?_
          refine L_nil ?_
          exact Q_round (i + 1) (by show ((i + 1 : Nat) : Int) ≤ n; omega) (by show n.toNat - (i + 1) < n.toNat - i; omega) (by repeat (first | exact .nil | refine .cons rfl ?_ | refine .consE rfl (by first | rfl | (congr 1; omega) | (congr 1; push_cast; omega)) ?_)) (Weak.refl _)
        · skip
          have hin : i = n.toNat := by omega
          refine R_exit ?_
          refine Q_then_exit ?_
          refine Q_then_exit ?_
          refine Q_block_eq ?_
          refine St.env (.cons (t := 4) rfl (.cons (t := 5) rfl (.cons (t := 7) rfl .nil))) ?_
          refine Q_then ?_
          refine R_seq ?_
          refine R_region ?_
          refine L_val rfl rfl rfl (OpP.v (P_move rfl rfl)) ?_
          refine L_val rfl rfl rfl (OpP.v (P_buildStruct rfl ty_pl_25 ty_ze_25 rfl rfl (rfl))) ?_
          refine E_as (t := 37) (v' := .agg [.slice (some ⟨ub, 0, none⟩) l.length uc].toArray) rfl rfl ?_
          refine L_op rfl (W_storeAll rfl rfl rfl rfl ty_ag_25 (rfl) (by intro v hv; simp only [List.mem_singleton] at hv; subst hv; rfl) .h1 (rfl) ?_)
          refine L_val rfl rfl rfl (OpP.v (P_assign rfl rfl)) ?_
          refine L_nil ?_
          refine St.env (.cons (t := 4) rfl (.cons (t := 5) rfl .nil)) ?_
          refine Q_then ?_
          refine R_ret ?_
          exact R_end (rs2 := [ownS 48 3 (.slice (some ⟨ub, 0, none⟩) l.length uc) ((turnM l n).length) (memC (turnM l n))]) rfl rfl (.cell rfl (Rds.loadVar ty_ag_25 (Rds.blk .h1) rfl) (.tmp rfl .nil)) (⟨_, by rw [turnE_fine he hn]; rfl, rfl⟩) (ownS.to2 (by rw [turnM_fine (turnE_fine he hn), turnsL_length]) (by rw [turnM_fine (turnE_fine he hn), hin]))
theorem Proposer_ok {gl : Nat → Obj} (base : Option Addr) (c : Nat) (l : List Mem) (hc : l.length ≤ c) (hmax : l.length ≤ 5864062014700) (hok : ∀ m ∈ l, m.ok) (n : Int) : SpecV (cx gl) 27 [.agg [.slice base l.length c].toArray, .int .i64 n] (fun w => Row w base (memC l)) (.tuple #[.int .u64 (propA l n), .int .i64 (propE l n)]) := by
  refine Spec.enter (C := cx gl) Try.func27 rfl 36 rfl rfl fun w0 h0 hsep hsub hpre => ?_
  obtain rfl : h0 = Heap.none := hsep
  show St (cx gl) _ [(0, .agg [.slice base l.length c].toArray), (1, .int .i64 n)] _ _
  have hms : msK = 1152921504606846975 := rfl
  refine R_seq ?_
  refine R_region ?_
  refine L_op rfl (W_box ([.slice base l.length c]) rfl rfl rfl rfl rfl fun b2 => ?_)
  refine L_val rfl rfl rfl (OpP.v (P_assign rfl rfl)) ?_
  refine L_val rfl rfl rfl (OpP.v (P_assign rfl rfl)) ?_
  refine L_nil ?_
  refine St.env (.cons (t := 1) rfl (.cons (t := 2) rfl (.cons (t := 4) rfl (.cons (t := 5) rfl .nil)))) ?_
  refine Q_then ?_
  refine R_seq ?_
  refine R_region ?_
  refine L_val rfl rfl rfl (V_loadAgg rfl rfl ty_ag_25 (Rds.blk .h0) (rfl)) ?_
  refine L_op rfl (W_callV rfl rfl rfl rfl fn_ca_48 (sound_ok base c l hc hmax hok) ((Sn.row hpre rfl).rw_) ?_)
  refine L_val rfl rfl rfl (OpP.v (P_move rfl rfl)) ?_
  refine L_val rfl rfl rfl (OpP.v (P_extract rfl rfl rfl)) ?_
  refine L_val rfl rfl rfl (OpP.v (P_extract rfl rfl rfl)) ?_
  refine L_val rfl rfl rfl (OpP.v (P_assign rfl rfl)) ?_
  refine L_val rfl rfl rfl (OpP.v (P_assign rfl rfl)) ?_
  refine L_nil ?_
  refine St.env (.cons (t := 1) rfl (.cons (t := 2) rfl (.cons (t := 4) rfl (.cons (t := 5) rfl (.cons (t := 6) rfl (.cons (t := 7) rfl .nil)))))) ?_
  refine Q_then ?_
  refine R_seq ?_
  refine R_seq ?_
  refine R_region ?_
  refine L_val rfl rfl rfl (OpP.v (P_move rfl rfl)) ?_
  refine L_val rfl rfl rfl (OpP.v (P_neq rfl rfl rfl)) ?_
  refine L_nil ?_
  refine St.env (.cons (t := 1) rfl (.cons (t := 2) rfl (.cons (t := 4) rfl (.cons (t := 5) rfl (.cons (t := 6) rfl (.cons (t := 7) rfl (.cons (t := 16) rfl .nil))))))) ?_
  refine Q_then ?_
  refine R_condP rfl (fun he => ?_) (fun he => ?_)
  · skip
    refine R_seq ?_
    refine R_region ?_
    refine L_val rfl rfl rfl (OpP.v (P_move rfl rfl)) ?_
    refine L_val rfl rfl rfl (OpP.v (P_assign rfl rfl)) ?_
    refine L_val rfl rfl rfl (OpP.v (P_assign rfl rfl)) ?_
    refine L_nil ?_
    refine St.env (.cons (t := 1) rfl (.cons (t := 2) rfl (.cons (t := 4) rfl (.cons (t := 5) rfl (.cons (t := 6) rfl .nil))))) ?_
    refine Q_then ?_
    refine R_ret ?_
    refine Q_then_ret ?_
    exact R_endV rfl rfl (.tmp rfl (.tmp rfl .nil)) (by unfold propA; rw [if_neg (by rw [propE_bad he]; exact he), propE_bad he]; rfl)
  · skip
    have he : soundE l = 0 := Classical.not_not.1 he
    have hS := sane_of hok he
    have hsT : soundT l = sumP l := by unfold soundT; rw [if_pos he]
    have hT0 := hS.t0
    have hT1 := hS.t1
    have hpos := hS.pos
    refine R_skip ?_
    refine Q_then ?_
    refine R_seq ?_
    refine R_seq ?_
    refine R_region ?_
    refine L_val rfl rfl rfl (OpP.v (P_move rfl rfl)) ?_
    refine L_val rfl rfl rfl (OpP.v (P_lss rfl rfl rfl)) ?_
    refine E_bool (t := 19) rfl (fun hn0 => ?_) (fun hn0 => ?_)
    · skip
      have hn0 := of_decide_eq_true hn0
      refine L_val rfl rfl rfl (OpP.v (P_move rfl rfl)) ?_
      refine L_no rfl rfl rfl ?_
      refine L_no rfl rfl rfl ?_
      refine L_val rfl rfl rfl (OpP.v (P_pick rfl rfl rfl)) ?_
      refine L_nil ?_
      refine St.env (.cons (t := 1) rfl (.cons (t := 2) rfl (.cons (t := 4) rfl (.cons (t := 5) rfl (.cons (t := 6) rfl (.cons (t := 23) rfl .nil)))))) ?_
      refine Q_then ?_
      refine R_condT rfl ?_
      refine R_seq ?_
      refine R_region ?_
      refine L_val rfl rfl rfl (OpP.v (P_assign rfl rfl)) ?_
      refine L_val rfl rfl rfl (OpP.v (P_assign rfl rfl)) ?_
      refine L_nil ?_
      refine St.env (.cons (t := 1) rfl (.cons (t := 2) rfl (.cons (t := 4) rfl (.cons (t := 5) rfl (.cons (t := 6) rfl .nil))))) ?_
      refine Q_then ?_
      refine R_ret ?_
      refine Q_then_ret ?_
      exact R_endV rfl rfl (.tmp rfl (.tmp rfl .nil)) (by unfold propA; rw [if_neg (by rw [propE_arg he (by omega)]; decide), propE_arg he (by omega)]; rfl)
    · skip
      have hn0 := of_decide_eq_false hn0
      refine L_val rfl rfl rfl (OpP.v (P_move rfl rfl)) ?_
      refine L_val rfl rfl rfl (OpP.v (P_move rfl rfl)) ?_
      refine L_val rfl rfl rfl (OpP.v (P_gtr rfl rfl rfl)) ?_
      refine L_val rfl rfl rfl (OpP.v (P_pick rfl rfl rfl)) ?_
      refine L_nil ?_
      refine St.env (.cons (t := 1) rfl (.cons (t := 2) rfl (.cons (t := 4) rfl (.cons (t := 5) rfl (.cons (t := 6) rfl (.cons (t := 23) rfl .nil)))))) ?_
      refine Q_then ?_
      refine R_condP rfl (fun hn1 => ?_) (fun hn1 => ?_)
      · skip
        refine R_seq ?_
        refine R_region ?_
        refine L_val rfl rfl rfl (OpP.v (P_assign rfl rfl)) ?_
        refine L_val rfl rfl rfl (OpP.v (P_assign rfl rfl)) ?_
        refine L_nil ?_
        refine St.env (.cons (t := 1) rfl (.cons (t := 2) rfl (.cons (t := 4) rfl (.cons (t := 5) rfl (.cons (t := 6) rfl .nil))))) ?_
        refine Q_then ?_
        refine R_ret ?_
        refine Q_then_ret ?_
        exact R_endV rfl rfl (.tmp rfl (.tmp rfl .nil)) (by unfold propA; rw [if_neg (by rw [propE_arg he (by omega)]; decide), propE_arg he (by omega)]; rfl)
      · skip
        have hn : ¬ (n < 0 ∨ 65535 < n) := by omega
        refine R_skip ?_
        refine Q_then ?_
        refine R_seq ?_
        refine R_region ?_
        refine L_val rfl rfl rfl (V_loadAgg rfl rfl ty_ag_25 (Rds.blk .h0) (rfl)) ?_
        refine L_op rfl (W_call rfl rfl rfl rfl fn_ca_44 (copied_ok base c l hc hmax) (Split.nil _) (fun w a b _ hb dj m => (Sn.row hpre rfl).rw_ w ⟨_, hb, m.le (Heap.le_join_right dj)⟩) fun v25 rs1 ⟨u, e1, e2⟩ => ?_)
        subst e1; subst e2
        refine St.ownSome (p := []) hpos fun ub uc huv huc => ?_
        subst huv
        refine L_op rfl (W_alloc rfl rfl rfl ty_ze_25 fun b8 => ?_)
        refine L_op rfl (W_storeAll rfl rfl rfl rfl ty_ag_25 (rfl) (by intro v hv; simp only [List.mem_singleton] at hv; subst hv; rfl) .h0 (rfl) ?_)
        refine L_nil ?_
        refine St.env (.cons (t := 1) rfl (.cons (t := 4) rfl (.cons (t := 5) rfl (.cons (t := 6) rfl (.cons (t := 8) rfl .nil))))) ?_
        refine Q_then ?_
        refine R_seq ?_
        refine R_region ?_
        refine L_val rfl rfl rfl (OpP.v (P_assign rfl rfl)) ?_
        refine L_nil ?_
        refine Q_then ?_
        refine R_seq ?_
        refine R_seq ?_
        refine R_region ?_
        refine L_val rfl rfl rfl (OpP.v (P_move rfl rfl)) ?_
        first | (refine L_val rfl rfl rfl (OpP.v (P_addN rfl rfl rfl (by simp only [fits]; omega))) ?_) | (refine L_val rfl rfl rfl (OpP.v (P_add rfl rfl rfl)) ?_)
        refine L_val rfl rfl rfl (OpP.v (P_move rfl rfl)) ?_
        refine L_nil ?_
        refine St.env (.cons (t := 4) rfl (.cons (t := 5) rfl (.cons (t := 6) rfl (.cons (t := 8) rfl (.cons (t := 9) rfl (.cons (t := 27) rfl (.cons (t := 28) rfl .nil))))))) ?_
        refine Q_then ?_
        refine R_block ?_
        refine R_loopE (G := Nat × Int) (.cons (t := 4) rfl (.cons (t := 5) rfl (.cons (t := 6) rfl (.cons (t := 8) rfl (.cons (t := 27) rfl .nil))))) (fun g => [(9, .int .u64 g.2), (28, .int .i64 (g.1 : Int))]) (fun g => [blk b8 [.slice (some ⟨ub, 0, none⟩) l.length uc] 25, ownS 48 3 (.slice (some ⟨ub, 0, none⟩) l.length uc) (l.length) (memC (turnsL (sumP l) g.1 l)), blk b2 [.slice base l.length c] 25]) (fun g => (g.1 : Int) ≤ n + 1 ∧ (0 < g.1 → g.2 = choA (sumP l) (turnsL (sumP l) (g.1 - 1) l))) (fun g => (n + 1).toNat - g.1) (0, 0) (⟨by show (0 : Int) ≤ n + 1; omega, fun h => absurd h (Nat.lt_irrefl _)⟩) (by repeat (first | exact .nil | refine .cons rfl ?_ | refine .consE rfl (by first | rfl | (congr 1; omega) | (congr 1; push_cast; omega)) ?_)) (Weak.refl _) ?_
        rintro ⟨i, a⟩ hinv
        replace hinv : (i : Int) ≤ n + 1 ∧ (0 < i → a = choA (sumP l) (turnsL (sumP l) (i - 1) l)) := hinv
        show St (cx gl) _ ((9, .int .u64 a) :: (28, .int .i64 (i : Int)) :: _) [blk b8 [.slice (some ⟨ub, 0, none⟩) l.length uc] 25, ownS 48 3 (.slice (some ⟨ub, 0, none⟩) l.length uc) (l.length) (memC (turnsL (sumP l) i l)), blk b2 [.slice base l.length c] 25] _
        obtain ⟨hi, ha⟩ := hinv
        refine R_seq ?_
        refine R_region ?_
        refine L_val rfl rfl rfl (OpP.v (P_lss rfl rfl rfl)) ?_
        refine L_nil ?_
        refine Q_then ?_
        refine R_seq ?_
        refine R_condP rfl (fun hlt => ?_) (fun hlt => ?_)
        · skip
          refine R_skip ?_
          refine Q_then ?_
          refine R_seq ?_
          refine R_block ?_
          have h9 := turn_ok (gl := gl) (sumP l) (turnsL (sumP l) i l) (hS.turns i) ub uc
          rw [turnsL_length] at h9
          refine R_region ?_
          refine L_val rfl rfl rfl (V_loadAgg rfl rfl ty_ag_25 (Rds.blk .h0) (rfl)) ?_
          refine L_val rfl rfl rfl (OpP.v (P_move rfl rfl)) ?_
          rw [hsT]
          first | (refine L_val rfl rfl rfl (OpP.v (P_convN rfl ty_int_32 ty_int_2 rfl (by simp only [fits]; omega))) ?_) | (refine L_val rfl rfl rfl (OpP.v (P_conv rfl ty_int_32 ty_int_2 rfl)) ?_)
          refine L_op rfl (W_callR rfl rfl rfl rfl fn_ca_49 (h9) (Split.one (p := [_])) (fun _ _ _ _ _ _ _ => trivial) ?_)
          refine St.res (rs' := [blk b8 [.slice (some ⟨ub, 0, none⟩) l.length uc] 25, ownS 48 3 (.slice (some ⟨ub, 0, none⟩) l.length uc) (l.length) (memC (turnsL (sumP l) (i + 1) l)), blk b2 [.slice base l.length c] 25]) (Weak.swap) ?_
          refine L_val rfl rfl rfl (OpP.v (P_assign rfl rfl)) ?_
          refine L_nil ?_
          refine Q_block ?_
          refine Q_then ?_
          refine R_region ?_
          first | (refine L_val rfl rfl rfl (OpP.v (P_addN rfl rfl rfl (by simp only [fits]; omega))) ?_) | (refine L_val rfl rfl rfl (OpP.v (P_add rfl rfl rfl)) ?_)
          refine L_val rfl rfl rfl (OpP.v (P_move rfl rfl)) ?_
          refine L_nil ?_
          exact Q_round (i + 1, choA (sumP l) (turnsL (sumP l) i l)) (⟨by show ((i + 1 : Nat) : Int) ≤ n + 1; omega, fun _ => rfl⟩) (by show (n + 1).toNat - (i + 1) < (n + 1).toNat - i; omega) (by repeat (first | exact .nil | refine .cons rfl ?_ | refine .consE rfl (by first | rfl | (congr 1; omega) | (congr 1; push_cast; omega)) ?_)) (Weak.refl _)
        · skip
          have hin : i = n.toNat + 1 := by omega
          have ha := ha (by omega)
          rw [hin, Nat.add_sub_cancel] at ha
          refine R_exit ?_
          refine Q_then_exit ?_
          refine Q_then_exit ?_
          refine Q_block_eq ?_
          refine St.env (.cons (t := 4) rfl (.cons (t := 5) rfl (.cons (t := 9) rfl .nil))) ?_
          refine Q_then ?_
          refine R_seq ?_
          refine R_region ?_
          refine L_val rfl rfl rfl (OpP.v (P_move rfl rfl)) ?_
          refine L_val rfl rfl rfl (OpP.v (P_assign rfl rfl)) ?_
          refine L_val rfl rfl rfl (OpP.v (P_assign rfl rfl)) ?_
          refine L_nil ?_
          refine St.env (.cons (t := 4) rfl (.cons (t := 5) rfl .nil)) ?_
          refine Q_then ?_
          refine R_ret ?_
          exact R_endV rfl rfl (.tmp rfl (.tmp rfl .nil)) (by unfold propA; rw [if_pos (propE_fine he hn), propE_fine he hn, ha]; rfl)
theorem rProposer_ok {gl : Nat → Obj} (base : Option Addr) (c : Nat) (l : List Mem) (hc : l.length ≤ c) (hmax : l.length ≤ 5864062014700) (hok : ∀ m ∈ l, m.ok) (n : Int) : SpecV (cx gl) 29 [.agg [.slice base l.length c].toArray, .int .i64 n] (fun w => Row w base (memC l)) (.tuple #[.int .u64 (propA l n), .int .i64 (propE l n)]) := by
  refine Spec.enter (C := cx gl) Try.func29 rfl 40 rfl rfl fun w0 h0 hsep hsub hpre => ?_
  obtain rfl : h0 = Heap.none := hsep
  show St (cx gl) _ [(0, .agg [.slice base l.length c].toArray), (1, .int .i64 n)] _ _
  have hms : msK = 1152921504606846975 := rfl
  have hp0 : ∀ m ∈ l, 0 ≤ m.p := fun m hm => (hok m hm).2.1.1
  refine R_seq ?_
  refine R_region ?_
  refine L_op rfl (W_box ([.slice base l.length c]) rfl rfl rfl rfl rfl fun b2 => ?_)
  refine L_val rfl rfl rfl (OpP.v (P_assign rfl rfl)) ?_
  refine L_val rfl rfl rfl (OpP.v (P_assign rfl rfl)) ?_
  refine L_nil ?_
  refine St.env (.cons (t := 1) rfl (.cons (t := 2) rfl (.cons (t := 4) rfl (.cons (t := 5) rfl .nil)))) ?_
  refine Q_then ?_
  refine R_seq ?_
  refine R_region ?_
  refine L_val rfl rfl rfl (V_loadAgg rfl rfl ty_ag_25 (Rds.blk .h0) (rfl)) ?_
  refine L_op rfl (W_callV rfl rfl rfl rfl fn_ca_20 (rSound_ok base c l hc hmax hok) ((Sn.row hpre rfl).rw_) ?_)
  refine L_val rfl rfl rfl (OpP.v (P_assign rfl rfl)) ?_
  refine L_nil ?_
  refine St.env (.cons (t := 1) rfl (.cons (t := 2) rfl (.cons (t := 4) rfl (.cons (t := 5) rfl (.cons (t := 6) rfl .nil))))) ?_
  refine Q_then ?_
  refine R_seq ?_
  refine R_seq ?_
  refine R_region ?_
  refine L_val rfl rfl rfl (OpP.v (P_move rfl rfl)) ?_
  refine L_val rfl rfl rfl (OpP.v (P_neq rfl rfl rfl)) ?_
  refine L_nil ?_
  refine St.env (.cons (t := 1) rfl (.cons (t := 2) rfl (.cons (t := 4) rfl (.cons (t := 5) rfl (.cons (t := 6) rfl (.cons (t := 14) rfl .nil)))))) ?_
  refine Q_then ?_
  refine R_condP rfl (fun he => ?_) (fun he => ?_)
  · skip
    refine R_seq ?_
    refine R_region ?_
    refine L_val rfl rfl rfl (OpP.v (P_move rfl rfl)) ?_
    refine L_val rfl rfl rfl (OpP.v (P_assign rfl rfl)) ?_
    refine L_val rfl rfl rfl (OpP.v (P_assign rfl rfl)) ?_
    refine L_nil ?_
    refine St.env (.cons (t := 1) rfl (.cons (t := 2) rfl (.cons (t := 4) rfl (.cons (t := 5) rfl .nil)))) ?_
    refine Q_then ?_
    refine R_ret ?_
    refine Q_then_ret ?_
    exact R_endV rfl rfl (.tmp rfl (.tmp rfl .nil)) (by unfold propA; rw [if_neg (by rw [propE_bad he]; exact he), propE_bad he]; rfl)
  · skip
    have he : soundE l = 0 := Classical.not_not.1 he
    have hS := sane_of hok he
    have hsT : soundT l = sumP l := by unfold soundT; rw [if_pos he]
    have hT0 := hS.t0
    have hT1 := hS.t1
    have hpos := hS.pos
    refine R_skip ?_
    refine Q_then ?_
    refine R_seq ?_
    refine R_seq ?_
    refine R_region ?_
    refine L_val rfl rfl rfl (OpP.v (P_move rfl rfl)) ?_
    refine L_val rfl rfl rfl (OpP.v (P_lss rfl rfl rfl)) ?_
    refine E_bool (t := 17) rfl (fun hn0 => ?_) (fun hn0 => ?_)
    · skip
      have hn0 := of_decide_eq_true hn0
      refine L_val rfl rfl rfl (OpP.v (P_move rfl rfl)) ?_
      refine L_no rfl rfl rfl ?_
      refine L_no rfl rfl rfl ?_
      refine L_val rfl rfl rfl (OpP.v (P_pick rfl rfl rfl)) ?_
      refine L_nil ?_
      refine St.env (.cons (t := 1) rfl (.cons (t := 2) rfl (.cons (t := 4) rfl (.cons (t := 5) rfl (.cons (t := 21) rfl .nil))))) ?_
      refine Q_then ?_
      refine R_condT rfl ?_
      refine R_seq ?_
      refine R_region ?_
      refine L_val rfl rfl rfl (OpP.v (P_assign rfl rfl)) ?_
      refine L_val rfl rfl rfl (OpP.v (P_assign rfl rfl)) ?_
      refine L_nil ?_
      refine St.env (.cons (t := 1) rfl (.cons (t := 2) rfl (.cons (t := 4) rfl (.cons (t := 5) rfl .nil)))) ?_
      refine Q_then ?_
      refine R_ret ?_
      refine Q_then_ret ?_
      exact R_endV rfl rfl (.tmp rfl (.tmp rfl .nil)) (by unfold propA; rw [if_neg (by rw [propE_arg he (by omega)]; decide), propE_arg he (by omega)]; rfl)
    · skip
      have hn0 := of_decide_eq_false hn0
      refine L_val rfl rfl rfl (OpP.v (P_move rfl rfl)) ?_
      refine L_val rfl rfl rfl (OpP.v (P_move rfl rfl)) ?_
      refine L_val rfl rfl rfl (OpP.v (P_gtr rfl rfl rfl)) ?_
      refine L_val rfl rfl rfl (OpP.v (P_pick rfl rfl rfl)) ?_
      refine L_nil ?_
      refine St.env (.cons (t := 1) rfl (.cons (t := 2) rfl (.cons (t := 4) rfl (.cons (t := 5) rfl (.cons (t := 21) rfl .nil))))) ?_
      refine Q_then ?_
      refine R_condP rfl (fun hn1 => ?_) (fun hn1 => ?_)
      · skip
        refine R_seq ?_
        refine R_region ?_
        refine L_val rfl rfl rfl (OpP.v (P_assign rfl rfl)) ?_
        refine L_val rfl rfl rfl (OpP.v (P_assign rfl rfl)) ?_
        refine L_nil ?_
        refine St.env (.cons (t := 1) rfl (.cons (t := 2) rfl (.cons (t := 4) rfl (.cons (t := 5) rfl .nil)))) ?_
        refine Q_then ?_
        refine R_ret ?_
        refine Q_then_ret ?_
        exact R_endV rfl rfl (.tmp rfl (.tmp rfl .nil)) (by unfold propA; rw [if_neg (by rw [propE_arg he (by omega)]; decide), propE_arg he (by omega)]; rfl)
      · skip
        have hn : ¬ (n < 0 ∨ 65535 < n) := by omega
        refine R_skip ?_
        refine Q_then ?_
        refine R_seq ?_
        refine R_region ?_
        refine L_val rfl rfl rfl (V_loadAgg rfl rfl ty_ag_25 (Rds.blk .h0) (rfl)) ?_
        refine L_op rfl (W_call rfl rfl rfl rfl fn_ca_50 (rcopied_ok base c l hc hmax) (Split.nil _) (fun w a b _ hb dj m => (Sn.row hpre rfl).rw_ w ⟨_, hb, m.le (Heap.le_join_right dj)⟩) fun v23 rs1 (e1 : rs1 = _) => ?_)
        subst e1
        refine St.ownSome (p := []) hpos fun ub uc huv huc => ?_
        subst huv
        refine L_val rfl rfl rfl (OpP.v (P_assign rfl rfl)) ?_
        refine L_nil ?_
        refine St.env (.cons (t := 1) rfl (.cons (t := 4) rfl (.cons (t := 5) rfl (.cons (t := 7) rfl .nil)))) ?_
        refine Q_then ?_
        refine R_seq ?_
        refine R_region ?_
        refine L_val rfl rfl rfl (OpP.v (P_move rfl rfl)) ?_
        refine L_op rfl (W_callV rfl rfl rfl rfl fn_ca_46 (rtotal_ok (some ⟨ub, 0, none⟩) uc l huc hmax hok) ((Sn.own .h0 rfl).rw_) ?_)
        rw [rtV_small hp0 hT1]
        first | (refine L_val rfl rfl rfl (OpP.v (P_convN rfl ty_int_32 ty_int_2 rfl (by simp only [fits]; omega))) ?_) | (refine L_val rfl rfl rfl (OpP.v (P_conv rfl ty_int_32 ty_int_2 rfl)) ?_)
        refine L_val rfl rfl rfl (OpP.v (P_assign rfl rfl)) ?_
        refine L_nil ?_
        refine St.env (.cons (t := 1) rfl (.cons (t := 4) rfl (.cons (t := 5) rfl (.cons (t := 7) rfl (.cons (t := 8) rfl .nil))))) ?_
        refine Q_then ?_
        refine R_seq ?_
        refine R_region ?_
        refine L_val rfl rfl rfl (OpP.v (P_assign rfl rfl)) ?_
        refine L_nil ?_
        refine Q_then ?_
        refine R_seq ?_
        refine R_seq ?_
        refine R_region ?_
        refine L_val rfl rfl rfl (OpP.v (P_assign rfl rfl)) ?_
        refine L_nil ?_
        refine Q_then ?_
        refine R_block ?_
        refine R_loopE (G := Nat × Nat) (.cons (t := 1) rfl (.cons (t := 4) rfl (.cons (t := 5) rfl (.cons (t := 7) rfl (.cons (t := 8) rfl .nil))))) (fun g => [(9, .int .i64 (g.2 : Int)), (10, .int .i64 (g.1 : Int))]) (fun g => [ownS 48 3 (.slice (some ⟨ub, 0, none⟩) l.length uc) (l.length) (memC (turnsL (sumP l) g.1 l)), blk b2 [.slice base l.length c] 25]) (fun g => (g.1 : Int) ≤ n + 1 ∧ (0 < g.1 → g.2 = chosen (sumP l) (turnsL (sumP l) (g.1 - 1) l))) (fun g => (n + 1).toNat - g.1) (0, 0) (⟨by show (0 : Int) ≤ n + 1; omega, fun h => absurd h (Nat.lt_irrefl _)⟩) (by repeat (first | exact .nil | refine .cons rfl ?_ | refine .consE rfl (by first | rfl | (congr 1; omega) | (congr 1; push_cast; omega)) ?_)) (Weak.refl _) ?_
        rintro ⟨i, k⟩ hinv
        replace hinv : (i : Int) ≤ n + 1 ∧ (0 < i → k = chosen (sumP l) (turnsL (sumP l) (i - 1) l)) := hinv
        show St (cx gl) _ ((9, .int .i64 (k : Int)) :: (10, .int .i64 (i : Int)) :: _) [ownS 48 3 (.slice (some ⟨ub, 0, none⟩) l.length uc) (l.length) (memC (turnsL (sumP l) i l)), blk b2 [.slice base l.length c] 25] _
        obtain ⟨hi, ha⟩ := hinv
        refine R_seq ?_
        refine R_seq ?_
        refine R_region ?_
        refine L_val rfl rfl rfl (OpP.v (P_move rfl rfl)) ?_
        refine L_val rfl rfl rfl (OpP.v (P_move rfl rfl)) ?_
        refine L_val rfl rfl rfl (OpP.v (P_leq rfl rfl rfl)) ?_
        refine L_nil ?_
        refine Q_then ?_
        refine R_condP rfl (fun hlt => ?_) (fun hlt => ?_)
        · skip
          refine R_skip ?_
          refine Q_then ?_
          refine R_seq ?_
          refine R_block ?_
          have h9 := once_ok (gl := gl) (sumP l) (turnsL (sumP l) i l) (hS.turns i) ub uc
          rw [turnsL_length] at h9
          refine R_region ?_
          refine L_val rfl rfl rfl (OpP.v (P_move rfl rfl)) ?_
          refine L_val rfl rfl rfl (OpP.v (P_move rfl rfl)) ?_
          refine L_op rfl (W_callR rfl rfl rfl rfl fn_ca_51 (h9) (Split.one (p := [])) (fun _ _ _ _ _ _ _ => trivial) ?_)
          refine L_val rfl rfl rfl (OpP.v (P_assign rfl rfl)) ?_
          refine L_nil ?_
          refine Q_block ?_
          refine Q_then ?_
          refine R_region ?_
          refine L_val rfl rfl rfl (OpP.v (P_move rfl rfl)) ?_
          first | (refine L_val rfl rfl rfl (OpP.v (P_addN rfl rfl rfl (by simp only [fits]; omega))) ?_) | (refine L_val rfl rfl rfl (OpP.v (P_add rfl rfl rfl)) ?_)
          refine L_val rfl rfl rfl (OpP.v (P_assign rfl rfl)) ?_
          refine L_nil ?_
          exact Q_round (i + 1, chosen (sumP l) (turnsL (sumP l) i l)) (⟨by show ((i + 1 : Nat) : Int) ≤ n + 1; omega, fun _ => rfl⟩) (by show (n + 1).toNat - (i + 1) < (n + 1).toNat - i; omega) (by repeat (first | exact .nil | refine .cons rfl ?_ | refine .consE rfl (by first | rfl | (congr 1; omega) | (congr 1; push_cast; omega)) ?_)) (Weak.refl _)
        · skip
          have hin : i = n.toNat + 1 := by omega
          have ha := ha (by omega)
          rw [hin, Nat.add_sub_cancel] at ha
          obtain ⟨mc, hmc, hmca⟩ := once_chosen (sumP l) (turnsL (sumP l) n.toNat l) (by rw [turnsL_length]; exact hpos)
          rw [← ha] at hmc
          have hmc2 : (turnsL (sumP l) i l)[k]? = some mc := by rw [hin]; exact hmc
          have hkl : k < l.length := by have := (List.getElem?_eq_some_iff.1 hmc2).1; rwa [turnsL_length] at this
          refine R_exit ?_
          refine Q_then_exit ?_
          refine Q_then_exit ?_
          refine Q_block_eq ?_
          refine St.env (.cons (t := 4) rfl (.cons (t := 5) rfl (.cons (t := 7) rfl (.cons (t := 9) rfl .nil)))) ?_
          refine Q_then ?_
          refine R_seq ?_
          refine R_region ?_
          refine L_val rfl rfl rfl (OpP.v (P_move rfl rfl)) ?_
          refine L_val rfl rfl rfl (OpP.v (P_move rfl rfl)) ?_
          refine L_val rfl rfl rfl (OpP.v (P_ixs (k) rfl ty_sl_22 rfl rfl (by first | rfl | omega) (by omega))) ?_
          refine L_val rfl rfl rfl (OpP.v (P_fld rfl ty_fl_48_0 rfl)) ?_
          refine L_val rfl rfl rfl (V_load rfl rfl ty_sc_39 (rdo_mem .h0 hmc2 rfl)) ?_
          refine L_val rfl rfl rfl (OpP.v (P_assign rfl rfl)) ?_
          refine L_val rfl rfl rfl (OpP.v (P_assign rfl rfl)) ?_
          refine L_nil ?_
          refine St.env (.cons (t := 4) rfl (.cons (t := 5) rfl .nil)) ?_
          refine Q_then ?_
          refine R_ret ?_
          exact R_endV rfl rfl (.tmp rfl (.tmp rfl .nil)) (by unfold propA; rw [if_pos (propE_fine he hn), propE_fine he hn, hmca]; rfl)
end Go.Proofs.Ytjhhpagcejgclaa
