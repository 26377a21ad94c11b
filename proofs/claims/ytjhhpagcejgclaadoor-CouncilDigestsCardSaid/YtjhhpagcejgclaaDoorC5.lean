/- Walks: Turn, Proposer. Printed by gen.py. -/
import Derived.Test.YtjhhpagcejgclaaDoorC4
import Derived.Test.YtjhhpagcejgclaaDoorC45
set_option linter.unusedVariables false
set_option linter.unusedSimpArgs false
set_option maxRecDepth 100000
namespace Go.Proofs.YtjhhpagcejgclaaDoor
open Go Go.RowKit Go.Proofs
theorem Proposer_ok {gl : Nat → Obj} (base : Option Addr) (c : Nat) (l : List Mem) (hc : l.length ≤ c) (hmax : l.length ≤ 5864062014700) (hok : ∀ m ∈ l, m.ok) (n : Int) : SpecV (cx gl) 8 [.agg [.slice base l.length c].toArray, .int .i64 n] (fun w => Row w base (memC l)) (.tuple #[.int .u64 (propA l n), .int .i64 (propE l n)]) := by
  refine Spec.enter (C := cx gl) Tryd.func8 rfl 36 rfl rfl fun w0 h0 hsep hsub hpre => ?_
  obtain rfl : h0 = Heap.none := hsep
  show St (cx gl) _ [(0, .agg [.slice base l.length c].toArray), (1, .int .i64 n)] _ _
  have hms : msK = 1152921504606846975 := rfl
  refine R_seq ?_
  refine R_region ?_
  refine L_op rfl (W_box ([.slice base l.length c]) rfl rfl rfl rfl rfl fun b2 => ?_)
  refine L_val rfl rfl rfl (OpP.v (P_assign rfl rfl)) ?_
  refine L_val rfl rfl rfl (OpP.v (P_assign rfl rfl)) ?_
  refine L_nil ?_
  refine St.env (.cons (t := 1) rfl (.cons (t := 2) rfl (.cons (t := 4) rfl (.cons (t := 5) rfl .nil)))) ?_
  refine Q_then ?_
  refine R_seq ?_
  refine R_region ?_
  refine L_val rfl rfl rfl (V_loadAgg rfl rfl ty_ag_24 (Rds.blk .h0) (rfl)) ?_
  refine L_op rfl (W_callV rfl rfl rfl rfl fn_ca_20 (sound_ok base c l hc hmax hok) ((Sn.row hpre rfl).rw_) ?_)
  refine L_val rfl rfl rfl (OpP.v (P_move rfl rfl)) ?_
  refine L_val rfl rfl rfl (OpP.v (P_extract rfl rfl rfl)) ?_
  refine L_val rfl rfl rfl (OpP.v (P_extract rfl rfl rfl)) ?_
  refine L_val rfl rfl rfl (OpP.v (P_assign rfl rfl)) ?_
  refine L_val rfl rfl rfl (OpP.v (P_assign rfl rfl)) ?_
  refine L_nil ?_
  refine St.env (.cons (t := 1) rfl (.cons (t := 2) rfl (.cons (t := 4) rfl (.cons (t := 5) rfl (.cons (t := 6) rfl (.cons (t := 7) rfl .nil)))))) ?_
  refine Q_then ?_
  refine R_seq ?_
  refine R_seq ?_
  refine R_region ?_
  refine L_val rfl rfl rfl (OpP.v (P_move rfl rfl)) ?_
  refine L_val rfl rfl rfl (OpP.v (P_neq rfl rfl rfl)) ?_
  refine L_nil ?_
  refine St.env (.cons (t := 1) rfl (.cons (t := 2) rfl (.cons (t := 4) rfl (.cons (t := 5) rfl (.cons (t := 6) rfl (.cons (t := 7) rfl (.cons (t := 16) rfl .nil))))))) ?_
  refine Q_then ?_
  refine R_condP rfl (fun he => ?_) (fun he => ?_)
  · skip
    refine R_seq ?_
    refine R_region ?_
    refine L_val rfl rfl rfl (OpP.v (P_move rfl rfl)) ?_
    refine L_val rfl rfl rfl (OpP.v (P_assign rfl rfl)) ?_
    refine L_val rfl rfl rfl (OpP.v (P_assign rfl rfl)) ?_
    refine L_nil ?_
    refine St.env (.cons (t := 1) rfl (.cons (t := 2) rfl (.cons (t := 4) rfl (.cons (t := 5) rfl (.cons (t := 6) rfl .nil))))) ?_
    refine Q_then ?_
    refine R_ret ?_
    refine Q_then_ret ?_
    exact R_endV rfl rfl (.tmp rfl (.tmp rfl .nil)) (by unfold propA; rw [if_neg (by rw [propE_bad he]; exact he), propE_bad he]; rfl)
  · skip
    have he : soundE l = 0 := Classical.not_not.1 he
    have hS := sane_of hok he
    have hsT : soundT l = sumP l := by unfold soundT; rw [if_pos he]
    have hT0 := hS.t0
    have hT1 := hS.t1
    have hpos := hS.pos
    refine R_skip ?_
    refine Q_then ?_
    refine R_seq ?_
    refine R_seq ?_
    refine R_region ?_
    refine L_val rfl rfl rfl (OpP.v (P_move rfl rfl)) ?_
    refine L_val rfl rfl rfl (OpP.v (P_lss rfl rfl rfl)) ?_
    refine E_bool (t := 19) rfl (fun hn0 => ?_) (fun hn0 => ?_)
    · skip
      have hn0 := of_decide_eq_true hn0
      refine L_val rfl rfl rfl (OpP.v (P_move rfl rfl)) ?_
      refine L_no rfl rfl rfl ?_
      refine L_no rfl rfl rfl ?_
      refine L_val rfl rfl rfl (OpP.v (P_pick rfl rfl rfl)) ?_
      refine L_nil ?_
      refine St.env (.cons (t := 1) rfl (.cons (t := 2) rfl (.cons (t := 4) rfl (.cons (t := 5) rfl (.cons (t := 6) rfl (.cons (t := 23) rfl .nil)))))) ?_
      refine Q_then ?_
      refine R_condT rfl ?_
      refine R_seq ?_
      refine R_region ?_
      refine L_val rfl rfl rfl (OpP.v (P_assign rfl rfl)) ?_
      refine L_val rfl rfl rfl (OpP.v (P_assign rfl rfl)) ?_
      refine L_nil ?_
      refine St.env (.cons (t := 1) rfl (.cons (t := 2) rfl (.cons (t := 4) rfl (.cons (t := 5) rfl (.cons (t := 6) rfl .nil))))) ?_
      refine Q_then ?_
      refine R_ret ?_
      refine Q_then_ret ?_
      exact R_endV rfl rfl (.tmp rfl (.tmp rfl .nil)) (by unfold propA; rw [if_neg (by rw [propE_arg he (by omega)]; decide), propE_arg he (by omega)]; rfl)
    · skip
      have hn0 := of_decide_eq_false hn0
      refine L_val rfl rfl rfl (OpP.v (P_move rfl rfl)) ?_
      refine L_val rfl rfl rfl (OpP.v (P_move rfl rfl)) ?_
      refine L_val rfl rfl rfl (OpP.v (P_gtr rfl rfl rfl)) ?_
      refine L_val rfl rfl rfl (OpP.v (P_pick rfl rfl rfl)) ?_
      refine L_nil ?_
      refine St.env (.cons (t := 1) rfl (.cons (t := 2) rfl (.cons (t := 4) rfl (.cons (t := 5) rfl (.cons (t := 6) rfl (.cons (t := 23) rfl .nil)))))) ?_
      refine Q_then ?_
      refine R_condP rfl (fun hn1 => ?_) (fun hn1 => ?_)
      · skip
        refine R_seq ?_
        refine R_region ?_
        refine L_val rfl rfl rfl (OpP.v (P_assign rfl rfl)) ?_
        refine L_val rfl rfl rfl (OpP.v (P_assign rfl rfl)) ?_
        refine L_nil ?_
        refine St.env (.cons (t := 1) rfl (.cons (t := 2) rfl (.cons (t := 4) rfl (.cons (t := 5) rfl (.cons (t := 6) rfl .nil))))) ?_
        refine Q_then ?_
        refine R_ret ?_
        refine Q_then_ret ?_
        exact R_endV rfl rfl (.tmp rfl (.tmp rfl .nil)) (by unfold propA; rw [if_neg (by rw [propE_arg he (by omega)]; decide), propE_arg he (by omega)]; rfl)
      · skip
        have hn : ¬ (n < 0 ∨ 65535 < n) := by omega
        refine R_skip ?_
        refine Q_then ?_
        refine R_seq ?_
        refine R_region ?_
        refine L_val rfl rfl rfl (V_loadAgg rfl rfl ty_ag_24 (Rds.blk .h0) (rfl)) ?_
        refine L_op rfl (W_call rfl rfl rfl rfl fn_ca_19 (copied_ok base c l hc hmax) (Split.nil _) (fun w a b _ hb dj m => (Sn.row hpre rfl).rw_ w ⟨_, hb, m.le (Heap.le_join_right dj)⟩) fun v25 rs1 ⟨u, e1, e2⟩ => ?_)
        subst e1; subst e2
        refine St.ownSome (p := []) hpos fun ub uc huv huc => ?_
        subst huv
        refine L_op rfl (W_alloc rfl rfl rfl ty_ze_24 fun b8 => ?_)
        refine L_op rfl (W_storeAll rfl rfl rfl rfl ty_ag_24 (rfl) (by intro v hv; simp only [List.mem_singleton] at hv; subst hv; rfl) .h0 (rfl) ?_)
        refine L_nil ?_
        refine St.env (.cons (t := 1) rfl (.cons (t := 4) rfl (.cons (t := 5) rfl (.cons (t := 6) rfl (.cons (t := 8) rfl .nil))))) ?_
        refine Q_then ?_
        refine R_seq ?_
        refine R_region ?_
        refine L_val rfl rfl rfl (OpP.v (P_assign rfl rfl)) ?_
        refine L_nil ?_
        refine Q_then ?_
        refine R_seq ?_
        refine R_seq ?_
        refine R_region ?_
        refine L_val rfl rfl rfl (OpP.v (P_move rfl rfl)) ?_
        first | (refine L_val rfl rfl rfl (OpP.v (P_addN rfl rfl rfl (by simp only [fits]; omega))) ?_) | (refine L_val rfl rfl rfl (OpP.v (P_add rfl rfl rfl)) ?_)
        refine L_val rfl rfl rfl (OpP.v (P_move rfl rfl)) ?_
        refine L_nil ?_
        refine St.env (.cons (t := 4) rfl (.cons (t := 5) rfl (.cons (t := 6) rfl (.cons (t := 8) rfl (.cons (t := 9) rfl (.cons (t := 27) rfl (.cons (t := 28) rfl .nil))))))) ?_
        refine Q_then ?_
        refine R_block ?_
        refine R_loopE (G := Nat × Int) (.cons (t := 4) rfl (.cons (t := 5) rfl (.cons (t := 6) rfl (.cons (t := 8) rfl (.cons (t := 27) rfl .nil))))) (fun g => [(9, .int .u64 g.2), (28, .int .i64 (g.1 : Int))]) (fun g => [blk b8 [.slice (some ⟨ub, 0, none⟩) l.length uc] 24, ownS 37 3 (.slice (some ⟨ub, 0, none⟩) l.length uc) (l.length) (memC (turnsL (sumP l) g.1 l)), blk b2 [.slice base l.length c] 24]) (fun g => (g.1 : Int) ≤ n + 1 ∧ (0 < g.1 → g.2 = choA (sumP l) (turnsL (sumP l) (g.1 - 1) l))) (fun g => (n + 1).toNat - g.1) (0, 0) (⟨by show (0 : Int) ≤ n + 1; omega, fun h => absurd h (Nat.lt_irrefl _)⟩) (by repeat (first | exact .nil | refine .cons rfl ?_ | refine .consE rfl (by first | rfl | (congr 1; omega) | (congr 1; push_cast; omega)) ?_)) (Weak.refl _) ?_
        rintro ⟨i, a⟩ hinv
        replace hinv : (i : Int) ≤ n + 1 ∧ (0 < i → a = choA (sumP l) (turnsL (sumP l) (i - 1) l)) := hinv
        show St (cx gl) _ ((9, .int .u64 a) :: (28, .int .i64 (i : Int)) :: _) [blk b8 [.slice (some ⟨ub, 0, none⟩) l.length uc] 24, ownS 37 3 (.slice (some ⟨ub, 0, none⟩) l.length uc) (l.length) (memC (turnsL (sumP l) i l)), blk b2 [.slice base l.length c] 24] _
        obtain ⟨hi, ha⟩ := hinv
        refine R_seq ?_
        refine R_region ?_
        refine L_val rfl rfl rfl (OpP.v (P_lss rfl rfl rfl)) ?_
        refine L_nil ?_
        refine Q_then ?_
        refine R_seq ?_
        refine R_condP rfl (fun hlt => ?_) (fun hlt => ?_)
        · skip
          refine R_skip ?_
          refine Q_then ?_
          refine R_seq ?_
          refine R_block ?_
          have h9 := mturn_ok (gl := gl) (sumP l) (turnsL (sumP l) i l) (hS.turns i) ub uc
          rw [turnsL_length] at h9
          refine R_region ?_
          refine L_val rfl rfl rfl (V_loadAgg rfl rfl ty_ag_24 (Rds.blk .h0) (rfl)) ?_
          refine L_val rfl rfl rfl (OpP.v (P_move rfl rfl)) ?_
          rw [hsT]
          first | (refine L_val rfl rfl rfl (OpP.v (P_convN rfl ty_int_34 ty_int_2 rfl (by simp only [fits]; omega))) ?_) | (refine L_val rfl rfl rfl (OpP.v (P_conv rfl ty_int_34 ty_int_2 rfl)) ?_)
          refine L_op rfl (W_callR rfl rfl rfl rfl fn_ca_21 (h9) (Split.one (p := [_])) (fun _ _ _ _ _ _ _ => trivial) ?_)
          refine St.res (rs' := [blk b8 [.slice (some ⟨ub, 0, none⟩) l.length uc] 24, ownS 37 3 (.slice (some ⟨ub, 0, none⟩) l.length uc) (l.length) (memC (turnsL (sumP l) (i + 1) l)), blk b2 [.slice base l.length c] 24]) (Weak.swap) ?_
          refine L_val rfl rfl rfl (OpP.v (P_assign rfl rfl)) ?_
          refine L_nil ?_
          refine Q_block ?_
          refine Q_then ?_
          refine R_region ?_
          first | (refine L_val rfl rfl rfl (OpP.v (P_addN rfl rfl rfl (by simp only [fits]; omega))) ?_) | (refine L_val rfl rfl rfl (OpP.v (P_add rfl rfl rfl)) ?_)
          refine L_val rfl rfl rfl (OpP.v (P_move rfl rfl)) ?_
          refine L_nil ?_
          exact Q_round (i + 1, choA (sumP l) (turnsL (sumP l) i l)) (⟨by show ((i + 1 : Nat) : Int) ≤ n + 1; omega, fun _ => rfl⟩) (by show (n + 1).toNat - (i + 1) < (n + 1).toNat - i; omega) (by repeat (first | exact .nil | refine .cons rfl ?_ | refine .consE rfl (by first | rfl | (congr 1; omega) | (congr 1; push_cast; omega)) ?_)) (Weak.refl _)
        · skip
          have hin : i = n.toNat + 1 := by omega
          have ha := ha (by omega)
          rw [hin, Nat.add_sub_cancel] at ha
          refine R_exit ?_
          refine Q_then_exit ?_
          refine Q_then_exit ?_
          refine Q_block_eq ?_
          refine St.env (.cons (t := 4) rfl (.cons (t := 5) rfl (.cons (t := 9) rfl .nil))) ?_
          refine Q_then ?_
          refine R_seq ?_
          refine R_region ?_
          refine L_val rfl rfl rfl (OpP.v (P_move rfl rfl)) ?_
          refine L_val rfl rfl rfl (OpP.v (P_assign rfl rfl)) ?_
          refine L_val rfl rfl rfl (OpP.v (P_assign rfl rfl)) ?_
          refine L_nil ?_
          refine St.env (.cons (t := 4) rfl (.cons (t := 5) rfl .nil)) ?_
          refine Q_then ?_
          refine R_ret ?_
          exact R_endV rfl rfl (.tmp rfl (.tmp rfl .nil)) (by unfold propA; rw [if_pos (propE_fine he hn), propE_fine he hn, ha]; rfl)
end Go.Proofs.YtjhhpagcejgclaaDoor
