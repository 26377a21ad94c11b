/- The walk of CouncilWaits. Printed by gen.py. -/
import Derived.Test.YtjhhpagcejgclaaCM1
set_option linter.unusedVariables false
set_option linter.unusedSimpArgs false
set_option maxRecDepth 100000
namespace Go.Proofs.Ytjhhpagcejgclaa
open Go Go.RowKit Go.Proofs
theorem pow_compl {s : BitVec 64} {l : List Mem} (h : l.length ≤ 64) : powV s l + powV (~~~s) l = sumP l := powG_compl 0 (by omega)
theorem waits_end {X : List Mem} (h : Good X) {s : BitVec 64} (hp : 2 * sumP X / 3 + 1 ≤ powV s X) (hS : ∀ j, j < 11 * X.length → inB s (chosen (sumP X) (turnsL (sumP X) j X)) = false) : False :=
  waitsC h (S := inB s) (by rw [← powV_sum]; omega) hS
theorem councilWaits_walk {gl : Nat → Obj} (base : Option Addr) (c : Nat) (l : List Mem) (hc : l.length ≤ c) (hmax : l.length ≤ 5864062014700) (hok : ∀ m ∈ l, m.ok) (ab : Option Addr) (ac : Nat) (az : List Ac) (hac : az.length ≤ ac) (haz : ∀ a ∈ az, AcOk a) (hamax : az.length ≤ 9223372036854775806) (s : BitVec 64) : SpecV (cx gl) 11 [.slice base l.length c, .slice ab az.length ac, .int .u64 (s.toNat : Int)] (fun w => Row w base (memC l) ∧ Row w ab (acC az) ∧ ∀ a ∈ az, Row w a.b (memC a.l)) (.bool true) := by
  refine Spec.enter (C := cx gl) Try.func11 rfl 78 rfl rfl fun w0 h0 hsep hsub hpre => ?_
  obtain rfl : h0 = Heap.none := hsep
  show St (cx gl) _ [(0, .slice base l.length c), (1, .slice ab az.length ac), (2, .int .u64 (s.toNat : Int))] _ _
  refine R_seq ?_
  refine R_region ?_
  refine L_val rfl rfl rfl (OpP.v (P_assign rfl rfl)) ?_
  refine L_nil ?_
  refine Q_then ?_
  refine R_seq ?_
  refine R_region ?_
  refine L_op rfl (W_callV rfl rfl rfl rfl fn_ca_17 (alive_ok) (fun _ _ => trivial) ?_)
  refine L_val rfl rfl rfl (OpP.v (P_assign rfl rfl)) ?_
  refine L_nil ?_
  refine St.env (.cons (t := 0) rfl (.cons (t := 1) rfl (.cons (t := 2) rfl (.cons (t := 6) rfl (.cons (t := 7) rfl .nil))))) ?_
  refine Q_then ?_
  refine R_seq ?_
  refine R_seq ?_
  refine R_region ?_
  refine L_val rfl rfl rfl (OpP.v (P_move rfl rfl)) ?_
  refine L_val rfl rfl rfl (OpP.v (P_not rfl rfl)) ?_
  refine E_false (t := 18) rfl (rfl) ?_
  refine L_nil ?_
  refine St.env (.cons (t := 0) rfl (.cons (t := 1) rfl (.cons (t := 2) rfl (.cons (t := 6) rfl (.cons (t := 7) rfl (.cons (t := 18) rfl .nil)))))) ?_
  refine Q_then ?_
  refine R_condF rfl ?_
  refine R_skip ?_
  refine Q_then ?_
  refine R_seq ?_
  refine R_region ?_
  refine L_val rfl rfl rfl (OpP.v (P_move rfl rfl)) ?_
  refine L_op rfl (W_call rfl rfl rfl rfl fn_ca_16 (rNew_ok base c l hc hmax hok) (Split.nil _) (fun w a b _ hb dj m => (Sn.row hpre.1 rfl).rw_ w ⟨_, hb, m.le (Heap.le_join_right dj)⟩) fun v1 rs1 ⟨u, e1, e2⟩ => ?_)
  subst e1; subst e2
  refine St.ownForm (p := []) fun xb xc huv hxc => ?_
  subst huv
  refine L_val rfl rfl rfl (OpP.v (P_move rfl rfl)) ?_
  refine L_val rfl rfl rfl (OpP.v (P_extract rfl rfl rfl)) ?_
  refine L_val rfl rfl rfl (OpP.v (P_extract rfl rfl rfl)) ?_
  refine L_op rfl (W_alloc rfl rfl rfl ty_ze_25 fun b8 => ?_)
  refine L_op rfl (W_storeAll rfl rfl rfl rfl ty_ag_25 (rfl) (by intro v hv; simp only [List.mem_singleton] at hv; subst hv; rfl) .h0 (rfl) ?_)
  refine L_val rfl rfl rfl (OpP.v (P_assign rfl rfl)) ?_
  refine L_nil ?_
  refine St.env (.cons (t := 0) rfl (.cons (t := 1) rfl (.cons (t := 2) rfl (.cons (t := 6) rfl (.cons (t := 7) rfl (.cons (t := 9) rfl .nil)))))) ?_
  refine Q_then ?_
  refine R_seq ?_
  refine R_seq ?_
  refine R_region ?_
  refine L_val rfl rfl rfl (OpP.v (P_move rfl rfl)) ?_
  refine L_val rfl rfl rfl (OpP.v (P_neq rfl rfl rfl)) ?_
  refine L_nil ?_
  refine St.env (.cons (t := 0) rfl (.cons (t := 1) rfl (.cons (t := 2) rfl (.cons (t := 6) rfl (.cons (t := 7) rfl (.cons (t := 25) rfl .nil)))))) ?_
  refine Q_then ?_
  refine R_condP rfl (fun he => ?_) (fun he => ?_)
  · skip
    refine R_seq ?_
    refine R_region ?_
    refine L_val rfl rfl rfl (OpP.v (P_assign rfl rfl)) ?_
    refine L_nil ?_
    refine St.env (.cons (t := 0) rfl (.cons (t := 1) rfl (.cons (t := 2) rfl (.cons (t := 6) rfl (.cons (t := 7) rfl .nil))))) ?_
    refine Q_then ?_
    refine R_ret ?_
    refine Q_then_ret ?_
    exact R_endV rfl rfl (.tmp rfl .nil) (rfl)
  · skip
    have he : memE l = 0 := Classical.not_not.1 he
    obtain ⟨hG, hG64⟩ := good_len hok he haz az.length (Nat.le_refl _)
    rw [List.take_length] at hG hG64
    have hms : msK = 1152921504606846975 := rfl
    have hS1 := (fine_of hG.mem).tot
    have hT0 := hG.play.t0
    refine R_skip ?_
    refine Q_then ?_
    refine R_seq ?_
    refine R_region ?_
    refine L_val rfl rfl rfl (OpP.v (P_move rfl rfl)) ?_
    refine L_val rfl rfl rfl (OpP.v (P_move rfl rfl)) ?_
    refine L_op rfl (W_call rfl rfl rfl rfl fn_ca_39 (made_ok base c l hc hmax hok he ab ac az hac haz hamax) (Split.nil _) (fun w a b _ hb dj m => ⟨(Sn.row hpre.1 rfl).rw_ w ⟨_, hb, m.le (Heap.le_join_right dj)⟩, (Sn.row hpre.2.1 rfl).rw_ w ⟨_, hb, m.le (Heap.le_join_right dj)⟩, fun a' ha' => (Sn.row (hpre.2.2 a' ha') rfl).rw_ w ⟨_, hb, m.le (Heap.le_join_right dj)⟩⟩) fun v2 rs2 ⟨u2, e1, e2⟩ => ?_)
    subst e1; subst e2
    refine St.ownForm (p := []) fun ub uc huv huc => ?_
    subst huv
    refine L_val rfl rfl rfl (OpP.v (P_move rfl rfl)) ?_
    refine L_val rfl rfl rfl (OpP.v (P_extract rfl rfl rfl)) ?_
    refine L_val rfl rfl rfl (OpP.v (P_extract rfl rfl rfl)) ?_
    refine L_op rfl (W_alloc rfl rfl rfl ty_ze_25 fun b10 => ?_)
    refine L_op rfl (W_storeAll rfl rfl rfl rfl ty_ag_25 (rfl) (by intro v hv; simp only [List.mem_singleton] at hv; subst hv; rfl) .h0 (rfl) ?_)
    refine L_val rfl rfl rfl (OpP.v (P_assign rfl rfl)) ?_
    refine L_nil ?_
    refine St.env (.cons (t := 2) rfl (.cons (t := 6) rfl (.cons (t := 7) rfl (.cons (t := 10) rfl .nil)))) ?_
    refine Q_then ?_
    refine R_seq ?_
    refine R_seq ?_
    refine R_region ?_
    refine L_val rfl rfl rfl (OpP.v (P_move rfl rfl)) ?_
    refine L_val rfl rfl rfl (OpP.v (P_not rfl rfl)) ?_
    refine E_false (t := 33) rfl (rfl) ?_
    refine L_nil ?_
    refine St.env (.cons (t := 2) rfl (.cons (t := 6) rfl (.cons (t := 10) rfl (.cons (t := 33) rfl .nil)))) ?_
    refine Q_then ?_
    refine R_condF rfl ?_
    refine R_skip ?_
    refine Q_then ?_
    refine R_seq ?_
    refine R_region ?_
    refine L_val rfl rfl rfl (OpP.v (P_fld0 rfl ty_fl_25_0 rfl)) ?_
    refine L_val rfl rfl rfl (V_load rfl rfl ty_sc_22 (Rd.blk .h0 rfl)) ?_
    refine L_op rfl (W_callV rfl rfl rfl rfl fn_ca_24 (ltotal_ok ub uc (mkL l az) huc (by omega) hG.ok hS1) ((Sn.own .h1 rfl).rw_) ?_)
    refine L_val rfl rfl rfl (OpP.v (P_convN rfl ty_int_2 ty_int_32 rfl (by simp only [fits]; omega))) ?_
    refine L_val rfl rfl rfl (OpP.v (P_assign rfl rfl)) ?_
    refine L_nil ?_
    refine St.env (.cons (t := 2) rfl (.cons (t := 6) rfl (.cons (t := 10) rfl (.cons (t := 11) rfl .nil)))) ?_
    refine Q_then ?_
    refine R_joinE0 (G := BitVec 64) (.cons (t := 6) rfl (.cons (t := 10) rfl (.cons (t := 11) rfl .nil))) (fun g => [(2, .int .u64 (g.toNat : Int))]) (fun g => True) ?_ ?_
    · skip
      refine R_seq ?_
      refine R_region ?_
      refine L_val rfl rfl rfl (V_loadAgg rfl rfl ty_ag_25 (Rds.blk .h0) (rfl)) ?_
      refine L_val rfl rfl rfl (OpP.v (P_move rfl rfl)) ?_
      refine L_op rfl (W_callV rfl rfl rfl rfl fn_ca_25 (power_ok ub uc (mkL l az) huc (by omega) hG.ok hS1 s) ((Sn.own .h1 rfl).rw_) ?_)
      refine L_val rfl rfl rfl (OpP.v (P_move rfl rfl)) ?_
      refine L_val rfl rfl rfl (OpP.v (P_mulN rfl rfl rfl (by simp only [fits]; omega))) ?_
      refine L_val rfl rfl rfl (OpP.v (P_quo rfl rfl rfl (by decide))) ?_
      refine E_as (t := 43) (v' := .int .u64 (2 * sumP (mkL l az) / 3)) rfl (by rw [Int.tdiv_eq_ediv_of_nonneg (by omega), wrap_fits (by simp only [fits]; omega)]) ?_
      refine L_val rfl rfl rfl (OpP.v (P_addN rfl rfl rfl (by simp only [fits]; omega))) ?_
      refine L_val rfl rfl rfl (OpP.v (P_lss rfl rfl rfl)) ?_
      refine L_nil ?_
      refine St.env (.cons (t := 2) rfl (.cons (t := 6) rfl (.cons (t := 10) rfl (.cons (t := 11) rfl (.cons (t := 45) rfl .nil))))) ?_
      refine Q_then ?_
      refine R_condP rfl (fun hp1 => ?_) (fun hp1 => ?_)
      · skip
        refine R_region ?_
        refine L_val rfl rfl rfl (OpP.v (P_move rfl rfl)) ?_
        refine L_val rfl rfl rfl (OpP.v (P_compl rfl rfl)) ?_
        refine E_as (t := 47) (v' := .int .u64 ((~~~s).toNat : Int)) rfl (by rw [compl_bv]) ?_
        refine L_val rfl rfl rfl (OpP.v (P_assign rfl rfl)) ?_
        refine L_nil ?_
        refine St.env (.cons (t := 2) rfl (.cons (t := 6) rfl (.cons (t := 10) rfl (.cons (t := 11) rfl .nil)))) ?_
        exact Q_meet (~~~s) (trivial) (by repeat (first | exact .nil | refine .cons rfl ?_ | refine .consE rfl (by first | rfl | (congr 1; omega) | (congr 1; push_cast; omega)) ?_)) (Weak.refl _)
      · skip
        refine R_skip ?_
        exact Q_meet (s) (trivial) (by repeat (first | exact .nil | refine .cons rfl ?_ | refine .consE rfl (by first | rfl | (congr 1; omega) | (congr 1; push_cast; omega)) ?_)) (Weak.refl _)
    · intro r hinv
      replace hinv : True := hinv
      show St (cx gl) _ ((2, .int .u64 (r.toNat : Int)) :: _) _ _
      refine R_seq ?_
      refine R_seq ?_
      refine R_region ?_
      refine L_val rfl rfl rfl (V_loadAgg rfl rfl ty_ag_25 (Rds.blk .h0) (rfl)) ?_
      refine L_val rfl rfl rfl (OpP.v (P_move rfl rfl)) ?_
      refine L_op rfl (W_callV rfl rfl rfl rfl fn_ca_25 (power_ok ub uc (mkL l az) huc (by omega) hG.ok hS1 r) ((Sn.own .h1 rfl).rw_) ?_)
      refine L_val rfl rfl rfl (OpP.v (P_move rfl rfl)) ?_
      refine L_val rfl rfl rfl (OpP.v (P_mulN rfl rfl rfl (by simp only [fits]; omega))) ?_
      refine L_val rfl rfl rfl (OpP.v (P_quo rfl rfl rfl (by decide))) ?_
      refine E_as (t := 53) (v' := .int .u64 (2 * sumP (mkL l az) / 3)) rfl (by rw [Int.tdiv_eq_ediv_of_nonneg (by omega), wrap_fits (by simp only [fits]; omega)]) ?_
      refine L_val rfl rfl rfl (OpP.v (P_addN rfl rfl rfl (by simp only [fits]; omega))) ?_
      refine L_val rfl rfl rfl (OpP.v (P_lss rfl rfl rfl)) ?_
      refine L_nil ?_
      refine St.env (.cons (t := 2) rfl (.cons (t := 6) rfl (.cons (t := 10) rfl (.cons (t := 55) rfl .nil)))) ?_
      refine Q_then ?_
      refine R_condP rfl (fun hp2 => ?_) (fun hp2 => ?_)
      · skip
        refine R_seq ?_
        refine R_region ?_
        refine L_val rfl rfl rfl (OpP.v (P_assign rfl rfl)) ?_
        refine L_nil ?_
        refine St.env (.cons (t := 2) rfl (.cons (t := 6) rfl (.cons (t := 10) rfl .nil))) ?_
        refine Q_then ?_
        refine R_ret ?_
        refine Q_then_ret ?_
        exact R_endV rfl rfl (.tmp rfl .nil) (rfl)
      · skip
        have hp2 : ¬ powV r (mkL l az) < 2 * sumP (mkL l az) / 3 + 1 := hp2
        refine R_skip ?_
        refine Q_then ?_
        refine R_seq ?_
        refine R_seq ?_
        refine R_region ?_
        refine L_val rfl rfl rfl (OpP.v (P_assign rfl rfl)) ?_
        refine L_nil ?_
        refine St.env (.cons (t := 2) rfl (.cons (t := 6) rfl (.cons (t := 10) rfl (.cons (t := 12) rfl .nil)))) ?_
        refine Q_then ?_
        refine R_block ?_
        refine R_loopE (G := Nat) (.cons (t := 2) rfl (.cons (t := 6) rfl (.cons (t := 10) rfl .nil))) (fun g => [(12, .int .i64 (g : Int))]) (fun _ => _) (fun g => g ≤ 11 * (mkL l az).length ∧ ∀ j, j < g → inB r (chosen (sumP (mkL l az)) (turnsL (sumP (mkL l az)) j (mkL l az))) = false) (fun g => 11 * (mkL l az).length - g) (0) (⟨Nat.zero_le _, fun j hj => absurd hj (Nat.not_lt_zero _)⟩) (by repeat (first | exact .nil | refine .cons rfl ?_ | refine .consE rfl (by first | rfl | (congr 1; omega) | (congr 1; push_cast; omega)) ?_)) (Weak.refl _) ?_
        intro i hinv
        replace hinv : i ≤ 11 * (mkL l az).length ∧ ∀ j, j < i → inB r (chosen (sumP (mkL l az)) (turnsL (sumP (mkL l az)) j (mkL l az))) = false := hinv
        show St (cx gl) _ ((12, .int .i64 (i : Int)) :: _) _ _
        obtain ⟨hi, hno⟩ := hinv
        refine R_seq ?_
        refine R_seq ?_
        refine R_region ?_
        refine L_val rfl rfl rfl (OpP.v (P_move rfl rfl)) ?_
        refine L_val rfl rfl rfl (OpP.v (P_fld0 rfl ty_fl_25_0 rfl)) ?_
        refine L_val rfl rfl rfl (V_load rfl rfl ty_sc_22 (Rd.blk .h0 rfl)) ?_
        refine L_val rfl rfl rfl (OpP.v (P_len rfl ty_sl_22 rfl)) ?_
        refine L_val rfl rfl rfl (OpP.v (P_mulN rfl rfl rfl (by simp only [fits]; omega))) ?_
        refine L_val rfl rfl rfl (OpP.v (P_lss rfl rfl rfl)) ?_
        refine L_nil ?_
        refine Q_then ?_
        refine R_condP rfl (fun hlt => ?_) (fun hlt => ?_)
        · skip
          have hlt' : i < 11 * (mkL l az).length := by omega
          obtain ⟨hq1, hq2⟩ := prop_made hG (k := i) (by omega)
          obtain ⟨kk, hkk⟩ : ∃ kk, kk = chosen (sumP (mkL l az)) (turnsL (sumP (mkL l az)) i (mkL l az)) := ⟨_, rfl⟩
          rw [← hkk] at hq2
          have hk64 : kk < 64 := by rw [hkk]; have h9 := chosen_lt (T := sumP (mkL l az)) (l := turnsL (sumP (mkL l az)) i (mkL l az)) (by rw [turnsL_length]; exact hG.play.pos); rw [turnsL_length] at h9; omega
          refine R_skip ?_
          refine Q_then ?_
          refine R_seq ?_
          refine R_block ?_
          refine R_seq ?_
          refine R_region ?_
          refine L_val rfl rfl rfl (V_loadAgg rfl rfl ty_ag_25 (Rds.blk .h0) (rfl)) ?_
          refine L_val rfl rfl rfl (OpP.v (P_move rfl rfl)) ?_
          refine L_op rfl (W_callV rfl rfl rfl rfl fn_ca_27 (Proposer_ok ub uc (mkL l az) huc (by omega) hG.ok (i : Int)) ((Sn.own .h1 rfl).rw_) ?_)
          refine L_val rfl rfl rfl (OpP.v (P_move rfl rfl)) ?_
          refine L_val rfl rfl rfl (OpP.v (P_extract rfl rfl rfl)) ?_
          refine L_val rfl rfl rfl (OpP.v (P_extract rfl rfl rfl)) ?_
          refine L_val rfl rfl rfl (OpP.v (P_assign rfl rfl)) ?_
          refine L_val rfl rfl rfl (OpP.v (P_assign rfl rfl)) ?_
          refine L_nil ?_
          refine Q_then ?_
          refine R_seq ?_
          refine R_seq ?_
          refine R_region ?_
          refine L_val rfl rfl rfl (OpP.v (P_move rfl rfl)) ?_
          refine L_val rfl rfl rfl (OpP.v (P_neq rfl rfl rfl)) ?_
          refine E_false (t := 71) rfl (decide_eq_false (fun h => h hq1)) ?_
          refine L_nil ?_
          refine Q_then ?_
          refine R_condF rfl ?_
          refine R_skip ?_
          refine Q_then ?_
          refine R_seq ?_
          refine R_region ?_
          refine L_val rfl rfl rfl (V_loadAgg rfl rfl ty_ag_25 (Rds.blk .h0) (rfl)) ?_
          refine L_val rfl rfl rfl (OpP.v (P_move rfl rfl)) ?_
          refine L_op rfl (W_callV rfl rfl rfl rfl fn_ca_31 (Index_ok ub uc (mkL l az) huc (by omega) hG.ok (propA (mkL l az) i)) ((Sn.own .h1 rfl).rw_) ?_)
          rw [hq2]
          refine L_val rfl rfl rfl (OpP.v (P_assign rfl rfl)) ?_
          refine L_nil ?_
          refine Q_then ?_
          refine R_seq ?_
          refine R_region ?_
          refine L_val rfl rfl rfl (OpP.v (P_move rfl rfl)) ?_
          refine L_val rfl rfl rfl (OpP.v (P_move rfl rfl)) ?_
          refine L_op rfl (W_callV rfl rfl rfl rfl fn_ca_41 (in_ok r kk (by omega)) (fun _ _ => trivial) ?_)
          refine L_nil ?_
          refine Q_then ?_
          refine R_cond rfl (fun hin2 => ?_) (fun hin2 => ?_)
          · skip
            refine R_seq ?_
            refine R_region ?_
            refine L_val rfl rfl rfl (OpP.v (P_assign rfl rfl)) ?_
            refine L_nil ?_
            refine Q_then ?_
            refine R_ret ?_
            refine Q_block_ret ?_
            refine Q_then_ret ?_
            refine Q_then_ret ?_
            refine Q_block_ret ?_
            refine Q_then_ret ?_
            exact R_endV rfl rfl (.tmp rfl .nil) (rfl)
          · skip
            refine R_skip ?_
            refine Q_block ?_
            refine Q_then ?_
            refine R_region ?_
            refine L_val rfl rfl rfl (OpP.v (P_move rfl rfl)) ?_
            first | (refine L_val rfl rfl rfl (OpP.v (P_addN rfl rfl rfl (by simp only [fits]; omega))) ?_) | (refine L_val rfl rfl rfl (OpP.v (P_add rfl rfl rfl)) ?_)
            refine L_val rfl rfl rfl (OpP.v (P_assign rfl rfl)) ?_
            refine L_nil ?_
            exact Q_round (i + 1) (⟨by omega, fun j hj => by rcases Nat.lt_or_ge j i with h | h; exact hno j h; (obtain rfl : j = i := (by omega)); rw [← hkk]; exact hin2⟩) (by show 11 * (mkL l az).length - (i + 1) < 11 * (mkL l az).length - i; omega) (by repeat (first | exact .nil | refine .cons rfl ?_ | refine .consE rfl (by first | rfl | (congr 1; omega) | (congr 1; push_cast; omega)) ?_)) (Weak.refl _)
        · skip
          exact absurd (waits_end hG (s := r) (by omega) fun j hj => hno j (by omega)) id
theorem int_bv {a : Int} (h0 : 0 ≤ a) (h1 : a ≤ 18446744073709551615) : ∃ x : BitVec 64, a = (x.toNat : Int) := ⟨BitVec.ofNat 64 a.toNat, by rw [BitVec.toNat_ofNat]; omega⟩
end Go.Proofs.Ytjhhpagcejgclaa
