/- Walks: turns, CouncilShares. Printed by gen.py. -/
import Derived.Test.YtjhhpagcejgclaaCPw
import Derived.Test.YtjhhpagcejgclaaGame
set_option linter.unusedVariables false
set_option linter.unusedSimpArgs false
set_option maxRecDepth 100000
namespace Go.Proofs.Ytjhhpagcejgclaa
open Go Go.RowKit Go.Proofs
def tnV (k : Int) : Int := (if k < 0 then -(k + 1) else k) % 300
theorem tnV_bd (k : Int) : 0 ≤ tnV k ∧ tnV k < 300 := by unfold tnV; omega
theorem sh_mul {k : Nat} {n p T : Int} (hk : (k : Int) ≤ n) (hn : n ≤ 400) (h0 : 0 ≤ p) (h1 : p ≤ T) (hT : T < 1125899906842624) : 0 ≤ (k : Int) * p ∧ (k : Int) * p ≤ 450359962737049600 := by
  have h2 : (k : Int) * p ≤ 400 * p := Int.mul_le_mul_of_nonneg_right (by omega) h0
  exact ⟨Int.mul_nonneg (by omega) h0, by omega⟩
theorem sh_mul2 {c n T : Int} (h0 : 0 ≤ c) (h1 : c ≤ n) (hn : n ≤ 400) (hT0 : 0 ≤ T) (hT : T < 1125899906842624) : 0 ≤ c * T ∧ c * T ≤ 450359962737049600 := by
  have h2 : c * T ≤ 400 * T := Int.mul_le_mul_of_nonneg_right (by omega) hT0
  exact ⟨Int.mul_nonneg h0 hT0, by omega⟩
theorem xL_len_le {l : List Mem} {n : Nat} (h : l.length ≤ n) (k : Nat) : (xL l k).length ≤ n := by rw [xL_length]; exact h
theorem xL_at {l : List Mem} {k j : Nat} (h : j < l.length) : (xL l k)[j]? = some (mAt (xL l k) j) := mAt_get (by rw [xL_length]; exact h)
theorem newM_x {l : List Mem} (h : memE l = 0) : newM l = xL l 0 := newM_fine h
theorem tn_ok {gl : Nat → Obj} (k : Int) (hk0 : -9223372036854775808 ≤ k) (hk1 : k ≤ 9223372036854775807) : SpecV (cx gl) 36 [.int .i64 k] noPre (.int .i64 (tnV k)) := by
  refine Spec.enter (C := cx gl) Try.func36 rfl 10 rfl rfl fun w0 h0 hsep hsub hpre => ?_
  obtain rfl : h0 = Heap.none := hsep
  show St (cx gl) _ [(0, .int .i64 k)] _ _
  refine R_seq ?_
  refine R_region ?_
  refine L_val rfl rfl rfl (OpP.v (P_assign rfl rfl)) ?_
  refine L_nil ?_
  refine Q_then ?_
  refine R_seq ?_
  refine R_seq ?_
  refine R_region ?_
  refine L_val rfl rfl rfl (OpP.v (P_move rfl rfl)) ?_
  refine L_val rfl rfl rfl (OpP.v (P_lss rfl rfl rfl)) ?_
  refine L_nil ?_
  refine St.env (.cons (t := 0) rfl (.cons (t := 2) rfl (.cons (t := 4) rfl .nil))) ?_
  refine Q_then ?_
  refine R_condP rfl (fun hk => ?_) (fun hk => ?_)
  · skip
    have hk : k < 0 := hk
    refine R_region ?_
    refine L_val rfl rfl rfl (OpP.v (P_move rfl rfl)) ?_
    refine L_val rfl rfl rfl (OpP.v (P_addN rfl rfl rfl (by simp only [fits]; omega))) ?_
    refine L_val rfl rfl rfl (OpP.v (P_neg rfl rfl)) ?_
    refine E_as (t := 7) (v' := .int .i64 (-(k + 1))) rfl (by rw [wrap_fits (by simp only [fits]; omega)]) ?_
    refine L_val rfl rfl rfl (OpP.v (P_assign rfl rfl)) ?_
    refine L_nil ?_
    refine St.env (.cons (t := 0) rfl (.cons (t := 2) rfl .nil)) ?_
    refine Q_then ?_
    refine R_seq ?_
    refine R_region ?_
    refine L_val rfl rfl rfl (OpP.v (P_move rfl rfl)) ?_
    refine L_val rfl rfl rfl (OpP.v (P_rem rfl rfl rfl (by decide))) ?_
    refine L_val rfl rfl rfl (OpP.v (P_assign rfl rfl)) ?_
    refine L_nil ?_
    refine St.env (.cons (t := 2) rfl .nil) ?_
    refine Q_then ?_
    refine R_ret ?_
    exact R_endV rfl rfl (.tmp rfl .nil) (by unfold tnV; first | (rw [if_pos hk, Int.tmod_eq_emod_of_nonneg (by omega)]; rfl) | (rw [if_neg hk, Int.tmod_eq_emod_of_nonneg (by omega)]; rfl))
  · skip
    have hk : ¬ k < 0 := hk
    refine R_skip ?_
    refine Q_then ?_
    refine R_seq ?_
    refine R_region ?_
    refine L_val rfl rfl rfl (OpP.v (P_move rfl rfl)) ?_
    refine L_val rfl rfl rfl (OpP.v (P_rem rfl rfl rfl (by decide))) ?_
    refine L_val rfl rfl rfl (OpP.v (P_assign rfl rfl)) ?_
    refine L_nil ?_
    refine St.env (.cons (t := 2) rfl .nil) ?_
    refine Q_then ?_
    refine R_ret ?_
    exact R_endV rfl rfl (.tmp rfl .nil) (by unfold tnV; first | (rw [if_pos hk, Int.tmod_eq_emod_of_nonneg (by omega)]; rfl) | (rw [if_neg hk, Int.tmod_eq_emod_of_nonneg (by omega)]; rfl))
theorem councilShares_walk {gl : Nat → Obj} (base : Option Addr) (c : Nat) (l : List Mem) (hc : l.length ≤ c) (hmax : l.length ≤ 5864062014700) (hok : ∀ m ∈ l, m.ok) (k : Int) (hk0 : -9223372036854775808 ≤ k) (hk1 : k ≤ 9223372036854775807) : SpecV (cx gl) 8 [.slice base l.length c, .int .i64 k] (fun w => Row w base (memC l)) (.bool true) := by
  refine Spec.enter (C := cx gl) Try.func8 rfl 172 rfl rfl fun w0 h0 hsep hsub hpre => ?_
  obtain rfl : h0 = Heap.none := hsep
  show St (cx gl) _ [(0, .slice base l.length c), (1, .int .i64 k)] _ _
  refine R_seq ?_
  refine R_region ?_
  refine L_val rfl rfl rfl (OpP.v (P_assign rfl rfl)) ?_
  refine L_nil ?_
  refine Q_then ?_
  refine R_seq ?_
  refine R_region ?_
  refine L_op rfl (W_callV rfl rfl rfl rfl fn_ca_17 (alive_ok) (fun _ _ => trivial) ?_)
  refine L_val rfl rfl rfl (OpP.v (P_assign rfl rfl)) ?_
  refine L_nil ?_
  refine St.env (.cons (t := 0) rfl (.cons (t := 1) rfl (.cons (t := 4) rfl (.cons (t := 5) rfl .nil)))) ?_
  refine Q_then ?_
  refine R_seq ?_
  refine R_seq ?_
  refine R_region ?_
  refine L_val rfl rfl rfl (OpP.v (P_move rfl rfl)) ?_
  refine L_val rfl rfl rfl (OpP.v (P_not rfl rfl)) ?_
  refine E_false (t := 22) rfl (rfl) ?_
  refine L_nil ?_
  refine St.env (.cons (t := 0) rfl (.cons (t := 1) rfl (.cons (t := 4) rfl (.cons (t := 22) rfl .nil)))) ?_
  refine Q_then ?_
  refine R_condF rfl ?_
  refine R_skip ?_
  refine Q_then ?_
  refine R_seq ?_
  refine R_region ?_
  refine L_val rfl rfl rfl (OpP.v (P_move rfl rfl)) ?_
  refine L_op rfl (W_call rfl rfl rfl rfl fn_ca_15 (New_ok base c l hc hmax hok) (Split.nil _) (fun w a b _ hb dj m => (Sn.row hpre rfl).rw_ w ⟨_, hb, m.le (Heap.le_join_right dj)⟩) fun v1 rs1 ⟨u, e1, e2⟩ => ?_)
  subst e1; subst e2
  refine St.ownForm (p := []) fun ub uc huv huc => ?_
  subst huv
  refine L_val rfl rfl rfl (OpP.v (P_move rfl rfl)) ?_
  refine L_val rfl rfl rfl (OpP.v (P_extract rfl rfl rfl)) ?_
  refine L_val rfl rfl rfl (OpP.v (P_extract rfl rfl rfl)) ?_
  refine L_op rfl (W_alloc rfl rfl rfl ty_ze_25 fun b6 => ?_)
  refine L_op rfl (W_storeAll rfl rfl rfl rfl ty_ag_25 (rfl) (by intro v hv; simp only [List.mem_singleton] at hv; subst hv; rfl) .h0 (rfl) ?_)
  refine L_val rfl rfl rfl (OpP.v (P_assign rfl rfl)) ?_
  refine L_nil ?_
  refine St.env (.cons (t := 0) rfl (.cons (t := 1) rfl (.cons (t := 4) rfl (.cons (t := 6) rfl (.cons (t := 7) rfl .nil))))) ?_
  refine Q_then ?_
  refine R_seq ?_
  refine R_region ?_
  refine L_val rfl rfl rfl (OpP.v (P_move rfl rfl)) ?_
  refine L_op rfl (W_call rfl rfl rfl rfl fn_ca_16 (rNew_ok base c l hc hmax hok) (Split.nil _) (fun w a b _ hb dj m => (Sn.row hpre rfl).rw_ w ⟨_, hb, m.le (Heap.le_join_right dj)⟩) fun v2 rs2 ⟨u2, e1, e2⟩ => ?_)
  subst e1; subst e2
  refine St.ownForm (p := []) fun ub2 uc2 huv huc2 => ?_
  subst huv
  refine L_val rfl rfl rfl (OpP.v (P_move rfl rfl)) ?_
  refine L_val rfl rfl rfl (OpP.v (P_extract rfl rfl rfl)) ?_
  refine L_val rfl rfl rfl (OpP.v (P_extract rfl rfl rfl)) ?_
  refine L_op rfl (W_alloc rfl rfl rfl ty_ze_25 fun b8 => ?_)
  refine L_op rfl (W_storeAll rfl rfl rfl rfl ty_ag_25 (rfl) (by intro v hv; simp only [List.mem_singleton] at hv; subst hv; rfl) .h0 (rfl) ?_)
  refine L_val rfl rfl rfl (OpP.v (P_assign rfl rfl)) ?_
  refine L_nil ?_
  refine St.env (.cons (t := 0) rfl (.cons (t := 1) rfl (.cons (t := 4) rfl (.cons (t := 6) rfl (.cons (t := 7) rfl (.cons (t := 9) rfl .nil)))))) ?_
  refine Q_then ?_
  refine R_seq ?_
  refine R_seq ?_
  refine R_region ?_
  refine L_val rfl rfl rfl (OpP.v (P_move rfl rfl)) ?_
  refine L_val rfl rfl rfl (OpP.v (P_move rfl rfl)) ?_
  refine L_val rfl rfl rfl (OpP.v (P_neq rfl rfl rfl)) ?_
  refine L_nil ?_
  refine St.env (.cons (t := 0) rfl (.cons (t := 1) rfl (.cons (t := 4) rfl (.cons (t := 6) rfl (.cons (t := 9) rfl (.cons (t := 35) rfl .nil)))))) ?_
  refine Q_then ?_
  refine R_condP rfl (fun hne => ?_) (fun hne => ?_)
  · skip
    exact absurd rfl hne
  · skip
    refine R_skip ?_
    refine Q_then ?_
    refine R_seq ?_
    refine R_seq ?_
    refine R_region ?_
    refine L_val rfl rfl rfl (OpP.v (P_move rfl rfl)) ?_
    refine L_val rfl rfl rfl (OpP.v (P_neq rfl rfl rfl)) ?_
    refine L_nil ?_
    refine St.env (.cons (t := 0) rfl (.cons (t := 1) rfl (.cons (t := 4) rfl (.cons (t := 6) rfl (.cons (t := 37) rfl .nil))))) ?_
    refine Q_then ?_
    refine R_condP rfl (fun he => ?_) (fun he => ?_)
    · skip
      refine R_seq ?_
      refine R_region ?_
      refine L_val rfl rfl rfl (OpP.v (P_assign rfl rfl)) ?_
      refine L_nil ?_
      refine St.env (.cons (t := 0) rfl (.cons (t := 1) rfl (.cons (t := 4) rfl (.cons (t := 6) rfl .nil)))) ?_
      refine Q_then ?_
      refine R_ret ?_
      refine Q_then_ret ?_
      exact R_endV rfl rfl (.tmp rfl .nil) (rfl)
    · skip
      have he : memE l = 0 := Classical.not_not.1 he
      have hf := fine_of he
      have hp0 : ∀ m ∈ l, 0 ≤ m.p := fun m hm => (hok m hm).2.1.1
      have hms : msK = 1152921504606846975 := rfl
      have hS1 := hf.tot
      have hT0 := (play_new hok he).1.t0
      have hpos := hf.pos
      have hfew := hf.few
      obtain ⟨pb, pj, rfl, hrow⟩ := hpre.some_ (by rw [memC_length]; omega)
      refine R_skip ?_
      refine Q_then ?_
      refine R_seq ?_
      refine R_region ?_
      refine L_val rfl rfl rfl (OpP.v (P_move rfl rfl)) ?_
      refine L_op rfl (W_callV rfl rfl rfl rfl fn_ca_24 (ltotal_ok (some ⟨pb, pj, none⟩) c l hc hmax hok hf.tot) ((Sn.row hpre rfl).rw_) ?_)
      refine L_val rfl rfl rfl (OpP.v (P_assign rfl rfl)) ?_
      refine L_nil ?_
      refine St.env (.cons (t := 0) rfl (.cons (t := 1) rfl (.cons (t := 4) rfl (.cons (t := 6) rfl (.cons (t := 10) rfl .nil))))) ?_
      refine Q_then ?_
      refine R_seq ?_
      refine R_region ?_
      refine L_val rfl rfl rfl (OpP.v (P_move rfl rfl)) ?_
      refine L_op rfl (W_callV rfl rfl rfl rfl fn_ca_36 (tn_ok k hk0 hk1) (fun _ _ => trivial) ?_)
      refine L_val rfl rfl rfl (OpP.v (P_assign rfl rfl)) ?_
      refine L_nil ?_
      refine St.env (.cons (t := 0) rfl (.cons (t := 4) rfl (.cons (t := 6) rfl (.cons (t := 10) rfl (.cons (t := 11) rfl .nil))))) ?_
      refine Q_then ?_
      refine R_joinE0 (G := Int) (.cons (t := 0) rfl (.cons (t := 4) rfl (.cons (t := 6) rfl (.cons (t := 10) rfl .nil)))) (fun g => [(11, .int .i64 g)]) (fun g => 0 ≤ g ∧ g ≤ 400 ∧ (sumP l ≤ 400 → g = sumP l)) ?_ ?_
      · skip
        refine R_seq ?_
        refine R_region ?_
        refine L_val rfl rfl rfl (OpP.v (P_move rfl rfl)) ?_
        refine L_val rfl rfl rfl (OpP.v (P_leq rfl rfl rfl)) ?_
        refine L_nil ?_
        refine St.env (.cons (t := 0) rfl (.cons (t := 4) rfl (.cons (t := 6) rfl (.cons (t := 10) rfl (.cons (t := 11) rfl (.cons (t := 43) rfl .nil)))))) ?_
        refine Q_then ?_
        refine R_condP rfl (fun h400 => ?_) (fun h400 => ?_)
        · skip
          have h400 : sumP l ≤ 400 := h400
          refine R_region ?_
          refine L_val rfl rfl rfl (OpP.v (P_move rfl rfl)) ?_
          refine L_val rfl rfl rfl (OpP.v (P_assign rfl rfl)) ?_
          refine L_nil ?_
          refine St.env (.cons (t := 0) rfl (.cons (t := 4) rfl (.cons (t := 6) rfl (.cons (t := 10) rfl (.cons (t := 11) rfl .nil))))) ?_
          exact Q_meet (sumP l) (⟨by omega, by omega, fun _ => rfl⟩) (by repeat (first | exact .nil | refine .cons rfl ?_ | refine .consE rfl (by first | rfl | (congr 1; omega) | (congr 1; push_cast; omega)) ?_)) (Weak.refl _)
        · skip
          have h400 : ¬ sumP l ≤ 400 := h400
          refine R_skip ?_
          exact Q_meet (tnV k) (⟨(tnV_bd k).1, by have := tnV_bd k; omega, fun h => by omega⟩) (by repeat (first | exact .nil | refine .cons rfl ?_ | refine .consE rfl (by first | rfl | (congr 1; omega) | (congr 1; push_cast; omega)) ?_)) (Weak.refl _)
      · intro nn hinv
        replace hinv : 0 ≤ nn ∧ nn ≤ 400 ∧ (sumP l ≤ 400 → nn = sumP l) := hinv
        show St (cx gl) _ ((11, .int .i64 nn) :: _) _ _
        obtain ⟨hn0, hn1, hn2⟩ := hinv
        refine R_seq ?_
        refine R_region ?_
        refine L_val rfl rfl rfl (OpP.v (P_move rfl rfl)) ?_
        refine L_val rfl rfl rfl (OpP.v (P_len rfl ty_sl_22 rfl)) ?_
        refine L_op rfl (W_make (n := l.length) rfl rfl rfl ty_sl_46 ty_ze_2 rfl rfl (by omega) (by omega) fun b47 => ?_)
        refine L_val rfl rfl rfl (OpP.v (P_assign rfl rfl)) ?_
        refine L_nil ?_
        refine St.env (.cons (t := 0) rfl (.cons (t := 4) rfl (.cons (t := 6) rfl (.cons (t := 10) rfl (.cons (t := 11) rfl (.cons (t := 12) rfl .nil)))))) ?_
        refine Q_then ?_
        refine R_seq ?_
        refine R_seq ?_
        rw [show madeL [Value.int .i64 0] (l.length * 1) = ints .i64 (chL l 0) by rw [Nat.mul_one]; exact (madeL_rep 1 l.length _ (by decide)).trans (chL_zero l)]
        refine St.res (rs' := [blk b6 [.slice ub (newM l).length uc] 25, ownS 48 3 (.slice ub (newM l).length uc) ((newM l).length) (memC (newM l)), blk b47 (ints .i64 (chL l (0))) 2]) (Weak.pick (p := [_, _, _]) (Weak.pick (p := [_, _, _]) (Weak.keep (Weak.nil _)))) ?_
        rw [newM_x he]
        refine St.ownSome (p := [_]) (by rw [xL_length]; exact hpos) fun nb uc hnv huc => ?_
        obtain ⟨rfl, rfl⟩ : ub = _ ∧ _ = uc := by injection hnv with h1 h2 h3; exact ⟨h1, h3⟩
        refine R_region ?_
        refine L_val rfl rfl rfl (OpP.v (P_assign rfl rfl)) ?_
        refine L_nil ?_
        refine Q_then ?_
        refine R_block ?_
        refine R_loopE (G := Nat × Nat × Nat) (.cons (t := 0) rfl (.cons (t := 4) rfl (.cons (t := 6) rfl (.cons (t := 10) rfl (.cons (t := 11) rfl (.cons (t := 12) rfl .nil)))))) (fun g => [(13, .int .i64 ((g.1 : Int) + 1))]) (fun g => [blk b6 [.slice (some ⟨g.2.1, 0, none⟩) (xL l (g.1)).length g.2.2] 25, ownS 48 3 (.slice (some ⟨g.2.1, 0, none⟩) (xL l (g.1)).length g.2.2) ((xL l (g.1)).length) (memC (xL l (g.1))), blk b47 (ints .i64 (chL l (g.1))) 2]) (fun g => (g.1 : Int) ≤ nn ∧ (xL l g.1).length ≤ g.2.2) (fun g => nn.toNat - g.1) (0, nb, uc) (⟨hn0, huc⟩) (by repeat (first | exact .nil | refine .cons rfl ?_ | refine .consE rfl (by first | rfl | (congr 1; omega) | (congr 1; push_cast; omega)) ?_)) (Weak.refl _) ?_
        rintro ⟨k, nb, uc⟩ hinv
        replace hinv : (k : Int) ≤ nn ∧ (xL l k).length ≤ uc := hinv
        show St (cx gl) _ ((13, .int .i64 ((k : Int) + 1)) :: _) [blk b6 [.slice (some ⟨nb, 0, none⟩) (xL l (k)).length uc] 25, ownS 48 3 (.slice (some ⟨nb, 0, none⟩) (xL l (k)).length uc) ((xL l (k)).length) (memC (xL l (k))), blk b47 (ints .i64 (chL l (k))) 2] _
        obtain ⟨hkn, huc⟩ := hinv
        refine R_seq ?_
        refine R_seq ?_
        refine R_region ?_
        refine L_val rfl rfl rfl (OpP.v (P_move rfl rfl)) ?_
        refine L_val rfl rfl rfl (OpP.v (P_move rfl rfl)) ?_
        refine L_val rfl rfl rfl (OpP.v (P_leq rfl rfl rfl)) ?_
        refine L_nil ?_
        refine Q_then ?_
        refine R_condP rfl (fun hlt => ?_) (fun hlt => ?_)
        · skip
          have hlt : (k : Int) + 1 ≤ nn := hlt
          obtain ⟨hp1, hp2⟩ := xL_prop hok he k
          obtain ⟨hx1, hx2⟩ := xL_next hok he k
          obtain ⟨cc, hcc⟩ : ∃ cc, cc = cF l k := ⟨_, rfl⟩
          have hcl : cc < l.length := by rw [hcc]; exact cF_lt hpos k
          rw [← hcc] at hp2
          have hxl := xL_length l k
          have hxl2 := xL_length l (k + 1)
          have hcb := chF_bd l k cc
          refine R_skip ?_
          refine Q_then ?_
          refine R_seq ?_
          refine R_block ?_
          refine R_seq ?_
          refine R_region ?_
          refine L_val rfl rfl rfl (V_loadAgg rfl rfl ty_ag_25 (Rds.blk .h0) (rfl)) ?_
          refine L_op rfl (W_callV rfl rfl rfl rfl fn_ca_27 (Proposer_ok (some ⟨nb, 0, none⟩) uc (xL l (k)) huc (xL_len_le hmax _) (xL_ok hok he (k)).2.2 0) ((Sn.own .h1 rfl).rw_) ?_)
          refine L_val rfl rfl rfl (OpP.v (P_move rfl rfl)) ?_
          refine L_val rfl rfl rfl (OpP.v (P_extract rfl rfl rfl)) ?_
          refine L_val rfl rfl rfl (OpP.v (P_extract rfl rfl rfl)) ?_
          refine L_val rfl rfl rfl (OpP.v (P_assign rfl rfl)) ?_
          refine L_val rfl rfl rfl (OpP.v (P_assign rfl rfl)) ?_
          refine L_nil ?_
          refine Q_then ?_
          refine R_seq ?_
          refine R_region ?_
          refine L_val rfl rfl rfl (V_loadAgg rfl rfl ty_ag_25 (Rds.blk .h0) (rfl)) ?_
          refine L_val rfl rfl rfl (OpP.v (P_move rfl rfl)) ?_
          refine L_op rfl (W_callV rfl rfl rfl rfl fn_ca_31 (Index_ok (some ⟨nb, 0, none⟩) uc (xL l (k)) huc (xL_len_le hmax _) (xL_ok hok he (k)).2.2 (propA (xL l k) 0)) ((Sn.own .h1 rfl).rw_) ?_)
          rw [hp2]
          refine L_val rfl rfl rfl (OpP.v (P_assign rfl rfl)) ?_
          refine L_nil ?_
          refine Q_then ?_
          refine R_seq ?_
          refine R_seq ?_
          refine R_region ?_
          refine L_val rfl rfl rfl (OpP.v (P_move rfl rfl)) ?_
          refine L_val rfl rfl rfl (OpP.v (P_neq rfl rfl rfl)) ?_
          refine E_false (t := 62) rfl (decide_eq_false (fun h => h hp1)) ?_
          refine L_val rfl rfl rfl (OpP.v (P_move rfl rfl)) ?_
          refine L_val rfl rfl rfl (OpP.v (P_move rfl rfl)) ?_
          refine L_val rfl rfl rfl (OpP.v (P_lss rfl rfl rfl)) ?_
          refine E_false (t := 65) rfl (decide_eq_false (by omega)) ?_
          refine L_val rfl rfl rfl (OpP.v (P_pick rfl rfl rfl)) ?_
          refine L_val rfl rfl rfl (OpP.v (P_move rfl rfl)) ?_
          refine L_val rfl rfl rfl (OpP.v (P_move rfl rfl)) ?_
          refine L_val rfl rfl rfl (OpP.v (P_move rfl rfl)) ?_
          refine L_val rfl rfl rfl (OpP.v (P_len rfl ty_sl_22 rfl)) ?_
          refine L_val rfl rfl rfl (OpP.v (P_geq rfl rfl rfl)) ?_
          refine E_false (t := 71) rfl (decide_eq_false (by omega)) ?_
          refine L_val rfl rfl rfl (OpP.v (P_pick rfl rfl rfl)) ?_
          refine L_nil ?_
          refine Q_then ?_
          refine R_condF rfl ?_
          refine R_skip ?_
          refine Q_then ?_
          refine R_seq ?_
          refine R_region ?_
          refine L_val rfl rfl rfl (V_loadAgg rfl rfl ty_ag_25 (Rds.blk .h0) (rfl)) ?_
          refine L_op rfl (W_call rfl rfl rfl rfl fn_ca_26 (Turn_ok (some ⟨nb, 0, none⟩) uc (xL l k) huc (xL_len_le hmax _) (xL_ok hok he k).2.2 1) (Split.nil _) (fun w a b _ hb dj m => (Sn.own .h1 rfl).rw_ w ⟨_, hb, m.le (Heap.le_join_right dj)⟩) fun v3 rs3 ⟨u3, e1, e2⟩ => ?_)
          rw [hx2] at e2
          rw [hx1] at e1
          subst e1; subst e2
          refine St.ownSome (p := []) (by omega) fun mb mc hmv hmc => ?_
          subst hmv
          refine L_val rfl rfl rfl (OpP.v (P_move rfl rfl)) ?_
          refine L_val rfl rfl rfl (OpP.v (P_extract rfl rfl rfl)) ?_
          refine L_val rfl rfl rfl (OpP.v (P_extract rfl rfl rfl)) ?_
          refine L_op rfl (W_storeAll rfl rfl rfl rfl ty_ag_25 (rfl) (by intro v hv; simp only [List.mem_singleton] at hv; subst hv; rfl) .h1 (rfl) ?_)
          refine L_val rfl rfl rfl (OpP.v (P_assign rfl rfl)) ?_
          refine L_nil ?_
          refine Q_then ?_
          refine R_seq ?_
          refine R_seq ?_
          refine St.res (rs' := [blk b6 [.slice (some ⟨mb, 0, none⟩) (xL l (k + 1)).length mc] 25, ownS 48 3 (.slice (some ⟨mb, 0, none⟩) (xL l (k + 1)).length mc) ((xL l (k + 1)).length) (memC (xL l (k + 1))), blk b47 (ints .i64 (chL l (k))) 2]) (Weak.pick (p := [_]) (Weak.keep (Weak.pick (p := [_]) (Weak.nil _)))) ?_
          refine R_region ?_
          refine L_val rfl rfl rfl (OpP.v (P_move rfl rfl)) ?_
          refine L_val rfl rfl rfl (OpP.v (P_neq rfl rfl rfl)) ?_
          refine E_false (t := 79) rfl (rfl) ?_
          refine L_val rfl rfl rfl (OpP.v (P_move rfl rfl)) ?_
          refine L_val rfl rfl rfl (OpP.v (P_fld0 rfl ty_fl_25_0 rfl)) ?_
          refine L_val rfl rfl rfl (V_load rfl rfl ty_sc_22 (Rd.blk .h0 rfl)) ?_
          refine L_val rfl rfl rfl (OpP.v (P_len rfl ty_sl_22 rfl)) ?_
          refine L_val rfl rfl rfl (OpP.v (P_move rfl rfl)) ?_
          refine L_val rfl rfl rfl (OpP.v (P_len rfl ty_sl_22 rfl)) ?_
          refine L_val rfl rfl rfl (OpP.v (P_neq rfl rfl rfl)) ?_
          refine E_false (t := 86) rfl (decide_eq_false (fun h => h (by omega))) ?_
          refine L_val rfl rfl rfl (OpP.v (P_pick rfl rfl rfl)) ?_
          refine L_nil ?_
          refine Q_then ?_
          refine R_condF rfl ?_
          refine R_skip ?_
          refine Q_then ?_
          refine R_seq ?_
          refine R_region ?_
          refine L_val rfl rfl rfl (OpP.v (P_move rfl rfl)) ?_
          refine L_val rfl rfl rfl (OpP.v (P_move rfl rfl)) ?_
          refine L_val rfl rfl rfl (OpP.v (P_ixs (cc) rfl ty_sl_46 rfl rfl (by first | rfl | omega) (by omega))) ?_
          refine L_val rfl rfl rfl (V_load rfl rfl ty_sc_2 (rd_blk1 .h2 (chL_at hcl))) ?_
          refine L_val rfl rfl rfl (OpP.v (P_addN rfl rfl rfl (by simp only [fits]; omega))) ?_
          refine L_val rfl rfl rfl (OpP.v (P_ixs (cc) rfl ty_sl_46 rfl rfl (by first | rfl | omega) (by omega))) ?_
          refine L_op rfl (W_store rfl rfl rfl rfl ty_sc_2 rfl .h2 (by rw [ints_length, chL_length]; omega) ?_)
          refine St.res (rs' := [blk b6 [.slice (some ⟨mb, 0, none⟩) (xL l (k + 1)).length mc] 25, ownS 48 3 (.slice (some ⟨mb, 0, none⟩) (xL l (k + 1)).length mc) ((xL l (k + 1)).length) (memC (xL l (k + 1))), blk b47 (ints .i64 (chL l (k + 1))) 2]) (by rw [Nat.zero_add, Nat.mul_one, chL_step hcc hcl]; exact Weak.refl _) ?_
          refine L_nil ?_
          refine Q_then ?_
          refine R_seq ?_
          refine R_region ?_
          refine L_val rfl rfl rfl (OpP.v (P_assign rfl rfl)) ?_
          refine L_nil ?_
          refine Q_then ?_
          refine R_block ?_
          refine R_loopE (G := Nat) (.cons (t := 0) rfl (.cons (t := 4) rfl (.cons (t := 6) rfl (.cons (t := 10) rfl (.cons (t := 11) rfl (.cons (t := 12) rfl (.cons (t := 13) rfl (.cons (t := 14) rfl (.cons (t := 15) rfl (.cons (t := 16) rfl (.cons (t := 48) rfl (.cons (t := 49) rfl (.cons (t := 50) rfl (.cons (t := 53) rfl (.cons (t := 54) rfl (.cons (t := 55) rfl (.cons (t := 56) rfl (.cons (t := 57) rfl (.cons (t := 58) rfl (.cons (t := 59) rfl (.cons (t := 60) rfl (.cons (t := 61) rfl (.cons (t := 62) rfl (.cons (t := 63) rfl (.cons (t := 64) rfl (.cons (t := 65) rfl (.cons (t := 66) rfl (.cons (t := 67) rfl (.cons (t := 68) rfl (.cons (t := 69) rfl (.cons (t := 70) rfl (.cons (t := 71) rfl (.cons (t := 72) rfl (.cons (t := 73) rfl (.cons (t := 74) rfl (.cons (t := 75) rfl (.cons (t := 76) rfl (.cons (t := 77) rfl (.cons (t := 78) rfl (.cons (t := 79) rfl (.cons (t := 80) rfl (.cons (t := 81) rfl (.cons (t := 82) rfl (.cons (t := 83) rfl (.cons (t := 84) rfl (.cons (t := 85) rfl (.cons (t := 86) rfl (.cons (t := 87) rfl (.cons (t := 88) rfl (.cons (t := 89) rfl (.cons (t := 90) rfl (.cons (t := 91) rfl (.cons (t := 92) rfl (.cons (t := 93) rfl .nil)))))))))))))))))))))))))))))))))))))))))))))))))))))) (fun g => [(17, .int .i64 (g : Int))]) (fun _ => _) (fun g => g ≤ l.length) (fun g => l.length - g) (0) (Nat.zero_le _) (by repeat (first | exact .nil | refine .cons rfl ?_ | refine .consE rfl (by first | rfl | (congr 1; omega) | (congr 1; push_cast; omega)) ?_)) (Weak.refl _) ?_
          intro j hinv
          replace hinv : j ≤ l.length := hinv
          show St (cx gl) _ ((17, .int .i64 (j : Int)) :: _) _ _
          refine R_seq ?_
          refine R_seq ?_
          refine R_region ?_
          refine L_val rfl rfl rfl (OpP.v (P_move rfl rfl)) ?_
          refine L_val rfl rfl rfl (OpP.v (P_move rfl rfl)) ?_
          refine L_val rfl rfl rfl (OpP.v (P_len rfl ty_sl_22 rfl)) ?_
          refine L_val rfl rfl rfl (OpP.v (P_lss rfl rfl rfl)) ?_
          refine L_nil ?_
          refine Q_then ?_
          refine R_condP rfl (fun hj => ?_) (fun hj => ?_)
          · skip
            have hj' : j < l.length := by omega
            obtain ⟨hb1, hb2⟩ := share_bd hok he (k + 1) j hj'
            obtain ⟨hq1, hq2⟩ := share_q hok he (k + 1) j hj'
            have hmj := mAt_get hj'
            have hp3 := p_le_sum hp0 hj'
            have hp4 := hp0 _ (mAt_mem hj')
            have hcj := chF_bd l (k + 1) j
            refine R_skip ?_
            refine Q_then ?_
            refine R_seq ?_
            refine R_block ?_
            refine R_seq ?_
            refine R_region ?_
            refine L_val rfl rfl rfl (OpP.v (P_fld0 rfl ty_fl_25_0 rfl)) ?_
            refine L_val rfl rfl rfl (V_load rfl rfl ty_sc_22 (Rd.blk .h0 rfl)) ?_
            refine L_val rfl rfl rfl (OpP.v (P_move rfl rfl)) ?_
            refine L_val rfl rfl rfl (OpP.v (P_ixs (j) rfl ty_sl_22 rfl rfl (by first | rfl | omega) (by omega))) ?_
            refine L_val rfl rfl rfl (OpP.v (P_fld rfl ty_fl_48_2 rfl)) ?_
            refine L_val rfl rfl rfl (V_load rfl rfl ty_sc_2 (rdo_mem .h1 (xL_at (l := l) (k := k + 1) (j := j) (by omega)) rfl)) ?_
            refine L_val rfl rfl rfl (OpP.v (P_assign rfl rfl)) ?_
            refine L_nil ?_
            refine Q_then ?_
            refine R_seq ?_
            refine R_seq ?_
            refine R_region ?_
            refine L_val rfl rfl rfl (OpP.v (P_move rfl rfl)) ?_
            refine L_val rfl rfl rfl (OpP.v (P_move rfl rfl)) ?_
            refine L_val rfl rfl rfl (OpP.v (P_neg rfl rfl)) ?_
            refine E_as (t := 108) (v' := .int .i64 (-sumP l)) rfl (by rw [wrap_fits (by simp only [fits]; omega)]) ?_
            refine L_val rfl rfl rfl (OpP.v (P_leq rfl rfl rfl)) ?_
            refine E_false (t := 109) rfl (decide_eq_false (by omega)) ?_
            refine L_val rfl rfl rfl (OpP.v (P_move rfl rfl)) ?_
            refine L_val rfl rfl rfl (OpP.v (P_move rfl rfl)) ?_
            refine L_val rfl rfl rfl (OpP.v (P_move rfl rfl)) ?_
            refine L_val rfl rfl rfl (OpP.v (P_mulN rfl rfl rfl (by simp only [fits]; omega))) ?_
            refine L_val rfl rfl rfl (OpP.v (P_move rfl rfl)) ?_
            refine L_val rfl rfl rfl (OpP.v (P_quo rfl rfl rfl (by decide))) ?_
            refine E_as (t := 115) (v' := .int .i64 (sumP l / 4)) rfl (by rw [Int.tdiv_eq_ediv_of_nonneg (by omega), wrap_fits (by simp only [fits]; omega)]) ?_
            refine L_val rfl rfl rfl (OpP.v (P_mulN rfl rfl rfl (by simp only [fits]; omega))) ?_
            refine L_val rfl rfl rfl (OpP.v (P_addN rfl rfl rfl (by simp only [fits]; omega))) ?_
            refine L_val rfl rfl rfl (OpP.v (P_addN rfl rfl rfl (by simp only [fits]; omega))) ?_
            refine L_val rfl rfl rfl (OpP.v (P_gtr rfl rfl rfl)) ?_
            refine E_false (t := 119) rfl (decide_eq_false (by omega)) ?_
            refine L_val rfl rfl rfl (OpP.v (P_pick rfl rfl rfl)) ?_
            refine L_nil ?_
            refine Q_then ?_
            refine R_condF rfl ?_
            refine R_skip ?_
            refine Q_then ?_
            refine R_seq ?_
            refine R_open [(0, 0), (1, 0), (2, 0), (3, 0), (4, 0), (5, 0), (6, 0), (7, 0), (8, 0), (9, 1), (10, 0), (11, 0), (12, 0), (13, 0), (14, 0), (15, 1), (16, 0), (17, 0), (18, 0), (19, 0), (20, 0)] mixed (by kernel_rfl) (QOk.then (QOk.block (QOk.then (QOk.then (QOk.block (QOk.block (QOk.then (QOk.then (QOk.block (QOk.then QOk.body)))))))))) ?_
            refine O_pure rfl rfl rfl rfl (P_move rfl rfl) ?_
            refine O_pure rfl rfl rfl rfl (P_lss rfl rfl rfl) ?_
            refine E_bool (t := 122) rfl (fun h50 => ?_) (fun h50 => ?_)
            · skip
              have h50 : sumP l < 1125899906842624 := of_decide_eq_true h50
              have hu1 := sh_mul (k := k + 1) (n := nn) (by omega) hn1 hp4 hp3 h50
              have hu2 := sh_mul2 (n := nn) hcj.1 (by omega) hn1 (by omega) h50
              have hcast : ((k + 1 : Nat) : Int) = (k : Int) + 1 := by omega
              rw [hcast] at hu1 hq2
              refine O_pure rfl rfl rfl rfl (P_move rfl rfl) ?_
              refine O_pure rfl rfl rfl rfl (P_move rfl rfl) ?_
              refine O_pure rfl rfl rfl rfl (P_move rfl rfl) ?_
              refine O_pure rfl rfl rfl rfl (P_move rfl rfl) ?_
              refine O_pure rfl rfl rfl rfl (P_move rfl rfl) ?_
              refine O_pure rfl rfl rfl rfl (P_ixs (j) rfl ty_sl_22 rfl rfl (by first | rfl | omega) (by omega)) ?_
              refine O_pure rfl rfl rfl rfl (P_fld rfl ty_fl_48_1 rfl) ?_
              refine O_val rfl rfl rfl rfl (V_load rfl rfl ty_sc_32 (rd_mem hrow rfl hmj rfl)) ?_
              refine O_pure rfl rfl rfl rfl (P_convN rfl ty_int_32 ty_int_2 rfl (by simp only [fits]; omega)) ?_
              refine O_pure rfl rfl rfl rfl (P_mulN rfl rfl rfl (by simp only [fits]; omega)) ?_
              refine O_pure rfl rfl rfl rfl (P_move rfl rfl) ?_
              refine O_pure rfl rfl rfl rfl (P_move rfl rfl) ?_
              refine O_pure rfl rfl rfl rfl (P_ixs (j) rfl ty_sl_46 rfl rfl (by first | rfl | omega) (by omega)) ?_
              refine O_val rfl rfl rfl rfl (V_load rfl rfl ty_sc_2 (rd_blk1 .h2 (chL_at hj'))) ?_
              refine O_pure rfl rfl rfl rfl (P_move rfl rfl) ?_
              refine O_pure rfl rfl rfl rfl (P_mulN rfl rfl rfl (by simp only [fits]; omega)) ?_
              refine O_pure rfl rfl rfl rfl (P_subN rfl rfl rfl (by simp only [fits]; omega)) ?_
              refine O_pure rfl rfl rfl rfl (P_neq rfl rfl rfl) ?_
              refine E_false (t := 140) rfl (decide_eq_false (fun h => h hq2)) ?_
              refine O_pure rfl rfl rfl rfl (P_pick rfl rfl rfl) ?_
              refine O_nil ?_
              refine Q_then ?_
              refine R_condF rfl ?_
              refine R_skip ?_
              refine Q_block ?_
              refine Q_then ?_
              refine R_region ?_
              refine L_val rfl rfl rfl (OpP.v (P_move rfl rfl)) ?_
              first | (refine L_val rfl rfl rfl (OpP.v (P_addN rfl rfl rfl (by simp only [fits]; omega))) ?_) | (refine L_val rfl rfl rfl (OpP.v (P_add rfl rfl rfl)) ?_)
              refine L_val rfl rfl rfl (OpP.v (P_assign rfl rfl)) ?_
              refine L_nil ?_
              exact Q_round (j + 1) (by omega) (by show l.length - (j + 1) < l.length - j; omega) (by repeat (first | exact .nil | refine .cons rfl ?_ | refine .consE rfl (by first | rfl | (congr 1; omega) | (congr 1; push_cast; omega)) ?_)) (Weak.refl _)
            · skip
              refine O_pure rfl rfl rfl rfl (P_move rfl rfl) ?_
              refine O_no rfl rfl rfl rfl ?_
              refine O_no rfl rfl rfl rfl ?_
              refine O_no rfl rfl rfl rfl ?_
              refine O_no rfl rfl rfl rfl ?_
              refine O_no rfl rfl rfl rfl ?_
              refine O_no rfl rfl rfl rfl ?_
              refine O_noX rfl rfl rfl rfl ?_
              refine O_no rfl rfl rfl rfl ?_
              refine O_no rfl rfl rfl rfl ?_
              refine O_no rfl rfl rfl rfl ?_
              refine O_no rfl rfl rfl rfl ?_
              refine O_no rfl rfl rfl rfl ?_
              refine O_noX rfl rfl rfl rfl ?_
              refine O_no rfl rfl rfl rfl ?_
              refine O_no rfl rfl rfl rfl ?_
              refine O_no rfl rfl rfl rfl ?_
              refine O_no rfl rfl rfl rfl ?_
              refine O_pure rfl rfl rfl rfl (P_pick rfl rfl rfl) ?_
              refine O_nil ?_
              refine Q_then ?_
              refine R_condF rfl ?_
              refine R_skip ?_
              refine Q_block ?_
              refine Q_then ?_
              refine R_region ?_
              refine L_val rfl rfl rfl (OpP.v (P_move rfl rfl)) ?_
              first | (refine L_val rfl rfl rfl (OpP.v (P_addN rfl rfl rfl (by simp only [fits]; omega))) ?_) | (refine L_val rfl rfl rfl (OpP.v (P_add rfl rfl rfl)) ?_)
              refine L_val rfl rfl rfl (OpP.v (P_assign rfl rfl)) ?_
              refine L_nil ?_
              exact Q_round (j + 1) (by omega) (by show l.length - (j + 1) < l.length - j; omega) (by repeat (first | exact .nil | refine .cons rfl ?_ | refine .consE rfl (by first | rfl | (congr 1; omega) | (congr 1; push_cast; omega)) ?_)) (Weak.refl _)
          · skip
            refine R_exit ?_
            refine Q_then_exit ?_
            refine Q_then_exit ?_
            refine Q_block_eq ?_
            refine Q_block ?_
            refine Q_then ?_
            refine R_region ?_
            refine L_val rfl rfl rfl (OpP.v (P_move rfl rfl)) ?_
            first | (refine L_val rfl rfl rfl (OpP.v (P_addN rfl rfl rfl (by simp only [fits]; omega))) ?_) | (refine L_val rfl rfl rfl (OpP.v (P_add rfl rfl rfl)) ?_)
            refine L_val rfl rfl rfl (OpP.v (P_assign rfl rfl)) ?_
            refine L_nil ?_
            exact Q_round (k + 1, mb, mc) (⟨by omega, hmc⟩) (by show nn.toNat - (k + 1) < nn.toNat - k; omega) (by repeat (first | exact .nil | refine .cons rfl ?_ | refine .consE rfl (by first | rfl | (congr 1; omega) | (congr 1; push_cast; omega)) ?_)) (Weak.refl _)
        · skip
          have hkn2 : (k : Int) = nn := by have h9 : ¬ (k : Int) + 1 ≤ nn := hlt; omega
          refine R_exit ?_
          refine Q_then_exit ?_
          refine Q_then_exit ?_
          refine Q_block_eq ?_
          refine St.env (.cons (t := 0) rfl (.cons (t := 4) rfl (.cons (t := 6) rfl (.cons (t := 10) rfl (.cons (t := 12) rfl .nil))))) ?_
          refine Q_then ?_
          refine R_seq ?_
          refine R_seq ?_
          refine R_region ?_
          refine L_val rfl rfl rfl (OpP.v (P_assign rfl rfl)) ?_
          refine L_nil ?_
          refine Q_then ?_
          refine R_block ?_
          refine R_loopE (G := Nat) (.cons (t := 0) rfl (.cons (t := 4) rfl (.cons (t := 6) rfl (.cons (t := 10) rfl (.cons (t := 12) rfl .nil))))) (fun g => [(19, .int .i64 (g : Int))]) (fun _ => _) (fun g => g ≤ l.length) (fun g => l.length - g) (0) (Nat.zero_le _) (by repeat (first | exact .nil | refine .cons rfl ?_ | refine .consE rfl (by first | rfl | (congr 1; omega) | (congr 1; push_cast; omega)) ?_)) (Weak.refl _) ?_
          intro j hinv
          replace hinv : j ≤ l.length := hinv
          show St (cx gl) _ ((19, .int .i64 (j : Int)) :: _) _ _
          refine R_seq ?_
          refine R_seq ?_
          refine R_region ?_
          refine L_val rfl rfl rfl (OpP.v (P_move rfl rfl)) ?_
          refine L_val rfl rfl rfl (OpP.v (P_move rfl rfl)) ?_
          refine L_val rfl rfl rfl (OpP.v (P_len rfl ty_sl_22 rfl)) ?_
          refine L_val rfl rfl rfl (OpP.v (P_lss rfl rfl rfl)) ?_
          refine L_nil ?_
          refine Q_then ?_
          refine R_condP rfl (fun hj => ?_) (fun hj => ?_)
          · skip
            have hj' : j < l.length := by omega
            have hxl := xL_length l k
            have hmj := mAt_get hj'
            have hp3 := p_le_sum hp0 hj'
            have hp4 := hp0 _ (mAt_mem hj')
            refine R_skip ?_
            refine Q_then ?_
            refine R_seq ?_
            refine R_block ?_
            refine R_seq ?_
            refine R_open [(0, 0), (1, 0), (2, 0), (3, 0), (4, 1), (5, 0), (6, 0), (7, 0), (8, 1), (9, 0), (10, 0), (11, 0), (12, 0), (13, 0), (14, 1), (15, 0), (16, 0), (17, 0), (18, 0), (19, 1), (20, 0), (21, 0), (22, 0), (23, 0)] mixed (by kernel_rfl) (QOk.then (QOk.block (QOk.then (QOk.then (QOk.block (QOk.then QOk.body)))))) ?_
            refine O_pure rfl rfl rfl rfl (P_move rfl rfl) ?_
            refine O_pure rfl rfl rfl rfl (P_leq rfl rfl rfl) ?_
            refine E_bool (t := 149) rfl (fun h401 => ?_) (fun h401 => ?_)
            · skip
              have h401 : sumP l ≤ 400 := of_decide_eq_true h401
              obtain ⟨hz1, hz2⟩ := share_end hok he k (by have := hn2 h401; omega) j hj'
              refine O_pure rfl rfl rfl rfl (P_move rfl rfl) ?_
              refine O_pure rfl rfl rfl rfl (P_fld0 rfl ty_fl_25_0 rfl) ?_
              refine O_val rfl rfl rfl rfl (V_load rfl rfl ty_sc_22 (Rd.blk .h0 rfl)) ?_
              refine O_pure rfl rfl rfl rfl (P_move rfl rfl) ?_
              refine O_pure rfl rfl rfl rfl (P_ixs (j) rfl ty_sl_22 rfl rfl (by first | rfl | omega) (by omega)) ?_
              refine O_pure rfl rfl rfl rfl (P_fld rfl ty_fl_48_2 rfl) ?_
              refine O_val rfl rfl rfl rfl (V_load rfl rfl ty_sc_2 (rdo_mem .h1 (xL_at (l := l) (k := k) (j := j) (by omega)) rfl)) ?_
              refine O_pure rfl rfl rfl rfl (P_neq rfl rfl rfl) ?_
              refine E_false (t := 157) rfl (decide_eq_false (fun h => h hz1)) ?_
              refine O_pure rfl rfl rfl rfl (P_move rfl rfl) ?_
              refine O_pure rfl rfl rfl rfl (P_move rfl rfl) ?_
              refine O_pure rfl rfl rfl rfl (P_move rfl rfl) ?_
              refine O_pure rfl rfl rfl rfl (P_ixs (j) rfl ty_sl_46 rfl rfl (by first | rfl | omega) (by omega)) ?_
              refine O_val rfl rfl rfl rfl (V_load rfl rfl ty_sc_2 (rd_blk1 .h2 (chL_at hj'))) ?_
              refine O_pure rfl rfl rfl rfl (P_move rfl rfl) ?_
              refine O_pure rfl rfl rfl rfl (P_move rfl rfl) ?_
              refine O_pure rfl rfl rfl rfl (P_ixs (j) rfl ty_sl_22 rfl rfl (by first | rfl | omega) (by omega)) ?_
              refine O_pure rfl rfl rfl rfl (P_fld rfl ty_fl_48_1 rfl) ?_
              refine O_val rfl rfl rfl rfl (V_load rfl rfl ty_sc_32 (rd_mem hrow rfl hmj rfl)) ?_
              refine O_pure rfl rfl rfl rfl (P_convN rfl ty_int_32 ty_int_2 rfl (by simp only [fits]; omega)) ?_
              refine O_pure rfl rfl rfl rfl (P_neq rfl rfl rfl) ?_
              refine E_false (t := 169) rfl (decide_eq_false (fun h => h hz2)) ?_
              refine O_pure rfl rfl rfl rfl (P_pick rfl rfl rfl) ?_
              refine O_pure rfl rfl rfl rfl (P_pick rfl rfl rfl) ?_
              refine O_nil ?_
              refine Q_then ?_
              refine R_condF rfl ?_
              refine R_skip ?_
              refine Q_block ?_
              refine Q_then ?_
              refine R_region ?_
              refine L_val rfl rfl rfl (OpP.v (P_move rfl rfl)) ?_
              first | (refine L_val rfl rfl rfl (OpP.v (P_addN rfl rfl rfl (by simp only [fits]; omega))) ?_) | (refine L_val rfl rfl rfl (OpP.v (P_add rfl rfl rfl)) ?_)
              refine L_val rfl rfl rfl (OpP.v (P_assign rfl rfl)) ?_
              refine L_nil ?_
              exact Q_round (j + 1) (by omega) (by show l.length - (j + 1) < l.length - j; omega) (by repeat (first | exact .nil | refine .cons rfl ?_ | refine .consE rfl (by first | rfl | (congr 1; omega) | (congr 1; push_cast; omega)) ?_)) (Weak.refl _)
            · skip
              refine O_pure rfl rfl rfl rfl (P_move rfl rfl) ?_
              refine O_no rfl rfl rfl rfl ?_
              refine O_noX rfl rfl rfl rfl ?_
              refine O_no rfl rfl rfl rfl ?_
              refine O_no rfl rfl rfl rfl ?_
              refine O_no rfl rfl rfl rfl ?_
              refine O_noX rfl rfl rfl rfl ?_
              refine O_no rfl rfl rfl rfl ?_
              refine O_no rfl rfl rfl rfl ?_
              refine O_no rfl rfl rfl rfl ?_
              refine O_no rfl rfl rfl rfl ?_
              refine O_no rfl rfl rfl rfl ?_
              refine O_noX rfl rfl rfl rfl ?_
              refine O_no rfl rfl rfl rfl ?_
              refine O_no rfl rfl rfl rfl ?_
              refine O_no rfl rfl rfl rfl ?_
              refine O_no rfl rfl rfl rfl ?_
              refine O_noX rfl rfl rfl rfl ?_
              refine O_no rfl rfl rfl rfl ?_
              refine O_no rfl rfl rfl rfl ?_
              refine O_no rfl rfl rfl rfl ?_
              refine O_pure rfl rfl rfl rfl (P_pick rfl rfl rfl) ?_
              refine O_nil ?_
              refine Q_then ?_
              refine R_condF rfl ?_
              refine R_skip ?_
              refine Q_block ?_
              refine Q_then ?_
              refine R_region ?_
              refine L_val rfl rfl rfl (OpP.v (P_move rfl rfl)) ?_
              first | (refine L_val rfl rfl rfl (OpP.v (P_addN rfl rfl rfl (by simp only [fits]; omega))) ?_) | (refine L_val rfl rfl rfl (OpP.v (P_add rfl rfl rfl)) ?_)
              refine L_val rfl rfl rfl (OpP.v (P_assign rfl rfl)) ?_
              refine L_nil ?_
              exact Q_round (j + 1) (by omega) (by show l.length - (j + 1) < l.length - j; omega) (by repeat (first | exact .nil | refine .cons rfl ?_ | refine .consE rfl (by first | rfl | (congr 1; omega) | (congr 1; push_cast; omega)) ?_)) (Weak.refl _)
          · skip
            refine R_exit ?_
            refine Q_then_exit ?_
            refine Q_then_exit ?_
            refine Q_block_eq ?_
            refine St.env (.cons (t := 4) rfl .nil) ?_
            refine Q_then ?_
            refine R_seq ?_
            refine R_region ?_
            refine L_val rfl rfl rfl (OpP.v (P_assign rfl rfl)) ?_
            refine L_nil ?_
            refine Q_then ?_
            refine R_ret ?_
            exact R_endV rfl rfl (.tmp rfl .nil) (rfl)
end Go.Proofs.Ytjhhpagcejgclaa
