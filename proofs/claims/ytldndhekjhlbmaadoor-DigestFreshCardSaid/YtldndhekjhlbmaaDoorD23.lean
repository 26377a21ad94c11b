/- Walks: a list of digests is turned round. Printed by gen.py. -/
import Derived.Test.YtldndhekjhlbmaaDoorD22
set_option linter.unusedVariables false
set_option linter.unusedSimpArgs false
set_option maxRecDepth 100000
namespace Go.Proofs.YtldndhekjhlbmaaDoor
open Go Go.RowKit Go.Proofs
theorem app_l {cs junk : List Value} {i : Nat} {v : Value} (h : cs[i]? = some v) : (cs ++ junk)[i]? = some v := by rw [List.getElem?_append_left (List.getElem?_eq_some_iff.1 h).1]; exact h
theorem set_len {n : Nat} {l : List (List Int)} {k : Nat} {x : List Int} (h : ∀ y ∈ l, y.length = n) (hx : x.length = n) : ∀ y ∈ l.set k x, y.length = n := fun y hy => by
  rcases List.mem_or_eq_of_mem_set hy with hy | rfl
  · exact h y hy
  · exact hx
theorem reverse_ok {gl : Nat → Obj} (base : Option Addr) (c : Nat) (hs : List (List Int)) (hh : ∀ h ∈ hs, h.length = 32) (hm : hs.length ≤ 70368744177664) : SpecR (cx gl) 56 [.slice base hs.length c] (fun _ _ => True) [ownS 23 32 (.slice base hs.length c) hs.length (flat .u8 (hs))] (.tuple #[]) [ownS 23 32 (.slice base hs.length c) hs.length (flat .u8 (hs.reverse))] := by
  refine Spec.enter (C := cx gl) Tryd.func56 rfl 28 rfl rfl fun w0 h0 hsep hsub hpre => ?_
  show St (cx gl) _ [(0, .slice base hs.length c)] _ _
  refine R_seq ?_
  refine R_region ?_
  refine L_val rfl rfl rfl (OpP.v (P_move rfl rfl)) ?_
  refine L_val rfl rfl rfl (OpP.v (P_len rfl ty_sl_55 rfl)) ?_
  first | (refine L_val rfl rfl rfl (OpP.v (P_subN rfl rfl rfl (by simp only [fits]; omega))) ?_) | (refine L_val rfl rfl rfl (OpP.v (P_sub rfl rfl rfl)) ?_)
  refine L_val rfl rfl rfl (OpP.v (P_assign rfl rfl)) ?_
  refine L_val rfl rfl rfl (OpP.v (P_assign rfl rfl)) ?_
  refine L_nil ?_
  refine St.env (.cons (t := 0) rfl (.cons (t := 2) rfl (.cons (t := 3) rfl .nil))) ?_
  refine Q_then ?_
  refine R_block ?_
  refine E_as (t := 3) (v' := .int .i64 ((hs.length : Int) - 1 - ((0 : Nat) : Int))) rfl (by congr 1; omega) ?_
  refine R_loop (G := Nat) (fun k => [(0, .slice base hs.length c), (2, .int .i64 (k : Int)), (3, .int .i64 ((hs.length : Int) - 1 - (k : Int)))]) (fun k => [ownS 23 32 (.slice base hs.length c) hs.length (flat .u8 (revK hs k))]) (fun k => k ≤ hs.length) (fun k => hs.length - k) (0) (by omega) (by repeat (first | exact .nil | refine .cons rfl ?_)) (by rw [revK_zero]; exact Weak.refl _) ?_
  intro k hk
  refine R_seq ?_
  refine R_seq ?_
  refine R_region ?_
  refine L_val rfl rfl rfl (OpP.v (P_move rfl rfl)) ?_
  refine L_val rfl rfl rfl (OpP.v (P_move rfl rfl)) ?_
  refine L_val rfl rfl rfl (OpP.v (P_lss rfl rfl rfl)) ?_
  refine L_nil ?_
  refine Q_then ?_
  refine R_condP rfl (fun hlt => ?_) (fun hlt => ?_)
  · skip
    refine St.openOwnF (p := []) (by omega) fun rb rcap junk hrc hrm hrl hrv => ?_
    simp only [Value.slice.injEq] at hrv
    obtain ⟨rfl, _, rfl⟩ := hrv
    have hj32 : (hs.getD (hs.length - 1 - k) []).length = 32 := by rw [List.getD_eq_getElem?_getD, List.getElem?_eq_getElem (show hs.length - 1 - k < hs.length by omega)]; exact hh _ (List.getElem_mem _)
    have hk32 : (hs.getD k []).length = 32 := by rw [List.getD_eq_getElem?_getD, List.getElem?_eq_getElem (show k < hs.length by omega)]; exact hh _ (List.getElem_mem _)
    have hxj : (revK hs k)[hs.length - 1 - k]? = some (hs.getD (hs.length - 1 - k) []) := by rw [revK_at (by omega), if_neg (by omega)]
    have hxk : (revK hs k)[k]? = some (hs.getD k []) := by rw [revK_at (by omega), if_neg (by omega)]
    have hL1 := set_len (k := k) (revK_len hh k) hj32
    refine R_skip ?_
    refine Q_then ?_
    refine R_seq ?_
    refine R_block ?_
    refine R_open [(0, 0), (1, 0), (2, 0), (3, 0), (4, 0), (5, 0), (6, 0), (7, 1), (8, 0), (9, 0), (10, 0), (11, 1), (12, 0), (13, 3), (14, 0), (15, 3)] mixed (by kernel_rfl) (QOk.block (QOk.then (QOk.then (QOk.block QOk.body)))) ?_
    refine O_pure rfl rfl rfl rfl (P_move rfl rfl) ?_
    refine O_pure rfl rfl rfl rfl (P_move rfl rfl) ?_
    refine O_pure rfl rfl rfl rfl (P_move rfl rfl) ?_
    refine O_pure rfl rfl rfl rfl (P_move rfl rfl) ?_
    refine O_pure rfl rfl rfl rfl (P_move rfl rfl) ?_
    refine O_pure rfl rfl rfl rfl (P_move rfl rfl) ?_
    refine O_pure rfl rfl rfl rfl (P_ixs (hs.length - 1 - k) rfl ty_sl_55 rfl rfl (by first | rfl | omega) (by omega)) ?_
    refine O_val rfl rfl rfl rfl (V_loadAgg rfl rfl ty_ag_23 (Rds.sn (Sn.ofBlk .h0) fun i v h => app_l (flat_at (revK_len hh k) hxj i v h)) (by rw [ints_length, hj32])) ?_
    refine O_pure rfl rfl rfl rfl (P_move rfl rfl) ?_
    refine O_pure rfl rfl rfl rfl (P_move rfl rfl) ?_
    refine O_pure rfl rfl rfl rfl (P_ixs (k) rfl ty_sl_55 rfl rfl (by first | rfl | omega) (by omega)) ?_
    refine O_val rfl rfl rfl rfl (V_loadAgg rfl rfl ty_ag_23 (Rds.sn (Sn.ofBlk .h0) fun i v h => app_l (flat_at (revK_len hh k) hxk i v h)) (by rw [ints_length, hk32])) ?_
    refine O_pure rfl rfl rfl rfl (P_ixs (k) rfl ty_sl_55 rfl rfl (by first | rfl | omega) (by omega)) ?_
    refine O_new rfl rfl (W_storeAgg rfl rfl rfl rfl ty_ag_23 (by rw [ints_length, hj32]) (ints_one) .h0 (by rw [List.length_append, flat_length (revK_len hh k), ints_length, hj32]; simp only [List.length_set, revK_length]; omega) (K_new ?_))
    rw [Nat.zero_add, splice_left _ _ _ _ (by rw [flat_length (revK_len hh k), ints_length, hj32]; simp only [List.length_set, revK_length]; omega), flat_splice (revK_len hh k) (by simp only [List.length_set, revK_length]; omega) hj32]
    refine O_pure rfl rfl rfl rfl (P_ixs (hs.length - 1 - k) rfl ty_sl_55 rfl rfl (by first | rfl | omega) (by omega)) ?_
    refine O_new rfl rfl (W_storeAgg rfl rfl rfl rfl ty_ag_23 (by rw [ints_length, hk32]) (ints_one) .h0 (by rw [List.length_append, flat_length (hL1), ints_length, hk32]; simp only [List.length_set, revK_length]; omega) (K_new ?_))
    rw [Nat.zero_add, splice_left _ _ _ _ (by rw [flat_length (hL1), ints_length, hk32]; simp only [List.length_set, revK_length]; omega), flat_splice (hL1) (by simp only [List.length_set, revK_length]; omega) hk32]
    refine O_nil ?_
    refine Q_block ?_
    refine Q_then ?_
    refine R_region ?_
    refine L_val rfl rfl rfl (OpP.v (P_move rfl rfl)) ?_
    first | (refine L_val rfl rfl rfl (OpP.v (P_addN rfl rfl rfl (by simp only [fits]; omega))) ?_) | (refine L_val rfl rfl rfl (OpP.v (P_add rfl rfl rfl)) ?_)
    refine L_val rfl rfl rfl (OpP.v (P_move rfl rfl)) ?_
    first | (refine L_val rfl rfl rfl (OpP.v (P_subN rfl rfl rfl (by simp only [fits]; omega))) ?_) | (refine L_val rfl rfl rfl (OpP.v (P_sub rfl rfl rfl)) ?_)
    refine L_val rfl rfl rfl (OpP.v (P_assign rfl rfl)) ?_
    refine L_val rfl rfl rfl (OpP.v (P_assign rfl rfl)) ?_
    refine L_nil ?_
    refine E_nat (t := 2) (n := k + 1) rfl (by omega) ?_
    refine E_as (t := 3) (v' := .int .i64 ((hs.length : Int) - 1 - ((k + 1 : Nat) : Int))) rfl (by congr 1; omega) ?_
    exact Q_round (k + 1) (by omega) (by omega) (by repeat (first | exact .nil | refine .cons rfl ?_)) (by rw [revK_step (by omega)]; exact Weak.turn .h0 (ownS.close hrc hrm (by rw [List.length_append, flat_length (revK_len hh (k + 1)), revK_length]; rw [List.length_append, flat_length (revK_len hh k), revK_length] at hrl; exact hrl) (by rw [flat_length (revK_len hh (k + 1)), revK_length])))
  · skip
    refine R_exit ?_
    refine Q_then_exit ?_
    refine Q_then_exit ?_
    refine Q_block_eq ?_
    refine St.env (.nil) ?_
    rw [revK_end hlt]
    exact R_end0 (rs2 := _) rfl rfl (.nil) (⟨rfl, rfl⟩) (Weak.refl _)
end Go.Proofs.YtldndhekjhlbmaaDoor
