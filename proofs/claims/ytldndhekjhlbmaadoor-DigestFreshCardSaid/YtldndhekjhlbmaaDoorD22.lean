/- Walks: the reference's Prove. Printed by gen.py. -/
import Derived.Test.YtldndhekjhlbmaaDoorD21
set_option linter.unusedVariables false
set_option linter.unusedSimpArgs false
set_option maxRecDepth 100000
namespace Go.Proofs.YtldndhekjhlbmaaDoor
open Go Go.RowKit Go.Proofs
/-- What a Prove leaves. -/
def ProvePost (xss : List (List Int)) (at_ : Int) (v : Value) (rs : List HP) : Prop := ∃ u, v = .tuple #[.agg [.int .i64 (proveT xss at_), .int .i64 (proveI xss at_), u].toArray, .int .i64 (proveE xss at_)] ∧ rs = [ownS 23 32 u (proveA xss at_).length (flat .u8 (proveA xss at_))]
theorem prove_err {xss : List (List Int)} {at_ e : Int} (h : proveE xss at_ = e) (he : e ≠ 0) : ProvePost xss at_ (.tuple #[.agg [.int .i64 0, .int .i64 0, .slice none 0 0].toArray, .int .i64 e]) [ownS 23 32 (.slice none 0 0) 0 []] := by
  have he' : proveE xss at_ ≠ 0 := by rw [h]; exact he
  refine ⟨.slice none 0 0, ?_, ?_⟩
  · unfold proveT proveI; rw [if_neg he', if_neg he', h]
  · unfold proveA; rw [if_neg he']; rfl
theorem prove_fine {xss : List (List Int)} {i : Nat} (hB : bigL xss = false) (hi : i < xss.length) (u : Value) : ProvePost xss (i : Int) (.tuple #[.agg [.int .i64 (xss.length : Int), .int .i64 (i : Int), u].toArray, .int .i64 0]) [ownS 23 32 u (wayH (leaves xss) i).length (flat .u8 (wayH (leaves xss) i))] := by
  have he : proveE xss (i : Int) = 0 := by unfold proveE; rw [hB, if_neg (by decide), if_pos (by omega)]
  refine ⟨u, ?_, ?_⟩
  · unfold proveT proveI; rw [if_pos he, if_pos he, he]
  · unfold proveA; rw [if_pos he]; rfl
theorem proveE_big {xss : List (List Int)} {at_ : Int} (h : bigL xss = true) : proveE xss at_ = 4 := by unfold proveE; rw [if_pos h]
theorem proveE_out {xss : List (List Int)} {at_ : Int} (h : bigL xss = false) (ho : ¬ (0 ≤ at_ ∧ at_ < xss.length)) : proveE xss at_ = 2 := by unfold proveE; rw [h, if_neg (by decide), if_neg ho]
theorem rprove_ok {gl : Nat → Obj} (hG : GlobsR gl) (base : Option Addr) (c : Nat) (vs : List Value) (xss : List (List Int)) (at_ : Int) (hvx : vs.length = xss.length) (hc : vs.length ≤ c) (hmax : vs.length ≤ 70368744177664) : Spec (cx gl) 34 [.slice base vs.length c, .int .i64 at_] (fun w _ => Items w base vs xss) [] (ProvePost xss at_) := by
  refine Spec.enter (C := cx gl) Tryd.func34 rfl 27 rfl rfl fun w0 h0 hsep hsub hpre => ?_
  obtain rfl : h0 = Heap.none := hsep
  show St (cx gl) _ [(0, .slice base vs.length c), (1, .int .i64 at_)] _ _
  refine R_seq ?_
  refine R_region ?_
  refine L_op rfl (W_alloc rfl rfl rfl ty_ze_57 fun b4 => ?_)
  refine L_val rfl rfl rfl (OpP.v (P_assign rfl rfl)) ?_
  refine L_nil ?_
  refine Q_then ?_
  refine R_seq ?_
  refine R_seq ?_
  refine R_region ?_
  refine L_val rfl rfl rfl (OpP.v (P_move rfl rfl)) ?_
  refine L_op rfl (W_callV rfl rfl rfl rfl fn_ca_48 (large_ok base c vs xss hvx hc hmax) (Items.row hpre rfl) ?_)
  refine E_bool (t := 8) rfl (fun hB => ?_) (fun hB => ?_)
  · skip
    refine L_nil ?_
    refine St.env (.cons (t := 0) rfl (.cons (t := 1) rfl (.cons (t := 4) rfl (.cons (t := 5) rfl (.cons (t := 8) rfl .nil))))) ?_
    refine Q_then ?_
    refine R_condT rfl ?_
    refine R_seq ?_
    refine R_region ?_
    refine L_val rfl rfl rfl (OpP.v (P_buildStruct rfl ty_pl_57 ty_ze_57 rfl rfl (rfl))) ?_
    refine E_as (t := 9) (v' := .agg [.int .i64 0, .int .i64 0, .slice none 0 0].toArray) rfl rfl ?_
    refine L_op rfl (W_storeAll rfl rfl rfl rfl ty_ag_57 (rfl) (by intro v hv; simp at hv; rcases hv with rfl | rfl | rfl <;> rfl) .h0 (rfl) ?_)
    refine L_val rfl rfl rfl (OpP.v (P_assign rfl rfl)) ?_
    refine L_nil ?_
    refine St.env (.cons (t := 0) rfl (.cons (t := 1) rfl (.cons (t := 4) rfl (.cons (t := 5) rfl .nil)))) ?_
    refine Q_then ?_
    refine R_ret ?_
    refine Q_then_ret ?_
    exact R_end (rs2 := [ownS 23 32 (.slice none 0 0) 0 []]) rfl rfl (.cell rfl (Rds.loadVar ty_ag_57 (Rds.blk .h0) rfl) (.tmp rfl .nil)) (prove_err (proveE_big hB) (by decide)) (Weak.trans Weak.newNil (Weak.keep (Weak.nil _)))
  · skip
    obtain ⟨g1, _, g3⟩ := bigL_false hB
    refine L_nil ?_
    refine St.env (.cons (t := 0) rfl (.cons (t := 1) rfl (.cons (t := 4) rfl (.cons (t := 5) rfl (.cons (t := 8) rfl .nil))))) ?_
    refine Q_then ?_
    refine R_condF rfl ?_
    refine R_skip ?_
    refine Q_then ?_
    refine R_seq ?_
    refine R_seq ?_
    refine R_region ?_
    refine L_val rfl rfl rfl (OpP.v (P_move rfl rfl)) ?_
    refine L_val rfl rfl rfl (OpP.v (P_lss rfl rfl rfl)) ?_
    refine E_bool (t := 11) rfl (fun h1 => ?_) (fun h1 => ?_)
    · skip
      refine L_val rfl rfl rfl (OpP.v (P_move rfl rfl)) ?_
      refine L_no rfl rfl rfl ?_
      refine L_no rfl rfl rfl ?_
      refine L_no rfl rfl rfl ?_
      refine L_no rfl rfl rfl ?_
      refine L_val rfl rfl rfl (OpP.v (P_pick rfl rfl rfl)) ?_
      refine L_nil ?_
      refine St.env (.cons (t := 0) rfl (.cons (t := 1) rfl (.cons (t := 4) rfl (.cons (t := 5) rfl (.cons (t := 17) rfl .nil))))) ?_
      refine Q_then ?_
      refine R_condT rfl ?_
      refine R_seq ?_
      refine R_region ?_
      refine L_val rfl rfl rfl (OpP.v (P_buildStruct rfl ty_pl_57 ty_ze_57 rfl rfl (rfl))) ?_
      refine E_as (t := 18) (v' := .agg [.int .i64 0, .int .i64 0, .slice none 0 0].toArray) rfl rfl ?_
      refine L_op rfl (W_storeAll rfl rfl rfl rfl ty_ag_57 (rfl) (by intro v hv; simp at hv; rcases hv with rfl | rfl | rfl <;> rfl) .h0 (rfl) ?_)
      refine L_val rfl rfl rfl (OpP.v (P_assign rfl rfl)) ?_
      refine L_nil ?_
      refine St.env (.cons (t := 0) rfl (.cons (t := 1) rfl (.cons (t := 4) rfl (.cons (t := 5) rfl .nil)))) ?_
      refine Q_then ?_
      refine R_ret ?_
      refine Q_then_ret ?_
      exact R_end (rs2 := [ownS 23 32 (.slice none 0 0) 0 []]) rfl rfl (.cell rfl (Rds.loadVar ty_ag_57 (Rds.blk .h0) rfl) (.tmp rfl .nil)) (prove_err (proveE_out hB (by have := of_decide_eq_true h1; omega)) (by decide)) (Weak.trans Weak.newNil (Weak.keep (Weak.nil _)))
    · skip
      refine L_val rfl rfl rfl (OpP.v (P_move rfl rfl)) ?_
      refine L_val rfl rfl rfl (OpP.v (P_move rfl rfl)) ?_
      refine L_val rfl rfl rfl (OpP.v (P_move rfl rfl)) ?_
      refine L_val rfl rfl rfl (OpP.v (P_len rfl ty_sl_36 rfl)) ?_
      refine L_val rfl rfl rfl (OpP.v (P_geq rfl rfl rfl)) ?_
      refine E_bool (t := 16) rfl (fun h2 => ?_) (fun h2 => ?_)
      · skip
        refine L_val rfl rfl rfl (OpP.v (P_pick rfl rfl rfl)) ?_
        refine L_nil ?_
        refine St.env (.cons (t := 0) rfl (.cons (t := 1) rfl (.cons (t := 4) rfl (.cons (t := 5) rfl (.cons (t := 17) rfl .nil))))) ?_
        refine Q_then ?_
        refine R_condT rfl ?_
        refine R_seq ?_
        refine R_region ?_
        refine L_val rfl rfl rfl (OpP.v (P_buildStruct rfl ty_pl_57 ty_ze_57 rfl rfl (rfl))) ?_
        refine E_as (t := 18) (v' := .agg [.int .i64 0, .int .i64 0, .slice none 0 0].toArray) rfl rfl ?_
        refine L_op rfl (W_storeAll rfl rfl rfl rfl ty_ag_57 (rfl) (by intro v hv; simp at hv; rcases hv with rfl | rfl | rfl <;> rfl) .h0 (rfl) ?_)
        refine L_val rfl rfl rfl (OpP.v (P_assign rfl rfl)) ?_
        refine L_nil ?_
        refine St.env (.cons (t := 0) rfl (.cons (t := 1) rfl (.cons (t := 4) rfl (.cons (t := 5) rfl .nil)))) ?_
        refine Q_then ?_
        refine R_ret ?_
        refine Q_then_ret ?_
        exact R_end (rs2 := [ownS 23 32 (.slice none 0 0) 0 []]) rfl rfl (.cell rfl (Rds.loadVar ty_ag_57 (Rds.blk .h0) rfl) (.tmp rfl .nil)) (prove_err (proveE_out hB (by have := of_decide_eq_true h2; omega)) (by decide)) (Weak.trans Weak.newNil (Weak.keep (Weak.nil _)))
      · skip
        obtain ⟨i, rfl⟩ : ∃ i : Nat, at_ = i := ⟨at_.toNat, by have := of_decide_eq_false h1; omega⟩
        have hi : i < xss.length := by have := of_decide_eq_false h2; omega
        refine L_val rfl rfl rfl (OpP.v (P_pick rfl rfl rfl)) ?_
        refine L_nil ?_
        refine St.env (.cons (t := 0) rfl (.cons (t := 1) rfl (.cons (t := 4) rfl (.cons (t := 5) rfl (.cons (t := 17) rfl .nil))))) ?_
        refine Q_then ?_
        refine R_condF rfl ?_
        refine R_skip ?_
        refine Q_then ?_
        refine R_seq ?_
        refine R_region ?_
        refine L_val rfl rfl rfl (OpP.v (P_move rfl rfl)) ?_
        refine L_val rfl rfl rfl (OpP.v (P_move rfl rfl)) ?_
        refine L_op rfl (W_call rfl rfl rfl rfl fn_ca_57 (way_ok hG (vs.length + 1) base c vs xss i (by omega) (by omega) (by omega) (by omega) hvx hc (fun x hx => by have := g3 x hx; omega)) (Split.nil _) (fun w a b _ hb dj m => Items.row hpre rfl w ⟨_, hb, m.le (Heap.le_join_right dj)⟩) fun v21 rs1 (e9 : rs1 = _) => ?_)
        subst e9
        refine St.res (rs' := [ownS 23 32 v21 (wayH (leaves xss) i).length (flat .u8 (wayH (leaves xss) i)), blk b4 [.int .i64 0, .int .i64 0, .slice none 0 0] 57]) (Weak.refl _) ?_
        refine St.ownForm (p := []) fun qb qc hqv hqc => ?_
        subst hqv
        refine L_val rfl rfl rfl (OpP.v (P_assign rfl rfl)) ?_
        refine L_nil ?_
        refine St.env (.cons (t := 0) rfl (.cons (t := 1) rfl (.cons (t := 4) rfl (.cons (t := 5) rfl (.cons (t := 6) rfl .nil))))) ?_
        refine Q_then ?_
        refine R_seq ?_
        refine R_region ?_
        refine L_val rfl rfl rfl (OpP.v (P_move rfl rfl)) ?_
        refine L_val rfl rfl rfl (OpP.v (P_len rfl ty_sl_36 rfl)) ?_
        refine E_as (t := 23) (v' := .int .i64 (xss.length : Int)) rfl (by rw [hvx]) ?_
        refine L_val rfl rfl rfl (OpP.v (P_move rfl rfl)) ?_
        refine L_val rfl rfl rfl (OpP.v (P_move rfl rfl)) ?_
        refine L_val rfl rfl rfl (OpP.v (P_buildStruct rfl ty_pl_57 ty_ze_57 rfl rfl (rfl))) ?_
        refine E_as (t := 26) (v' := .agg [.int .i64 (xss.length : Int), .int .i64 (i : Int), .slice qb (wayH (leaves xss) i).length qc].toArray) rfl rfl ?_
        refine L_op rfl (W_storeAll rfl rfl rfl rfl ty_ag_57 (rfl) (by intro v hv; simp at hv; rcases hv with rfl | rfl | rfl <;> rfl) .h1 (rfl) ?_)
        refine L_val rfl rfl rfl (OpP.v (P_assign rfl rfl)) ?_
        refine L_nil ?_
        refine St.env (.cons (t := 4) rfl (.cons (t := 5) rfl .nil)) ?_
        refine Q_then ?_
        refine R_ret ?_
        exact R_end (rs2 := _) rfl rfl (.cell rfl (Rds.loadVar ty_ag_57 (Rds.blk .h1) rfl) (.tmp rfl .nil)) (prove_fine hB hi _) (Weak.keep (Weak.nil _))
end Go.Proofs.YtldndhekjhlbmaaDoor
