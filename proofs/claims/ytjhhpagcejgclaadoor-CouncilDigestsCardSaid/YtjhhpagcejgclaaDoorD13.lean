/- Walks: what is too much; roots. Printed by gen.py. -/
import Derived.Test.YtjhhpagcejgclaaDoorD12
set_option linter.unusedVariables false
set_option linter.unusedSimpArgs false
set_option maxRecDepth 100000
namespace Go.Proofs.YtjhhpagcejgclaaDoor
open Go Go.RowKit Go.Proofs
theorem large_ok {gl : Nat → Obj} (base : Option Addr) (c : Nat) (vs : List Value) (xss : List (List Int)) (hvx : vs.length = xss.length) (hc : vs.length ≤ c) (hmax : vs.length ≤ 70368744177664) : SpecV (cx gl) 28 [.slice base vs.length c] (fun w => Items w base vs xss) (.bool (bigL xss)) := by
  refine Spec.enter (C := cx gl) Tryd.func28 rfl 19 rfl rfl fun w0 h0 hsep hsub hpre => ?_
  obtain rfl : h0 = Heap.none := hsep
  show St (cx gl) _ [(0, .slice base vs.length c)] _ _
  refine R_seq ?_
  refine R_region ?_
  refine L_val rfl rfl rfl (OpP.v (P_assign rfl rfl)) ?_
  refine L_nil ?_
  refine Q_then ?_
  refine R_seq ?_
  refine R_seq ?_
  refine R_region ?_
  refine L_val rfl rfl rfl (OpP.v (P_move rfl rfl)) ?_
  refine L_val rfl rfl rfl (OpP.v (P_len rfl ty_sl_42 rfl)) ?_
  refine L_val rfl rfl rfl (OpP.v (P_gtr rfl rfl rfl)) ?_
  refine L_nil ?_
  refine St.env (.cons (t := 0) rfl (.cons (t := 2) rfl (.cons (t := 6) rfl .nil))) ?_
  refine Q_then ?_
  refine R_condP rfl (fun h0 => ?_) (fun h0 => ?_)
  · skip
    refine R_seq ?_
    refine R_region ?_
    refine L_val rfl rfl rfl (OpP.v (P_assign rfl rfl)) ?_
    refine L_nil ?_
    refine St.env (.cons (t := 0) rfl (.cons (t := 2) rfl .nil)) ?_
    refine Q_then ?_
    refine R_ret ?_
    refine Q_then_ret ?_
    exact R_endV rfl rfl (.tmp rfl .nil) (by rw [bigL_long (by omega)]; rfl)
  · skip
    rw [bigL_short (by omega)]
    refine R_skip ?_
    refine Q_then ?_
    refine R_seq ?_
    refine R_seq ?_
    refine R_region ?_
    refine L_val rfl rfl rfl (OpP.v (P_assign rfl rfl)) ?_
    refine L_nil ?_
    refine St.env (.cons (t := 0) rfl (.cons (t := 2) rfl (.cons (t := 3) rfl .nil))) ?_
    refine Q_then ?_
    refine R_block ?_
    refine R_loop (G := Nat) (fun k => [(0, .slice base vs.length c), (2, .bool false), (3, .int .i64 (k : Int))]) (fun k => []) (fun k => k ≤ vs.length ∧ anyBig xss = anyBig (xss.drop k)) (fun k => vs.length - k) (0) (⟨Nat.zero_le _, rfl⟩) (by repeat (first | exact .nil | refine .cons rfl ?_)) (Weak.refl _) ?_
    rintro k ⟨hk, hany⟩
    refine R_seq ?_
    refine R_seq ?_
    refine R_region ?_
    refine L_val rfl rfl rfl (OpP.v (P_move rfl rfl)) ?_
    refine L_val rfl rfl rfl (OpP.v (P_move rfl rfl)) ?_
    refine L_val rfl rfl rfl (OpP.v (P_len rfl ty_sl_42 rfl)) ?_
    refine L_val rfl rfl rfl (OpP.v (P_lss rfl rfl rfl)) ?_
    refine L_nil ?_
    refine Q_then ?_
    refine R_condP rfl (fun hlt => ?_) (fun hlt => ?_)
    · skip
      obtain ⟨bb, bc, ys, hvk, hxk, hbc, hbr⟩ := hpre.2.at_ (k := k) (by omega)
      obtain ⟨pb, pj, rfl, hrow⟩ := hpre.1.some_ (by omega)
      refine R_skip ?_
      refine Q_then ?_
      refine R_seq ?_
      refine R_block ?_
      refine R_seq ?_
      refine R_region ?_
      refine L_val rfl rfl rfl (OpP.v (P_move rfl rfl)) ?_
      refine L_val rfl rfl rfl (OpP.v (P_move rfl rfl)) ?_
      refine L_val rfl rfl rfl (OpP.v (P_ixs (k) rfl ty_sl_42 rfl rfl (by first | rfl | omega) (by omega))) ?_
      refine L_val rfl rfl rfl (V_load rfl rfl ty_sc_46 (Rd.row hrow rfl hvk)) ?_
      refine L_val rfl rfl rfl (OpP.v (P_len rfl ty_sl_46 rfl)) ?_
      refine L_val rfl rfl rfl (OpP.v (P_gtr rfl rfl rfl)) ?_
      refine L_nil ?_
      refine Q_then ?_
      refine R_condP rfl (fun hbig => ?_) (fun hbig => ?_)
      · skip
        refine R_seq ?_
        refine R_region ?_
        refine L_val rfl rfl rfl (OpP.v (P_assign rfl rfl)) ?_
        refine L_nil ?_
        refine Q_then ?_
        refine R_ret ?_
        refine Q_block_ret ?_
        refine Q_then_ret ?_
        refine Q_then_ret ?_
        refine Q_block_ret ?_
        refine Q_then_ret ?_
        exact R_endV rfl rfl (.tmp rfl .nil) (by rw [hany, anyBig_drop hxk, decide_eq_true (by omega)]; rfl)
      · skip
        refine R_skip ?_
        refine Q_block ?_
        refine Q_then ?_
        refine R_region ?_
        refine L_val rfl rfl rfl (OpP.v (P_move rfl rfl)) ?_
        first | (refine L_val rfl rfl rfl (OpP.v (P_addN rfl rfl rfl (by simp only [fits]; omega))) ?_) | (refine L_val rfl rfl rfl (OpP.v (P_add rfl rfl rfl)) ?_)
        refine L_val rfl rfl rfl (OpP.v (P_assign rfl rfl)) ?_
        refine L_nil ?_
        exact Q_round (k + 1) (⟨by omega, by rw [hany, anyBig_drop hxk, decide_eq_false (by omega), Bool.false_or]⟩) (by omega) (by repeat (first | exact .nil | refine .cons rfl ?_)) (Weak.refl _)
    · skip
      refine R_exit ?_
      refine Q_then_exit ?_
      refine Q_then_exit ?_
      refine Q_block_eq ?_
      refine St.env (.cons (t := 2) rfl .nil) ?_
      refine Q_then ?_
      refine R_seq ?_
      refine R_region ?_
      refine L_val rfl rfl rfl (OpP.v (P_assign rfl rfl)) ?_
      refine L_nil ?_
      refine Q_then ?_
      refine R_ret ?_
      exact R_endV rfl rfl (.tmp rfl .nil) (by rw [hany, anyBig_end (by omega)]; rfl)
theorem over_ok (gl : Nat → Obj) (b : Option Addr) (n c : Nat) : SpecV (cx gl) 43 [.slice b n c] noPre (.bool (decide (1048576 < n))) := by
  refine Spec.enter (C := cx gl) Tryd.func43 rfl 6 rfl rfl fun w0 h0 hsep hsub hpre => ?_
  obtain rfl : h0 = Heap.none := hsep
  show St (cx gl) _ [(0, .slice b n c)] _ _
  refine R_seq ?_
  refine R_region ?_
  refine L_val rfl rfl rfl (OpP.v (P_assign rfl rfl)) ?_
  refine L_nil ?_
  refine Q_then ?_
  refine R_seq ?_
  refine R_region ?_
  refine L_val rfl rfl rfl (OpP.v (P_move rfl rfl)) ?_
  refine L_val rfl rfl rfl (OpP.v (P_len rfl ty_sl_46 rfl)) ?_
  refine L_val rfl rfl rfl (OpP.v (P_gtr rfl rfl rfl)) ?_
  refine L_val rfl rfl rfl (OpP.v (P_assign rfl rfl)) ?_
  refine L_nil ?_
  refine St.env (.cons (t := 2) rfl .nil) ?_
  refine Q_then ?_
  refine R_ret ?_
  exact R_endV rfl rfl (.tmp rfl .nil) (congrArg Value.bool (decide_eq_decide.2 (by omega)))
theorem index_ok {gl : Nat → Obj} (base : Option Addr) (c : Nat) (vs : List Value) (xss : List (List Int)) (hvx : vs.length = xss.length) (hc : vs.length ≤ c) (hmax : vs.length ≤ 70368744177664) : SpecV (cx gl) 57 [.slice base vs.length c, .func (.func 43) #[] #[]] (fun w => Items w base vs xss) (.int .i64 (idxB xss 0)) := by
  refine Spec.enter (C := cx gl) Tryd.func57 rfl 19 rfl rfl fun w0 h0 hsep hsub hpre => ?_
  obtain rfl : h0 = Heap.none := hsep
  show St (cx gl) _ [(0, .slice base vs.length c), (1, .func (.func 43) #[] #[])] _ _
  refine R_seq ?_
  refine R_region ?_
  refine L_val rfl rfl rfl (OpP.v (P_assign rfl rfl)) ?_
  refine L_nil ?_
  refine Q_then ?_
  refine R_seq ?_
  refine R_seq ?_
  refine R_region ?_
  refine L_val rfl rfl rfl (OpP.v (P_move rfl rfl)) ?_
  refine L_val rfl rfl rfl (OpP.v (P_len rfl ty_sl_42 rfl)) ?_
  refine L_val rfl rfl rfl (OpP.v (P_move rfl rfl)) ?_
  refine L_nil ?_
  refine St.env (.cons (t := 0) rfl (.cons (t := 1) rfl (.cons (t := 4) rfl (.cons (t := 7) rfl (.cons (t := 8) rfl .nil))))) ?_
  refine Q_then ?_
  refine R_block ?_
  refine R_loop (G := Nat) (fun k => [(0, .slice base vs.length c), (1, .func (.func 43) #[] #[]), (4, .int .i64 0), (7, .int .i64 ((vs.length : Nat) : Int)), (8, .int .i64 (k : Int))]) (fun k => []) (fun k => k ≤ vs.length ∧ idxB xss 0 = idxB (xss.drop k) k) (fun k => vs.length - k) (0) (⟨Nat.zero_le _, rfl⟩) (by repeat (first | exact .nil | refine .cons rfl ?_)) (Weak.refl _) ?_
  rintro k ⟨hk, hidx⟩
  refine R_seq ?_
  refine R_region ?_
  refine L_val rfl rfl rfl (OpP.v (P_lss rfl rfl rfl)) ?_
  refine L_nil ?_
  refine Q_then ?_
  refine R_seq ?_
  refine R_condP rfl (fun hlt => ?_) (fun hlt => ?_)
  · skip
    obtain ⟨bb, bc, ys, hvk, hxk, hbc, hbr⟩ := hpre.2.at_ (k := k) (by omega)
    obtain ⟨pb, pj, rfl, hrow⟩ := hpre.1.some_ (by omega)
    refine R_skip ?_
    refine Q_then ?_
    refine R_seq ?_
    refine R_block ?_
    refine R_seq ?_
    refine R_region ?_
    refine L_val rfl rfl rfl (OpP.v (P_move rfl rfl)) ?_
    refine L_val rfl rfl rfl (OpP.v (P_assign rfl rfl)) ?_
    refine L_nil ?_
    refine Q_then ?_
    refine R_seq ?_
    refine R_region ?_
    refine L_val rfl rfl rfl (OpP.v (P_move rfl rfl)) ?_
    refine L_val rfl rfl rfl (OpP.v (P_move rfl rfl)) ?_
    refine L_val rfl rfl rfl (OpP.v (P_move rfl rfl)) ?_
    refine L_val rfl rfl rfl (OpP.v (P_ixs (k) rfl ty_sl_42 rfl rfl (by first | rfl | omega) (by omega))) ?_
    refine L_val rfl rfl rfl (V_load rfl rfl ty_sc_46 (Rd.row hrow rfl hvk)) ?_
    refine L_op rfl (W_callFV (fi := []) (ca := []) rfl rfl rfl rfl rfl rfl fn_ca_43 (over_ok gl bb ys.length bc) (fun _ _ => trivial) ?_)
    refine L_nil ?_
    refine Q_then ?_
    refine R_condP rfl (fun hbig => ?_) (fun hbig => ?_)
    · skip
      refine R_seq ?_
      refine R_region ?_
      refine L_val rfl rfl rfl (OpP.v (P_move rfl rfl)) ?_
      refine L_val rfl rfl rfl (OpP.v (P_assign rfl rfl)) ?_
      refine L_nil ?_
      refine Q_then ?_
      refine R_ret ?_
      refine Q_block_ret ?_
      refine Q_then_ret ?_
      refine Q_then_ret ?_
      refine Q_block_ret ?_
      refine Q_then_ret ?_
      exact R_endV rfl rfl (.tmp rfl .nil) (by rw [hidx, idxB_drop hxk, if_pos hbig]; rfl)
    · skip
      refine R_skip ?_
      refine Q_block ?_
      refine Q_then ?_
      refine R_region ?_
      first | (refine L_val rfl rfl rfl (OpP.v (P_addN rfl rfl rfl (by simp only [fits]; omega))) ?_) | (refine L_val rfl rfl rfl (OpP.v (P_add rfl rfl rfl)) ?_)
      refine L_val rfl rfl rfl (OpP.v (P_move rfl rfl)) ?_
      refine L_nil ?_
      refine E_nat (t := 8) (n := k + 1) rfl (by omega) ?_
      exact Q_round (k + 1) (⟨by omega, by rw [hidx, idxB_drop hxk, if_neg hbig]⟩) (by omega) (by repeat (first | exact .nil | refine .cons rfl ?_)) (Weak.refl _)
  · skip
    refine R_exit ?_
    refine Q_then_exit ?_
    refine Q_then_exit ?_
    refine Q_block_eq ?_
    refine St.env (.cons (t := 4) rfl .nil) ?_
    refine Q_then ?_
    refine R_seq ?_
    refine R_region ?_
    refine L_val rfl rfl rfl (OpP.v (P_assign rfl rfl)) ?_
    refine L_nil ?_
    refine Q_then ?_
    refine R_ret ?_
    exact R_endV rfl rfl (.tmp rfl .nil) (by rw [hidx, List.drop_eq_nil_of_le (by omega)]; rfl)
theorem contains_ok {gl : Nat → Obj} (base : Option Addr) (c : Nat) (vs : List Value) (xss : List (List Int)) (hvx : vs.length = xss.length) (hc : vs.length ≤ c) (hmax : vs.length ≤ 70368744177664) : SpecV (cx gl) 42 [.slice base vs.length c, .func (.func 43) #[] #[]] (fun w => Items w base vs xss) (.bool (anyBig xss)) := by
  refine Spec.enter (C := cx gl) Tryd.func42 rfl 9 rfl rfl fun w0 h0 hsep hsub hpre => ?_
  obtain rfl : h0 = Heap.none := hsep
  show St (cx gl) _ [(0, .slice base vs.length c), (1, .func (.func 43) #[] #[])] _ _
  refine R_seq ?_
  refine R_region ?_
  refine L_val rfl rfl rfl (OpP.v (P_assign rfl rfl)) ?_
  refine L_nil ?_
  refine Q_then ?_
  refine R_seq ?_
  refine R_region ?_
  refine L_val rfl rfl rfl (OpP.v (P_move rfl rfl)) ?_
  refine L_val rfl rfl rfl (OpP.v (P_move rfl rfl)) ?_
  refine L_op rfl (W_callV rfl rfl rfl rfl fn_ca_57 (index_ok base c vs xss hvx hc hmax) (Items.row hpre rfl) ?_)
  refine L_val rfl rfl rfl (OpP.v (P_geq rfl rfl rfl)) ?_
  refine L_val rfl rfl rfl (OpP.v (P_assign rfl rfl)) ?_
  refine L_nil ?_
  refine St.env (.cons (t := 4) rfl .nil) ?_
  refine Q_then ?_
  refine R_ret ?_
  exact R_endV rfl rfl (.tmp rfl .nil) (congrArg Value.bool (idxB_any xss 0))
theorem leavesOf_big {gl : Nat → Obj} (base : Option Addr) (c : Nat) (vs : List Value) (xss : List (List Int)) (hvx : vs.length = xss.length) (hc : vs.length ≤ c) (hmax : vs.length ≤ 70368744177664) (hB : bigL xss = true) : SpecV (cx gl) 24 [.slice base vs.length c] (fun w => Items w base vs xss) (.tuple #[.slice none 0 0, .int .i64 4]) := by
  refine Spec.enter (C := cx gl) Tryd.func24 rfl 31 rfl rfl fun w0 h0 hsep hsub hpre => ?_
  obtain rfl : h0 = Heap.none := hsep
  show St (cx gl) _ [(0, .slice base vs.length c)] _ _
  refine R_seq ?_
  refine R_region ?_
  refine L_val rfl rfl rfl (OpP.v (P_assign rfl rfl)) ?_
  refine L_val rfl rfl rfl (OpP.v (P_assign rfl rfl)) ?_
  refine L_nil ?_
  refine Q_then ?_
  refine R_seq ?_
  refine R_seq ?_
  refine R_region ?_
  refine L_val rfl rfl rfl (OpP.v (P_move rfl rfl)) ?_
  refine L_val rfl rfl rfl (OpP.v (P_len rfl ty_sl_42 rfl)) ?_
  refine L_val rfl rfl rfl (OpP.v (P_gtr rfl rfl rfl)) ?_
  refine E_bool (t := 9) rfl (fun hl => ?_) (fun hl => ?_)
  · skip
    refine L_val rfl rfl rfl (OpP.v (P_move rfl rfl)) ?_
    refine L_no rfl rfl rfl ?_
    refine L_no rfl rfl rfl ?_
    refine L_val rfl rfl rfl (OpP.v (P_pick rfl rfl rfl)) ?_
    refine L_nil ?_
    refine St.env (.cons (t := 0) rfl (.cons (t := 2) rfl (.cons (t := 3) rfl (.cons (t := 13) rfl .nil)))) ?_
    refine Q_then ?_
    refine R_condT rfl ?_
    refine R_seq ?_
    refine R_region ?_
    refine L_val rfl rfl rfl (OpP.v (P_assign rfl rfl)) ?_
    refine L_val rfl rfl rfl (OpP.v (P_assign rfl rfl)) ?_
    refine L_nil ?_
    refine St.env (.cons (t := 0) rfl (.cons (t := 2) rfl (.cons (t := 3) rfl .nil))) ?_
    refine Q_then ?_
    refine R_ret ?_
    refine Q_then_ret ?_
    exact R_endV rfl rfl (.tmp rfl (.tmp rfl .nil)) (rfl)
  · skip
    refine L_val rfl rfl rfl (OpP.v (P_move rfl rfl)) ?_
    refine L_val rfl rfl rfl (OpP.v (P_move rfl rfl)) ?_
    refine L_op rfl (W_callV rfl rfl rfl rfl fn_ca_42 (contains_ok base c vs xss hvx hc hmax) (Items.row hpre rfl) ?_)
    refine L_val rfl rfl rfl (OpP.v (P_pick rfl rfl rfl)) ?_
    refine E_true (t := 13) rfl (by rw [← bigL_short (by rw [← hvx]; have := of_decide_eq_false hl; omega)]; exact hB) ?_
    refine L_nil ?_
    refine St.env (.cons (t := 0) rfl (.cons (t := 2) rfl (.cons (t := 3) rfl (.cons (t := 13) rfl .nil)))) ?_
    refine Q_then ?_
    refine R_condT rfl ?_
    refine R_seq ?_
    refine R_region ?_
    refine L_val rfl rfl rfl (OpP.v (P_assign rfl rfl)) ?_
    refine L_val rfl rfl rfl (OpP.v (P_assign rfl rfl)) ?_
    refine L_nil ?_
    refine St.env (.cons (t := 0) rfl (.cons (t := 2) rfl (.cons (t := 3) rfl .nil))) ?_
    refine Q_then ?_
    refine R_ret ?_
    refine Q_then_ret ?_
    exact R_endV rfl rfl (.tmp rfl (.tmp rfl .nil)) (rfl)
theorem leavesOf_ok {gl : Nat → Obj} (hG : Globs gl) (base : Option Addr) (c : Nat) (vs : List Value) (xss : List (List Int)) (hvx : vs.length = xss.length) (hc : vs.length ≤ c) (hmax : vs.length ≤ 70368744177664) (hB : bigL xss = false) : Spec (cx gl) 24 [.slice base vs.length c] (fun w _ => Items w base vs xss) [] (fun v rs => ∃ b, v = .tuple #[.slice (some ⟨b, 0, none⟩) (leaves xss).length (leaves xss).length, .int .i64 0] ∧ rs = [blk b (flat .u8 (leaves xss)) 27]) := by
  refine Spec.enter (C := cx gl) Tryd.func24 rfl 31 rfl rfl fun w0 h0 hsep hsub hpre => ?_
  obtain rfl : h0 = Heap.none := hsep
  show St (cx gl) _ [(0, .slice base vs.length c)] _ _
  obtain ⟨hB1, hB2, hB3⟩ := bigL_false hB
  have hfl : ∀ k, ∀ x ∈ fillG (leafF xss) vs.length k, x.length = 32 := fun k => fillG_len _ _ _ fun i => sha_length _
  refine R_seq ?_
  refine R_region ?_
  refine L_val rfl rfl rfl (OpP.v (P_assign rfl rfl)) ?_
  refine L_val rfl rfl rfl (OpP.v (P_assign rfl rfl)) ?_
  refine L_nil ?_
  refine Q_then ?_
  refine R_seq ?_
  refine R_seq ?_
  refine R_region ?_
  refine L_val rfl rfl rfl (OpP.v (P_move rfl rfl)) ?_
  refine L_val rfl rfl rfl (OpP.v (P_len rfl ty_sl_42 rfl)) ?_
  refine L_val rfl rfl rfl (OpP.v (P_gtr rfl rfl rfl)) ?_
  refine E_false (t := 9) rfl (decide_eq_false (by omega)) ?_
  refine L_val rfl rfl rfl (OpP.v (P_move rfl rfl)) ?_
  refine L_val rfl rfl rfl (OpP.v (P_move rfl rfl)) ?_
  refine L_op rfl (W_callV rfl rfl rfl rfl fn_ca_42 (contains_ok base c vs xss hvx hc hmax) (Items.row hpre rfl) ?_)
  refine L_val rfl rfl rfl (OpP.v (P_pick rfl rfl rfl)) ?_
  refine E_false (t := 13) rfl (hB2) ?_
  refine L_nil ?_
  refine St.env (.cons (t := 0) rfl (.cons (t := 2) rfl (.cons (t := 3) rfl (.cons (t := 13) rfl .nil)))) ?_
  refine Q_then ?_
  refine R_condF rfl ?_
  refine R_skip ?_
  refine Q_then ?_
  refine R_seq ?_
  refine R_region ?_
  refine L_val rfl rfl rfl (OpP.v (P_move rfl rfl)) ?_
  refine L_val rfl rfl rfl (OpP.v (P_len rfl ty_sl_42 rfl)) ?_
  refine L_op rfl (W_make (n := vs.length) rfl rfl rfl ty_sl_60 ty_ze_27 rfl rfl (by omega) (by omega) fun b16 => ?_)
  rw [madeL_rep 32 _ _ (by decide), ← flat_zeros, ← fillG_zero (leafF xss)]
  refine L_val rfl rfl rfl (OpP.v (P_assign rfl rfl)) ?_
  refine L_nil ?_
  refine St.env (.cons (t := 0) rfl (.cons (t := 2) rfl (.cons (t := 3) rfl (.cons (t := 4) rfl .nil)))) ?_
  refine Q_then ?_
  refine R_seq ?_
  refine R_seq ?_
  refine R_region ?_
  refine L_val rfl rfl rfl (OpP.v (P_move rfl rfl)) ?_
  refine L_val rfl rfl rfl (OpP.v (P_len rfl ty_sl_42 rfl)) ?_
  refine L_val rfl rfl rfl (OpP.v (P_move rfl rfl)) ?_
  refine L_nil ?_
  refine St.env (.cons (t := 2) rfl (.cons (t := 3) rfl (.cons (t := 4) rfl (.cons (t := 17) rfl (.cons (t := 18) rfl (.cons (t := 19) rfl .nil)))))) ?_
  refine Q_then ?_
  refine R_block ?_
  refine R_loop (G := Nat) (fun k => [(2, .slice none 0 0), (3, .int .i64 0), (4, .slice (some ⟨b16, 0, none⟩) (vs.length) (vs.length)), (17, .slice base vs.length c), (18, .int .i64 ((vs.length : Nat) : Int)), (19, .int .i64 (k : Int))]) (fun k => [blk b16 (flat .u8 (fillG (leafF xss) vs.length k)) 27]) (fun k => k ≤ vs.length) (fun k => vs.length - k) (0) (by omega) (by repeat (first | exact .nil | refine .cons rfl ?_)) (Weak.refl _) ?_
  intro k hk
  refine R_seq ?_
  refine R_region ?_
  refine L_val rfl rfl rfl (OpP.v (P_lss rfl rfl rfl)) ?_
  refine L_nil ?_
  refine Q_then ?_
  refine R_seq ?_
  refine R_condP rfl (fun hlt => ?_) (fun hlt => ?_)
  · skip
    obtain ⟨bb, bc, ys, hvk, hxk, hbc, hbr⟩ := hpre.2.at_ (k := k) (by omega)
    obtain ⟨pb, pj, rfl, hrow⟩ := hpre.1.some_ (by omega)
    have hgk : xss.getD k [] = ys := by rw [List.getD_eq_getElem?_getD, hxk]; rfl
    refine R_skip ?_
    refine Q_then ?_
    refine R_seq ?_
    refine R_block ?_
    refine R_seq ?_
    refine R_region ?_
    refine L_val rfl rfl rfl (OpP.v (P_move rfl rfl)) ?_
    refine L_val rfl rfl rfl (OpP.v (P_ixs (k) rfl ty_sl_42 rfl rfl (by first | rfl | omega) (by omega))) ?_
    refine L_val rfl rfl rfl (V_load rfl rfl ty_sc_46 (Rd.row hrow rfl hvk)) ?_
    refine L_val rfl rfl rfl (OpP.v (P_assign rfl rfl)) ?_
    refine L_val rfl rfl rfl (OpP.v (P_assign rfl rfl)) ?_
    refine L_nil ?_
    refine Q_then ?_
    refine R_region ?_
    refine L_val rfl rfl rfl (OpP.v (P_move rfl rfl)) ?_
    refine L_val rfl rfl rfl (OpP.v (P_move rfl rfl)) ?_
    refine L_val rfl rfl rfl (OpP.v (P_move rfl rfl)) ?_
    refine L_op rfl (W_callV rfl rfl rfl rfl fn_ca_44 (leaf_ok hG bb bc ys hbc) (fun w nw => (Sn.row hbr rfl).rw_ w nw) ?_)
    refine L_val rfl rfl rfl (OpP.v (P_ixs (k) rfl ty_sl_60 rfl rfl (by first | rfl | omega) (by omega))) ?_
    refine L_op rfl (W_storeAgg rfl rfl rfl rfl ty_ag_27 (by rw [ints_length]; exact sha_length _) (ints_one) .h0 (by rw [flat_length (hfl k), fillG_length, ints_length]; rw [sha_length]; omega) ?_)
    rw [Nat.zero_add, flat_splice (hfl k) (by rw [fillG_length]; omega) (sha_length _)]
    refine L_nil ?_
    refine Q_block ?_
    refine Q_then ?_
    refine R_region ?_
    first | (refine L_val rfl rfl rfl (OpP.v (P_addN rfl rfl rfl (by simp only [fits]; omega))) ?_) | (refine L_val rfl rfl rfl (OpP.v (P_add rfl rfl rfl)) ?_)
    refine L_val rfl rfl rfl (OpP.v (P_move rfl rfl)) ?_
    refine L_nil ?_
    refine E_nat (t := 19) (n := k + 1) rfl (by omega) ?_
    exact Q_round (k + 1) (by omega) (by omega) (by repeat (first | exact .nil | refine .cons rfl ?_)) (by rw [← fillG_set, leafF, hgk]; exact Weak.refl _)
  · skip
    obtain rfl : k = vs.length := by omega
    rw [hvx, leaves_fill]
    refine R_exit ?_
    refine Q_then_exit ?_
    refine Q_then_exit ?_
    refine Q_block_eq ?_
    refine St.env (.cons (t := 2) rfl (.cons (t := 3) rfl (.cons (t := 4) rfl .nil))) ?_
    refine Q_then ?_
    refine R_seq ?_
    refine R_region ?_
    refine L_val rfl rfl rfl (OpP.v (P_move rfl rfl)) ?_
    refine L_val rfl rfl rfl (OpP.v (P_assign rfl rfl)) ?_
    refine L_val rfl rfl rfl (OpP.v (P_assign rfl rfl)) ?_
    refine L_nil ?_
    refine St.env (.cons (t := 2) rfl (.cons (t := 3) rfl .nil)) ?_
    refine Q_then ?_
    refine R_ret ?_
    exact R_end (rs2 := _) rfl rfl (.tmp rfl (.tmp rfl .nil)) (⟨b16, by rw [leaves_length]; rfl, rfl⟩) (Weak.refl _)
theorem root_big {gl : Nat → Obj} (base : Option Addr) (c : Nat) (vs : List Value) (xss : List (List Int)) (hvx : vs.length = xss.length) (hc : vs.length ≤ c) (hmax : vs.length ≤ 70368744177664) (hB : bigL xss = true) : SpecV (cx gl) 14 [.slice base vs.length c] (fun w => Items w base vs xss) (.tuple #[.agg (ints .u8 (List.replicate 32 0)).toArray, .int .i64 4]) := by
  refine Spec.enter (C := cx gl) Tryd.func14 rfl 20 rfl rfl fun w0 h0 hsep hsub hpre => ?_
  obtain rfl : h0 = Heap.none := hsep
  show St (cx gl) _ [(0, .slice base vs.length c)] _ _
  refine R_seq ?_
  refine R_region ?_
  refine L_op rfl (W_alloc rfl rfl rfl ty_ze_27 fun b2 => ?_)
  refine L_val rfl rfl rfl (OpP.v (P_assign rfl rfl)) ?_
  refine L_nil ?_
  refine Q_then ?_
  refine R_seq ?_
  refine R_region ?_
  refine L_val rfl rfl rfl (OpP.v (P_move rfl rfl)) ?_
  refine L_op rfl (W_callV rfl rfl rfl rfl fn_ca_24 (leavesOf_big base c vs xss hvx hc hmax hB) (Items.row hpre rfl) ?_)
  refine L_val rfl rfl rfl (OpP.v (P_move rfl rfl)) ?_
  refine L_val rfl rfl rfl (OpP.v (P_extract rfl rfl rfl)) ?_
  refine L_val rfl rfl rfl (OpP.v (P_extract rfl rfl rfl)) ?_
  refine L_val rfl rfl rfl (OpP.v (P_assign rfl rfl)) ?_
  refine L_val rfl rfl rfl (OpP.v (P_assign rfl rfl)) ?_
  refine L_nil ?_
  refine St.env (.cons (t := 2) rfl (.cons (t := 3) rfl (.cons (t := 4) rfl (.cons (t := 5) rfl .nil)))) ?_
  refine Q_then ?_
  refine R_seq ?_
  refine R_seq ?_
  refine R_region ?_
  refine L_val rfl rfl rfl (OpP.v (P_move rfl rfl)) ?_
  refine L_val rfl rfl rfl (OpP.v (P_neq rfl rfl rfl)) ?_
  refine E_true (t := 12) rfl (rfl) ?_
  refine L_nil ?_
  refine St.env (.cons (t := 2) rfl (.cons (t := 3) rfl (.cons (t := 4) rfl (.cons (t := 5) rfl (.cons (t := 12) rfl .nil))))) ?_
  refine Q_then ?_
  refine R_condT rfl ?_
  refine R_seq ?_
  refine R_region ?_
  refine L_val rfl rfl rfl (OpP.v (P_buildArrR rfl ty_ar_27 ty_ze_27 rfl rfl rfl (by decide) (by simp [Value.oneCell']))) ?_
  refine E_as (t := 13) (v' := .agg (ints .u8 (List.replicate 32 0)).toArray) rfl rfl ?_
  refine L_val rfl rfl rfl (OpP.v (P_move rfl rfl)) ?_
  refine L_op rfl (W_storeAll rfl rfl rfl rfl ty_ag_27 (rfl) (ints_one) .h0 (rfl) ?_)
  refine L_val rfl rfl rfl (OpP.v (P_assign rfl rfl)) ?_
  refine L_nil ?_
  refine St.env (.cons (t := 2) rfl (.cons (t := 3) rfl (.cons (t := 4) rfl .nil))) ?_
  refine Q_then ?_
  refine R_ret ?_
  refine Q_then_ret ?_
  exact R_endV rfl rfl (.cell rfl (Rds.loadVar ty_ag_27 (Rds.blk .h0) rfl) (.tmp rfl .nil)) (rfl)
theorem root_fine {gl : Nat → Obj} (hG : Globs gl) (base : Option Addr) (c : Nat) (vs : List Value) (xss : List (List Int)) (hvx : vs.length = xss.length) (hc : vs.length ≤ c) (hmax : vs.length ≤ 70368744177664) (hB : bigL xss = false) : SpecV (cx gl) 14 [.slice base vs.length c] (fun w => Items w base vs xss) (.tuple #[.agg (ints .u8 (rootH xss.length (topH (leaves xss)))).toArray, .int .i64 0]) := by
  refine Spec.enter (C := cx gl) Tryd.func14 rfl 20 rfl rfl fun w0 h0 hsep hsub hpre => ?_
  obtain rfl : h0 = Heap.none := hsep
  show St (cx gl) _ [(0, .slice base vs.length c)] _ _
  refine R_seq ?_
  refine R_region ?_
  refine L_op rfl (W_alloc rfl rfl rfl ty_ze_27 fun b2 => ?_)
  refine L_val rfl rfl rfl (OpP.v (P_assign rfl rfl)) ?_
  refine L_nil ?_
  refine Q_then ?_
  refine R_seq ?_
  refine R_region ?_
  refine L_val rfl rfl rfl (OpP.v (P_move rfl rfl)) ?_
  refine L_op rfl (W_call rfl rfl rfl rfl fn_ca_24 (leavesOf_ok hG base c vs xss hvx hc hmax hB) (Split.nil _) (fun w a b _ _ _ m => Items.row hpre rfl w ⟨_, ‹_›, m.le (Heap.le_join_right ‹_›)⟩) fun v8 rs1 ⟨lb, e1, e2⟩ => ?_)
  subst e1; subst e2
  refine St.res (rs' := [blk lb (flat .u8 (leaves xss)) 27, blk b2 (List.replicate 32 (.int .u8 0)) 27]) (Weak.refl _) ?_
  refine L_val rfl rfl rfl (OpP.v (P_move rfl rfl)) ?_
  refine L_val rfl rfl rfl (OpP.v (P_extract rfl rfl rfl)) ?_
  refine L_val rfl rfl rfl (OpP.v (P_extract rfl rfl rfl)) ?_
  refine L_val rfl rfl rfl (OpP.v (P_assign rfl rfl)) ?_
  refine L_val rfl rfl rfl (OpP.v (P_assign rfl rfl)) ?_
  refine L_nil ?_
  refine St.env (.cons (t := 2) rfl (.cons (t := 3) rfl (.cons (t := 4) rfl (.cons (t := 5) rfl .nil)))) ?_
  refine Q_then ?_
  refine R_seq ?_
  refine R_seq ?_
  refine R_region ?_
  refine L_val rfl rfl rfl (OpP.v (P_move rfl rfl)) ?_
  refine L_val rfl rfl rfl (OpP.v (P_neq rfl rfl rfl)) ?_
  refine E_false (t := 12) rfl (rfl) ?_
  refine L_nil ?_
  refine St.env (.cons (t := 2) rfl (.cons (t := 3) rfl (.cons (t := 4) rfl (.cons (t := 5) rfl (.cons (t := 12) rfl .nil))))) ?_
  refine Q_then ?_
  refine R_condF rfl ?_
  refine R_skip ?_
  refine Q_then ?_
  refine R_seq ?_
  refine R_region ?_
  refine L_val rfl rfl rfl (OpP.v (P_move rfl rfl)) ?_
  refine L_val rfl rfl rfl (OpP.v (P_len rfl ty_sl_60 rfl)) ?_
  refine L_val rfl rfl rfl (OpP.v (P_move rfl rfl)) ?_
  refine L_op rfl (W_callV rfl rfl rfl rfl fn_ca_26 (top_ok hG (leaves xss).length (some ⟨lb, 0, none⟩) (leaves xss).length (leaves xss) (Nat.le_refl _) (by rw [leaves_length]; omega) (leaves_len _) (Nat.le_refl _)) (fun w nw => (Sn.ofBlk .h0).rw_ w nw) ?_)
  refine L_op rfl (W_callV rfl rfl rfl rfl fn_ca_25 (under_ok hG ((leaves xss).length : Int) (topH (leaves xss)) (topH_length (leaves_len _))) (fun _ _ => trivial) ?_)
  rw [leaves_length]
  refine L_op rfl (W_storeAll rfl rfl rfl rfl ty_ag_27 (by rw [ints_length, sha_length]) (ints_one) .h1 (by rw [ints_length, sha_length]; rfl) ?_)
  refine L_val rfl rfl rfl (OpP.v (P_assign rfl rfl)) ?_
  refine L_nil ?_
  refine St.env (.cons (t := 2) rfl (.cons (t := 3) rfl .nil)) ?_
  refine Q_then ?_
  refine R_ret ?_
  exact R_endV rfl rfl (.cell rfl (Rds.loadVar ty_ag_27 (Rds.blk .h1) (by rw [ints_length, sha_length])) (.tmp rfl .nil)) (rfl)
theorem root_ok {gl : Nat → Obj} (hG : Globs gl) (base : Option Addr) (c : Nat) (vs : List Value) (xss : List (List Int)) (hvx : vs.length = xss.length) (hc : vs.length ≤ c) (hmax : vs.length ≤ 70368744177664) : SpecV (cx gl) 14 [.slice base vs.length c] (fun w => Items w base vs xss) (rootV xss) := by
  cases hB : bigL xss with
  | true => exact SpecV.mono (root_big base c vs xss hvx hc hmax hB) (fun _ h => h) (by unfold rootV rootD rootE; rw [hB]; rfl)
  | false => exact SpecV.mono (root_fine hG base c vs xss hvx hc hmax hB) (fun _ h => h) (by unfold rootV rootD rootE; rw [hB]; rfl)
theorem rroot_big {gl : Nat → Obj} (base : Option Addr) (c : Nat) (vs : List Value) (xss : List (List Int)) (hvx : vs.length = xss.length) (hc : vs.length ≤ c) (hmax : vs.length ≤ 70368744177664) (hB : bigL xss = true) : SpecV (cx gl) 16 [.slice base vs.length c] (fun w => Items w base vs xss) (.tuple #[.agg (ints .u8 (List.replicate 32 0)).toArray, .int .i64 4]) := by
  refine Spec.enter (C := cx gl) Tryd.func16 rfl 17 rfl rfl fun w0 h0 hsep hsub hpre => ?_
  obtain rfl : h0 = Heap.none := hsep
  show St (cx gl) _ [(0, .slice base vs.length c)] _ _
  refine R_seq ?_
  refine R_region ?_
  refine L_op rfl (W_alloc rfl rfl rfl ty_ze_27 fun b2 => ?_)
  refine L_val rfl rfl rfl (OpP.v (P_assign rfl rfl)) ?_
  refine L_nil ?_
  refine Q_then ?_
  refine R_seq ?_
  refine R_seq ?_
  refine R_region ?_
  refine L_val rfl rfl rfl (OpP.v (P_move rfl rfl)) ?_
  refine L_op rfl (W_callV rfl rfl rfl rfl fn_ca_28 (large_ok base c vs xss hvx hc hmax) (Items.row hpre rfl) ?_)
  refine E_true (t := 7) rfl (hB) ?_
  refine L_nil ?_
  refine St.env (.cons (t := 0) rfl (.cons (t := 2) rfl (.cons (t := 3) rfl (.cons (t := 7) rfl .nil)))) ?_
  refine Q_then ?_
  refine R_condT rfl ?_
  refine R_seq ?_
  refine R_region ?_
  refine L_val rfl rfl rfl (OpP.v (P_buildArrR rfl ty_ar_27 ty_ze_27 rfl rfl rfl (by decide) (by simp [Value.oneCell']))) ?_
  refine E_as (t := 8) (v' := .agg (ints .u8 (List.replicate 32 0)).toArray) rfl rfl ?_
  refine L_op rfl (W_storeAll rfl rfl rfl rfl ty_ag_27 (rfl) (ints_one) .h0 (rfl) ?_)
  refine L_val rfl rfl rfl (OpP.v (P_assign rfl rfl)) ?_
  refine L_nil ?_
  refine St.env (.cons (t := 0) rfl (.cons (t := 2) rfl (.cons (t := 3) rfl .nil))) ?_
  refine Q_then ?_
  refine R_ret ?_
  refine Q_then_ret ?_
  exact R_endV rfl rfl (.cell rfl (Rds.loadVar ty_ag_27 (Rds.blk .h0) rfl) (.tmp rfl .nil)) (rfl)
theorem rroot_fine {gl : Nat → Obj} (hG : GlobsR gl) (base : Option Addr) (c : Nat) (vs : List Value) (xss : List (List Int)) (hvx : vs.length = xss.length) (hc : vs.length ≤ c) (hmax : vs.length ≤ 70368744177664) (hB : bigL xss = false) : SpecV (cx gl) 16 [.slice base vs.length c] (fun w => Items w base vs xss) (.tuple #[.agg (ints .u8 (rootH xss.length (topH (leaves xss)))).toArray, .int .i64 0]) := by
  refine Spec.enter (C := cx gl) Tryd.func16 rfl 17 rfl rfl fun w0 h0 hsep hsub hpre => ?_
  obtain rfl : h0 = Heap.none := hsep
  show St (cx gl) _ [(0, .slice base vs.length c)] _ _
  obtain ⟨hB1, hB2, hB3⟩ := bigL_false hB
  have htl : (topH (leaves xss)).length = 32 := topH_length (leaves_len _)
  have hrl : (2 :: (numB (vs.length : Int) ++ topH (leaves xss))).length = 41 := by rw [List.length_cons, List.length_append, numB_length, htl]
  refine R_seq ?_
  refine R_region ?_
  refine L_op rfl (W_alloc rfl rfl rfl ty_ze_27 fun b2 => ?_)
  refine L_val rfl rfl rfl (OpP.v (P_assign rfl rfl)) ?_
  refine L_nil ?_
  refine Q_then ?_
  refine R_seq ?_
  refine R_seq ?_
  refine R_region ?_
  refine L_val rfl rfl rfl (OpP.v (P_move rfl rfl)) ?_
  refine L_op rfl (W_callV rfl rfl rfl rfl fn_ca_28 (large_ok base c vs xss hvx hc hmax) (Items.row hpre rfl) ?_)
  refine E_false (t := 7) rfl (hB) ?_
  refine L_nil ?_
  refine St.env (.cons (t := 0) rfl (.cons (t := 2) rfl (.cons (t := 3) rfl (.cons (t := 7) rfl .nil)))) ?_
  refine Q_then ?_
  refine R_condF rfl ?_
  refine R_skip ?_
  refine Q_then ?_
  refine R_seq ?_
  refine R_region ?_
  refine L_val rfl rfl rfl (OpP.v (P_move rfl rfl)) ?_
  refine L_op rfl (W_callV rfl rfl rfl rfl fn_ca_29 (rtop_ok hG vs.length base c vs xss (Nat.le_refl _) hmax hvx (fun x hx => by have := hB3 x hx; omega) hc) (Items.row hpre rfl) ?_)
  refine L_op rfl (W_alloc rfl rfl rfl ty_ze_27 fun b4 => ?_)
  refine L_op rfl (W_storeAll rfl rfl rfl rfl ty_ag_27 (by rw [ints_length, htl]) (ints_one) .h0 (by rw [ints_length, htl]; rfl) ?_)
  refine L_nil ?_
  refine St.env (.cons (t := 0) rfl (.cons (t := 2) rfl (.cons (t := 3) rfl (.cons (t := 4) rfl .nil)))) ?_
  refine Q_then ?_
  refine R_seq ?_
  refine R_region ?_
  refine L_val rfl rfl rfl (OpP.v (P_move rfl rfl)) ?_
  refine L_val rfl rfl rfl (OpP.v (P_len rfl ty_sl_42 rfl)) ?_
  refine L_val rfl rfl rfl (V_loadAgg rfl rfl ty_ag_27 (Rds.blk .h0) (by rw [ints_length, htl])) ?_
  refine L_op rfl (W_call rfl rfl rfl rfl fn_ca_31 (rootText_ok (vs.length : Int) (topH (leaves xss)) htl) (Split.nil _) (fun _ _ _ _ _ _ _ => trivial) fun v14 rs1 (e1 : rs1 = _) => ?_)
  subst e1
  refine St.openOwn (p := []) (by omega) fun tb tcap junk htc htl2 htv => ?_
  subst htv
  refine St.res (rs' := [blk tb (ints .u8 (2 :: (numB (vs.length : Int) ++ topH (leaves xss))) ++ junk) 5, blk b4 (ints .u8 (topH (leaves xss))) 27, blk b2 (List.replicate 32 (.int .u8 0)) 27]) (Weak.refl _) ?_
  refine L_op rfl (W_callV rfl rfl rfl rfl fn_ca_30 (by have h := rsum_ok hG (some ⟨tb, 0, none⟩) tcap (2 :: (numB (vs.length : Int) ++ topH (leaves xss))) (by omega) (by omega); rw [hrl] at h; exact h) (fun w nw => (Sn.ofBlkAt .h0 fun i v h => app_at i v h).rw_ w nw) ?_)
  rw [hvx]
  refine L_op rfl (W_alloc rfl rfl rfl ty_ze_27 fun b5 => ?_)
  refine L_op rfl (W_storeAll rfl rfl rfl rfl ty_ag_27 (by rw [ints_length, sha_length]) (ints_one) .h0 (by rw [ints_length, sha_length]; rfl) ?_)
  refine L_nil ?_
  refine St.env (.cons (t := 2) rfl (.cons (t := 3) rfl (.cons (t := 5) rfl .nil))) ?_
  refine Q_then ?_
  refine R_seq ?_
  refine R_region ?_
  refine L_val rfl rfl rfl (V_loadAgg rfl rfl ty_ag_27 (Rds.blk .h0) (by rw [ints_length, sha_length])) ?_
  refine L_op rfl (W_storeAll rfl rfl rfl rfl ty_ag_27 (by rw [ints_length, sha_length]) (ints_one) .h3 (by rw [ints_length, sha_length]; rfl) ?_)
  refine L_val rfl rfl rfl (OpP.v (P_assign rfl rfl)) ?_
  refine L_nil ?_
  refine St.env (.cons (t := 2) rfl (.cons (t := 3) rfl .nil)) ?_
  refine Q_then ?_
  refine R_ret ?_
  exact R_endV rfl rfl (.cell rfl (Rds.loadVar ty_ag_27 (Rds.blk .h3) (by rw [ints_length, sha_length])) (.tmp rfl .nil)) (rfl)
theorem rroot_ok {gl : Nat → Obj} (hG : GlobsR gl) (base : Option Addr) (c : Nat) (vs : List Value) (xss : List (List Int)) (hvx : vs.length = xss.length) (hc : vs.length ≤ c) (hmax : vs.length ≤ 70368744177664) : SpecV (cx gl) 16 [.slice base vs.length c] (fun w => Items w base vs xss) (rootV xss) := by
  cases hB : bigL xss with
  | true => exact SpecV.mono (rroot_big base c vs xss hvx hc hmax hB) (fun _ h => h) (by unfold rootV rootD rootE; rw [hB]; rfl)
  | false => exact SpecV.mono (rroot_fine hG base c vs xss hvx hc hmax hB) (fun _ h => h) (by unfold rootV rootD rootE; rw [hB]; rfl)
end Go.Proofs.YtjhhpagcejgclaaDoor
