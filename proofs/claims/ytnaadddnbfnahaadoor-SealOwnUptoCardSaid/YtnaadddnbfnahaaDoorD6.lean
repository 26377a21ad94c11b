/- Walks: digests of bytes, of items and of two digests. Printed by gen.py. -/
import Derived.Test.YtnaadddnbfnahaaDoorD5
set_option linter.unusedVariables false
set_option linter.unusedSimpArgs false
set_option maxRecDepth 100000
namespace Go.Proofs.YtnaadddnbfnahaaDoor
open Go Go.RowKit Go.Proofs
theorem BytesL.nil {w : World} : BytesL w [] [] := ⟨rfl, fun _ _ _ h => by cases h⟩
theorem BytesL.cons {w : World} {v : Value} {vs : List Value} {xs : List Int} {xss : List (List Int)} (h : Bytes w v xs) (t : BytesL w vs xss) : BytesL w (v :: vs) (xs :: xss) :=
  ⟨by rw [List.length_cons, List.length_cons, t.1], fun i u us h1 h2 => by
    cases i with
    | zero =>
      simp only [List.getElem?_cons_zero, Option.some.injEq] at h1 h2
      subst h1; subst h2; exact h
    | succ i => exact t.2 i u us h1 h2⟩
theorem BytesL.at_ {w : World} {vs : List Value} {xss : List (List Int)} (h : BytesL w vs xss) {k : Nat} (hk : k < xss.length) : ∃ base c ys, vs[k]? = some (.slice base ys.length c) ∧ xss[k]? = some ys ∧ ys.length ≤ c ∧ Row w base (ints .u8 ys) := by
  have hk' : k < vs.length := by rw [h.1]; exact hk
  obtain ⟨base, c, e, h1, h2⟩ := h.2 k vs[k] xss[k] (List.getElem?_eq_getElem hk') (List.getElem?_eq_getElem hk)
  exact ⟨base, c, xss[k], by rw [List.getElem?_eq_getElem hk', e], List.getElem?_eq_getElem hk, h1, h2⟩
theorem flatten_next {xss : List (List Int)} {k : Nat} {ys : List Int} (h : xss[k]? = some ys) : (xss.take (k + 1)).flatten = (xss.take k).flatten ++ ys := by
  rw [List.take_add_one, h]; simp
theorem joined_ok {gl : Nat → Obj} (hG : Globs gl) (base : Option Addr) (c : Nat) (vs : List Value) (xss : List (List Int)) (hvs : vs.length = xss.length) (hc : vs.length ≤ c) (hmax : vs.length ≤ 9223372036854775806) : SpecV (cx gl) 78 [.slice base vs.length c] (fun w => Row w base vs ∧ BytesL w vs xss) (.agg (ints .u8 (sha xss.flatten)).toArray) := by
  refine Spec.enter (C := cx gl) Tryd.func78 rfl 19 rfl rfl fun w0 h0 hsep hsub hpre => ?_
  obtain rfl : h0 = Heap.none := hsep
  show St (cx gl) _ [(0, .slice base vs.length c)] _ _
  refine R_seq ?_
  refine R_region ?_
  refine L_op rfl (W_alloc rfl rfl rfl ty_ze_107 fun b2 => ?_)
  refine L_nil ?_
  refine Q_then ?_
  refine R_seq ?_
  refine R_region ?_
  refine L_op rfl (W_call rfl rfl rfl rfl fn_ca_88 (new_ok hG) (Split.nil _) (fun _ _ _ _ _ _ _ => trivial) fun v rs1 ⟨b3, e1, e2⟩ => ?_)
  subst e1; subst e2
  refine St.res (rs' := [hasher b3 [], blk b2 (List.replicate 32 (.int .u8 0)) 107]) (Weak.refl _) ?_
  refine L_val rfl rfl rfl (OpP.v (P_assign rfl rfl)) ?_
  refine L_nil ?_
  refine St.env (.cons (t := 0) rfl (.cons (t := 2) rfl (.cons (t := 3) rfl .nil))) ?_
  refine Q_then ?_
  refine R_seq ?_
  refine R_seq ?_
  refine R_region ?_
  refine L_val rfl rfl rfl (OpP.v (P_move rfl rfl)) ?_
  refine L_val rfl rfl rfl (OpP.v (P_len rfl ty_sl_60 rfl)) ?_
  refine L_val rfl rfl rfl (OpP.v (P_move rfl rfl)) ?_
  refine L_nil ?_
  refine St.env (.cons (t := 2) rfl (.cons (t := 3) rfl (.cons (t := 7) rfl (.cons (t := 8) rfl (.cons (t := 9) rfl .nil))))) ?_
  refine Q_then ?_
  refine R_block ?_
  refine R_loop (G := Nat) (fun k => [(2, .pointer (some ⟨b2, 0, none⟩)), (3, .pointer (some ⟨b3, 0, none⟩)), (7, .slice base vs.length c), (8, .int .i64 ((vs.length : Nat) : Int)), (9, .int .i64 (k : Int))]) (fun k => [hasher b3 (xss.take k).flatten, blk b2 (List.replicate 32 (.int .u8 0)) 107]) (fun k => k ≤ vs.length) (fun k => vs.length - k) (0) (by omega) (by repeat (first | exact .nil | refine .cons rfl ?_)) (Weak.refl _) ?_
  intro k hk
  refine R_seq ?_
  refine R_region ?_
  refine L_val rfl rfl rfl (OpP.v (P_lss rfl rfl rfl)) ?_
  refine L_nil ?_
  refine Q_then ?_
  refine R_seq ?_
  refine R_condP rfl (fun hlt => ?_) (fun hlt => ?_)
  · skip
    obtain ⟨pb, pj, rfl, hrow⟩ := hpre.1.some_ (by omega)
    obtain ⟨bb, bc, ys, hvk, hxk, hbc, hbr⟩ := hpre.2.at_ (k := k) (by omega)
    refine R_skip ?_
    refine Q_then ?_
    refine R_seq ?_
    refine R_block ?_
    refine R_seq ?_
    refine R_region ?_
    refine L_val rfl rfl rfl (OpP.v (P_ixs (k) rfl ty_sl_60 rfl rfl (by first | rfl | omega) (by omega))) ?_
    refine L_val rfl rfl rfl (V_load rfl rfl ty_sc_24 (Rd.row hrow rfl hvk)) ?_
    refine L_val rfl rfl rfl (OpP.v (P_assign rfl rfl)) ?_
    refine L_nil ?_
    refine Q_then ?_
    refine R_region ?_
    refine L_val rfl rfl rfl (OpP.v (P_move rfl rfl)) ?_
    refine L_val rfl rfl rfl (OpP.v (P_move rfl rfl)) ?_
    refine L_op rfl (W_callR rfl rfl rfl rfl fn_ca_89 (write_ok hG b3 (xss.take k).flatten ys bb bc hbc) (Split.one (p := [])) (Sn.pre (Sn.row hbr rfl)) ?_)
    refine St.res (rs' := [hasher b3 ((xss.take k).flatten ++ ys), blk b2 (List.replicate 32 (.int .u8 0)) 107]) (Weak.refl _) ?_
    refine L_nil ?_
    refine St.env (.cons (t := 2) rfl (.cons (t := 3) rfl (.cons (t := 5) rfl (.cons (t := 7) rfl (.cons (t := 8) rfl (.cons (t := 9) rfl (.cons (t := 10) rfl (.cons (t := 11) rfl (.cons (t := 12) rfl (.cons (t := 13) rfl (.cons (t := 14) rfl .nil))))))))))) ?_
    refine Q_block ?_
    refine Q_then ?_
    refine R_region ?_
    first | (refine L_val rfl rfl rfl (OpP.v (P_addN rfl rfl rfl (by simp only [fits]; omega))) ?_) | (refine L_val rfl rfl rfl (OpP.v (P_add rfl rfl rfl)) ?_)
    refine L_val rfl rfl rfl (OpP.v (P_move rfl rfl)) ?_
    refine L_nil ?_
    refine E_nat (t := 9) (n := k + 1) rfl (by omega) ?_
    exact Q_round (k + 1) (by omega) (by omega) (by repeat (first | exact .nil | refine .cons rfl ?_)) (by rw [flatten_next hxk]; exact Weak.refl _)
  · skip
    obtain rfl : k = vs.length := by omega
    rw [hvs, List.take_length]
    refine R_exit ?_
    refine Q_then_exit ?_
    refine Q_then_exit ?_
    refine Q_block_eq ?_
    refine St.env (.cons (t := 2) rfl (.cons (t := 3) rfl .nil)) ?_
    refine Q_then ?_
    refine R_seq ?_
    refine R_region ?_
    refine L_val rfl rfl rfl (OpP.v (P_move rfl rfl)) ?_
    refine L_op rfl (W_callR rfl rfl rfl rfl fn_ca_90 (hsum_ok hG b3 xss.flatten) (Split.one (p := [])) (fun _ _ _ _ _ _ _ => trivial) ?_)
    refine St.res (rs' := [blk b2 (List.replicate 32 (.int .u8 0)) 107]) (Weak.drop (Weak.refl _)) ?_
    refine L_op rfl (W_storeAll rfl rfl rfl rfl ty_ag_107 (by rw [ints_length, sha_length]) (ints_one) .h0 (by rw [ints_length, sha_length]; rfl) ?_)
    refine L_nil ?_
    refine St.env (.cons (t := 2) rfl .nil) ?_
    refine Q_then ?_
    refine R_ret ?_
    exact R_endV rfl rfl (.cell rfl (Rds.loadVar ty_ag_107 (Rds.blk .h0) (by rw [ints_length, sha_length])) .nil) (rfl)
theorem sum_ok {gl : Nat → Obj} (hG : Globs gl) (base : Option Addr) (c : Nat) (xs : List Int) (hc : xs.length ≤ c) : SpecV (cx gl) 58 [.slice base xs.length c] (fun w => Row w base (ints .u8 xs)) (.agg (ints .u8 (sha xs)).toArray) := by
  refine Spec.enter (C := cx gl) Tryd.func58 rfl 6 rfl rfl fun w0 h0 hsep hsub hpre => ?_
  obtain rfl : h0 = Heap.none := hsep
  show St (cx gl) _ [(0, .slice base xs.length c)] _ _
  refine R_seq ?_
  refine R_region ?_
  refine L_op rfl (W_alloc rfl rfl rfl ty_ze_107 fun b2 => ?_)
  refine L_nil ?_
  refine Q_then ?_
  refine R_seq ?_
  refine R_region ?_
  refine L_val rfl rfl rfl (OpP.v (P_move rfl rfl)) ?_
  refine L_op rfl (W_lit (z := .nilIface) ([.slice base xs.length c]) rfl rfl rfl ty_sl_60 ty_lz_60 rfl rfl rfl (by decide) (by decide) (by simp [Value.cells]) (rfl) fun b4 => ?_)
  refine L_op rfl (W_callV rfl rfl rfl rfl fn_ca_78 (SpecV.mono (joined_ok hG (some ⟨b4, 0, none⟩) _ [.slice base xs.length c] [xs] rfl (Nat.le_refl _) (by simp)) (fun _ h => h) (v' := .agg (ints .u8 (sha xs)).toArray) (by simp)) (fun w nw => ⟨(Sn.ofBlk .h0).rw_ w nw, BytesL.cons ⟨_, _, rfl, hc, (Sn.row hpre rfl).rw_ w nw⟩ BytesL.nil⟩) ?_)
  refine L_op rfl (W_storeAll rfl rfl rfl rfl ty_ag_107 (by rw [ints_length, sha_length]) (ints_one) .h1 (by rw [ints_length, sha_length]; rfl) ?_)
  refine L_nil ?_
  refine St.env (.cons (t := 2) rfl .nil) ?_
  refine Q_then ?_
  refine R_ret ?_
  exact R_endV rfl rfl (.cell rfl (Rds.loadVar ty_ag_107 (Rds.blk .h1) (by rw [ints_length, sha_length])) .nil) (rfl)
end Go.Proofs.YtnaadddnbfnahaaDoor
