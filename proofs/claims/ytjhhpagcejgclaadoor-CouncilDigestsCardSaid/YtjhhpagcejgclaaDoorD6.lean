/- Walks: digests of bytes, of items and of two digests. Printed by gen.py. -/
import Derived.Test.YtjhhpagcejgclaaDoorD5
set_option linter.unusedVariables false
set_option linter.unusedSimpArgs false
set_option maxRecDepth 100000
namespace Go.Proofs.YtjhhpagcejgclaaDoor
open Go Go.RowKit Go.Proofs
theorem BytesL.nil {w : World} : BytesL w [] [] := ⟨rfl, fun _ _ _ h => by cases h⟩
theorem BytesL.cons {w : World} {v : Value} {vs : List Value} {xs : List Int} {xss : List (List Int)} (h : Bytes w v xs) (t : BytesL w vs xss) : BytesL w (v :: vs) (xs :: xss) :=
  ⟨by rw [List.length_cons, List.length_cons, t.1], fun i u us h1 h2 => by
    cases i with
    | zero =>
      simp only [List.getElem?_cons_zero, Option.some.injEq] at h1 h2
      subst h1; subst h2; exact h
    | succ i => exact t.2 i u us h1 h2⟩
theorem BytesL.at_ {w : World} {vs : List Value} {xss : List (List Int)} (h : BytesL w vs xss) {k : Nat} (hk : k < xss.length) : ∃ base c ys, vs[k]? = some (.slice base ys.length c) ∧ xss[k]? = some ys ∧ ys.length ≤ c ∧ Row w base (ints .u8 ys) := by
  have hk' : k < vs.length := by rw [h.1]; exact hk
  obtain ⟨base, c, e, h1, h2⟩ := h.2 k vs[k] xss[k] (List.getElem?_eq_getElem hk') (List.getElem?_eq_getElem hk)
  exact ⟨base, c, xss[k], by rw [List.getElem?_eq_getElem hk', e], List.getElem?_eq_getElem hk, h1, h2⟩
theorem flatten_next {xss : List (List Int)} {k : Nat} {ys : List Int} (h : xss[k]? = some ys) : (xss.take (k + 1)).flatten = (xss.take k).flatten ++ ys := by
  rw [List.take_add_one, h]; simp
/-- A number's eight bytes, the low ones first. -/
def numF (n : Int) (j : Nat) : Int := IntKind.u8.wrap (shrI .u64 (IntKind.u64.wrap n) (8 * (j : Int)))
def numB (n : Int) : List Int := (List.range 8).map (numF n)
theorem numB_length (n : Int) : (numB n).length = 8 := by simp [numB]
theorem joined_ok {gl : Nat → Obj} (hG : Globs gl) (base : Option Addr) (c : Nat) (vs : List Value) (xss : List (List Int)) (hvs : vs.length = xss.length) (hc : vs.length ≤ c) (hmax : vs.length ≤ 9223372036854775806) : SpecV (cx gl) 45 [.slice base vs.length c] (fun w => Row w base vs ∧ BytesL w vs xss) (.agg (ints .u8 (sha xss.flatten)).toArray) := by
  refine Spec.enter (C := cx gl) Tryd.func45 rfl 19 rfl rfl fun w0 h0 hsep hsub hpre => ?_
  obtain rfl : h0 = Heap.none := hsep
  show St (cx gl) _ [(0, .slice base vs.length c)] _ _
  refine R_seq ?_
  refine R_region ?_
  refine L_op rfl (W_alloc rfl rfl rfl ty_ze_27 fun b2 => ?_)
  refine L_nil ?_
  refine Q_then ?_
  refine R_seq ?_
  refine R_region ?_
  refine L_op rfl (W_call rfl rfl rfl rfl fn_ca_58 (new_ok hG) (Split.nil _) (fun _ _ _ _ _ _ _ => trivial) fun v rs1 ⟨b3, e1, e2⟩ => ?_)
  subst e1; subst e2
  refine St.res (rs' := [hasher b3 [], blk b2 (List.replicate 32 (.int .u8 0)) 27]) (Weak.refl _) ?_
  refine L_val rfl rfl rfl (OpP.v (P_assign rfl rfl)) ?_
  refine L_nil ?_
  refine St.env (.cons (t := 0) rfl (.cons (t := 2) rfl (.cons (t := 3) rfl .nil))) ?_
  refine Q_then ?_
  refine R_seq ?_
  refine R_seq ?_
  refine R_region ?_
  refine L_val rfl rfl rfl (OpP.v (P_move rfl rfl)) ?_
  refine L_val rfl rfl rfl (OpP.v (P_len rfl ty_sl_42 rfl)) ?_
  refine L_val rfl rfl rfl (OpP.v (P_move rfl rfl)) ?_
  refine L_nil ?_
  refine St.env (.cons (t := 2) rfl (.cons (t := 3) rfl (.cons (t := 7) rfl (.cons (t := 8) rfl (.cons (t := 9) rfl .nil))))) ?_
  refine Q_then ?_
  refine R_block ?_
  refine R_loop (G := Nat) (fun k => [(2, .pointer (some ⟨b2, 0, none⟩)), (3, .pointer (some ⟨b3, 0, none⟩)), (7, .slice base vs.length c), (8, .int .i64 ((vs.length : Nat) : Int)), (9, .int .i64 (k : Int))]) (fun k => [hasher b3 (xss.take k).flatten, blk b2 (List.replicate 32 (.int .u8 0)) 27]) (fun k => k ≤ vs.length) (fun k => vs.length - k) (0) (by omega) (by repeat (first | exact .nil | refine .cons rfl ?_)) (Weak.refl _) ?_
  intro k hk
  refine R_seq ?_
  refine R_region ?_
  refine L_val rfl rfl rfl (OpP.v (P_lss rfl rfl rfl)) ?_
  refine L_nil ?_
  refine Q_then ?_
  refine R_seq ?_
  refine R_condP rfl (fun hlt => ?_) (fun hlt => ?_)
  · skip
    obtain ⟨pb, pj, rfl, hrow⟩ := hpre.1.some_ (by omega)
    obtain ⟨bb, bc, ys, hvk, hxk, hbc, hbr⟩ := hpre.2.at_ (k := k) (by omega)
    refine R_skip ?_
    refine Q_then ?_
    refine R_seq ?_
    refine R_block ?_
    refine R_seq ?_
    refine R_region ?_
    refine L_val rfl rfl rfl (OpP.v (P_ixs (k) rfl ty_sl_42 rfl rfl (by first | rfl | omega) (by omega))) ?_
    refine L_val rfl rfl rfl (V_load rfl rfl ty_sc_46 (Rd.row hrow rfl hvk)) ?_
    refine L_val rfl rfl rfl (OpP.v (P_assign rfl rfl)) ?_
    refine L_nil ?_
    refine Q_then ?_
    refine R_region ?_
    refine L_val rfl rfl rfl (OpP.v (P_move rfl rfl)) ?_
    refine L_val rfl rfl rfl (OpP.v (P_move rfl rfl)) ?_
    refine L_op rfl (W_callR rfl rfl rfl rfl fn_ca_59 (write_ok hG b3 (xss.take k).flatten ys bb bc hbc) (Split.one (p := [])) (Sn.pre (Sn.row hbr rfl)) ?_)
    refine St.res (rs' := [hasher b3 ((xss.take k).flatten ++ ys), blk b2 (List.replicate 32 (.int .u8 0)) 27]) (Weak.refl _) ?_
    refine L_nil ?_
    refine St.env (.cons (t := 2) rfl (.cons (t := 3) rfl (.cons (t := 5) rfl (.cons (t := 7) rfl (.cons (t := 8) rfl (.cons (t := 9) rfl (.cons (t := 10) rfl (.cons (t := 11) rfl (.cons (t := 12) rfl (.cons (t := 13) rfl (.cons (t := 14) rfl .nil))))))))))) ?_
    refine Q_block ?_
    refine Q_then ?_
    refine R_region ?_
    first | (refine L_val rfl rfl rfl (OpP.v (P_addN rfl rfl rfl (by simp only [fits]; omega))) ?_) | (refine L_val rfl rfl rfl (OpP.v (P_add rfl rfl rfl)) ?_)
    refine L_val rfl rfl rfl (OpP.v (P_move rfl rfl)) ?_
    refine L_nil ?_
    refine E_nat (t := 9) (n := k + 1) rfl (by omega) ?_
    exact Q_round (k + 1) (by omega) (by omega) (by repeat (first | exact .nil | refine .cons rfl ?_)) (by rw [flatten_next hxk]; exact Weak.refl _)
  · skip
    obtain rfl : k = vs.length := by omega
    rw [hvs, List.take_length]
    refine R_exit ?_
    refine Q_then_exit ?_
    refine Q_then_exit ?_
    refine Q_block_eq ?_
    refine St.env (.cons (t := 2) rfl (.cons (t := 3) rfl .nil)) ?_
    refine Q_then ?_
    refine R_seq ?_
    refine R_region ?_
    refine L_val rfl rfl rfl (OpP.v (P_move rfl rfl)) ?_
    refine L_op rfl (W_callR rfl rfl rfl rfl fn_ca_60 (hsum_ok hG b3 xss.flatten) (Split.one (p := [])) (fun _ _ _ _ _ _ _ => trivial) ?_)
    refine St.res (rs' := [blk b2 (List.replicate 32 (.int .u8 0)) 27]) (Weak.drop (Weak.refl _)) ?_
    refine L_op rfl (W_storeAll rfl rfl rfl rfl ty_ag_27 (by rw [ints_length, sha_length]) (ints_one) .h0 (by rw [ints_length, sha_length]; rfl) ?_)
    refine L_nil ?_
    refine St.env (.cons (t := 2) rfl .nil) ?_
    refine Q_then ?_
    refine R_ret ?_
    exact R_endV rfl rfl (.cell rfl (Rds.loadVar ty_ag_27 (Rds.blk .h0) (by rw [ints_length, sha_length])) .nil) (rfl)
theorem sum_ok {gl : Nat → Obj} (hG : Globs gl) (base : Option Addr) (c : Nat) (xs : List Int) (hc : xs.length ≤ c) : SpecV (cx gl) 46 [.slice base xs.length c] (fun w => Row w base (ints .u8 xs)) (.agg (ints .u8 (sha xs)).toArray) := by
  refine Spec.enter (C := cx gl) Tryd.func46 rfl 6 rfl rfl fun w0 h0 hsep hsub hpre => ?_
  obtain rfl : h0 = Heap.none := hsep
  show St (cx gl) _ [(0, .slice base xs.length c)] _ _
  refine R_seq ?_
  refine R_region ?_
  refine L_op rfl (W_alloc rfl rfl rfl ty_ze_27 fun b2 => ?_)
  refine L_nil ?_
  refine Q_then ?_
  refine R_seq ?_
  refine R_region ?_
  refine L_val rfl rfl rfl (OpP.v (P_move rfl rfl)) ?_
  refine L_op rfl (W_lit (z := .nilIface) ([.slice base xs.length c]) rfl rfl rfl ty_sl_42 ty_lz_42 rfl rfl rfl (by decide) (by decide) (by simp [Value.cells]) (rfl) fun b4 => ?_)
  refine L_op rfl (W_callV rfl rfl rfl rfl fn_ca_45 (SpecV.mono (joined_ok hG (some ⟨b4, 0, none⟩) _ [.slice base xs.length c] [xs] rfl (Nat.le_refl _) (by simp)) (fun _ h => h) (v' := .agg (ints .u8 (sha xs)).toArray) (by simp)) (fun w nw => ⟨(Sn.ofBlk .h0).rw_ w nw, BytesL.cons ⟨_, _, rfl, hc, (Sn.row hpre rfl).rw_ w nw⟩ BytesL.nil⟩) ?_)
  refine L_op rfl (W_storeAll rfl rfl rfl rfl ty_ag_27 (by rw [ints_length, sha_length]) (ints_one) .h1 (by rw [ints_length, sha_length]; rfl) ?_)
  refine L_nil ?_
  refine St.env (.cons (t := 2) rfl .nil) ?_
  refine Q_then ?_
  refine R_ret ?_
  exact R_endV rfl rfl (.cell rfl (Rds.loadVar ty_ag_27 (Rds.blk .h1) (by rw [ints_length, sha_length])) .nil) (rfl)
theorem leaf_ok {gl : Nat → Obj} (hG : Globs gl) (base : Option Addr) (c : Nat) (xs : List Int) (hc : xs.length ≤ c) : SpecV (cx gl) 44 [.slice base xs.length c] (fun w => Row w base (ints .u8 xs)) (.agg (ints .u8 (sha (0 :: xs))).toArray) := by
  refine Spec.enter (C := cx gl) Tryd.func44 rfl 7 rfl rfl fun w0 h0 hsep hsub hpre => ?_
  obtain rfl : h0 = Heap.none := hsep
  show St (cx gl) _ [(0, .slice base xs.length c)] _ _
  refine R_seq ?_
  refine R_region ?_
  refine L_op rfl (W_alloc rfl rfl rfl ty_ze_27 fun b2 => ?_)
  refine L_nil ?_
  refine Q_then ?_
  refine R_seq ?_
  refine R_region ?_
  refine L_op rfl (W_lit (z := .nilIface) (ints .u8 [0]) rfl rfl rfl ty_sl_46 ty_lz_46 rfl rfl rfl (by decide) (by decide) (by simp [Value.cells]) (rfl) fun b3 => ?_)
  refine L_val rfl rfl rfl (OpP.v (P_move rfl rfl)) ?_
  refine L_op rfl (W_lit (z := .nilIface) ([.slice (some ⟨b3, 0, none⟩) 1 1, .slice base xs.length c]) rfl rfl rfl ty_sl_42 ty_lz_42 rfl rfl rfl (by decide) (by decide) (by simp [Value.cells]) (rfl) fun b5 => ?_)
  refine L_op rfl (W_callV rfl rfl rfl rfl fn_ca_45 (SpecV.mono (joined_ok hG (some ⟨b5, 0, none⟩) _ [.slice (some ⟨b3, 0, none⟩) 1 1, .slice base xs.length c] [[0], xs] rfl (Nat.le_refl _) (by simp)) (fun _ h => h) (v' := .agg (ints .u8 (sha (0 :: xs))).toArray) (by simp)) (fun w nw => ⟨(Sn.ofBlk .h0).rw_ w nw, BytesL.cons ⟨_, _, rfl, Nat.le_refl _, (Sn.ofBlk .h1).rw_ w nw⟩ (BytesL.cons ⟨_, _, rfl, hc, (Sn.row hpre rfl).rw_ w nw⟩ BytesL.nil)⟩) ?_)
  refine L_op rfl (W_storeAll rfl rfl rfl rfl ty_ag_27 (by rw [ints_length, sha_length]) (ints_one) .h2 (by rw [ints_length, sha_length]; rfl) ?_)
  refine L_nil ?_
  refine St.env (.cons (t := 2) rfl .nil) ?_
  refine Q_then ?_
  refine R_ret ?_
  exact R_endV rfl rfl (.cell rfl (Rds.loadVar ty_ag_27 (Rds.blk .h2) (by rw [ints_length, sha_length])) .nil) (rfl)
theorem inner_ok {gl : Nat → Obj} (hG : Globs gl) (l r : List Int) (hl : l.length = 32) (hr : r.length = 32) : SpecV (cx gl) 48 [.agg (ints .u8 l).toArray, .agg (ints .u8 r).toArray] noPre (.agg (ints .u8 (sha (1 :: (l ++ r)))).toArray) := by
  refine Spec.enter (C := cx gl) Tryd.func48 rfl 10 rfl rfl fun w0 h0 hsep hsub hpre => ?_
  obtain rfl : h0 = Heap.none := hsep
  show St (cx gl) _ [(0, .agg (ints .u8 l).toArray), (1, .agg (ints .u8 r).toArray)] _ _
  refine R_seq ?_
  refine R_region ?_
  refine L_op rfl (W_box (ints .u8 l) rfl rfl rfl rfl rfl fun b2 => ?_)
  refine L_op rfl (W_box (ints .u8 r) rfl rfl rfl rfl rfl fun b3 => ?_)
  refine L_op rfl (W_alloc rfl rfl rfl ty_ze_27 fun b4 => ?_)
  refine L_nil ?_
  refine St.env (.cons (t := 2) rfl (.cons (t := 3) rfl (.cons (t := 4) rfl .nil))) ?_
  refine Q_then ?_
  refine R_seq ?_
  refine R_open [(1, 0), (2, 0), (0, 2), (3, 2), (4, 2), (5, 3)] mixed (by kernel_rfl) (QOk.then QOk.body) ?_
  refine O_pure rfl rfl rfl rfl (P_sliceAll rfl ty_ar_27 rfl) ?_
  refine O_pure rfl rfl rfl rfl (P_sliceAll rfl ty_ar_27 rfl) ?_
  refine O_keep rfl rfl (W_lit (z := .nilIface) (ints .u8 [1]) rfl rfl rfl ty_sl_46 ty_lz_46 rfl rfl rfl (by decide) (by decide) (by simp [Value.cells]) (rfl) fun b5 => (K_keep (Weak.drop (Weak.refl _)) ?_))
  refine O_keep rfl rfl (W_lit (z := .nilIface) ([.slice (some ⟨b5, 0, none⟩) 1 1, .slice (some ⟨b2, 0, none⟩) 32 32, .slice (some ⟨b3, 0, none⟩) 32 32]) rfl rfl rfl ty_sl_42 ty_lz_42 rfl rfl rfl (by decide) (by decide) (by simp [Value.cells]) (rfl) fun b8 => (K_keep (Weak.drop (Weak.refl _)) ?_))
  refine O_keep rfl rfl (W_callV rfl rfl rfl rfl fn_ca_45 (SpecV.mono (joined_ok hG (some ⟨b8, 0, none⟩) _ [.slice (some ⟨b5, 0, none⟩) 1 1, .slice (some ⟨b2, 0, none⟩) 32 32, .slice (some ⟨b3, 0, none⟩) 32 32] [[1], l, r] rfl (Nat.le_refl _) (by simp)) (fun _ h => h) (v' := .agg (ints .u8 (sha (1 :: (l ++ r)))).toArray) (by simp)) (fun w nw => ⟨(Sn.ofBlk .h0).rw_ w nw, BytesL.cons ⟨some _, _, rfl, Nat.le_refl _, (Sn.ofBlk .h1).rw_ w nw⟩ (BytesL.cons ⟨some _, _, by rw [hl], by rw [hl]; exact Nat.le_refl 32, (Sn.ofBlk .h4).rw_ w nw⟩ (BytesL.cons ⟨some _, _, by rw [hr], by rw [hr]; exact Nat.le_refl 32, (Sn.ofBlk .h3).rw_ w nw⟩ BytesL.nil))⟩) (K_keep (Weak.refl _) ?_))
  refine O_new rfl rfl (W_storeAll rfl rfl rfl rfl ty_ag_27 (by rw [ints_length, sha_length]) (ints_one) .h2 (by rw [ints_length, sha_length]; rfl) (K_new ?_))
  refine O_nil ?_
  refine St.env (.cons (t := 4) rfl .nil) ?_
  refine Q_then ?_
  refine R_ret ?_
  exact R_endV rfl rfl (.cell rfl (Rds.loadVar ty_ag_27 (Rds.blk .h2) (by rw [ints_length, sha_length])) .nil) (rfl)
theorem under_ok {gl : Nat → Obj} (hG : Globs gl) (n : Int) (r : List Int) (hr : r.length = 32) : SpecV (cx gl) 25 [.int .i64 n, .agg (ints .u8 r).toArray] noPre (.agg (ints .u8 (sha (2 :: (numB n ++ r)))).toArray) := by
  refine Spec.enter (C := cx gl) Tryd.func25 rfl 24 rfl rfl fun w0 h0 hsep hsub hpre => ?_
  obtain rfl : h0 = Heap.none := hsep
  show St (cx gl) _ [(0, .int .i64 n), (1, .agg (ints .u8 r).toArray)] _ _
  refine R_seq ?_
  refine R_region ?_
  refine L_op rfl (W_box (ints .u8 r) rfl rfl rfl rfl rfl fun b3 => ?_)
  refine L_op rfl (W_alloc rfl rfl rfl ty_ze_27 fun b4 => ?_)
  refine L_nil ?_
  refine St.env (.cons (t := 0) rfl (.cons (t := 3) rfl (.cons (t := 4) rfl .nil))) ?_
  refine Q_then ?_
  refine R_seq ?_
  refine R_region ?_
  refine L_op rfl (W_alloc rfl rfl rfl ty_ze_84 fun b5 => ?_)
  refine L_nil ?_
  refine Q_then ?_
  refine R_seq ?_
  refine R_seq ?_
  refine R_region ?_
  refine L_val rfl rfl rfl (OpP.v (P_move rfl rfl)) ?_
  refine L_nil ?_
  refine Q_then ?_
  refine R_block ?_
  refine R_loop (G := Nat) (fun k => [(0, .int .i64 n), (3, .pointer (some ⟨b3, 0, none⟩)), (4, .pointer (some ⟨b4, 0, none⟩)), (5, .pointer (some ⟨b5, 0, none⟩)), (7, .int .i64 (k : Int))]) (fun k => [blk b5 (ints .u8 (fillN (numF n) 8 k)) 84, blk b4 (List.replicate 32 (.int .u8 0)) 27, blk b3 (ints .u8 r) 27]) (fun k => k ≤ 8) (fun k => 8 - k) (0) (by omega) (by repeat (first | exact .nil | refine .cons rfl ?_)) (by rw [fillN_zero]; exact Weak.refl _) ?_
  intro k hk
  refine R_seq ?_
  refine R_region ?_
  refine L_val rfl rfl rfl (OpP.v (P_lss rfl rfl rfl)) ?_
  refine L_nil ?_
  refine Q_then ?_
  refine R_seq ?_
  refine R_condP rfl (fun hlt => ?_) (fun hlt => ?_)
  · skip
    refine R_skip ?_
    refine Q_then ?_
    refine R_seq ?_
    refine R_block ?_
    refine R_seq ?_
    refine R_region ?_
    refine L_val rfl rfl rfl (OpP.v (P_move rfl rfl)) ?_
    refine L_val rfl rfl rfl (OpP.v (P_assign rfl rfl)) ?_
    refine L_nil ?_
    refine Q_then ?_
    refine R_region ?_
    refine L_val rfl rfl rfl (OpP.v (P_move rfl rfl)) ?_
    refine L_val rfl rfl rfl (OpP.v (P_move rfl rfl)) ?_
    refine L_val rfl rfl rfl (OpP.v (P_conv rfl ty_int_3 ty_int_34 rfl)) ?_
    refine L_val rfl rfl rfl (OpP.v (P_move rfl rfl)) ?_
    first | (refine L_val rfl rfl rfl (OpP.v (P_mulN rfl rfl rfl (by simp only [fits]; omega))) ?_) | (refine L_val rfl rfl rfl (OpP.v (P_mul rfl rfl rfl)) ?_)
    refine L_val rfl rfl rfl (OpP.v (P_shr rfl rfl rfl (by omega))) ?_
    refine L_val rfl rfl rfl (OpP.v (P_conv rfl ty_int_34 ty_int_5 rfl)) ?_
    first | (refine L_val rfl rfl rfl (OpP.v (P_ixa0 (k) rfl ty_ar_84 rfl rfl (by first | rfl | omega) (by omega))) ?_) | (refine L_val rfl rfl rfl (OpP.v (P_ixa (k) rfl ty_ar_84 rfl rfl (by first | rfl | omega) (by omega))) ?_)
    refine L_op rfl (W_store rfl rfl rfl rfl ty_sc_5 rfl .h0 (by rw [ints_length, fillN_length]; omega) ?_)
    rw [ints_set]
    refine L_nil ?_
    refine Q_block ?_
    refine Q_then ?_
    refine R_region ?_
    first | (refine L_val rfl rfl rfl (OpP.v (P_addN rfl rfl rfl (by simp only [fits]; omega))) ?_) | (refine L_val rfl rfl rfl (OpP.v (P_add rfl rfl rfl)) ?_)
    refine L_val rfl rfl rfl (OpP.v (P_move rfl rfl)) ?_
    refine L_nil ?_
    refine E_nat (t := 7) (n := k + 1) rfl (by omega) ?_
    exact Q_round (k + 1) (by omega) (by omega) (by repeat (first | exact .nil | refine .cons rfl ?_)) (by rw [← fillN_set]; exact Weak.refl _)
  · skip
    obtain rfl : k = 8 := by omega
    rw [fillN_full]
    refine St.res (rs' := [blk b5 (ints .u8 (numB n)) 84, blk b4 (List.replicate 32 (.int .u8 0)) 27, blk b3 (ints .u8 r) 27]) (Weak.refl _) ?_
    refine R_exit ?_
    refine Q_then_exit ?_
    refine Q_then_exit ?_
    refine Q_block_eq ?_
    refine St.env (.cons (t := 3) rfl (.cons (t := 4) rfl (.cons (t := 5) rfl .nil))) ?_
    refine Q_then ?_
    refine R_seq ?_
    refine R_open [(1, 0), (2, 0), (0, 2), (3, 2), (4, 2), (5, 3)] mixed (by kernel_rfl) (QOk.then QOk.body) ?_
    refine O_pure rfl rfl rfl rfl (P_sliceAll rfl ty_ar_84 rfl) ?_
    refine O_pure rfl rfl rfl rfl (P_sliceAll rfl ty_ar_27 rfl) ?_
    refine O_keep rfl rfl (W_lit (z := .nilIface) (ints .u8 [2]) rfl rfl rfl ty_sl_46 ty_lz_46 rfl rfl rfl (by decide) (by decide) (by simp [Value.cells]) (rfl) fun b19 => (K_keep (Weak.drop (Weak.refl _)) ?_))
    refine O_keep rfl rfl (W_lit (z := .nilIface) ([.slice (some ⟨b19, 0, none⟩) 1 1, .slice (some ⟨b5, 0, none⟩) 8 8, .slice (some ⟨b3, 0, none⟩) 32 32]) rfl rfl rfl ty_sl_42 ty_lz_42 rfl rfl rfl (by decide) (by decide) (by simp [Value.cells]) (rfl) fun b22 => (K_keep (Weak.drop (Weak.refl _)) ?_))
    refine O_keep rfl rfl (W_callV rfl rfl rfl rfl fn_ca_45 (SpecV.mono (joined_ok hG (some ⟨b22, 0, none⟩) _ [.slice (some ⟨b19, 0, none⟩) 1 1, .slice (some ⟨b5, 0, none⟩) 8 8, .slice (some ⟨b3, 0, none⟩) 32 32] [[2], numB n, r] rfl (Nat.le_refl _) (by simp)) (fun _ h => h) (v' := .agg (ints .u8 (sha (2 :: (numB n ++ r)))).toArray) (by simp)) (fun w nw => ⟨(Sn.ofBlk .h0).rw_ w nw, BytesL.cons ⟨some _, _, rfl, Nat.le_refl _, (Sn.ofBlk .h1).rw_ w nw⟩ (BytesL.cons ⟨some _, _, by rw [numB_length], by rw [numB_length]; exact Nat.le_refl 8, (Sn.ofBlk .h2).rw_ w nw⟩ (BytesL.cons ⟨some _, _, by rw [hr], by rw [hr]; exact Nat.le_refl 32, (Sn.ofBlk .h4).rw_ w nw⟩ BytesL.nil))⟩) (K_keep (Weak.refl _) ?_))
    refine O_new rfl rfl (W_storeAll rfl rfl rfl rfl ty_ag_27 (by rw [ints_length, sha_length]) (ints_one) .h3 (by rw [ints_length, sha_length]; rfl) (K_new ?_))
    refine O_nil ?_
    refine St.env (.cons (t := 4) rfl .nil) ?_
    refine Q_then ?_
    refine R_ret ?_
    exact R_endV rfl rfl (.cell rfl (Rds.loadVar ty_ag_27 (Rds.blk .h3) (by rw [ints_length, sha_length])) .nil) (rfl)
end Go.Proofs.YtjhhpagcejgclaaDoor
