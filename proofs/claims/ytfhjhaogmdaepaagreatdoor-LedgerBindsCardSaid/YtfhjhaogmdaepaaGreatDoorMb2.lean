/- Texts that ledgerBinds_holds leans on, part 2: each says at its head what it holds; no condition beyond its theorems' own. -/
import Derived.Test.YtfhjhaogmdaepaaGreatDoorMb1
import Derived.Test.YtfhjhaogmdaepaaGreatDoorRows
import Derived.ProofKit
import Derived.LaidMore
import Derived.OpenShut
import Derived.Stop.Joined
import Derived.Carry
import Derived.ChangeOld
import Derived.ChangeSlices
import Derived.MakeChecks
import Derived.SizedLaws
import Derived.FnData
/- Walks: digests of bytes, of items and of two digests. Printed by gen.py. -/
set_option linter.unusedVariables false
set_option linter.unusedSimpArgs false
set_option maxRecDepth 100000
namespace Go.Proofs.YtfhjhaogmdaepaaGreatDoor
open Go Go.RowKit Go.Proofs
theorem BytesL.nil {w : World} : BytesL w [] [] := ⟨rfl, fun _ _ _ h => by cases h⟩
theorem BytesL.cons {w : World} {v : Value} {vs : List Value} {xs : List Int} {xss : List (List Int)} (h : Bytes w v xs) (t : BytesL w vs xss) : BytesL w (v :: vs) (xs :: xss) :=
 ⟨by rw [List.length_cons, List.length_cons, t.1], fun i u us h1 h2 => by
  cases i with
  | zero =>
   simp only [List.getElem?_cons_zero, Option.some.injEq] at h1 h2
   subst h1; subst h2; exact h
  | succ i => exact t.2 i u us h1 h2⟩
theorem BytesL.at_ {w : World} {vs : List Value} {xss : List (List Int)} (h : BytesL w vs xss) {k : Nat} (hk : k < xss.length) : ∃ base c ys, vs[k]? = some (.slice base ys.length c) ∧ xss[k]? = some ys ∧ ys.length ≤ c ∧ Row w base (ints .u8 ys) := by
 have hk' : k < vs.length := by rw [h.1]; exact hk
 obtain ⟨base, c, e, h1, h2⟩ := h.2 k vs[k] xss[k] (List.getElem?_eq_getElem hk') (List.getElem?_eq_getElem hk)
 exact ⟨base, c, xss[k], by rw [List.getElem?_eq_getElem hk', e], List.getElem?_eq_getElem hk, h1, h2⟩
theorem flatten_next {xss : List (List Int)} {k : Nat} {ys : List Int} (h : xss[k]? = some ys) : (xss.take (k + 1)).flatten = (xss.take k).flatten ++ ys := by
 rw [List.take_add_one, h]; simp
/-- A number's eight bytes, the low ones first. -/
def numF (n : Int) (j : Nat) : Int := IntKind.u8.wrap (shrI .u64 (IntKind.u64.wrap n) (8 * (j : Int)))
def numB (n : Int) : List Int := (List.range 8).map (numF n)
theorem numB_length (n : Int) : (numB n).length = 8 := by simp [numB]
theorem joined_ok {gl : Nat → Obj} (hG : Globs gl) (base : Option Addr) (c : Nat) (vs : List Value) (xss : List (List Int)) (hvs : vs.length = xss.length) (hc : vs.length ≤ c) (hmax : vs.length ≤ 9223372036854775806) : SpecV (cx gl) 119 [.slice base vs.length c] (fun w => Row w base vs ∧ BytesL w vs xss) (.agg (ints .u8 (sha xss.flatten)).toArray) := by
 refine Spec.enter (C := cx gl) Tryz.func119 rfl 19 rfl rfl fun w0 h0 hsep hsub hpre => ?_
 obtain rfl : h0 = Heap.none := hsep
 show St (cx gl) _ [(0, .slice base vs.length c)] _ _
 refine R_seq ?_
 refine R_region ?_
 refine L_op rfl (W_alloc rfl rfl rfl ty_ze_29 fun b2 => ?_)
 refine L_nil ?_
 refine Q_then ?_
 refine R_seq ?_
 refine R_region ?_
 refine L_op rfl (W_call rfl rfl rfl rfl fn_ca_173 (new_ok hG) (Split.nil _) (fun _ _ _ _ _ _ _ => trivial) fun v rs1 ⟨b3, e1, e2⟩ => ?_)
 subst e1; subst e2
 refine St.res (rs' := [hasher b3 [], blk b2 (List.replicate 32 (.int .u8 0)) 29]) (Weak.refl _) ?_
 refine L_val rfl rfl rfl (OpP.v (P_assign rfl rfl)) ?_
 refine L_nil ?_
 refine St.env (.cons (t := 0) rfl (.cons (t := 2) rfl (.cons (t := 3) rfl .nil))) ?_
 refine Q_then ?_
 refine R_seq ?_
 refine R_seq ?_
 refine R_region ?_
 refine L_val rfl rfl rfl (OpP.v (P_move rfl rfl)) ?_
 refine L_val rfl rfl rfl (OpP.v (P_len rfl ty_sl_42 rfl)) ?_
 refine L_val rfl rfl rfl (OpP.v (P_move rfl rfl)) ?_
 refine L_nil ?_
 refine St.env (.cons (t := 2) rfl (.cons (t := 3) rfl (.cons (t := 7) rfl (.cons (t := 8) rfl (.cons (t := 9) rfl .nil))))) ?_
 refine Q_then ?_
 refine R_block ?_
 refine R_loop (G := Nat) (fun k => [(2, .pointer (some ⟨b2, 0, none⟩)), (3, .pointer (some ⟨b3, 0, none⟩)), (7, .slice base vs.length c), (8, .int .i64 ((vs.length : Nat) : Int)), (9, .int .i64 (k : Int))]) (fun k => [hasher b3 (xss.take k).flatten, blk b2 (List.replicate 32 (.int .u8 0)) 29]) (fun k => k ≤ vs.length) (fun k => vs.length - k) (0) (by omega) (by repeat (first | exact .nil | refine .cons rfl ?_)) (Weak.refl _) ?_
 intro k hk
 refine R_seq ?_
 refine R_region ?_
 refine L_val rfl rfl rfl (OpP.v (P_lss rfl rfl rfl)) ?_
 refine L_nil ?_
 refine Q_then ?_
 refine R_seq ?_
 refine R_condP rfl (fun hlt => ?_) (fun hlt => ?_)
 ·skip
  obtain ⟨pb, pj, rfl, hrow⟩ := hpre.1.some_ (by omega)
  obtain ⟨bb, bc, ys, hvk, hxk, hbc, hbr⟩ := hpre.2.at_ (k := k) (by omega)
  refine R_skip ?_
  refine Q_then ?_
  refine R_seq ?_
  refine R_block ?_
  refine R_seq ?_
  refine R_region ?_
  refine L_val rfl rfl rfl (OpP.v (P_ixs (k) rfl ty_sl_42 rfl rfl (by first | rfl | omega) (by omega))) ?_
  refine L_val rfl rfl rfl (V_load rfl rfl ty_sc_48 (Rd.row hrow rfl hvk)) ?_
  refine L_val rfl rfl rfl (OpP.v (P_assign rfl rfl)) ?_
  refine L_nil ?_
  refine Q_then ?_
  refine R_region ?_
  refine L_val rfl rfl rfl (OpP.v (P_move rfl rfl)) ?_
  refine L_val rfl rfl rfl (OpP.v (P_move rfl rfl)) ?_
  refine L_op rfl (W_callR rfl rfl rfl rfl fn_ca_174 (write_ok hG b3 (xss.take k).flatten ys bb bc hbc) (Split.one (p := [])) (Sn.pre (Sn.row hbr rfl)) ?_)
  refine St.res (rs' := [hasher b3 ((xss.take k).flatten ++ ys), blk b2 (List.replicate 32 (.int .u8 0)) 29]) (Weak.refl _) ?_
  refine L_nil ?_
  refine St.env (.cons (t := 2) rfl (.cons (t := 3) rfl (.cons (t := 5) rfl (.cons (t := 7) rfl (.cons (t := 8) rfl (.cons (t := 9) rfl (.cons (t := 10) rfl (.cons (t := 11) rfl (.cons (t := 12) rfl (.cons (t := 13) rfl (.cons (t := 14) rfl .nil))))))))))) ?_
  refine Q_block ?_
  refine Q_then ?_
  refine R_region ?_
  first | (refine L_val rfl rfl rfl (OpP.v (P_addN rfl rfl rfl (by simp only [fits]; omega))) ?_) | (refine L_val rfl rfl rfl (OpP.v (P_add rfl rfl rfl)) ?_)
  refine L_val rfl rfl rfl (OpP.v (P_move rfl rfl)) ?_
  refine L_nil ?_
  refine E_nat (t := 9) (n := k + 1) rfl (by omega) ?_
  exact Q_round (k + 1) (by omega) (by omega) (by repeat (first | exact .nil | refine .cons rfl ?_)) (by rw [flatten_next hxk]; exact Weak.refl _)
 ·skip
  obtain rfl : k = vs.length := by omega
  rw [hvs, List.take_length]
  refine R_exit ?_
  refine Q_then_exit ?_
  refine Q_then_exit ?_
  refine Q_block_eq ?_
  refine St.env (.cons (t := 2) rfl (.cons (t := 3) rfl .nil)) ?_
  refine Q_then ?_
  refine R_seq ?_
  refine R_region ?_
  refine L_val rfl rfl rfl (OpP.v (P_move rfl rfl)) ?_
  refine L_op rfl (W_callR rfl rfl rfl rfl fn_ca_175 (hsum_ok hG b3 xss.flatten) (Split.one (p := [])) (fun _ _ _ _ _ _ _ => trivial) ?_)
  refine St.res (rs' := [blk b2 (List.replicate 32 (.int .u8 0)) 29]) (Weak.drop (Weak.refl _)) ?_
  refine L_op rfl (W_storeAll rfl rfl rfl rfl ty_ag_29 (by rw [ints_length, sha_length]) (ints_one) .h0 (by rw [ints_length, sha_length]; rfl) ?_)
  refine L_nil ?_
  refine St.env (.cons (t := 2) rfl .nil) ?_
  refine Q_then ?_
  refine R_ret ?_
  exact R_endV rfl rfl (.cell rfl (Rds.loadVar ty_ag_29 (Rds.blk .h0) (by rw [ints_length, sha_length])) .nil) (rfl)
theorem sum_ok {gl : Nat → Obj} (hG : Globs gl) (base : Option Addr) (c : Nat) (xs : List Int) (hc : xs.length ≤ c) : SpecV (cx gl) 123 [.slice base xs.length c] (fun w => Row w base (ints .u8 xs)) (.agg (ints .u8 (sha xs)).toArray) := by
 refine Spec.enter (C := cx gl) Tryz.func123 rfl 6 rfl rfl fun w0 h0 hsep hsub hpre => ?_
 obtain rfl : h0 = Heap.none := hsep
 show St (cx gl) _ [(0, .slice base xs.length c)] _ _
 refine R_seq ?_
 refine R_region ?_
 refine L_op rfl (W_alloc rfl rfl rfl ty_ze_29 fun b2 => ?_)
 refine L_nil ?_
 refine Q_then ?_
 refine R_seq ?_
 refine R_region ?_
 refine L_val rfl rfl rfl (OpP.v (P_move rfl rfl)) ?_
 refine L_op rfl (W_lit (z := .nilIface) ([.slice base xs.length c]) rfl rfl rfl ty_sl_42 ty_lz_42 rfl rfl rfl (by decide) (by decide) (by simp [Value.cells]) (rfl) fun b4 => ?_)
 refine L_op rfl (W_callV rfl rfl rfl rfl fn_ca_119 (SpecV.mono (joined_ok hG (some ⟨b4, 0, none⟩) _ [.slice base xs.length c] [xs] rfl (Nat.le_refl _) (by simp)) (fun _ h => h) (v' := .agg (ints .u8 (sha xs)).toArray) (by simp)) (fun w nw => ⟨(Sn.ofBlk .h0).rw_ w nw, BytesL.cons ⟨_, _, rfl, hc, (Sn.row hpre rfl).rw_ w nw⟩ BytesL.nil⟩) ?_)
 refine L_op rfl (W_storeAll rfl rfl rfl rfl ty_ag_29 (by rw [ints_length, sha_length]) (ints_one) .h1 (by rw [ints_length, sha_length]; rfl) ?_)
 refine L_nil ?_
 refine St.env (.cons (t := 2) rfl .nil) ?_
 refine Q_then ?_
 refine R_ret ?_
 exact R_endV rfl rfl (.cell rfl (Rds.loadVar ty_ag_29 (Rds.blk .h1) (by rw [ints_length, sha_length])) .nil) (rfl)
theorem leaf_ok {gl : Nat → Obj} (hG : Globs gl) (base : Option Addr) (c : Nat) (xs : List Int) (hc : xs.length ≤ c) : SpecV (cx gl) 171 [.slice base xs.length c] (fun w => Row w base (ints .u8 xs)) (.agg (ints .u8 (sha (0 :: xs))).toArray) := by
 refine Spec.enter (C := cx gl) Tryz.func171 rfl 7 rfl rfl fun w0 h0 hsep hsub hpre => ?_
 obtain rfl : h0 = Heap.none := hsep
 show St (cx gl) _ [(0, .slice base xs.length c)] _ _
 refine R_seq ?_
 refine R_region ?_
 refine L_op rfl (W_alloc rfl rfl rfl ty_ze_29 fun b2 => ?_)
 refine L_nil ?_
 refine Q_then ?_
 refine R_seq ?_
 refine R_region ?_
 refine L_op rfl (W_lit (z := .nilIface) (ints .u8 [0]) rfl rfl rfl ty_sl_48 ty_lz_48 rfl rfl rfl (by decide) (by decide) (by simp [Value.cells]) (rfl) fun b3 => ?_)
 refine L_val rfl rfl rfl (OpP.v (P_move rfl rfl)) ?_
 refine L_op rfl (W_lit (z := .nilIface) ([.slice (some ⟨b3, 0, none⟩) 1 1, .slice base xs.length c]) rfl rfl rfl ty_sl_42 ty_lz_42 rfl rfl rfl (by decide) (by decide) (by simp [Value.cells]) (rfl) fun b5 => ?_)
 refine L_op rfl (W_callV rfl rfl rfl rfl fn_ca_119 (SpecV.mono (joined_ok hG (some ⟨b5, 0, none⟩) _ [.slice (some ⟨b3, 0, none⟩) 1 1, .slice base xs.length c] [[0], xs] rfl (Nat.le_refl _) (by simp)) (fun _ h => h) (v' := .agg (ints .u8 (sha (0 :: xs))).toArray) (by simp)) (fun w nw => ⟨(Sn.ofBlk .h0).rw_ w nw, BytesL.cons ⟨_, _, rfl, Nat.le_refl _, (Sn.ofBlk .h1).rw_ w nw⟩ (BytesL.cons ⟨_, _, rfl, hc, (Sn.row hpre rfl).rw_ w nw⟩ BytesL.nil)⟩) ?_)
 refine L_op rfl (W_storeAll rfl rfl rfl rfl ty_ag_29 (by rw [ints_length, sha_length]) (ints_one) .h2 (by rw [ints_length, sha_length]; rfl) ?_)
 refine L_nil ?_
 refine St.env (.cons (t := 2) rfl .nil) ?_
 refine Q_then ?_
 refine R_ret ?_
 exact R_endV rfl rfl (.cell rfl (Rds.loadVar ty_ag_29 (Rds.blk .h2) (by rw [ints_length, sha_length])) .nil) (rfl)
theorem inner_ok {gl : Nat → Obj} (hG : Globs gl) (l r : List Int) (hl : l.length = 32) (hr : r.length = 32) : SpecV (cx gl) 53 [.agg (ints .u8 l).toArray, .agg (ints .u8 r).toArray] noPre (.agg (ints .u8 (sha (1 :: (l ++ r)))).toArray) := by
 refine Spec.enter (C := cx gl) Tryz.func53 rfl 10 rfl rfl fun w0 h0 hsep hsub hpre => ?_
 obtain rfl : h0 = Heap.none := hsep
 show St (cx gl) _ [(0, .agg (ints .u8 l).toArray), (1, .agg (ints .u8 r).toArray)] _ _
 refine R_seq ?_
 refine R_region ?_
 refine L_op rfl (W_box (ints .u8 l) rfl rfl rfl rfl rfl fun b2 => ?_)
 refine L_op rfl (W_box (ints .u8 r) rfl rfl rfl rfl rfl fun b3 => ?_)
 refine L_op rfl (W_alloc rfl rfl rfl ty_ze_29 fun b4 => ?_)
 refine L_nil ?_
 refine St.env (.cons (t := 2) rfl (.cons (t := 3) rfl (.cons (t := 4) rfl .nil))) ?_
 refine Q_then ?_
 refine R_seq ?_
 refine R_open [(1, 0), (2, 0), (0, 2), (3, 2), (4, 2), (5, 3)] mixed (by kernel_rfl) (QOk.then QOk.body) ?_
 refine O_pure rfl rfl rfl rfl (P_sliceAll rfl ty_ar_29 rfl) ?_
 refine O_pure rfl rfl rfl rfl (P_sliceAll rfl ty_ar_29 rfl) ?_
 refine O_keep rfl rfl (W_lit (z := .nilIface) (ints .u8 [1]) rfl rfl rfl ty_sl_48 ty_lz_48 rfl rfl rfl (by decide) (by decide) (by simp [Value.cells]) (rfl) fun b5 => (K_keep (Weak.drop (Weak.refl _)) ?_))
 refine O_keep rfl rfl (W_lit (z := .nilIface) ([.slice (some ⟨b5, 0, none⟩) 1 1, .slice (some ⟨b2, 0, none⟩) 32 32, .slice (some ⟨b3, 0, none⟩) 32 32]) rfl rfl rfl ty_sl_42 ty_lz_42 rfl rfl rfl (by decide) (by decide) (by simp [Value.cells]) (rfl) fun b8 => (K_keep (Weak.drop (Weak.refl _)) ?_))
 refine O_keep rfl rfl (W_callV rfl rfl rfl rfl fn_ca_119 (SpecV.mono (joined_ok hG (some ⟨b8, 0, none⟩) _ [.slice (some ⟨b5, 0, none⟩) 1 1, .slice (some ⟨b2, 0, none⟩) 32 32, .slice (some ⟨b3, 0, none⟩) 32 32] [[1], l, r] rfl (Nat.le_refl _) (by simp)) (fun _ h => h) (v' := .agg (ints .u8 (sha (1 :: (l ++ r)))).toArray) (by simp)) (fun w nw => ⟨(Sn.ofBlk .h0).rw_ w nw, BytesL.cons ⟨some _, _, rfl, Nat.le_refl _, (Sn.ofBlk .h1).rw_ w nw⟩ (BytesL.cons ⟨some _, _, by rw [hl], by rw [hl]; exact Nat.le_refl 32, (Sn.ofBlk .h4).rw_ w nw⟩ (BytesL.cons ⟨some _, _, by rw [hr], by rw [hr]; exact Nat.le_refl 32, (Sn.ofBlk .h3).rw_ w nw⟩ BytesL.nil))⟩) (K_keep (Weak.refl _) ?_))
 refine O_new rfl rfl (W_storeAll rfl rfl rfl rfl ty_ag_29 (by rw [ints_length, sha_length]) (ints_one) .h2 (by rw [ints_length, sha_length]; rfl) (K_new ?_))
 refine O_nil ?_
 refine St.env (.cons (t := 4) rfl .nil) ?_
 refine Q_then ?_
 refine R_ret ?_
 exact R_endV rfl rfl (.cell rfl (Rds.loadVar ty_ag_29 (Rds.blk .h2) (by rw [ints_length, sha_length])) .nil) (rfl)
theorem under_ok {gl : Nat → Obj} (hG : Globs gl) (n : Int) (r : List Int) (hr : r.length = 32) : SpecV (cx gl) 116 [.int .i64 n, .agg (ints .u8 r).toArray] noPre (.agg (ints .u8 (sha (2 :: (numB n ++ r)))).toArray) := by
 refine Spec.enter (C := cx gl) Tryz.func116 rfl 24 rfl rfl fun w0 h0 hsep hsub hpre => ?_
 obtain rfl : h0 = Heap.none := hsep
 show St (cx gl) _ [(0, .int .i64 n), (1, .agg (ints .u8 r).toArray)] _ _
 refine R_seq ?_
 refine R_region ?_
 refine L_op rfl (W_box (ints .u8 r) rfl rfl rfl rfl rfl fun b3 => ?_)
 refine L_op rfl (W_alloc rfl rfl rfl ty_ze_29 fun b4 => ?_)
 refine L_nil ?_
 refine St.env (.cons (t := 0) rfl (.cons (t := 3) rfl (.cons (t := 4) rfl .nil))) ?_
 refine Q_then ?_
 refine R_seq ?_
 refine R_region ?_
 refine L_op rfl (W_alloc rfl rfl rfl ty_ze_257 fun b5 => ?_)
 refine L_nil ?_
 refine Q_then ?_
 refine R_seq ?_
 refine R_seq ?_
 refine R_region ?_
 refine L_val rfl rfl rfl (OpP.v (P_move rfl rfl)) ?_
 refine L_nil ?_
 refine Q_then ?_
 refine R_block ?_
 refine R_loop (G := Nat) (fun k => [(0, .int .i64 n), (3, .pointer (some ⟨b3, 0, none⟩)), (4, .pointer (some ⟨b4, 0, none⟩)), (5, .pointer (some ⟨b5, 0, none⟩)), (7, .int .i64 (k : Int))]) (fun k => [blk b5 (ints .u8 (fillN (numF n) 8 k)) 257, blk b4 (List.replicate 32 (.int .u8 0)) 29, blk b3 (ints .u8 r) 29]) (fun k => k ≤ 8) (fun k => 8 - k) (0) (by omega) (by repeat (first | exact .nil | refine .cons rfl ?_)) (by rw [fillN_zero]; exact Weak.refl _) ?_
 intro k hk
 refine R_seq ?_
 refine R_region ?_
 refine L_val rfl rfl rfl (OpP.v (P_lss rfl rfl rfl)) ?_
 refine L_nil ?_
 refine Q_then ?_
 refine R_seq ?_
 refine R_condP rfl (fun hlt => ?_) (fun hlt => ?_)
 ·skip
  refine R_skip ?_
  refine Q_then ?_
  refine R_seq ?_
  refine R_block ?_
  refine R_seq ?_
  refine R_region ?_
  refine L_val rfl rfl rfl (OpP.v (P_move rfl rfl)) ?_
  refine L_val rfl rfl rfl (OpP.v (P_assign rfl rfl)) ?_
  refine L_nil ?_
  refine Q_then ?_
  refine R_region ?_
  refine L_val rfl rfl rfl (OpP.v (P_move rfl rfl)) ?_
  refine L_val rfl rfl rfl (OpP.v (P_move rfl rfl)) ?_
  refine L_val rfl rfl rfl (OpP.v (P_conv rfl ty_int_3 ty_int_24 rfl)) ?_
  refine L_val rfl rfl rfl (OpP.v (P_move rfl rfl)) ?_
  first | (refine L_val rfl rfl rfl (OpP.v (P_mulN rfl rfl rfl (by simp only [fits]; omega))) ?_) | (refine L_val rfl rfl rfl (OpP.v (P_mul rfl rfl rfl)) ?_)
  refine L_val rfl rfl rfl (OpP.v (P_shr rfl rfl rfl (by omega))) ?_
  refine L_val rfl rfl rfl (OpP.v (P_conv rfl ty_int_24 ty_int_5 rfl)) ?_
  first | (refine L_val rfl rfl rfl (OpP.v (P_ixa0 (k) rfl ty_ar_257 rfl rfl (by first | rfl | omega) (by omega))) ?_) | (refine L_val rfl rfl rfl (OpP.v (P_ixa (k) rfl ty_ar_257 rfl rfl (by first | rfl | omega) (by omega))) ?_)
  refine L_op rfl (W_store rfl rfl rfl rfl ty_sc_5 rfl .h0 (by rw [ints_length, fillN_length]; omega) ?_)
  rw [ints_set]
  refine L_nil ?_
  refine Q_block ?_
  refine Q_then ?_
  refine R_region ?_
  first | (refine L_val rfl rfl rfl (OpP.v (P_addN rfl rfl rfl (by simp only [fits]; omega))) ?_) | (refine L_val rfl rfl rfl (OpP.v (P_add rfl rfl rfl)) ?_)
  refine L_val rfl rfl rfl (OpP.v (P_move rfl rfl)) ?_
  refine L_nil ?_
  refine E_nat (t := 7) (n := k + 1) rfl (by omega) ?_
  exact Q_round (k + 1) (by omega) (by omega) (by repeat (first | exact .nil | refine .cons rfl ?_)) (by rw [← fillN_set]; exact Weak.refl _)
 ·skip
  obtain rfl : k = 8 := by omega
  rw [fillN_full]
  refine St.res (rs' := [blk b5 (ints .u8 (numB n)) 257, blk b4 (List.replicate 32 (.int .u8 0)) 29, blk b3 (ints .u8 r) 29]) (Weak.refl _) ?_
  refine R_exit ?_
  refine Q_then_exit ?_
  refine Q_then_exit ?_
  refine Q_block_eq ?_
  refine St.env (.cons (t := 3) rfl (.cons (t := 4) rfl (.cons (t := 5) rfl .nil))) ?_
  refine Q_then ?_
  refine R_seq ?_
  refine R_open [(1, 0), (2, 0), (0, 2), (3, 2), (4, 2), (5, 3)] mixed (by kernel_rfl) (QOk.then QOk.body) ?_
  refine O_pure rfl rfl rfl rfl (P_sliceAll rfl ty_ar_257 rfl) ?_
  refine O_pure rfl rfl rfl rfl (P_sliceAll rfl ty_ar_29 rfl) ?_
  refine O_keep rfl rfl (W_lit (z := .nilIface) (ints .u8 [2]) rfl rfl rfl ty_sl_48 ty_lz_48 rfl rfl rfl (by decide) (by decide) (by simp [Value.cells]) (rfl) fun b19 => (K_keep (Weak.drop (Weak.refl _)) ?_))
  refine O_keep rfl rfl (W_lit (z := .nilIface) ([.slice (some ⟨b19, 0, none⟩) 1 1, .slice (some ⟨b5, 0, none⟩) 8 8, .slice (some ⟨b3, 0, none⟩) 32 32]) rfl rfl rfl ty_sl_42 ty_lz_42 rfl rfl rfl (by decide) (by decide) (by simp [Value.cells]) (rfl) fun b22 => (K_keep (Weak.drop (Weak.refl _)) ?_))
  refine O_keep rfl rfl (W_callV rfl rfl rfl rfl fn_ca_119 (SpecV.mono (joined_ok hG (some ⟨b22, 0, none⟩) _ [.slice (some ⟨b19, 0, none⟩) 1 1, .slice (some ⟨b5, 0, none⟩) 8 8, .slice (some ⟨b3, 0, none⟩) 32 32] [[2], numB n, r] rfl (Nat.le_refl _) (by simp)) (fun _ h => h) (v' := .agg (ints .u8 (sha (2 :: (numB n ++ r)))).toArray) (by simp)) (fun w nw => ⟨(Sn.ofBlk .h0).rw_ w nw, BytesL.cons ⟨some _, _, rfl, Nat.le_refl _, (Sn.ofBlk .h1).rw_ w nw⟩ (BytesL.cons ⟨some _, _, by rw [numB_length], by rw [numB_length]; exact Nat.le_refl 8, (Sn.ofBlk .h2).rw_ w nw⟩ (BytesL.cons ⟨some _, _, by rw [hr], by rw [hr]; exact Nat.le_refl 32, (Sn.ofBlk .h4).rw_ w nw⟩ BytesL.nil))⟩) (K_keep (Weak.refl _) ?_))
  refine O_new rfl rfl (W_storeAll rfl rfl rfl rfl ty_ag_29 (by rw [ints_length, sha_length]) (ints_one) .h3 (by rw [ints_length, sha_length]; rfl) (K_new ?_))
  refine O_nil ?_
  refine St.env (.cons (t := 4) rfl .nil) ?_
  refine Q_then ?_
  refine R_ret ?_
  exact R_endV rfl rfl (.cell rfl (Rds.loadVar ty_ag_29 (Rds.blk .h3) (by rw [ints_length, sha_length])) .nil) (rfl)
end Go.Proofs.YtfhjhaogmdaepaaGreatDoor

/- Walks: one chunk is worked in, by the program and by the reference. Printed by gen.py. -/
set_option linter.unusedVariables false
set_option linter.unusedSimpArgs false
set_option maxRecDepth 100000
namespace Go.Proofs.YtfhjhaogmdaepaaGreatDoor
open Go Go.RowKit Go.Proofs
set_option maxHeartbeats 4000000 in
theorem block_ok {gl : Nat → Obj} (hG : ∃ T fr, gl 0 = .cells (ints .u32 addsK).toArray T fr) (s p : List Int) (hs : s.length = 8) (hp : p.length = 64) (sb so c : Nat) : SpecV (cx gl) 65 [.agg (ints .u32 s).toArray, .slice (some ⟨sb, so, none⟩) 64 c] (fun w => RowAt w ⟨sb, so, none⟩ (ints .u8 p)) (.agg (ints .u32 (mixF addsK s p)).toArray) := by
 refine Spec.enter (C := cx gl) Tryz.func65 rfl 223 rfl rfl fun w0 h0 hsep hsub hpre => ?_
 obtain rfl : h0 = Heap.none := hsep
 show St (cx gl) _ [(0, .agg (ints .u32 s).toArray), (1, .slice (some ⟨sb, so, none⟩) 64 c)] _ _
 refine R_seq ?_
 refine R_region ?_
 refine L_op rfl (W_box (_) rfl rfl rfl rfl rfl fun b2 => ?_)
 refine L_op rfl (W_alloc rfl rfl rfl ty_ze_131 fun b4 => ?_)
 refine L_nil ?_
 refine St.env (.cons (t := 1) rfl (.cons (t := 2) rfl (.cons (t := 4) rfl .nil))) ?_
 refine Q_then ?_
 refine R_seq ?_
 refine R_region ?_
 refine L_op rfl (W_alloc rfl rfl rfl ty_ze_208 fun b5 => ?_)
 rw [rep_ints]
 refine L_nil ?_
 refine Q_then ?_
 refine R_seq ?_
 refine R_seq ?_
 refine R_region ?_
 refine L_val rfl rfl rfl (OpP.v (P_assign rfl rfl)) ?_
 refine L_nil ?_
 refine Q_then ?_
 refine R_block ?_
 refine R_loop (G := Nat) (fun k => [(1, .slice (some ⟨sb, so, none⟩) 64 c), (2, .pointer (some ⟨b2, 0, none⟩)), (4, .pointer (some ⟨b4, 0, none⟩)), (5, .pointer (some ⟨b5, 0, none⟩)), (6, .int .i64 (k : Int))]) (fun k => [blk b5 (ints .u32 (sch1 p k)) 208, blk b4 (List.replicate 8 (.int .u32 0)) 131, blk b2 (ints .u32 s) 131]) (fun k => k ≤ 16) (fun k => 16 - k) (0) (by omega) (by repeat (first | exact .nil | refine .cons rfl ?_)) (Weak.refl _) ?_
 intro k hk
 have hl := sch1_length p k
 refine R_seq ?_
 refine R_seq ?_
 refine R_region ?_
 refine L_val rfl rfl rfl (OpP.v (P_move rfl rfl)) ?_
 refine L_val rfl rfl rfl (OpP.v (P_lss rfl rfl rfl)) ?_
 refine L_nil ?_
 refine Q_then ?_
 refine R_condP rfl (fun hlt => ?_) (fun hlt => ?_)
 ·skip
  refine R_skip ?_
  refine Q_then ?_
  refine R_seq ?_
  refine R_block ?_
  refine R_open [(0, 0), (1, 0), (2, 0), (3, 0), (4, 0), (5, 1), (6, 0), (7, 0), (8, 0), (9, 0), (10, 0), (11, 0), (12, 0), (13, 1), (14, 0), (15, 0), (16, 0), (17, 0), (18, 0), (19, 0), (20, 0), (21, 0), (22, 1), (23, 0), (24, 0), (25, 0), (26, 0), (27, 0), (28, 0), (29, 0), (30, 0), (31, 1), (32, 0), (33, 0), (34, 0), (35, 3)] mixed (by kernel_rfl) (QOk.block (QOk.then (QOk.then (QOk.block (QOk.then QOk.body))))) ?_
  refine O_pure rfl rfl rfl rfl (P_move rfl rfl) ?_
  refine O_pure rfl rfl rfl rfl (P_move rfl rfl) ?_
  refine O_pure rfl rfl rfl rfl (P_move rfl rfl) ?_
  first | (refine O_pure rfl rfl rfl rfl (P_mulN rfl rfl rfl (by simp only [fits]; omega)) ?_) | (refine O_pure rfl rfl rfl rfl (P_mul rfl rfl rfl) ?_)
  refine O_pure rfl rfl rfl rfl (P_ixs (4 * k) rfl ty_sl_48 rfl rfl (by first | rfl | omega) (by omega)) ?_
  refine O_val rfl rfl rfl rfl (V_load rfl rfl ty_sc_5 (Rd.row hpre rfl (ints_at (by omega)))) ?_
  refine O_pure rfl rfl rfl rfl (P_conv rfl ty_int_5 ty_int_108 rfl) ?_
  refine O_pure rfl rfl rfl rfl (P_shl rfl rfl rfl (by decide)) ?_
  refine O_pure rfl rfl rfl rfl (P_move rfl rfl) ?_
  refine O_pure rfl rfl rfl rfl (P_move rfl rfl) ?_
  first | (refine O_pure rfl rfl rfl rfl (P_mulN rfl rfl rfl (by simp only [fits]; omega)) ?_) | (refine O_pure rfl rfl rfl rfl (P_mul rfl rfl rfl) ?_)
  first | (refine O_pure rfl rfl rfl rfl (P_addN rfl rfl rfl (by simp only [fits]; omega)) ?_) | (refine O_pure rfl rfl rfl rfl (P_add rfl rfl rfl) ?_)
  refine O_pure rfl rfl rfl rfl (P_ixs (4 * k + 1) rfl ty_sl_48 rfl rfl (by first | rfl | omega) (by omega)) ?_
  refine O_val rfl rfl rfl rfl (V_load rfl rfl ty_sc_5 (Rd.row hpre rfl (ints_at (by omega)))) ?_
  refine O_pure rfl rfl rfl rfl (P_conv rfl ty_int_5 ty_int_108 rfl) ?_
  refine O_pure rfl rfl rfl rfl (P_shl rfl rfl rfl (by decide)) ?_
  refine O_pure rfl rfl rfl rfl (P_bit (op := .or) rfl rfl rfl rfl) ?_
  refine O_pure rfl rfl rfl rfl (P_move rfl rfl) ?_
  refine O_pure rfl rfl rfl rfl (P_move rfl rfl) ?_
  first | (refine O_pure rfl rfl rfl rfl (P_mulN rfl rfl rfl (by simp only [fits]; omega)) ?_) | (refine O_pure rfl rfl rfl rfl (P_mul rfl rfl rfl) ?_)
  first | (refine O_pure rfl rfl rfl rfl (P_addN rfl rfl rfl (by simp only [fits]; omega)) ?_) | (refine O_pure rfl rfl rfl rfl (P_add rfl rfl rfl) ?_)
  refine O_pure rfl rfl rfl rfl (P_ixs (4 * k + 2) rfl ty_sl_48 rfl rfl (by first | rfl | omega) (by omega)) ?_
  refine O_val rfl rfl rfl rfl (V_load rfl rfl ty_sc_5 (Rd.row hpre rfl (ints_at (by omega)))) ?_
  refine O_pure rfl rfl rfl rfl (P_conv rfl ty_int_5 ty_int_108 rfl) ?_
  refine O_pure rfl rfl rfl rfl (P_shl rfl rfl rfl (by decide)) ?_
  refine O_pure rfl rfl rfl rfl (P_bit (op := .or) rfl rfl rfl rfl) ?_
  refine O_pure rfl rfl rfl rfl (P_move rfl rfl) ?_
  refine O_pure rfl rfl rfl rfl (P_move rfl rfl) ?_
  first | (refine O_pure rfl rfl rfl rfl (P_mulN rfl rfl rfl (by simp only [fits]; omega)) ?_) | (refine O_pure rfl rfl rfl rfl (P_mul rfl rfl rfl) ?_)
  first | (refine O_pure rfl rfl rfl rfl (P_addN rfl rfl rfl (by simp only [fits]; omega)) ?_) | (refine O_pure rfl rfl rfl rfl (P_add rfl rfl rfl) ?_)
  refine O_pure rfl rfl rfl rfl (P_ixs (4 * k + 3) rfl ty_sl_48 rfl rfl (by first | rfl | omega) (by omega)) ?_
  refine O_val rfl rfl rfl rfl (V_load rfl rfl ty_sc_5 (Rd.row hpre rfl (ints_at (by omega)))) ?_
  refine O_pure rfl rfl rfl rfl (P_conv rfl ty_int_5 ty_int_108 rfl) ?_
  refine O_pure rfl rfl rfl rfl (P_bit (op := .or) rfl rfl rfl rfl) ?_
  first | (refine O_pure rfl rfl rfl rfl (P_ixa0 (k) rfl ty_ar_208 rfl rfl (by first | rfl | omega) (by omega)) ?_) | (refine O_pure rfl rfl rfl rfl (P_ixa (k) rfl ty_ar_208 rfl rfl (by first | rfl | omega) (by omega)) ?_)
  refine O_new rfl rfl (W_store rfl rfl rfl rfl ty_sc_108 rfl .h0 (by rw [ints_length, hl]; omega) (K_new ?_))
  rw [ints_set]
  refine O_nil ?_
  refine Q_block ?_
  refine Q_then ?_
  refine R_region ?_
  refine L_val rfl rfl rfl (OpP.v (P_move rfl rfl)) ?_
  first | (refine L_val rfl rfl rfl (OpP.v (P_addN rfl rfl rfl (by simp only [fits]; omega))) ?_) | (refine L_val rfl rfl rfl (OpP.v (P_add rfl rfl rfl)) ?_)
  refine L_val rfl rfl rfl (OpP.v (P_assign rfl rfl)) ?_
  refine L_nil ?_
  refine E_nat (t := 6) (n := k + 1) rfl (by omega) ?_
  exact Q_round (k + 1) (by omega) (by omega) (by repeat (first | exact .nil | refine .cons rfl ?_)) (Weak.refl _)
 ·skip
  refine R_exit ?_
  refine Q_then_exit ?_
  refine Q_then_exit ?_
  refine Q_block_eq ?_
  refine St.env (.cons (t := 2) rfl (.cons (t := 4) rfl (.cons (t := 5) rfl .nil))) ?_
  refine Q_then ?_
  refine R_seq ?_
  refine R_seq ?_
  refine R_region ?_
  refine L_val rfl rfl rfl (OpP.v (P_assign rfl rfl)) ?_
  refine L_nil ?_
  refine Q_then ?_
  refine R_block ?_
  obtain rfl : k = 16 := by omega
  refine R_loop (G := Nat) (fun k => [(2, .pointer (some ⟨b2, 0, none⟩)), (4, .pointer (some ⟨b4, 0, none⟩)), (5, .pointer (some ⟨b5, 0, none⟩)), (7, .int .i64 ((16 + k : Nat) : Int))]) (fun k => [blk b5 (ints .u32 (sch2 (sch1 p 16) k)) 208, blk b4 (List.replicate 8 (.int .u32 0)) 131, blk b2 (ints .u32 s) 131]) (fun k => k ≤ 48) (fun k => 48 - k) (0) (by omega) (by repeat (first | exact .nil | refine .cons rfl ?_)) (Weak.refl _) ?_
  intro k hk
  have hl : (sch2 (sch1 p 16) k).length = 64 := by rw [sch2_length, sch1_length]
  refine R_seq ?_
  refine R_seq ?_
  refine R_region ?_
  refine L_val rfl rfl rfl (OpP.v (P_move rfl rfl)) ?_
  refine L_val rfl rfl rfl (OpP.v (P_lss rfl rfl rfl)) ?_
  refine L_nil ?_
  refine Q_then ?_
  refine R_condP rfl (fun hlt2 => ?_) (fun hlt2 => ?_)
  ·skip
   refine R_skip ?_
   refine Q_then ?_
   refine R_seq ?_
   refine R_block ?_
   refine R_seq ?_
   refine R_open [(0, 0), (1, 0), (2, 0), (3, 1), (5, 0), (6, 0), (7, 0), (8, 1), (11, 0), (12, 0), (13, 0), (14, 1), (15, 0), (4, 2), (9, 2), (10, 0), (16, 0), (17, 0)] mixed (by kernel_rfl) (QOk.then (QOk.block (QOk.then (QOk.then (QOk.block (QOk.then QOk.body)))))) ?_
   refine O_pure rfl rfl rfl rfl (P_move rfl rfl) ?_
   first | (refine O_pure rfl rfl rfl rfl (P_subN rfl rfl rfl (by simp only [fits]; omega)) ?_) | (refine O_pure rfl rfl rfl rfl (P_sub rfl rfl rfl) ?_)
   first | (refine O_pure rfl rfl rfl rfl (P_ixa0 (k + 1) rfl ty_ar_208 rfl rfl (by first | rfl | omega) (by omega)) ?_) | (refine O_pure rfl rfl rfl rfl (P_ixa (k + 1) rfl ty_ar_208 rfl rfl (by first | rfl | omega) (by omega)) ?_)
   refine O_val rfl rfl rfl rfl (V_load rfl rfl ty_sc_108 (Rd.blk .h0 (ints_at (by omega)))) ?_
   refine O_pure rfl rfl rfl rfl (P_move rfl rfl) ?_
   first | (refine O_pure rfl rfl rfl rfl (P_subN rfl rfl rfl (by simp only [fits]; omega)) ?_) | (refine O_pure rfl rfl rfl rfl (P_sub rfl rfl rfl) ?_)
   first | (refine O_pure rfl rfl rfl rfl (P_ixa0 (k + 1) rfl ty_ar_208 rfl rfl (by first | rfl | omega) (by omega)) ?_) | (refine O_pure rfl rfl rfl rfl (P_ixa (k + 1) rfl ty_ar_208 rfl rfl (by first | rfl | omega) (by omega)) ?_)
   refine O_val rfl rfl rfl rfl (V_load rfl rfl ty_sc_108 (Rd.blk .h0 (ints_at (by omega)))) ?_
   refine O_pure rfl rfl rfl rfl (P_move rfl rfl) ?_
   first | (refine O_pure rfl rfl rfl rfl (P_subN rfl rfl rfl (by simp only [fits]; omega)) ?_) | (refine O_pure rfl rfl rfl rfl (P_sub rfl rfl rfl) ?_)
   first | (refine O_pure rfl rfl rfl rfl (P_ixa0 (k + 1) rfl ty_ar_208 rfl rfl (by first | rfl | omega) (by omega)) ?_) | (refine O_pure rfl rfl rfl rfl (P_ixa (k + 1) rfl ty_ar_208 rfl rfl (by first | rfl | omega) (by omega)) ?_)
   refine O_val rfl rfl rfl rfl (V_load rfl rfl ty_sc_108 (Rd.blk .h0 (ints_at (by omega)))) ?_
   refine O_pure rfl rfl rfl rfl (P_shr rfl rfl rfl (by decide)) ?_
   refine O_keep rfl rfl (W_callV rfl rfl rfl rfl fn_ca_130 (turn_ok gl _ 7 (by decide)) (fun _ _ => trivial) (K_keep (Weak.refl _) ?_))
   refine O_keep rfl rfl (W_callV rfl rfl rfl rfl fn_ca_130 (turn_ok gl _ 18 (by decide)) (fun _ _ => trivial) (K_keep (Weak.refl _) ?_))
   refine O_pure rfl rfl rfl rfl (P_bit (op := .xor) rfl rfl rfl rfl) ?_
   refine O_pure rfl rfl rfl rfl (P_bit (op := .xor) rfl rfl rfl rfl) ?_
   refine O_pure rfl rfl rfl rfl (P_assign rfl rfl) ?_
   refine O_nil ?_
   refine Q_then ?_
   refine R_seq ?_
   refine R_open [(0, 0), (1, 0), (2, 0), (3, 1), (5, 0), (6, 0), (7, 0), (8, 1), (11, 0), (12, 0), (13, 0), (14, 1), (15, 0), (4, 2), (9, 2), (10, 0), (16, 0), (17, 0)] mixed (by kernel_rfl) (QOk.then (QOk.block (QOk.then (QOk.then (QOk.block (QOk.then QOk.body)))))) ?_
   refine O_pure rfl rfl rfl rfl (P_move rfl rfl) ?_
   first | (refine O_pure rfl rfl rfl rfl (P_subN rfl rfl rfl (by simp only [fits]; omega)) ?_) | (refine O_pure rfl rfl rfl rfl (P_sub rfl rfl rfl) ?_)
   first | (refine O_pure rfl rfl rfl rfl (P_ixa0 (k + 14) rfl ty_ar_208 rfl rfl (by first | rfl | omega) (by omega)) ?_) | (refine O_pure rfl rfl rfl rfl (P_ixa (k + 14) rfl ty_ar_208 rfl rfl (by first | rfl | omega) (by omega)) ?_)
   refine O_val rfl rfl rfl rfl (V_load rfl rfl ty_sc_108 (Rd.blk .h0 (ints_at (by omega)))) ?_
   refine O_pure rfl rfl rfl rfl (P_move rfl rfl) ?_
   first | (refine O_pure rfl rfl rfl rfl (P_subN rfl rfl rfl (by simp only [fits]; omega)) ?_) | (refine O_pure rfl rfl rfl rfl (P_sub rfl rfl rfl) ?_)
   first | (refine O_pure rfl rfl rfl rfl (P_ixa0 (k + 14) rfl ty_ar_208 rfl rfl (by first | rfl | omega) (by omega)) ?_) | (refine O_pure rfl rfl rfl rfl (P_ixa (k + 14) rfl ty_ar_208 rfl rfl (by first | rfl | omega) (by omega)) ?_)
   refine O_val rfl rfl rfl rfl (V_load rfl rfl ty_sc_108 (Rd.blk .h0 (ints_at (by omega)))) ?_
   refine O_pure rfl rfl rfl rfl (P_move rfl rfl) ?_
   first | (refine O_pure rfl rfl rfl rfl (P_subN rfl rfl rfl (by simp only [fits]; omega)) ?_) | (refine O_pure rfl rfl rfl rfl (P_sub rfl rfl rfl) ?_)
   first | (refine O_pure rfl rfl rfl rfl (P_ixa0 (k + 14) rfl ty_ar_208 rfl rfl (by first | rfl | omega) (by omega)) ?_) | (refine O_pure rfl rfl rfl rfl (P_ixa (k + 14) rfl ty_ar_208 rfl rfl (by first | rfl | omega) (by omega)) ?_)
   refine O_val rfl rfl rfl rfl (V_load rfl rfl ty_sc_108 (Rd.blk .h0 (ints_at (by omega)))) ?_
   refine O_pure rfl rfl rfl rfl (P_shr rfl rfl rfl (by decide)) ?_
   refine O_keep rfl rfl (W_callV rfl rfl rfl rfl fn_ca_130 (turn_ok gl _ 17 (by decide)) (fun _ _ => trivial) (K_keep (Weak.refl _) ?_))
   refine O_keep rfl rfl (W_callV rfl rfl rfl rfl fn_ca_130 (turn_ok gl _ 19 (by decide)) (fun _ _ => trivial) (K_keep (Weak.refl _) ?_))
   refine O_pure rfl rfl rfl rfl (P_bit (op := .xor) rfl rfl rfl rfl) ?_
   refine O_pure rfl rfl rfl rfl (P_bit (op := .xor) rfl rfl rfl rfl) ?_
   refine O_pure rfl rfl rfl rfl (P_assign rfl rfl) ?_
   refine O_nil ?_
   refine Q_then ?_
   refine R_open [(0, 0), (1, 0), (2, 0), (3, 0), (4, 1), (5, 0), (6, 0), (7, 0), (8, 0), (9, 0), (10, 1), (11, 0), (12, 0), (13, 0), (14, 0), (15, 3)] mixed (by kernel_rfl) (QOk.block (QOk.then (QOk.then (QOk.block (QOk.then QOk.body))))) ?_
   refine O_pure rfl rfl rfl rfl (P_move rfl rfl) ?_
   refine O_pure rfl rfl rfl rfl (P_move rfl rfl) ?_
   first | (refine O_pure rfl rfl rfl rfl (P_subN rfl rfl rfl (by simp only [fits]; omega)) ?_) | (refine O_pure rfl rfl rfl rfl (P_sub rfl rfl rfl) ?_)
   first | (refine O_pure rfl rfl rfl rfl (P_ixa0 (k) rfl ty_ar_208 rfl rfl (by first | rfl | omega) (by omega)) ?_) | (refine O_pure rfl rfl rfl rfl (P_ixa (k) rfl ty_ar_208 rfl rfl (by first | rfl | omega) (by omega)) ?_)
   refine O_val rfl rfl rfl rfl (V_load rfl rfl ty_sc_108 (Rd.blk .h0 (ints_at (by omega)))) ?_
   refine O_pure rfl rfl rfl rfl (P_move rfl rfl) ?_
   refine O_pure rfl rfl rfl rfl (P_add rfl rfl rfl) ?_
   refine O_pure rfl rfl rfl rfl (P_move rfl rfl) ?_
   first | (refine O_pure rfl rfl rfl rfl (P_subN rfl rfl rfl (by simp only [fits]; omega)) ?_) | (refine O_pure rfl rfl rfl rfl (P_sub rfl rfl rfl) ?_)
   first | (refine O_pure rfl rfl rfl rfl (P_ixa0 (k + 9) rfl ty_ar_208 rfl rfl (by first | rfl | omega) (by omega)) ?_) | (refine O_pure rfl rfl rfl rfl (P_ixa (k + 9) rfl ty_ar_208 rfl rfl (by first | rfl | omega) (by omega)) ?_)
   refine O_val rfl rfl rfl rfl (V_load rfl rfl ty_sc_108 (Rd.blk .h0 (ints_at (by omega)))) ?_
   refine O_pure rfl rfl rfl rfl (P_add rfl rfl rfl) ?_
   refine O_pure rfl rfl rfl rfl (P_move rfl rfl) ?_
   refine O_pure rfl rfl rfl rfl (P_add rfl rfl rfl) ?_
   first | (refine O_pure rfl rfl rfl rfl (P_ixa0 (16 + k) rfl ty_ar_208 rfl rfl (by first | rfl | omega) (by omega)) ?_) | (refine O_pure rfl rfl rfl rfl (P_ixa (16 + k) rfl ty_ar_208 rfl rfl (by first | rfl | omega) (by omega)) ?_)
   refine O_new rfl rfl (W_store rfl rfl rfl rfl ty_sc_108 rfl .h0 (by rw [ints_length, hl]; omega) (K_new ?_))
   rw [ints_set]
   refine O_nil ?_
   refine Q_block ?_
   refine Q_then ?_
   refine R_region ?_
   refine L_val rfl rfl rfl (OpP.v (P_move rfl rfl)) ?_
   first | (refine L_val rfl rfl rfl (OpP.v (P_addN rfl rfl rfl (by simp only [fits]; omega))) ?_) | (refine L_val rfl rfl rfl (OpP.v (P_add rfl rfl rfl)) ?_)
   refine L_val rfl rfl rfl (OpP.v (P_assign rfl rfl)) ?_
   refine L_nil ?_
   refine E_nat (t := 7) (n := 16 + (k + 1)) rfl (by omega) ?_
   exact Q_round (k + 1) (by omega) (by omega) (by repeat (first | exact .nil | refine .cons rfl ?_)) (Weak.refl _)
  ·skip
   refine R_exit ?_
   refine Q_then_exit ?_
   refine Q_then_exit ?_
   refine Q_block_eq ?_
   refine St.env (.cons (t := 2) rfl (.cons (t := 4) rfl (.cons (t := 5) rfl .nil))) ?_
   refine Q_then ?_
   refine R_seq ?_
   refine R_region ?_
   refine L_val rfl rfl rfl (V_loadAgg rfl rfl ty_ag_131 (Rds.blk .h2) (by rw [ints_length, hs])) ?_
   refine L_op rfl (W_alloc rfl rfl rfl ty_ze_131 fun b10 => ?_)
   refine L_op rfl (W_storeAll rfl rfl rfl rfl ty_ag_131 (by rw [ints_length, hs]) (ints_one) .h0 (by rw [ints_length, List.length_replicate]; exact hs) ?_)
   refine L_nil ?_
   refine St.env (.cons (t := 2) rfl (.cons (t := 4) rfl (.cons (t := 5) rfl (.cons (t := 10) rfl .nil)))) ?_
   refine Q_then ?_
   refine R_seq ?_
   refine R_seq ?_
   refine R_region ?_
   refine L_val rfl rfl rfl (OpP.v (P_assign rfl rfl)) ?_
   refine L_nil ?_
   refine Q_then ?_
   refine R_block ?_
   obtain rfl : k = 48 := by omega
   refine R_loop (G := Nat) (fun k => [(2, .pointer (some ⟨b2, 0, none⟩)), (4, .pointer (some ⟨b4, 0, none⟩)), (5, .pointer (some ⟨b5, 0, none⟩)), (10, .pointer (some ⟨b10, 0, none⟩)), (11, .int .i64 (k : Int))]) (fun k => [blk b10 (ints .u32 (rnds addsK (sch2 (sch1 p 16) 48) s k)) 131, blk b5 (ints .u32 (sch2 (sch1 p 16) 48)) 208, blk b4 (List.replicate 8 (.int .u32 0)) 131, blk b2 (ints .u32 s) 131]) (fun k => k ≤ 64) (fun k => 64 - k) (0) (by omega) (by repeat (first | exact .nil | refine .cons rfl ?_)) (Weak.refl _) ?_
   intro k hk
   have hl : (sch2 (sch1 p 16) 48).length = 64 := by rw [sch2_length, sch1_length]
   have hr : (rnds addsK (sch2 (sch1 p 16) 48) s k).length = 8 := by rw [rnds_length, hs]
   obtain ⟨va, vb, vc, vd, ve, vf, vg, vh, e8⟩ := list8 hr
   rw [e8]
   refine R_seq ?_
   refine R_seq ?_
   refine R_region ?_
   refine L_val rfl rfl rfl (OpP.v (P_move rfl rfl)) ?_
   refine L_val rfl rfl rfl (OpP.v (P_lss rfl rfl rfl)) ?_
   refine L_nil ?_
   refine Q_then ?_
   refine R_condP rfl (fun hlt3 => ?_) (fun hlt3 => ?_)
   ·skip
    refine R_skip ?_
    refine Q_then ?_
    refine R_seq ?_
    refine R_block ?_
    refine R_seq ?_
    refine R_open [(0, 0), (1, 1), (3, 0), (4, 1), (7, 0), (8, 1), (2, 2), (5, 2), (6, 0), (9, 2), (10, 0), (11, 0)] mixed (by kernel_rfl) (QOk.then (QOk.block (QOk.then (QOk.then (QOk.block (QOk.then QOk.body)))))) ?_
    first | (refine O_pure rfl rfl rfl rfl (P_ixa0 (4) rfl ty_ar_131 rfl rfl (by first | rfl | omega) (by omega)) ?_) | (refine O_pure rfl rfl rfl rfl (P_ixa (4) rfl ty_ar_131 rfl rfl (by first | rfl | omega) (by omega)) ?_)
    refine O_val rfl rfl rfl rfl (V_load rfl rfl ty_sc_108 (by first | exact Rd.blk .h0 rfl | exact Rd.blk .h1 rfl | exact Rd.blk .h2 rfl | exact Rd.blk .h3 rfl | exact Rd.blk .h4 rfl | exact Rd.blk .h5 rfl | exact Rd.blk .h6 rfl | exact Rd.blk .h7 rfl)) ?_
    first | (refine O_pure rfl rfl rfl rfl (P_ixa0 (4) rfl ty_ar_131 rfl rfl (by first | rfl | omega) (by omega)) ?_) | (refine O_pure rfl rfl rfl rfl (P_ixa (4) rfl ty_ar_131 rfl rfl (by first | rfl | omega) (by omega)) ?_)
    refine O_val rfl rfl rfl rfl (V_load rfl rfl ty_sc_108 (by first | exact Rd.blk .h0 rfl | exact Rd.blk .h1 rfl | exact Rd.blk .h2 rfl | exact Rd.blk .h3 rfl | exact Rd.blk .h4 rfl | exact Rd.blk .h5 rfl | exact Rd.blk .h6 rfl | exact Rd.blk .h7 rfl)) ?_
    first | (refine O_pure rfl rfl rfl rfl (P_ixa0 (4) rfl ty_ar_131 rfl rfl (by first | rfl | omega) (by omega)) ?_) | (refine O_pure rfl rfl rfl rfl (P_ixa (4) rfl ty_ar_131 rfl rfl (by first | rfl | omega) (by omega)) ?_)
    refine O_val rfl rfl rfl rfl (V_load rfl rfl ty_sc_108 (by first | exact Rd.blk .h0 rfl | exact Rd.blk .h1 rfl | exact Rd.blk .h2 rfl | exact Rd.blk .h3 rfl | exact Rd.blk .h4 rfl | exact Rd.blk .h5 rfl | exact Rd.blk .h6 rfl | exact Rd.blk .h7 rfl)) ?_
    refine O_keep rfl rfl (W_callV rfl rfl rfl rfl fn_ca_130 (turn_ok gl _ 6 (by decide)) (fun _ _ => trivial) (K_keep (Weak.refl _) ?_))
    refine O_keep rfl rfl (W_callV rfl rfl rfl rfl fn_ca_130 (turn_ok gl _ 11 (by decide)) (fun _ _ => trivial) (K_keep (Weak.refl _) ?_))
    refine O_pure rfl rfl rfl rfl (P_bit (op := .xor) rfl rfl rfl rfl) ?_
    refine O_keep rfl rfl (W_callV rfl rfl rfl rfl fn_ca_130 (turn_ok gl _ 25 (by decide)) (fun _ _ => trivial) (K_keep (Weak.refl _) ?_))
    refine O_pure rfl rfl rfl rfl (P_bit (op := .xor) rfl rfl rfl rfl) ?_
    refine O_pure rfl rfl rfl rfl (P_assign rfl rfl) ?_
    refine O_nil ?_
    refine Q_then ?_
    refine R_seq ?_
    refine R_region ?_
    first | (refine L_val rfl rfl rfl (OpP.v (P_ixa0 (4) rfl ty_ar_131 rfl rfl (by first | rfl | omega) (by omega))) ?_) | (refine L_val rfl rfl rfl (OpP.v (P_ixa (4) rfl ty_ar_131 rfl rfl (by first | rfl | omega) (by omega))) ?_)
    refine L_val rfl rfl rfl (V_load rfl rfl ty_sc_108 (by first | exact Rd.blk .h0 rfl | exact Rd.blk .h1 rfl | exact Rd.blk .h2 rfl | exact Rd.blk .h3 rfl | exact Rd.blk .h4 rfl | exact Rd.blk .h5 rfl | exact Rd.blk .h6 rfl | exact Rd.blk .h7 rfl)) ?_
    first | (refine L_val rfl rfl rfl (OpP.v (P_ixa0 (5) rfl ty_ar_131 rfl rfl (by first | rfl | omega) (by omega))) ?_) | (refine L_val rfl rfl rfl (OpP.v (P_ixa (5) rfl ty_ar_131 rfl rfl (by first | rfl | omega) (by omega))) ?_)
    refine L_val rfl rfl rfl (V_load rfl rfl ty_sc_108 (by first | exact Rd.blk .h0 rfl | exact Rd.blk .h1 rfl | exact Rd.blk .h2 rfl | exact Rd.blk .h3 rfl | exact Rd.blk .h4 rfl | exact Rd.blk .h5 rfl | exact Rd.blk .h6 rfl | exact Rd.blk .h7 rfl)) ?_
    refine L_val rfl rfl rfl (OpP.v (P_bit (op := .and) rfl rfl rfl rfl)) ?_
    first | (refine L_val rfl rfl rfl (OpP.v (P_ixa0 (4) rfl ty_ar_131 rfl rfl (by first | rfl | omega) (by omega))) ?_) | (refine L_val rfl rfl rfl (OpP.v (P_ixa (4) rfl ty_ar_131 rfl rfl (by first | rfl | omega) (by omega))) ?_)
    refine L_val rfl rfl rfl (V_load rfl rfl ty_sc_108 (by first | exact Rd.blk .h0 rfl | exact Rd.blk .h1 rfl | exact Rd.blk .h2 rfl | exact Rd.blk .h3 rfl | exact Rd.blk .h4 rfl | exact Rd.blk .h5 rfl | exact Rd.blk .h6 rfl | exact Rd.blk .h7 rfl)) ?_
    refine L_val rfl rfl rfl (OpP.v (P_compl rfl rfl)) ?_
    first | (refine L_val rfl rfl rfl (OpP.v (P_ixa0 (6) rfl ty_ar_131 rfl rfl (by first | rfl | omega) (by omega))) ?_) | (refine L_val rfl rfl rfl (OpP.v (P_ixa (6) rfl ty_ar_131 rfl rfl (by first | rfl | omega) (by omega))) ?_)
    refine L_val rfl rfl rfl (V_load rfl rfl ty_sc_108 (by first | exact Rd.blk .h0 rfl | exact Rd.blk .h1 rfl | exact Rd.blk .h2 rfl | exact Rd.blk .h3 rfl | exact Rd.blk .h4 rfl | exact Rd.blk .h5 rfl | exact Rd.blk .h6 rfl | exact Rd.blk .h7 rfl)) ?_
    refine L_val rfl rfl rfl (OpP.v (P_bit (op := .and) rfl rfl rfl rfl)) ?_
    refine L_val rfl rfl rfl (OpP.v (P_bit (op := .xor) rfl rfl rfl rfl)) ?_
    refine L_val rfl rfl rfl (OpP.v (P_assign rfl rfl)) ?_
    refine L_nil ?_
    refine Q_then ?_
    refine R_seq ?_
    refine R_open [(0, 0), (1, 1), (2, 0), (3, 0), (4, 0), (5, 0), (6, 0), (7, 0), (8, 1), (9, 0), (10, 0), (11, 0), (12, 1), (13, 0), (14, 0)] mixed (by kernel_rfl) (QOk.then (QOk.block (QOk.then (QOk.then (QOk.block (QOk.then QOk.body)))))) ?_
    first | (refine O_pure rfl rfl rfl rfl (P_ixa0 (7) rfl ty_ar_131 rfl rfl (by first | rfl | omega) (by omega)) ?_) | (refine O_pure rfl rfl rfl rfl (P_ixa (7) rfl ty_ar_131 rfl rfl (by first | rfl | omega) (by omega)) ?_)
    refine O_val rfl rfl rfl rfl (V_load rfl rfl ty_sc_108 (by first | exact Rd.blk .h0 rfl | exact Rd.blk .h1 rfl | exact Rd.blk .h2 rfl | exact Rd.blk .h3 rfl | exact Rd.blk .h4 rfl | exact Rd.blk .h5 rfl | exact Rd.blk .h6 rfl | exact Rd.blk .h7 rfl)) ?_
    refine O_pure rfl rfl rfl rfl (P_move rfl rfl) ?_
    refine O_pure rfl rfl rfl rfl (P_add rfl rfl rfl) ?_
    refine O_pure rfl rfl rfl rfl (P_move rfl rfl) ?_
    refine O_pure rfl rfl rfl rfl (P_add rfl rfl rfl) ?_
    refine O_pure rfl rfl rfl rfl (P_move rfl rfl) ?_
    first | (refine O_pure rfl rfl rfl rfl (P_ixa0 (k) rfl ty_ar_208 rfl rfl (by first | rfl | omega) (by omega)) ?_) | (refine O_pure rfl rfl rfl rfl (P_ixa (k) rfl ty_ar_208 rfl rfl (by first | rfl | omega) (by omega)) ?_)
    refine O_val rfl rfl rfl rfl (V_load rfl rfl ty_sc_108 (hG.elim fun T h => h.elim fun fr h => Rd.glob rfl h (ints_at (by rw [addsK_length]; omega)))) ?_
    refine O_pure rfl rfl rfl rfl (P_add rfl rfl rfl) ?_
    refine O_pure rfl rfl rfl rfl (P_move rfl rfl) ?_
    first | (refine O_pure rfl rfl rfl rfl (P_ixa0 (k) rfl ty_ar_208 rfl rfl (by first | rfl | omega) (by omega)) ?_) | (refine O_pure rfl rfl rfl rfl (P_ixa (k) rfl ty_ar_208 rfl rfl (by first | rfl | omega) (by omega)) ?_)
    refine O_val rfl rfl rfl rfl (V_load rfl rfl ty_sc_108 (Rd.blk .h1 (ints_at (by omega)))) ?_
    refine O_pure rfl rfl rfl rfl (P_add rfl rfl rfl) ?_
    refine O_pure rfl rfl rfl rfl (P_assign rfl rfl) ?_
    refine O_nil ?_
    refine Q_then ?_
    refine R_seq ?_
    refine R_open [(0, 0), (1, 1), (3, 0), (4, 1), (7, 0), (8, 1), (2, 2), (5, 2), (6, 0), (9, 2), (10, 0), (11, 0)] mixed (by kernel_rfl) (QOk.then (QOk.block (QOk.then (QOk.then (QOk.block (QOk.then QOk.body)))))) ?_
    first | (refine O_pure rfl rfl rfl rfl (P_ixa0 (0) rfl ty_ar_131 rfl rfl (by first | rfl | omega) (by omega)) ?_) | (refine O_pure rfl rfl rfl rfl (P_ixa (0) rfl ty_ar_131 rfl rfl (by first | rfl | omega) (by omega)) ?_)
    refine O_val rfl rfl rfl rfl (V_load rfl rfl ty_sc_108 (by first | exact Rd.blk .h0 rfl | exact Rd.blk .h1 rfl | exact Rd.blk .h2 rfl | exact Rd.blk .h3 rfl | exact Rd.blk .h4 rfl | exact Rd.blk .h5 rfl | exact Rd.blk .h6 rfl | exact Rd.blk .h7 rfl)) ?_
    first | (refine O_pure rfl rfl rfl rfl (P_ixa0 (0) rfl ty_ar_131 rfl rfl (by first | rfl | omega) (by omega)) ?_) | (refine O_pure rfl rfl rfl rfl (P_ixa (0) rfl ty_ar_131 rfl rfl (by first | rfl | omega) (by omega)) ?_)
    refine O_val rfl rfl rfl rfl (V_load rfl rfl ty_sc_108 (by first | exact Rd.blk .h0 rfl | exact Rd.blk .h1 rfl | exact Rd.blk .h2 rfl | exact Rd.blk .h3 rfl | exact Rd.blk .h4 rfl | exact Rd.blk .h5 rfl | exact Rd.blk .h6 rfl | exact Rd.blk .h7 rfl)) ?_
    first | (refine O_pure rfl rfl rfl rfl (P_ixa0 (0) rfl ty_ar_131 rfl rfl (by first | rfl | omega) (by omega)) ?_) | (refine O_pure rfl rfl rfl rfl (P_ixa (0) rfl ty_ar_131 rfl rfl (by first | rfl | omega) (by omega)) ?_)
    refine O_val rfl rfl rfl rfl (V_load rfl rfl ty_sc_108 (by first | exact Rd.blk .h0 rfl | exact Rd.blk .h1 rfl | exact Rd.blk .h2 rfl | exact Rd.blk .h3 rfl | exact Rd.blk .h4 rfl | exact Rd.blk .h5 rfl | exact Rd.blk .h6 rfl | exact Rd.blk .h7 rfl)) ?_
    refine O_keep rfl rfl (W_callV rfl rfl rfl rfl fn_ca_130 (turn_ok gl _ 2 (by decide)) (fun _ _ => trivial) (K_keep (Weak.refl _) ?_))
    refine O_keep rfl rfl (W_callV rfl rfl rfl rfl fn_ca_130 (turn_ok gl _ 13 (by decide)) (fun _ _ => trivial) (K_keep (Weak.refl _) ?_))
    refine O_pure rfl rfl rfl rfl (P_bit (op := .xor) rfl rfl rfl rfl) ?_
    refine O_keep rfl rfl (W_callV rfl rfl rfl rfl fn_ca_130 (turn_ok gl _ 22 (by decide)) (fun _ _ => trivial) (K_keep (Weak.refl _) ?_))
    refine O_pure rfl rfl rfl rfl (P_bit (op := .xor) rfl rfl rfl rfl) ?_
    refine O_pure rfl rfl rfl rfl (P_assign rfl rfl) ?_
    refine O_nil ?_
    refine Q_then ?_
    refine R_seq ?_
    refine R_region ?_
    first | (refine L_val rfl rfl rfl (OpP.v (P_ixa0 (0) rfl ty_ar_131 rfl rfl (by first | rfl | omega) (by omega))) ?_) | (refine L_val rfl rfl rfl (OpP.v (P_ixa (0) rfl ty_ar_131 rfl rfl (by first | rfl | omega) (by omega))) ?_)
    refine L_val rfl rfl rfl (V_load rfl rfl ty_sc_108 (by first | exact Rd.blk .h0 rfl | exact Rd.blk .h1 rfl | exact Rd.blk .h2 rfl | exact Rd.blk .h3 rfl | exact Rd.blk .h4 rfl | exact Rd.blk .h5 rfl | exact Rd.blk .h6 rfl | exact Rd.blk .h7 rfl)) ?_
    first | (refine L_val rfl rfl rfl (OpP.v (P_ixa0 (1) rfl ty_ar_131 rfl rfl (by first | rfl | omega) (by omega))) ?_) | (refine L_val rfl rfl rfl (OpP.v (P_ixa (1) rfl ty_ar_131 rfl rfl (by first | rfl | omega) (by omega))) ?_)
    refine L_val rfl rfl rfl (V_load rfl rfl ty_sc_108 (by first | exact Rd.blk .h0 rfl | exact Rd.blk .h1 rfl | exact Rd.blk .h2 rfl | exact Rd.blk .h3 rfl | exact Rd.blk .h4 rfl | exact Rd.blk .h5 rfl | exact Rd.blk .h6 rfl | exact Rd.blk .h7 rfl)) ?_
    refine L_val rfl rfl rfl (OpP.v (P_bit (op := .and) rfl rfl rfl rfl)) ?_
    first | (refine L_val rfl rfl rfl (OpP.v (P_ixa0 (0) rfl ty_ar_131 rfl rfl (by first | rfl | omega) (by omega))) ?_) | (refine L_val rfl rfl rfl (OpP.v (P_ixa (0) rfl ty_ar_131 rfl rfl (by first | rfl | omega) (by omega))) ?_)
    refine L_val rfl rfl rfl (V_load rfl rfl ty_sc_108 (by first | exact Rd.blk .h0 rfl | exact Rd.blk .h1 rfl | exact Rd.blk .h2 rfl | exact Rd.blk .h3 rfl | exact Rd.blk .h4 rfl | exact Rd.blk .h5 rfl | exact Rd.blk .h6 rfl | exact Rd.blk .h7 rfl)) ?_
    first | (refine L_val rfl rfl rfl (OpP.v (P_ixa0 (2) rfl ty_ar_131 rfl rfl (by first | rfl | omega) (by omega))) ?_) | (refine L_val rfl rfl rfl (OpP.v (P_ixa (2) rfl ty_ar_131 rfl rfl (by first | rfl | omega) (by omega))) ?_)
    refine L_val rfl rfl rfl (V_load rfl rfl ty_sc_108 (by first | exact Rd.blk .h0 rfl | exact Rd.blk .h1 rfl | exact Rd.blk .h2 rfl | exact Rd.blk .h3 rfl | exact Rd.blk .h4 rfl | exact Rd.blk .h5 rfl | exact Rd.blk .h6 rfl | exact Rd.blk .h7 rfl)) ?_
    refine L_val rfl rfl rfl (OpP.v (P_bit (op := .and) rfl rfl rfl rfl)) ?_
    refine L_val rfl rfl rfl (OpP.v (P_bit (op := .xor) rfl rfl rfl rfl)) ?_
    first | (refine L_val rfl rfl rfl (OpP.v (P_ixa0 (1) rfl ty_ar_131 rfl rfl (by first | rfl | omega) (by omega))) ?_) | (refine L_val rfl rfl rfl (OpP.v (P_ixa (1) rfl ty_ar_131 rfl rfl (by first | rfl | omega) (by omega))) ?_)
    refine L_val rfl rfl rfl (V_load rfl rfl ty_sc_108 (by first | exact Rd.blk .h0 rfl | exact Rd.blk .h1 rfl | exact Rd.blk .h2 rfl | exact Rd.blk .h3 rfl | exact Rd.blk .h4 rfl | exact Rd.blk .h5 rfl | exact Rd.blk .h6 rfl | exact Rd.blk .h7 rfl)) ?_
    first | (refine L_val rfl rfl rfl (OpP.v (P_ixa0 (2) rfl ty_ar_131 rfl rfl (by first | rfl | omega) (by omega))) ?_) | (refine L_val rfl rfl rfl (OpP.v (P_ixa (2) rfl ty_ar_131 rfl rfl (by first | rfl | omega) (by omega))) ?_)
    refine L_val rfl rfl rfl (V_load rfl rfl ty_sc_108 (by first | exact Rd.blk .h0 rfl | exact Rd.blk .h1 rfl | exact Rd.blk .h2 rfl | exact Rd.blk .h3 rfl | exact Rd.blk .h4 rfl | exact Rd.blk .h5 rfl | exact Rd.blk .h6 rfl | exact Rd.blk .h7 rfl)) ?_
    refine L_val rfl rfl rfl (OpP.v (P_bit (op := .and) rfl rfl rfl rfl)) ?_
    refine L_val rfl rfl rfl (OpP.v (P_bit (op := .xor) rfl rfl rfl rfl)) ?_
    refine L_val rfl rfl rfl (OpP.v (P_assign rfl rfl)) ?_
    refine L_nil ?_
    refine Q_then ?_
    refine R_seq ?_
    refine R_region ?_
    first | (refine L_val rfl rfl rfl (OpP.v (P_ixa0 (6) rfl ty_ar_131 rfl rfl (by first | rfl | omega) (by omega))) ?_) | (refine L_val rfl rfl rfl (OpP.v (P_ixa (6) rfl ty_ar_131 rfl rfl (by first | rfl | omega) (by omega))) ?_)
    refine L_val rfl rfl rfl (V_load rfl rfl ty_sc_108 (by first | exact Rd.blk .h0 rfl | exact Rd.blk .h1 rfl | exact Rd.blk .h2 rfl | exact Rd.blk .h3 rfl | exact Rd.blk .h4 rfl | exact Rd.blk .h5 rfl | exact Rd.blk .h6 rfl | exact Rd.blk .h7 rfl)) ?_
    first | (refine L_val rfl rfl rfl (OpP.v (P_ixa0 (7) rfl ty_ar_131 rfl rfl (by first | rfl | omega) (by omega))) ?_) | (refine L_val rfl rfl rfl (OpP.v (P_ixa (7) rfl ty_ar_131 rfl rfl (by first | rfl | omega) (by omega))) ?_)
    refine L_op rfl (W_store rfl rfl rfl rfl ty_sc_108 rfl .h0 (by simp [ints]) ?_)
    refine L_nil ?_
    refine Q_then ?_
    refine R_seq ?_
    refine R_region ?_
    first | (refine L_val rfl rfl rfl (OpP.v (P_ixa0 (5) rfl ty_ar_131 rfl rfl (by first | rfl | omega) (by omega))) ?_) | (refine L_val rfl rfl rfl (OpP.v (P_ixa (5) rfl ty_ar_131 rfl rfl (by first | rfl | omega) (by omega))) ?_)
    refine L_val rfl rfl rfl (V_load rfl rfl ty_sc_108 (by first | exact Rd.blk .h0 rfl | exact Rd.blk .h1 rfl | exact Rd.blk .h2 rfl | exact Rd.blk .h3 rfl | exact Rd.blk .h4 rfl | exact Rd.blk .h5 rfl | exact Rd.blk .h6 rfl | exact Rd.blk .h7 rfl)) ?_
    first | (refine L_val rfl rfl rfl (OpP.v (P_ixa0 (6) rfl ty_ar_131 rfl rfl (by first | rfl | omega) (by omega))) ?_) | (refine L_val rfl rfl rfl (OpP.v (P_ixa (6) rfl ty_ar_131 rfl rfl (by first | rfl | omega) (by omega))) ?_)
    refine L_op rfl (W_store rfl rfl rfl rfl ty_sc_108 rfl .h0 (by simp [ints]) ?_)
    refine L_nil ?_
    refine Q_then ?_
    refine R_seq ?_
    refine R_region ?_
    first | (refine L_val rfl rfl rfl (OpP.v (P_ixa0 (4) rfl ty_ar_131 rfl rfl (by first | rfl | omega) (by omega))) ?_) | (refine L_val rfl rfl rfl (OpP.v (P_ixa (4) rfl ty_ar_131 rfl rfl (by first | rfl | omega) (by omega))) ?_)
    refine L_val rfl rfl rfl (V_load rfl rfl ty_sc_108 (by first | exact Rd.blk .h0 rfl | exact Rd.blk .h1 rfl | exact Rd.blk .h2 rfl | exact Rd.blk .h3 rfl | exact Rd.blk .h4 rfl | exact Rd.blk .h5 rfl | exact Rd.blk .h6 rfl | exact Rd.blk .h7 rfl)) ?_
    first | (refine L_val rfl rfl rfl (OpP.v (P_ixa0 (5) rfl ty_ar_131 rfl rfl (by first | rfl | omega) (by omega))) ?_) | (refine L_val rfl rfl rfl (OpP.v (P_ixa (5) rfl ty_ar_131 rfl rfl (by first | rfl | omega) (by omega))) ?_)
    refine L_op rfl (W_store rfl rfl rfl rfl ty_sc_108 rfl .h0 (by simp [ints]) ?_)
    refine L_nil ?_
    refine Q_then ?_
    refine R_seq ?_
    refine R_region ?_
    first | (refine L_val rfl rfl rfl (OpP.v (P_ixa0 (3) rfl ty_ar_131 rfl rfl (by first | rfl | omega) (by omega))) ?_) | (refine L_val rfl rfl rfl (OpP.v (P_ixa (3) rfl ty_ar_131 rfl rfl (by first | rfl | omega) (by omega))) ?_)
    refine L_val rfl rfl rfl (V_load rfl rfl ty_sc_108 (by first | exact Rd.blk .h0 rfl | exact Rd.blk .h1 rfl | exact Rd.blk .h2 rfl | exact Rd.blk .h3 rfl | exact Rd.blk .h4 rfl | exact Rd.blk .h5 rfl | exact Rd.blk .h6 rfl | exact Rd.blk .h7 rfl)) ?_
    refine L_val rfl rfl rfl (OpP.v (P_move rfl rfl)) ?_
    refine L_val rfl rfl rfl (OpP.v (P_add rfl rfl rfl)) ?_
    first | (refine L_val rfl rfl rfl (OpP.v (P_ixa0 (4) rfl ty_ar_131 rfl rfl (by first | rfl | omega) (by omega))) ?_) | (refine L_val rfl rfl rfl (OpP.v (P_ixa (4) rfl ty_ar_131 rfl rfl (by first | rfl | omega) (by omega))) ?_)
    refine L_op rfl (W_store rfl rfl rfl rfl ty_sc_108 rfl .h0 (by simp [ints]) ?_)
    refine L_nil ?_
    refine Q_then ?_
    refine R_seq ?_
    refine R_region ?_
    first | (refine L_val rfl rfl rfl (OpP.v (P_ixa0 (2) rfl ty_ar_131 rfl rfl (by first | rfl | omega) (by omega))) ?_) | (refine L_val rfl rfl rfl (OpP.v (P_ixa (2) rfl ty_ar_131 rfl rfl (by first | rfl | omega) (by omega))) ?_)
    refine L_val rfl rfl rfl (V_load rfl rfl ty_sc_108 (by first | exact Rd.blk .h0 rfl | exact Rd.blk .h1 rfl | exact Rd.blk .h2 rfl | exact Rd.blk .h3 rfl | exact Rd.blk .h4 rfl | exact Rd.blk .h5 rfl | exact Rd.blk .h6 rfl | exact Rd.blk .h7 rfl)) ?_
    first | (refine L_val rfl rfl rfl (OpP.v (P_ixa0 (3) rfl ty_ar_131 rfl rfl (by first | rfl | omega) (by omega))) ?_) | (refine L_val rfl rfl rfl (OpP.v (P_ixa (3) rfl ty_ar_131 rfl rfl (by first | rfl | omega) (by omega))) ?_)
    refine L_op rfl (W_store rfl rfl rfl rfl ty_sc_108 rfl .h0 (by simp [ints]) ?_)
    refine L_nil ?_
    refine Q_then ?_
    refine R_seq ?_
    refine R_region ?_
    first | (refine L_val rfl rfl rfl (OpP.v (P_ixa0 (1) rfl ty_ar_131 rfl rfl (by first | rfl | omega) (by omega))) ?_) | (refine L_val rfl rfl rfl (OpP.v (P_ixa (1) rfl ty_ar_131 rfl rfl (by first | rfl | omega) (by omega))) ?_)
    refine L_val rfl rfl rfl (V_load rfl rfl ty_sc_108 (by first | exact Rd.blk .h0 rfl | exact Rd.blk .h1 rfl | exact Rd.blk .h2 rfl | exact Rd.blk .h3 rfl | exact Rd.blk .h4 rfl | exact Rd.blk .h5 rfl | exact Rd.blk .h6 rfl | exact Rd.blk .h7 rfl)) ?_
    first | (refine L_val rfl rfl rfl (OpP.v (P_ixa0 (2) rfl ty_ar_131 rfl rfl (by first | rfl | omega) (by omega))) ?_) | (refine L_val rfl rfl rfl (OpP.v (P_ixa (2) rfl ty_ar_131 rfl rfl (by first | rfl | omega) (by omega))) ?_)
    refine L_op rfl (W_store rfl rfl rfl rfl ty_sc_108 rfl .h0 (by simp [ints]) ?_)
    refine L_nil ?_
    refine Q_then ?_
    refine R_seq ?_
    refine R_region ?_
    first | (refine L_val rfl rfl rfl (OpP.v (P_ixa0 (0) rfl ty_ar_131 rfl rfl (by first | rfl | omega) (by omega))) ?_) | (refine L_val rfl rfl rfl (OpP.v (P_ixa (0) rfl ty_ar_131 rfl rfl (by first | rfl | omega) (by omega))) ?_)
    refine L_val rfl rfl rfl (V_load rfl rfl ty_sc_108 (by first | exact Rd.blk .h0 rfl | exact Rd.blk .h1 rfl | exact Rd.blk .h2 rfl | exact Rd.blk .h3 rfl | exact Rd.blk .h4 rfl | exact Rd.blk .h5 rfl | exact Rd.blk .h6 rfl | exact Rd.blk .h7 rfl)) ?_
    first | (refine L_val rfl rfl rfl (OpP.v (P_ixa0 (1) rfl ty_ar_131 rfl rfl (by first | rfl | omega) (by omega))) ?_) | (refine L_val rfl rfl rfl (OpP.v (P_ixa (1) rfl ty_ar_131 rfl rfl (by first | rfl | omega) (by omega))) ?_)
    refine L_op rfl (W_store rfl rfl rfl rfl ty_sc_108 rfl .h0 (by simp [ints]) ?_)
    refine L_nil ?_
    refine Q_then ?_
    refine R_region ?_
    refine L_val rfl rfl rfl (OpP.v (P_move rfl rfl)) ?_
    refine L_val rfl rfl rfl (OpP.v (P_move rfl rfl)) ?_
    refine L_val rfl rfl rfl (OpP.v (P_add rfl rfl rfl)) ?_
    refine L_val rfl rfl rfl (OpP.v (P_move rfl rfl)) ?_
    refine L_val rfl rfl rfl (OpP.v (P_add rfl rfl rfl)) ?_
    refine E_as (t := 207) (v' := .int .u32 (addW _ (addW _ _))) rfl (congrArg (Value.int .u32) (addW_assoc _ _ _)) ?_
    first | (refine L_val rfl rfl rfl (OpP.v (P_ixa0 (0) rfl ty_ar_131 rfl rfl (by first | rfl | omega) (by omega))) ?_) | (refine L_val rfl rfl rfl (OpP.v (P_ixa (0) rfl ty_ar_131 rfl rfl (by first | rfl | omega) (by omega))) ?_)
    refine L_op rfl (W_store rfl rfl rfl rfl ty_sc_108 rfl .h0 (by simp [ints]) ?_)
    refine L_nil ?_
    refine Q_block ?_
    refine Q_then ?_
    refine R_region ?_
    refine L_val rfl rfl rfl (OpP.v (P_move rfl rfl)) ?_
    first | (refine L_val rfl rfl rfl (OpP.v (P_addN rfl rfl rfl (by simp only [fits]; omega))) ?_) | (refine L_val rfl rfl rfl (OpP.v (P_add rfl rfl rfl)) ?_)
    refine L_val rfl rfl rfl (OpP.v (P_assign rfl rfl)) ?_
    refine L_nil ?_
    refine E_nat (t := 11) (n := k + 1) rfl (by omega) ?_
    exact Q_round (k + 1) (by omega) (by omega) (by repeat (first | exact .nil | refine .cons rfl ?_)) (by rw [rnds, e8]; exact Weak.refl _)
   ·skip
    refine R_exit ?_
    refine Q_then_exit ?_
    refine Q_then_exit ?_
    refine Q_block_eq ?_
    refine St.env (.cons (t := 2) rfl (.cons (t := 4) rfl (.cons (t := 10) rfl .nil))) ?_
    refine Q_then ?_
    refine R_seq ?_
    refine R_seq ?_
    refine R_region ?_
    refine L_val rfl rfl rfl (OpP.v (P_assign rfl rfl)) ?_
    refine L_nil ?_
    refine Q_then ?_
    refine R_block ?_
    obtain rfl : k = 64 := by omega
    rw [← e8]
    refine R_loop (G := Nat) (fun k => [(2, .pointer (some ⟨b2, 0, none⟩)), (4, .pointer (some ⟨b4, 0, none⟩)), (10, .pointer (some ⟨b10, 0, none⟩)), (17, .int .i64 (k : Int))]) (fun k => [blk b10 (ints .u32 (rnds addsK (sch2 (sch1 p 16) 48) s 64)) 131, blk b5 (ints .u32 (sch2 (sch1 p 16) 48)) 208, blk b4 (List.replicate 8 (.int .u32 0)) 131, blk b2 (ints .u32 (fin8 s (rnds addsK (sch2 (sch1 p 16) 48) s 64) k)) 131]) (fun k => k ≤ 8) (fun k => 8 - k) (0) (by omega) (by repeat (first | exact .nil | refine .cons rfl ?_)) (Weak.refl _) ?_
    intro k hk
    have hf : (fin8 s (rnds addsK (sch2 (sch1 p 16) 48) s 64) k).length = 8 := by rw [fin8_length, hs]
    have hr : (rnds addsK (sch2 (sch1 p 16) 48) s 64).length = 8 := by rw [rnds_length, hs]
    refine R_seq ?_
    refine R_seq ?_
    refine R_region ?_
    refine L_val rfl rfl rfl (OpP.v (P_move rfl rfl)) ?_
    refine L_val rfl rfl rfl (OpP.v (P_lss rfl rfl rfl)) ?_
    refine L_nil ?_
    refine Q_then ?_
    refine R_condP rfl (fun hlt4 => ?_) (fun hlt4 => ?_)
    ·skip
     refine R_skip ?_
     refine Q_then ?_
     refine R_seq ?_
     refine R_block ?_
     refine R_open [(0, 0), (1, 0), (2, 0), (3, 1), (4, 0), (5, 0), (6, 1), (7, 0), (8, 0), (9, 3)] mixed (by kernel_rfl) (QOk.block (QOk.then (QOk.then (QOk.block (QOk.then QOk.body))))) ?_
     refine O_pure rfl rfl rfl rfl (P_move rfl rfl) ?_
     refine O_pure rfl rfl rfl rfl (P_move rfl rfl) ?_
     first | (refine O_pure rfl rfl rfl rfl (P_ixa0 (k) rfl ty_ar_131 rfl rfl (by first | rfl | omega) (by omega)) ?_) | (refine O_pure rfl rfl rfl rfl (P_ixa (k) rfl ty_ar_131 rfl rfl (by first | rfl | omega) (by omega)) ?_)
     refine O_val rfl rfl rfl rfl (V_load rfl rfl ty_sc_108 (Rd.blk .h3 (ints_at (by omega)))) ?_
     refine O_pure rfl rfl rfl rfl (P_move rfl rfl) ?_
     first | (refine O_pure rfl rfl rfl rfl (P_ixa0 (k) rfl ty_ar_131 rfl rfl (by first | rfl | omega) (by omega)) ?_) | (refine O_pure rfl rfl rfl rfl (P_ixa (k) rfl ty_ar_131 rfl rfl (by first | rfl | omega) (by omega)) ?_)
     refine O_val rfl rfl rfl rfl (V_load rfl rfl ty_sc_108 (Rd.blk .h0 (ints_at (by omega)))) ?_
     refine O_pure rfl rfl rfl rfl (P_add rfl rfl rfl) ?_
     first | (refine O_pure rfl rfl rfl rfl (P_ixa0 (k) rfl ty_ar_131 rfl rfl (by first | rfl | omega) (by omega)) ?_) | (refine O_pure rfl rfl rfl rfl (P_ixa (k) rfl ty_ar_131 rfl rfl (by first | rfl | omega) (by omega)) ?_)
     refine O_new rfl rfl (W_store rfl rfl rfl rfl ty_sc_108 rfl .h3 (by rw [ints_length, hf]; omega) (K_new ?_))
     rw [ints_set]
     refine O_nil ?_
     refine Q_block ?_
     refine Q_then ?_
     refine R_region ?_
     refine L_val rfl rfl rfl (OpP.v (P_move rfl rfl)) ?_
     first | (refine L_val rfl rfl rfl (OpP.v (P_addN rfl rfl rfl (by simp only [fits]; omega))) ?_) | (refine L_val rfl rfl rfl (OpP.v (P_add rfl rfl rfl)) ?_)
     refine L_val rfl rfl rfl (OpP.v (P_assign rfl rfl)) ?_
     refine L_nil ?_
     refine E_nat (t := 17) (n := k + 1) rfl (by omega) ?_
     exact Q_round (k + 1) (by omega) (by omega) (by repeat (first | exact .nil | refine .cons rfl ?_)) (Weak.refl _)
    ·skip
     refine R_exit ?_
     refine Q_then_exit ?_
     refine Q_then_exit ?_
     refine Q_block_eq ?_
     refine St.env (.cons (t := 2) rfl (.cons (t := 4) rfl .nil)) ?_
     refine Q_then ?_
     refine R_seq ?_
     refine R_region ?_
     obtain rfl : k = 8 := by omega
     refine L_val rfl rfl rfl (V_loadAgg rfl rfl ty_ag_131 (Rds.blk .h3) (by rw [ints_length, hf])) ?_
     refine L_op rfl (W_storeAll rfl rfl rfl rfl ty_ag_131 (by rw [ints_length, hf]) (ints_one) .h2 (by rw [ints_length, hf]; rfl) ?_)
     refine L_nil ?_
     refine St.env (.cons (t := 4) rfl .nil) ?_
     refine Q_then ?_
     refine R_ret ?_
     exact R_endV rfl rfl (.cell rfl (Rds.loadVar ty_ag_131 (Rds.blk .h2) (by rw [ints_length, hf])) .nil) (rfl)
end Go.Proofs.YtfhjhaogmdaepaaGreatDoor

/- Walks: the reference's Sum, the texts under a digest. Printed by gen.py. -/
set_option linter.unusedVariables false
set_option linter.unusedSimpArgs false
set_option maxRecDepth 100000
namespace Go.Proofs.YtfhjhaogmdaepaaGreatDoor
open Go Go.RowKit Go.Proofs
theorem tmodN (a b : Nat) : Int.tmod (a : Int) (b : Int) = ((a % b : Nat) : Int) := rfl
theorem quoN (a b : Nat) (h : a ≤ 9223372036854775807) : IntKind.i64.wrap (Int.tdiv (a : Int) (b : Int)) = ((a / b : Nat) : Int) := by
 have e : Int.tdiv (a : Int) (b : Int) = ((a / b : Nat) : Int) := rfl
 have hle : a / b ≤ a := Nat.div_le_self _ _
 rw [e]
 generalize a / b = q at hle
 rw [wrap_fits (by simp only [fits]; omega)]
theorem ownS.to {T sz n n' : Nat} {v : Value} {cs cs' : List Value} {rs : List HP} (hn : n = n') (hc : cs = cs') : Weak (ownS T sz v n cs :: rs) (ownS T sz v n' cs' :: rs) := by subst hn; subst hc; exact Weak.refl _
theorem Sn.rowAt {C : Cx} {F : Fx} {rs : List HP} {b j : Nat} {cs us : List Value} (s : Sn C F rs (some ⟨b, j, none⟩) cs) (k : Nat) (hu : ∀ (i : Nat) (v : Value), us[i]? = some v → cs[k + i]? = some v) : ∀ w, Now C F rs w → RowAt w ⟨b, j + k, none⟩ us := fun w n i v hv => by
 obtain ⟨ad, e, hc⟩ := s.rw_ w n (k + i) v (hu i v hv)
 rw [Option.some.injEq] at e
 subst e
 rw [add_zero_off] at hc ⊢
 rwa [Nat.add_assoc]
theorem ints_part (k : IntKind) (xs : List Int) (o n i : Nat) (v : Value) (h : (ints k ((xs.drop o).take n))[i]? = some v) : (ints k xs)[o + i]? = some v := by
 rw [← ints_take, ← ints_drop, List.getElem?_take] at h
 split at h
 ·rwa [List.getElem?_drop] at h
 ·cases h
theorem ints_part2 (k : IntKind) (xs : List Int) (junk : List Value) (o n i : Nat) (v : Value) (h : (ints k ((xs.drop o).take n))[i]? = some v) : (ints k xs ++ junk)[o + i]? = some v := by
 have h2 := ints_part k xs o n i v h
 rw [List.getElem?_append_left (List.getElem?_eq_some_iff.1 h2).1]; exact h2
/-- The end of the text: what is left over, a mark, zeros, the length. -/
def tailB (xs : List Int) : List Int := rem64 xs ++ [128] ++ List.replicate (padZ xs.length) 0 ++ lenB xs.length
theorem tailB_length (xs : List Int) : (tailB xs).length = xs.length % 64 + 1 + padZ xs.length + 8 := by
 simp only [tailB, List.length_append, List.length_cons, List.length_nil, List.length_replicate, lenB_length, rem64_length]
theorem tailB_64 (xs : List Int) : (tailB xs).length % 64 = 0 := by rw [tailB_length, padZ]; omega
theorem cmp_padded (xs : List Int) : cmpN ((tailB xs).length / 64) (cmp xs) (tailB xs) = cmp (padded xs) := by
 have e : padded xs = xs.take (64 * (xs.length / 64)) ++ tailB xs := by
  rw [tailB, rem64, padded]
  simp only [← List.append_assoc, List.take_append_drop]
 have hl : (padded xs).length = 64 * (xs.length / 64) + (tailB xs).length := by
  rw [e, List.length_append, List.length_take]; omega
 have h64 := tailB_64 xs
 show cmpN _ _ _ = cmpN ((padded xs).length / 64) beginK (padded xs)
 rw [hl, show (64 * (xs.length / 64) + (tailB xs).length) / 64 = xs.length / 64 + (tailB xs).length / 64 by omega, cmpN_add, e, List.drop_left' (by rw [List.length_take]; omega)]
 congr 1
 rw [cmpN_append _ _ _ _ (by rw [List.length_take]; omega)]
 conv => lhs; rw [cmp, ← List.take_append_drop (64 * (xs.length / 64)) xs]
 rw [List.take_append_drop]
 conv => lhs; arg 3; rw [← List.take_append_drop (64 * (xs.length / 64)) xs]
 rw [cmpN_append _ _ _ _ (by rw [List.length_take]; omega)]
theorem lenB_next (n j : Nat) (h : j < 8) : (lenB n).take (j + 1) = (lenB n).take j ++ [lenF n j] := by
 rw [List.take_add_one]
 congr 1
 rw [List.getElem?_eq_getElem (by rw [lenB_length]; exact h)]
 simp [lenB, lenF]
theorem numB_next (n : Int) (j : Nat) (h : j < 8) : (numB n).take (j + 1) = (numB n).take j ++ [numF n j] := by
 rw [List.take_add_one]
 congr 1
 rw [List.getElem?_eq_getElem (by rw [numB_length]; exact h)]
 simp [numB]
set_option maxHeartbeats 1000000 in
theorem rsum_ok {gl : Nat → Obj} (hG : GlobsR gl) (base : Option Addr) (c : Nat) (xs : List Int) (hc : xs.length ≤ c) (hmax : xs.length ≤ 9223372036854775000) : SpecV (cx gl) 17 [.slice base xs.length c] (fun w => Row w base (ints .u8 xs)) (.agg (ints .u8 (sha xs)).toArray) := by
 refine Spec.enter (C := cx gl) Tryz.func17 rfl 89 rfl rfl fun w0 h0 hsep hsub hpre => ?_
 obtain rfl : h0 = Heap.none := hsep
 show St (cx gl) _ [(0, .slice base xs.length c)] _ _
 refine R_seq ?_
 refine R_region ?_
 refine L_op rfl (W_alloc rfl rfl rfl ty_ze_29 fun b2 => ?_)
 refine L_nil ?_
 refine Q_then ?_
 refine R_seq ?_
 refine R_region ?_
 refine L_val rfl rfl rfl (OpP.v (P_buildArr rfl ty_ar_131 ty_ze_131 rfl rfl rfl rfl (by simp [Value.oneCell']))) ?_
 refine E_as (t := 11) (v' := .agg (ints .u32 beginK).toArray) rfl rfl ?_
 refine L_op rfl (W_alloc rfl rfl rfl ty_ze_131 fun b3 => ?_)
 refine L_op rfl (W_storeAll rfl rfl rfl rfl ty_ag_131 (rfl) (ints_one) .h0 (rfl) ?_)
 refine L_nil ?_
 refine St.env (.cons (t := 0) rfl (.cons (t := 2) rfl (.cons (t := 3) rfl .nil))) ?_
 refine Q_then ?_
 refine R_seq ?_
 refine R_region ?_
 refine L_val rfl rfl rfl (OpP.v (P_assign rfl rfl)) ?_
 refine L_nil ?_
 refine Q_then ?_
 refine R_seq ?_
 refine R_block ?_
 refine R_loop (G := Nat) (fun k => [(0, .slice base xs.length c), (2, .pointer (some ⟨b2, 0, none⟩)), (3, .pointer (some ⟨b3, 0, none⟩)), (4, .int .i64 ((64 * k : Nat) : Int))]) (fun k => [blk b3 (ints .u32 (cmpN k beginK xs)) 131, blk b2 (List.replicate 32 (.int .u8 0)) 29]) (fun k => 64 * k ≤ xs.length) (fun k => xs.length - 64 * k) (0) (by omega) (by repeat (first | exact .nil | refine .cons rfl ?_)) (Weak.refl _) ?_
 intro k hk
 refine R_seq ?_
 refine R_seq ?_
 refine R_region ?_
 refine L_val rfl rfl rfl (OpP.v (P_move rfl rfl)) ?_
 first | (refine L_val rfl rfl rfl (OpP.v (P_addN rfl rfl rfl (by simp only [fits]; omega))) ?_) | (refine L_val rfl rfl rfl (OpP.v (P_add rfl rfl rfl)) ?_)
 refine L_val rfl rfl rfl (OpP.v (P_move rfl rfl)) ?_
 refine L_val rfl rfl rfl (OpP.v (P_len rfl ty_sl_48 rfl)) ?_
 refine L_val rfl rfl rfl (OpP.v (P_leq rfl rfl rfl)) ?_
 refine L_nil ?_
 refine Q_then ?_
 refine R_condP rfl (fun hle => ?_) (fun hle => ?_)
 ·skip
  obtain ⟨pb, pj, rfl, hrow⟩ := hpre.some_ (by rw [ints_length]; omega)
  have hpl : ((xs.drop (64 * k)).take 64).length = 64 := by rw [List.length_take, List.length_drop]; omega
  refine R_skip ?_
  refine Q_then ?_
  refine R_block ?_
  refine R_seq ?_
  refine R_open [(0, 1), (1, 0), (2, 0), (3, 0), (4, 0), (5, 0), (6, 2), (7, 3)] mixed (by kernel_rfl) (QOk.then (QOk.block (QOk.then (QOk.block (QOk.then QOk.body))))) ?_
  refine O_val rfl rfl rfl rfl (V_loadAgg rfl rfl ty_ag_131 (Rds.blk .h0) (by rw [ints_length, cmpN_length]; rfl)) ?_
  refine O_pure rfl rfl rfl rfl (P_move rfl rfl) ?_
  refine O_pure rfl rfl rfl rfl (P_move rfl rfl) ?_
  refine O_pure rfl rfl rfl rfl (P_move rfl rfl) ?_
  first | (refine O_pure rfl rfl rfl rfl (P_addN rfl rfl rfl (by simp only [fits]; omega)) ?_) | (refine O_pure rfl rfl rfl rfl (P_add rfl rfl rfl) ?_)
  refine O_pure rfl rfl rfl rfl (P_slice (64 * k) (64 * k + 64) rfl ty_sl_48 rfl ⟨_, rfl⟩ ⟨_, rfl⟩ (by omega) (by omega)) ?_
  refine E_as (t := 22) (v' := .slice (some ⟨pb, pj + 64 * k, none⟩) 64 (c - 64 * k)) rfl (by unfold sliced; rw [if_neg (by omega), Option.map_some, add_zero_off, Nat.mul_one, Nat.add_sub_cancel_left]) ?_
  refine O_keep rfl rfl (W_callV rfl rfl rfl rfl fn_ca_65 (block_ok hG.refAdds (cmpN k beginK xs) ((xs.drop (64 * k)).take 64) (by rw [cmpN_length]; rfl) hpl pb (pj + 64 * k) (c - 64 * k)) ((Sn.row hpre rfl).rowAt (64 * k) fun i v hv => ints_part _ _ _ _ i v hv) (K_keep (Weak.refl _) ?_))
  refine O_new rfl rfl (W_storeAll rfl rfl rfl rfl ty_ag_131 (by rw [ints_length, mixF_length, cmpN_length]; rfl) (ints_one) .h0 (by rw [ints_length, ints_length, mixF_length]) (K_new ?_))
  refine O_nil ?_
  refine Q_then ?_
  refine R_region ?_
  refine L_val rfl rfl rfl (OpP.v (P_move rfl rfl)) ?_
  first | (refine L_val rfl rfl rfl (OpP.v (P_addN rfl rfl rfl (by simp only [fits]; omega))) ?_) | (refine L_val rfl rfl rfl (OpP.v (P_add rfl rfl rfl)) ?_)
  refine L_val rfl rfl rfl (OpP.v (P_assign rfl rfl)) ?_
  refine L_nil ?_
  refine Q_block ?_
  refine E_nat (t := 4) (n := 64 * (k + 1)) rfl (by omega) ?_
  exact Q_round (k + 1) (by omega) (by omega) (by repeat (first | exact .nil | refine .cons rfl ?_)) (by rw [cmpN_succ]; exact Weak.refl _)
 ·skip
  obtain rfl : k = xs.length / 64 := by omega
  refine R_exit ?_
  refine Q_then_exit ?_
  refine Q_then_exit ?_
  refine Q_block_eq ?_
  refine St.env (.cons (t := 0) rfl (.cons (t := 2) rfl (.cons (t := 3) rfl (.cons (t := 4) rfl .nil)))) ?_
  refine Q_then ?_
  refine R_seq ?_
  refine R_region ?_
  refine L_val rfl rfl rfl (OpP.v (P_assign rfl rfl)) ?_
  refine St.res (rs' := [ownS 5 1 (.slice none 0 0) 0 [], blk b3 (ints .u32 (cmp xs)) 131, blk b2 (List.replicate 32 (.int .u8 0)) 29]) (Weak.newNil) ?_
  have hsn : ∀ rs, Sn (cx gl) ⟨89, [], w0, Heap.none⟩ rs (if c = 64 * (xs.length / 64) then base else base.map (·.add (64 * (xs.length / 64) * 1))) (ints .u8 (rem64 xs)) := fun rs => by
     have h := (Sn.row (C := cx gl) (F := ⟨89, [], w0, Heap.none⟩) (rs := rs) hpre rfl).sliced (sz := 1) (p := 64 * (xs.length / 64)) (q := xs.length) hc (.inr (by rw [ints_length]; omega))
     simp only [Nat.mul_one, ints_drop, ints_take] at h ⊢
     rwa [List.take_of_length_le (by rw [List.length_drop]; omega)] at h
  refine L_nil ?_
  refine Q_then ?_
  refine R_seq ?_
  refine R_region ?_
  refine L_val rfl rfl rfl (OpP.v (P_move rfl rfl)) ?_
  refine L_val rfl rfl rfl (OpP.v (P_move rfl rfl)) ?_
  refine L_val rfl rfl rfl (OpP.v (P_move rfl rfl)) ?_
  refine L_val rfl rfl rfl (OpP.v (P_slice (64 * (xs.length / 64)) xs.length rfl ty_sl_48 rfl ⟨_, rfl⟩ rfl (by omega) (by omega))) ?_
  refine L_op rfl (W_append (p := []) rfl rfl rfl ty_sl_48 ty_ap_48 ty_src_48 rfl rfl rfl (Src.row (hsn _).rw_ (by rw [ints_length, rem64_length]; omega) ints_one) (by omega) (by simp only [maxLen]; omega) fun v30 => ?_)
  refine St.res (rs' := [ownS 5 1 v30 (xs.length % 64) (ints .u8 (rem64 xs)), blk b3 (ints .u32 (cmp xs)) 131, blk b2 (List.replicate 32 (.int .u8 0)) 29]) (ownS.to (by omega) (by simp)) ?_
  refine L_val rfl rfl rfl (OpP.v (P_assign rfl rfl)) ?_
  refine L_nil ?_
  refine St.env (.cons (t := 0) rfl (.cons (t := 2) rfl (.cons (t := 3) rfl (.cons (t := 5) rfl .nil)))) ?_
  refine Q_then ?_
  refine R_seq ?_
  refine R_region ?_
  refine L_val rfl rfl rfl (OpP.v (P_move rfl rfl)) ?_
  refine L_op rfl (W_lit (z := .nilIface) (ints .u8 [128]) rfl rfl rfl ty_sl_48 ty_lz_48 rfl rfl rfl (by decide) (by decide) (by simp [Value.cells]) (rfl) fun b32 => ?_)
  refine L_op rfl (W_append (p := [_]) rfl rfl rfl ty_sl_48 ty_ap_48 ty_src_48 rfl rfl rfl (Src.slice (sz := 1) (news := ints .u8 [128]) (Rds.blk .h0) rfl ints_one) (by omega) (by simp only [maxLen]; omega) fun v33 => ?_)
  refine St.res (rs' := [ownS 5 1 v33 (xs.length % 64 + 1) (ints .u8 (rem64 xs ++ [128])), blk b3 (ints .u32 (cmp xs)) 131, blk b2 (List.replicate 32 (.int .u8 0)) 29]) (Weak.drop (ownS.to rfl (by rw [ints_append]))) ?_
  refine L_val rfl rfl rfl (OpP.v (P_assign rfl rfl)) ?_
  refine L_nil ?_
  refine St.env (.cons (t := 0) rfl (.cons (t := 2) rfl (.cons (t := 3) rfl (.cons (t := 5) rfl .nil)))) ?_
  refine Q_then ?_
  refine R_seq ?_
  refine R_block ?_
  refine R_loop (G := Value × Nat) (fun g => [(0, .slice base xs.length c), (2, .pointer (some ⟨b2, 0, none⟩)), (3, .pointer (some ⟨b3, 0, none⟩)), (5, g.1)]) (fun g => [ownS 5 1 g.1 (xs.length % 64 + 1 + g.2) (ints .u8 (rem64 xs ++ [128] ++ List.replicate g.2 0)), blk b3 (ints .u32 (cmp xs)) 131, blk b2 (List.replicate 32 (.int .u8 0)) 29]) (fun g => g.2 ≤ padZ xs.length) (fun g => padZ xs.length - g.2) ((v33, 0)) (Nat.zero_le _) (by repeat (first | exact .nil | refine .cons rfl ?_)) (ownS.to rfl (by simp)) ?_
  rintro ⟨v, k⟩ hk
  simp only at hk
  show St (cx gl) _ [(0, .slice base xs.length c), (2, .pointer (some ⟨b2, 0, none⟩)), (3, .pointer (some ⟨b3, 0, none⟩)), (5, v)] [ownS 5 1 v (xs.length % 64 + 1 + k) (ints .u8 (rem64 xs ++ [128] ++ List.replicate k 0)), blk b3 (ints .u32 (cmp xs)) 131, blk b2 (List.replicate 32 (.int .u8 0)) 29] _
  refine R_seq ?_
  refine R_seq ?_
  refine R_region ?_
  refine L_val rfl rfl rfl (OpP.v (P_move rfl rfl)) ?_
  refine L_val rfl rfl rfl (V_lenOwn .h0 rfl ty_sl_48 rfl) ?_
  refine L_val rfl rfl rfl (OpP.v (P_rem rfl rfl rfl (by decide))) ?_
  refine E_as (t := 36) (v' := .int .i64 (((xs.length % 64 + 1 + k) % 64 : Nat) : Int)) rfl (congrArg (Value.int .i64) (tmodN _ 64)) ?_
  refine L_val rfl rfl rfl (OpP.v (P_neq rfl rfl rfl)) ?_
  refine L_nil ?_
  refine Q_then ?_
  refine R_condP rfl (fun hne => ?_) (fun hne => ?_)
  ·skip
   refine R_skip ?_
   refine Q_then ?_
   refine R_block ?_
   refine R_region ?_
   refine L_val rfl rfl rfl (OpP.v (P_move rfl rfl)) ?_
   refine L_op rfl (W_lit (z := .nilIface) (ints .u8 [0]) rfl rfl rfl ty_sl_48 ty_lz_48 rfl rfl rfl (by decide) (by decide) (by simp [Value.cells]) (rfl) fun b39 => ?_)
   refine L_op rfl (W_append (p := [_]) rfl rfl rfl ty_sl_48 ty_ap_48 ty_src_48 rfl rfl rfl (Src.slice (sz := 1) (news := ints .u8 [0]) (Rds.blk .h0) rfl ints_one) (by unfold padZ at *; omega) (by simp only [maxLen]; unfold padZ at *; omega) fun v40 => ?_)
   refine L_val rfl rfl rfl (OpP.v (P_assign rfl rfl)) ?_
   refine L_nil ?_
   refine Q_block ?_
   exact Q_round ((v40, k + 1)) (by show k + 1 ≤ padZ xs.length; unfold padZ at *; omega) (by show padZ xs.length - (k + 1) < padZ xs.length - k; unfold padZ at *; omega) (by repeat (first | exact .nil | refine .cons rfl ?_)) (Weak.drop (ownS.to (by omega) (by rw [ints_append, List.replicate_succ', ← List.append_assoc])))
  ·skip
   obtain rfl : k = padZ xs.length := by unfold padZ at *; omega
   refine R_exit ?_
   refine Q_then_exit ?_
   refine Q_then_exit ?_
   refine Q_block_eq ?_
   refine St.env (.cons (t := 0) rfl (.cons (t := 2) rfl (.cons (t := 3) rfl (.cons (t := 5) rfl .nil)))) ?_
   refine Q_then ?_
   refine R_seq ?_
   refine R_region ?_
   refine L_val rfl rfl rfl (OpP.v (P_move rfl rfl)) ?_
   refine L_val rfl rfl rfl (OpP.v (P_len rfl ty_sl_48 rfl)) ?_
   refine L_val rfl rfl rfl (OpP.v (P_conv rfl ty_int_3 ty_int_24 rfl)) ?_
   refine L_val rfl rfl rfl (OpP.v (P_mul rfl rfl rfl)) ?_
   refine L_val rfl rfl rfl (OpP.v (P_assign rfl rfl)) ?_
   refine L_nil ?_
   refine St.env (.cons (t := 2) rfl (.cons (t := 3) rfl (.cons (t := 5) rfl (.cons (t := 6) rfl .nil)))) ?_
   refine Q_then ?_
   refine R_seq ?_
   refine R_seq ?_
   refine R_region ?_
   refine L_val rfl rfl rfl (OpP.v (P_assign rfl rfl)) ?_
   refine L_nil ?_
   refine Q_then ?_
   refine R_block ?_
   refine R_loop (G := Value × Nat) (fun g => [(2, .pointer (some ⟨b2, 0, none⟩)), (3, .pointer (some ⟨b3, 0, none⟩)), (5, g.1), (6, .int .u64 (IntKind.u64.wrap (IntKind.u64.wrap (xs.length : Int) * 8))), (7, .int .i64 (7 - (g.2 : Int)))]) (fun g => [ownS 5 1 g.1 (xs.length % 64 + 1 + padZ xs.length + g.2) (ints .u8 (rem64 xs ++ [128] ++ List.replicate (padZ xs.length) 0 ++ (lenB xs.length).take g.2)), blk b3 (ints .u32 (cmp xs)) 131, blk b2 (List.replicate 32 (.int .u8 0)) 29]) (fun g => g.2 ≤ 8) (fun g => 8 - g.2) ((v, 0)) (Nat.zero_le _) (by repeat (first | exact .nil | refine .cons rfl ?_)) (ownS.to rfl (by simp)) ?_
   rintro ⟨v, j⟩ hj
   simp only at hj
   show St (cx gl) _ [(2, .pointer (some ⟨b2, 0, none⟩)), (3, .pointer (some ⟨b3, 0, none⟩)), (5, v), (6, .int .u64 (IntKind.u64.wrap (IntKind.u64.wrap (xs.length : Int) * 8))), (7, .int .i64 (7 - (j : Int)))] [ownS 5 1 v (xs.length % 64 + 1 + padZ xs.length + j) (ints .u8 (rem64 xs ++ [128] ++ List.replicate (padZ xs.length) 0 ++ (lenB xs.length).take j)), blk b3 (ints .u32 (cmp xs)) 131, blk b2 (List.replicate 32 (.int .u8 0)) 29] _
   refine R_seq ?_
   refine R_seq ?_
   refine R_region ?_
   refine L_val rfl rfl rfl (OpP.v (P_move rfl rfl)) ?_
   refine L_val rfl rfl rfl (OpP.v (P_geq rfl rfl rfl)) ?_
   refine L_nil ?_
   refine Q_then ?_
   refine R_condP rfl (fun hge => ?_) (fun hge => ?_)
   ·skip
    refine R_skip ?_
    refine Q_then ?_
    refine R_seq ?_
    refine R_block ?_
    refine R_region ?_
    refine L_val rfl rfl rfl (OpP.v (P_move rfl rfl)) ?_
    refine L_val rfl rfl rfl (OpP.v (P_move rfl rfl)) ?_
    refine L_val rfl rfl rfl (OpP.v (P_move rfl rfl)) ?_
    first | (refine L_val rfl rfl rfl (OpP.v (P_mulN rfl rfl rfl (by simp only [fits]; omega))) ?_) | (refine L_val rfl rfl rfl (OpP.v (P_mul rfl rfl rfl)) ?_)
    refine L_val rfl rfl rfl (OpP.v (P_convN rfl ty_int_3 ty_int_133 rfl (by simp only [fits]; omega))) ?_
    refine L_val rfl rfl rfl (OpP.v (P_shr rfl rfl rfl (by omega))) ?_
    refine L_val rfl rfl rfl (OpP.v (P_conv rfl ty_int_24 ty_int_5 rfl)) ?_
    refine E_as (t := 55) (v' := .int .u8 (lenF xs.length j)) rfl (by unfold lenF; rw [show (56 : Int) - 8 * (j : Int) = 8 * (7 - (j : Int)) by omega]) ?_
    refine L_op rfl (W_lit (z := .nilIface) (ints .u8 [lenF xs.length j]) rfl rfl rfl ty_sl_48 ty_lz_48 rfl rfl rfl (by decide) (by decide) (by simp [Value.cells]) (rfl) fun b56 => ?_)
    refine L_op rfl (W_append (p := [_]) rfl rfl rfl ty_sl_48 ty_ap_48 ty_src_48 rfl rfl rfl (Src.slice (sz := 1) (news := ints .u8 [lenF xs.length j]) (Rds.blk .h0) rfl ints_one) (by unfold padZ at *; omega) (by simp only [maxLen]; unfold padZ at *; omega) fun v57 => ?_)
    refine L_val rfl rfl rfl (OpP.v (P_assign rfl rfl)) ?_
    refine L_nil ?_
    refine Q_block ?_
    refine Q_then ?_
    refine R_region ?_
    refine L_val rfl rfl rfl (OpP.v (P_move rfl rfl)) ?_
    first | (refine L_val rfl rfl rfl (OpP.v (P_subN rfl rfl rfl (by simp only [fits]; omega))) ?_) | (refine L_val rfl rfl rfl (OpP.v (P_sub rfl rfl rfl)) ?_)
    refine L_val rfl rfl rfl (OpP.v (P_assign rfl rfl)) ?_
    refine L_nil ?_
    refine E_as (t := 7) (v' := .int .i64 (7 - ((j + 1 : Nat) : Int))) rfl (by congr 1; omega) ?_
    exact Q_round ((v57, j + 1)) (by show j + 1 ≤ 8; omega) (by show 8 - (j + 1) < 8 - j; omega) (by repeat (first | exact .nil | refine .cons rfl ?_)) (Weak.drop (ownS.to (by omega) (by rw [ints_append, lenB_next _ _ (by omega), ← List.append_assoc])))
   ·skip
    obtain rfl : j = 8 := by omega
    refine St.res (rs' := [ownS 5 1 v ((tailB xs).length) (ints .u8 (tailB xs)), blk b3 (ints .u32 (cmp xs)) 131, blk b2 (List.replicate 32 (.int .u8 0)) 29]) (ownS.to (by rw [tailB_length]) (by rw [List.take_of_length_le (by rw [lenB_length]; omega)]; rfl)) ?_
    refine R_exit ?_
    refine Q_then_exit ?_
    refine Q_then_exit ?_
    refine Q_block_eq ?_
    refine St.env (.cons (t := 2) rfl (.cons (t := 3) rfl (.cons (t := 5) rfl .nil))) ?_
    refine Q_then ?_
    refine R_seq ?_
    refine R_seq ?_
    refine R_region ?_
    refine L_val rfl rfl rfl (OpP.v (P_assign rfl rfl)) ?_
    refine L_nil ?_
    refine Q_then ?_
    refine R_block ?_
    refine St.openOwn (p := []) (by rw [tailB_length]; omega) fun ob ocap junk hoc hol hov => ?_
    subst hov
    have ht64 := tailB_64 xs
    have htl : (tailB xs).length ≤ 200 := by rw [tailB_length, padZ]; omega
    refine R_loop (G := Nat) (fun k => [(2, .pointer (some ⟨b2, 0, none⟩)), (3, .pointer (some ⟨b3, 0, none⟩)), (5, .slice (some ⟨ob, 0, none⟩) (tailB xs).length ocap), (8, .int .i64 ((64 * k : Nat) : Int))]) (fun k => [blk ob (ints .u8 (tailB xs) ++ junk) 5, blk b3 (ints .u32 (cmpN k (cmp xs) (tailB xs))) 131, blk b2 (List.replicate 32 (.int .u8 0)) 29]) (fun k => 64 * k ≤ (tailB xs).length) (fun k => (tailB xs).length - 64 * k) (0) (by omega) (by repeat (first | exact .nil | refine .cons rfl ?_)) (Weak.refl _) ?_
    intro k hk
    refine R_seq ?_
    refine R_seq ?_
    refine R_region ?_
    refine L_val rfl rfl rfl (OpP.v (P_move rfl rfl)) ?_
    refine L_val rfl rfl rfl (OpP.v (P_move rfl rfl)) ?_
    refine L_val rfl rfl rfl (OpP.v (P_len rfl ty_sl_48 rfl)) ?_
    refine L_val rfl rfl rfl (OpP.v (P_lss rfl rfl rfl)) ?_
    refine L_nil ?_
    refine Q_then ?_
    refine R_condP rfl (fun hlt => ?_) (fun hlt => ?_)
    ·skip
     have hpl : (((tailB xs).drop (64 * k)).take 64).length = 64 := by rw [List.length_take, List.length_drop]; omega
     refine R_skip ?_
     refine Q_then ?_
     refine R_seq ?_
     refine R_block ?_
     refine R_open [(0, 1), (1, 0), (2, 0), (3, 0), (4, 0), (5, 0), (6, 2), (7, 3)] mixed (by kernel_rfl) (QOk.block (QOk.then (QOk.then (QOk.block (QOk.then QOk.body))))) ?_
     refine O_val rfl rfl rfl rfl (V_loadAgg rfl rfl ty_ag_131 (Rds.blk .h1) (by rw [ints_length, cmpN_length, cmp_length])) ?_
     refine O_pure rfl rfl rfl rfl (P_move rfl rfl) ?_
     refine O_pure rfl rfl rfl rfl (P_move rfl rfl) ?_
     refine O_pure rfl rfl rfl rfl (P_move rfl rfl) ?_
     first | (refine O_pure rfl rfl rfl rfl (P_addN rfl rfl rfl (by simp only [fits]; omega)) ?_) | (refine O_pure rfl rfl rfl rfl (P_add rfl rfl rfl) ?_)
     refine O_pure rfl rfl rfl rfl (P_slice (64 * k) (64 * k + 64) rfl ty_sl_48 rfl ⟨_, rfl⟩ ⟨_, rfl⟩ (by omega) (by omega)) ?_
     refine E_as (t := 69) (v' := .slice (some ⟨ob, 0 + 64 * k, none⟩) 64 (ocap - 64 * k)) rfl (by unfold sliced; rw [if_neg (by omega), Option.map_some, add_zero_off, Nat.mul_one, Nat.add_sub_cancel_left]) ?_
     refine O_keep rfl rfl (W_callV rfl rfl rfl rfl fn_ca_65 (block_ok hG.refAdds (cmpN k (cmp xs) (tailB xs)) (((tailB xs).drop (64 * k)).take 64) (by rw [cmpN_length, cmp_length]) hpl ob (0 + 64 * k) (ocap - 64 * k)) ((Sn.ofBlk .h0).rowAt (64 * k) fun i v hv => ints_part2 _ _ _ _ _ i v hv) (K_keep (Weak.refl _) ?_))
     refine O_new rfl rfl (W_storeAll rfl rfl rfl rfl ty_ag_131 (by rw [ints_length, mixF_length, cmpN_length, cmp_length]) (ints_one) .h1 (by rw [ints_length, ints_length, mixF_length]) (K_new ?_))
     refine O_nil ?_
     refine Q_block ?_
     refine Q_then ?_
     refine R_region ?_
     refine L_val rfl rfl rfl (OpP.v (P_move rfl rfl)) ?_
     first | (refine L_val rfl rfl rfl (OpP.v (P_addN rfl rfl rfl (by simp only [fits]; omega))) ?_) | (refine L_val rfl rfl rfl (OpP.v (P_add rfl rfl rfl)) ?_)
     refine L_val rfl rfl rfl (OpP.v (P_assign rfl rfl)) ?_
     refine L_nil ?_
     refine E_nat (t := 8) (n := 64 * (k + 1)) rfl (by omega) ?_
     exact Q_round (k + 1) (by omega) (by omega) (by repeat (first | exact .nil | refine .cons rfl ?_)) (by rw [cmpN_succ]; exact Weak.refl _)
    ·skip
     obtain rfl : k = (tailB xs).length / 64 := by omega
     rw [cmp_padded]
     refine R_exit ?_
     refine Q_then_exit ?_
     refine Q_then_exit ?_
     refine Q_block_eq ?_
     refine St.env (.cons (t := 2) rfl (.cons (t := 3) rfl .nil)) ?_
     refine Q_then ?_
     refine R_seq ?_
     refine R_region ?_
     refine L_op rfl (W_alloc rfl rfl rfl ty_ze_29 fun b9 => ?_)
     refine L_nil ?_
     refine Q_then ?_
     refine R_seq ?_
     refine R_seq ?_
     refine R_region ?_
     refine L_val rfl rfl rfl (OpP.v (P_assign rfl rfl)) ?_
     refine L_nil ?_
     refine Q_then ?_
     refine R_block ?_
     refine R_loop (G := Nat) (fun i => [(2, .pointer (some ⟨b2, 0, none⟩)), (3, .pointer (some ⟨b3, 0, none⟩)), (9, .pointer (some ⟨b9, 0, none⟩)), (10, .int .i64 (i : Int))]) (fun i => [blk b9 (ints .u8 (fillN (outF (cmp (padded xs))) 32 i)) 29, blk ob (ints .u8 (tailB xs) ++ junk) 5, blk b3 (ints .u32 (cmp (padded xs))) 131, blk b2 (List.replicate 32 (.int .u8 0)) 29]) (fun i => i ≤ 32) (fun i => 32 - i) (0) (by omega) (by repeat (first | exact .nil | refine .cons rfl ?_)) (by rw [fillN_zero]; exact Weak.refl _) ?_
     intro i hi
     refine R_seq ?_
     refine R_seq ?_
     refine R_region ?_
     refine L_val rfl rfl rfl (OpP.v (P_move rfl rfl)) ?_
     refine L_val rfl rfl rfl (OpP.v (P_lss rfl rfl rfl)) ?_
     refine L_nil ?_
     refine Q_then ?_
     refine R_condP rfl (fun hli => ?_) (fun hli => ?_)
     ·skip
      refine R_skip ?_
      refine Q_then ?_
      refine R_seq ?_
      refine R_block ?_
      refine R_region ?_
      refine L_val rfl rfl rfl (OpP.v (P_move rfl rfl)) ?_
      refine L_val rfl rfl rfl (OpP.v (P_move rfl rfl)) ?_
      refine L_val rfl rfl rfl (OpP.v (P_quo rfl rfl rfl (by decide))) ?_
      refine E_as (t := 77) (v' := .int .i64 ((i / 4 : Nat) : Int)) rfl (congrArg (Value.int .i64) (quoN _ 4 (by omega))) ?_
      first | (refine L_val rfl rfl rfl (OpP.v (P_ixa0 (i / 4) rfl ty_ar_131 rfl rfl (by first | rfl | omega) (by omega))) ?_) | (refine L_val rfl rfl rfl (OpP.v (P_ixa (i / 4) rfl ty_ar_131 rfl rfl (by first | rfl | omega) (by omega))) ?_)
      refine L_val rfl rfl rfl (V_load rfl rfl ty_sc_108 (Rd.blk .h2 (ints_at (by rw [cmp_length]; omega)))) ?_
      refine L_val rfl rfl rfl (OpP.v (P_move rfl rfl)) ?_
      refine L_val rfl rfl rfl (OpP.v (P_rem rfl rfl rfl (by decide))) ?_
      refine E_as (t := 81) (v' := .int .i64 ((i % 4 : Nat) : Int)) rfl (congrArg (Value.int .i64) (tmodN _ 4)) ?_
      first | (refine L_val rfl rfl rfl (OpP.v (P_mulN rfl rfl rfl (by simp only [fits]; omega))) ?_) | (refine L_val rfl rfl rfl (OpP.v (P_mul rfl rfl rfl)) ?_)
      first | (refine L_val rfl rfl rfl (OpP.v (P_subN rfl rfl rfl (by simp only [fits]; omega))) ?_) | (refine L_val rfl rfl rfl (OpP.v (P_sub rfl rfl rfl)) ?_)
      refine L_val rfl rfl rfl (OpP.v (P_convN rfl ty_int_3 ty_int_133 rfl (by simp only [fits]; omega))) ?_
      refine L_val rfl rfl rfl (OpP.v (P_shr rfl rfl rfl (by omega))) ?_
      refine L_val rfl rfl rfl (OpP.v (P_conv rfl ty_int_108 ty_int_5 rfl)) ?_
      first | (refine L_val rfl rfl rfl (OpP.v (P_ixa0 (i) rfl ty_ar_29 rfl rfl (by first | rfl | omega) (by omega))) ?_) | (refine L_val rfl rfl rfl (OpP.v (P_ixa (i) rfl ty_ar_29 rfl rfl (by first | rfl | omega) (by omega))) ?_)
      refine L_op rfl (W_store rfl rfl rfl rfl ty_sc_5 rfl .h0 (by rw [ints_length, fillN_length]; omega) ?_)
      rw [ints_set]
      refine L_nil ?_
      refine Q_block ?_
      refine Q_then ?_
      refine R_region ?_
      refine L_val rfl rfl rfl (OpP.v (P_move rfl rfl)) ?_
      first | (refine L_val rfl rfl rfl (OpP.v (P_addN rfl rfl rfl (by simp only [fits]; omega))) ?_) | (refine L_val rfl rfl rfl (OpP.v (P_add rfl rfl rfl)) ?_)
      refine L_val rfl rfl rfl (OpP.v (P_assign rfl rfl)) ?_
      refine L_nil ?_
      refine E_nat (t := 10) (n := i + 1) rfl (by omega) ?_
      exact Q_round (i + 1) (by omega) (by omega) (by repeat (first | exact .nil | refine .cons rfl ?_)) (by rw [← fillN_set]; exact Weak.refl _)
     ·skip
      obtain rfl : i = 32 := by omega
      rw [fillN_full]
      refine St.res (rs' := [blk b9 (ints .u8 (sha xs)) 29, blk ob (ints .u8 (tailB xs) ++ junk) 5, blk b3 (ints .u32 (cmp (padded xs))) 131, blk b2 (List.replicate 32 (.int .u8 0)) 29]) (Weak.refl _) ?_
      refine R_exit ?_
      refine Q_then_exit ?_
      refine Q_then_exit ?_
      refine Q_block_eq ?_
      refine St.env (.cons (t := 2) rfl (.cons (t := 9) rfl .nil)) ?_
      refine Q_then ?_
      refine R_seq ?_
      refine R_region ?_
      refine L_val rfl rfl rfl (V_loadAgg rfl rfl ty_ag_29 (Rds.blk .h0) (by rw [ints_length, sha_length])) ?_
      refine L_op rfl (W_storeAll rfl rfl rfl rfl ty_ag_29 (by rw [ints_length, sha_length]) (ints_one) .h3 (by rw [ints_length, sha_length]; rfl) ?_)
      refine L_nil ?_
      refine St.env (.cons (t := 2) rfl .nil) ?_
      refine Q_then ?_
      refine R_ret ?_
      exact R_endV rfl rfl (.cell rfl (Rds.loadVar ty_ag_29 (Rds.blk .h3) (by rw [ints_length, sha_length])) .nil) (rfl)
end Go.Proofs.YtfhjhaogmdaepaaGreatDoor

/- The eighth part of the program logic: strings of bytes; how a call's rule becomes a row's. -/
set_option linter.unusedVariables false
set_option linter.unusedSimpArgs false
namespace Go.Proofs.YtfhjhaogmdaepaaGreatDoor
open Go Go.RowKit Go.ChangeShapes Go.WideShapes

/-- All are bytes. -/
def IsB (xs : List Int) : Prop := ∀ x ∈ xs, 0 ≤ x ∧ x ≤ 255
theorem strOfNums_inj {xs ys : List Int} (hx : IsB xs) (hy : IsB ys) : (strOfNums xs).toList = (strOfNums ys).toList ↔ xs = ys := by
 constructor
 ·intro h
  have h2 : (xs.map fun n => UInt8.ofNat n.toNat) = ys.map fun n => UInt8.ofNat n.toNat := by
   have e : ∀ zs : List Int, (strOfNums zs).toList = zs.map fun n => UInt8.ofNat n.toNat := fun zs => by
    rw [ByteArray.toList_eq, strOfNums_data]
   rw [e, e] at h; exact h
  clear h
  induction xs generalizing ys with
  | nil => cases ys with
   | nil => rfl
   | cons y ys => simp at h2
  | cons x xs ih =>
   cases ys with
   | nil => simp at h2
   | cons y ys =>
    simp only [List.map_cons, List.cons.injEq] at h2
    have hx0 := hx x (by simp)
    have hy0 := hy y (by simp)
    have e : x.toNat = y.toNat := by
     have := congrArg UInt8.toNat h2.1
     simp only [UInt8.toNat_ofNat'] at this
     omega
    have : x = y := by omega
    subst this
    rw [ih (fun z hz => hx z (by simp [hz])) (fun z hz => hy z (by simp [hz])) h2.2]
 ·rintro rfl; rfl
section
variable {C : Cx} {F : Fx} {l : Env} {rs rs' : List HP} {K : Act → World → Prop} {o : Oper} {Q : Exit → Act → World → Prop} {d : Nat}
theorem V_str {t t' e c : Nat} {x : Operand} {base : Option Addr} {xs : List Int} (ho : o.op = .convert t t' x) (hs : C.P.underlying t = some (.slice e)) (he : C.P.underlying e = some (.int .u8)) (ht : C.P.underlying t' = some .string) (hx : ev l x = some (.slice base xs.length c)) (hr : Rw C F rs base (ints .u8 xs)) : OpV C F l rs o (.string (strOfNums xs)) := fun a w r n => by
 simp only [execOp, ho, r.ev hx, Sem.run_bind]
 rcases (hr w n).cases with h0 | ⟨b, j, rfl, hrow⟩
 ·have : xs = [] := by cases xs with | nil => rfl | cons => cases h0
  subst this
  cases base with
  | none => rw [run_convert_bytes_nil w t e hs he _ _ t' ht]; rfl
  | some ad =>
   obtain ⟨b, j, sp⟩ := ad
   have hl : (loadCells ⟨b, j, sp⟩ ([] : List Int).length).run C.P w = .ok #[] w := run_loadCells_list w _ [] (fun _ _ h => by cases h)
   rw [run_convert_bytes_string w t t' e _ _ _ hs he ht, run_bytesToString w ⟨b, j, sp⟩ _ c [] hl]
   rfl
 ·rw [run_convert_bytes_arg w t e hs he b j xs.length c xs rfl (fun i hi => by
   have := hrow i _ (ints_at (k := .u8) hi)
   rwa [add_zero_off] at this) t' ht]
  rfl
theorem P_eqStr {t t' : Nat} {x y : Operand} {xs ys : List Int} (ho : o.op = .binOp .eql t x y t') (hx : ev l x = some (.string (strOfNums xs))) (hy : ev l y = some (.string (strOfNums ys))) (h1 : IsB xs) (h2 : IsB ys) : OpP C F l o (.bool (decide (xs = ys))) := fun a w r => by
 have : ((strOfNums xs).toList == (strOfNums ys).toList) = decide (xs = ys) := by
  by_cases h : xs = ys
  ·subst h; simp
  ·have := mt (strOfNums_inj h1 h2).1 h; simp [h, this]
 simp [execOp, ho, r.ev hx, r.ev hy, binOp, eqGuard, Op.stringOp, this]
theorem P_neStr {t t' : Nat} {x y : Operand} {xs ys : List Int} (ho : o.op = .binOp .neq t x y t') (hx : ev l x = some (.string (strOfNums xs))) (hy : ev l y = some (.string (strOfNums ys))) (h1 : IsB xs) (h2 : IsB ys) : OpP C F l o (.bool (decide (xs ≠ ys))) := fun a w r => by
 have : ((strOfNums xs).toList == (strOfNums ys).toList) = decide (xs = ys) := by
  by_cases h : xs = ys
  ·subst h; simp
  ·have := mt (strOfNums_inj h1 h2).1 h; simp [h, this]
 simp [execOp, ho, r.ev hx, r.ev hy, binOp, eqGuard, Op.stringOp, this]
end

theorem Move.below {C : Cx} {W W' : World} {h : Heap} (m : Move C W Heap.none W' h) : Below W.heap.size W W' := ⟨m.os, m.tape, m.output, m.size, fun k hk => m.keep k hk rfl⟩
theorem Spec.calls {C : Cx} {f : FuncId} {args : List Value} {pre : World → Heap → Prop} {post : Value → List HP → Prop} {W : World} (s : Spec C f args pre [] post) (hok : C.ok W) (hp : pre W Heap.none) :
  Calls C.P f args.toArray W (fun e W' => ∃ v rs, e = .returned v ∧ post v rs ∧ Below W.heap.size W W') :=
 (s W Heap.none rfl ⟨fun _ _ h => by (cases h), fun _ _ h => by (cases h), hok⟩ hp).mono fun e W' ⟨v, rs, h', e1, e2, _, m⟩ => ⟨v, rs, e1, e2, m.below⟩
theorem SpecV.calls {C : Cx} {f : FuncId} {args : List Value} {pre : World → Prop} {v : Value} {W : World} (s : SpecV C f args pre v) (hok : C.ok W) (hp : pre W) : Calls C.P f args.toArray W (fun e W' => e = .returned v ∧ Below W.heap.size W W') :=
 (Spec.calls s hok hp).mono fun e W' ⟨u, rs, e1, e2, b⟩ => ⟨by rw [e1, e2.1], b⟩

section
variable {H : Type} {enc : TypeId × Value → H} {P : Program} {w : World} {base : Nat} {spare : Nat → Bool} {held : Bool}
/-- An array of whole numbers is read. -/
theorem open_intArr {t n e fuel : Nat} {k : IntKind} {cs : List Value} {x : DataW H × List MemPlace} (ht : P.underlying t = some (.array n e)) (he : P.underlying e = some (.int k)) (hc : P.cellsOf e = 1) (hct : P.cellsOf t = n)
  (h : DataW.trod enc P w base spare held fuel t cs = some x) : ∃ zs : List Int, cs = ints k zs ∧ zs.length = n ∧ x = (.agg (lits k zs), []) ∧ ∀ z ∈ zs, (Lit.int k z).wf = true := by
 obtain ⟨xs, m, rfl, hx, hlen, hn, hel⟩ := DataW.trod_array ht h
 have each : ∀ i, i < n → ∃ z, cs[i]? = some (.int k z) ∧ xs[i]? = some (.lit (.int k z), []) ∧ (Lit.int k z).wf = true := by
  intro i hi
  have h1 := hel i hi
  have hxi : xs[i]? = some xs[i] := List.getElem?_eq_getElem (by omega)
  rw [hxi, hc, Nat.mul_one] at h1
  obtain ⟨z, e1, e2, e3⟩ := DataW.trod_int he h1
  refine ⟨z, ?_, by rw [hxi, e2], e3⟩
  have : ((cs.drop i).take 1)[0]? = some (.int k z) := by rw [e1]; rfl
  simpa using this
 have hlit : ∀ i z, i < n → cs[i]? = some (.int k z) → xs[i]? = some (.lit (.int k z), []) := fun i z hi hz => by
  obtain ⟨z', h1, h2, _⟩ := each i hi
  rw [h1, Option.some.injEq, Value.int.injEq] at hz
  rw [h2, hz.2]
 refine ⟨xs.map fun y => numOf y, ?_, by simp [hn], ?_, ?_⟩
 ·apply List.ext_getElem?
  intro i
  by_cases hi : i < n
  ·obtain ⟨z, h1, h2, _⟩ := each i hi
   rw [h1]; simp [ints, h2, numOf]
  ·rw [List.getElem?_eq_none (by omega), List.getElem?_eq_none (by simp [ints]; omega)]
 ·rw [hx]
  congr 1
  ·congr 1
   apply List.ext_getElem?
   intro i
   by_cases hi : i < n
   ·obtain ⟨z, h1, h2, _⟩ := each i hi
    simp [lits, h2, numOf]
   ·rw [List.getElem?_eq_none (by simp; omega), List.getElem?_eq_none (by simp [lits]; omega)]
  ·rw [List.flatMap_eq_nil_iff]
   intro y hy
   obtain ⟨i, hi, e⟩ := List.mem_iff_getElem.1 hy
   obtain ⟨z, _, h2, _⟩ := each i (by omega)
   rw [List.getElem?_eq_getElem hi, e] at h2
   rw [Option.some.inj h2]
 ·intro z hz
  obtain ⟨y, hy, rfl⟩ := List.mem_map.1 hz
  obtain ⟨i, hi, e⟩ := List.mem_iff_getElem.1 hy
  obtain ⟨z, _, h2, h3⟩ := each i (by omega)
  rw [List.getElem?_eq_getElem hi, e] at h2
  rw [Option.some.inj h2]; exact h3
theorem lits_inj {k : IntKind} {xs ys : List Int} (h : lits (H := H) k xs = lits k ys) : xs = ys := by
 unfold lits at h
 exact (List.map_inj_right (fun a b h => by injection h with h; injection h)).1 h
theorem var_heap {n : String} {g : Nat} {cs : Array Value} (hg : P.globalNamed n = some g) (h : w.var? P n = some cs) : ∃ T fr, w.heap[g]? = some (.cells cs T fr) := by
 simp only [World.var?, hg, Option.bind_some] at h
 split at h
 ·rename_i cs' T fr hh
  rw [Option.some.injEq] at h
  subst h; exact ⟨T, fr, hh⟩
 ·cases h
/-- The arguments read behind the call as they did. -/
theorem below_trodAll (hl : laidOutB P = true) {W W' : World} (hb : Below W.heap.size W W') : ∀ {ts : List TypeId} {vs : List Value} {ds : List (DataW H)} {ps : List MemPlace}, (ts.all fun t => P.readableRec t && Nat.blt t P.types.size) = true →
  DataW.TrodAll enc P W 0 (fun _ => true) true ts vs ds ps → (∀ x ∈ ps, x.block < W.heap.size) → DataW.TrodAll enc P W' 0 (fun b => decide (b < W.heap.size)) true ts vs ds ps
 | [], vs, ds, ps, _, h, _ => by obtain ⟨rfl, rfl, rfl⟩ := trodAll_nil h; exact trodAll_mk0
 | t :: ts, vs, ds, ps, ht, h, hlt => by
  obtain ⟨v, vs', d, ds', p, q, rfl, rfl, rfl, h1, h2⟩ := trodAll_cons h
  simp only [List.all_cons, Bool.and_eq_true] at ht
  exact ⟨p, q, Below.trod hl ht.1.1 (Nat.le_of_ble_eq_true ht.1.2) h1 hb (fun x hx => hlt x (List.mem_append_left _ hx)), below_trodAll hl hb ht.2 h2 (fun x hx => hlt x (List.mem_append_right _ hx)), rfl⟩
end
end Go.Proofs.YtfhjhaogmdaepaaGreatDoor

/- Walks: the texts under a digest, by the reference. Printed by gen.py. -/
set_option linter.unusedVariables false
set_option linter.unusedSimpArgs false
set_option maxRecDepth 100000
namespace Go.Proofs.YtfhjhaogmdaepaaGreatDoor
open Go Go.RowKit Go.Proofs
theorem app_at {us junk : List Value} (i : Nat) (v : Value) (h : us[i]? = some v) : (us ++ junk)[0 + i]? = some v := by
 rw [Nat.zero_add, List.getElem?_append_left (List.getElem?_eq_some_iff.1 h).1]; exact h
theorem leafText_ok {gl : Nat → Obj} (base : Option Addr) (c : Nat) (xs : List Int) (hmax : xs.length ≤ 140737488355000) : Spec (cx gl) 128 [.slice base xs.length c] (fun w _ => Row w base (ints .u8 xs)) [] (fun v rs => rs = [ownS 5 1 v (xs.length + 1) (ints .u8 (0 :: xs))]) := by
 refine Spec.enter (C := cx gl) Tryz.func128 rfl 8 rfl rfl fun w0 h0 hsep hsub hpre => ?_
 obtain rfl : h0 = Heap.none := hsep
 show St (cx gl) _ [(0, .slice base xs.length c)] _ _
 refine R_seq ?_
 refine R_region ?_
 refine L_val rfl rfl rfl (OpP.v (P_assign rfl rfl)) ?_
 refine L_nil ?_
 refine Q_then ?_
 refine R_seq ?_
 refine R_region ?_
 refine L_op rfl (W_lit (z := .nilIface) (ints .u8 [0]) rfl rfl rfl ty_sl_48 ty_lz_48 rfl rfl rfl (by decide) (by decide) (by simp [Value.cells]) (rfl) fun b4 => ?_)
 refine St.res (rs' := [ownS 5 1 (.slice (some ⟨b4, 0, none⟩) 1 1) (1) (ints .u8 [0])]) (Weak.turn .h0 (ownS.of_blk rfl (by decide))) ?_
 refine L_val rfl rfl rfl (OpP.v (P_assign rfl rfl)) ?_
 refine L_nil ?_
 refine St.env (.cons (t := 0) rfl (.cons (t := 2) rfl (.cons (t := 3) rfl .nil))) ?_
 refine Q_then ?_
 refine R_seq ?_
 refine R_region ?_
 refine L_val rfl rfl rfl (OpP.v (P_move rfl rfl)) ?_
 refine L_val rfl rfl rfl (OpP.v (P_move rfl rfl)) ?_
 refine L_op rfl (W_append (p := []) rfl rfl rfl ty_sl_48 ty_ap_48 ty_src_48 rfl rfl rfl (Src.row (Sn.row hpre rfl).rw_ (by rw [ints_length]; omega) ints_one) (by omega) (by simp only [maxLen]; omega) fun v7 => ?_)
 refine L_val rfl rfl rfl (OpP.v (P_assign rfl rfl)) ?_
 refine L_nil ?_
 refine St.env (.cons (t := 2) rfl .nil) ?_
 refine Q_then ?_
 refine R_ret ?_
 exact R_end (rs2 := _) rfl rfl (.tmp rfl .nil) (rfl) (ownS.to (by omega) (by simp [ints]))
theorem innerText_ok {gl : Nat → Obj} (l r : List Int) (hl : l.length = 32) (hr : r.length = 32) : Spec (cx gl) 19 [.agg (ints .u8 l).toArray, .agg (ints .u8 r).toArray] (fun _ _ => True) [] (fun v rs => rs = [ownS 5 1 v 65 (ints .u8 (1 :: (l ++ r)))]) := by
 refine Spec.enter (C := cx gl) Tryz.func19 rfl 13 rfl rfl fun w0 h0 hsep hsub hpre => ?_
 obtain rfl : h0 = Heap.none := hsep
 show St (cx gl) _ [(0, .agg (ints .u8 l).toArray), (1, .agg (ints .u8 r).toArray)] _ _
 refine R_seq ?_
 refine R_region ?_
 refine L_op rfl (W_box (ints .u8 l) rfl rfl rfl rfl rfl fun b2 => ?_)
 refine L_op rfl (W_box (ints .u8 r) rfl rfl rfl rfl rfl fun b3 => ?_)
 refine L_val rfl rfl rfl (OpP.v (P_assign rfl rfl)) ?_
 refine L_nil ?_
 refine St.env (.cons (t := 2) rfl (.cons (t := 3) rfl (.cons (t := 4) rfl .nil))) ?_
 refine Q_then ?_
 refine R_seq ?_
 refine R_region ?_
 refine L_op rfl (W_lit (z := .nilIface) (ints .u8 [1]) rfl rfl rfl ty_sl_48 ty_lz_48 rfl rfl rfl (by decide) (by decide) (by simp [Value.cells]) (rfl) fun b6 => ?_)
 refine St.res (rs' := [ownS 5 1 (.slice (some ⟨b6, 0, none⟩) 1 1) (1) (ints .u8 [1]), blk b3 (ints .u8 r) 29, blk b2 (ints .u8 l) 29]) (Weak.turn .h0 (ownS.of_blk rfl (by decide))) ?_
 refine L_val rfl rfl rfl (OpP.v (P_assign rfl rfl)) ?_
 refine L_nil ?_
 refine St.env (.cons (t := 2) rfl (.cons (t := 3) rfl (.cons (t := 4) rfl (.cons (t := 5) rfl .nil)))) ?_
 refine Q_then ?_
 refine R_seq ?_
 refine R_region ?_
 refine L_val rfl rfl rfl (OpP.v (P_move rfl rfl)) ?_
 refine L_val rfl rfl rfl (OpP.v (P_sliceAll rfl ty_ar_29 rfl)) ?_
 refine L_op rfl (W_append (p := []) rfl rfl rfl ty_sl_48 ty_ap_48 ty_src_48 rfl rfl rfl (Src.slice (sz := 1) (news := ints .u8 l) (Rds.blk .h2) (by rw [ints_length, hl]) ints_one) (by omega) (by simp only [maxLen]; omega) fun v9 => ?_)
 refine L_val rfl rfl rfl (OpP.v (P_assign rfl rfl)) ?_
 refine L_nil ?_
 refine St.env (.cons (t := 3) rfl (.cons (t := 4) rfl (.cons (t := 5) rfl .nil))) ?_
 refine Q_then ?_
 refine R_seq ?_
 refine R_region ?_
 refine L_val rfl rfl rfl (OpP.v (P_move rfl rfl)) ?_
 refine L_val rfl rfl rfl (OpP.v (P_sliceAll rfl ty_ar_29 rfl)) ?_
 refine L_op rfl (W_append (p := []) rfl rfl rfl ty_sl_48 ty_ap_48 ty_src_48 rfl rfl rfl (Src.slice (sz := 1) (news := ints .u8 r) (Rds.blk .h1) (by rw [ints_length, hr]) ints_one) (by omega) (by simp only [maxLen]; omega) fun v12 => ?_)
 refine L_val rfl rfl rfl (OpP.v (P_assign rfl rfl)) ?_
 refine L_nil ?_
 refine St.env (.cons (t := 4) rfl .nil) ?_
 refine Q_then ?_
 refine R_ret ?_
 exact R_end (rs2 := _) rfl rfl (.tmp rfl .nil) (rfl) (Weak.trans (ownS.to (by omega) (by simp [ints])) (Weak.keep (Weak.nil _)))
theorem rootText_ok {gl : Nat → Obj} (n : Int) (r : List Int) (hr : r.length = 32) : Spec (cx gl) 21 [.int .i64 n, .agg (ints .u8 r).toArray] (fun _ _ => True) [] (fun v rs => rs = [ownS 5 1 v 41 (ints .u8 (2 :: (numB n ++ r)))]) := by
 refine Spec.enter (C := cx gl) Tryz.func21 rfl 25 rfl rfl fun w0 h0 hsep hsub hpre => ?_
 obtain rfl : h0 = Heap.none := hsep
 show St (cx gl) _ [(0, .int .i64 n), (1, .agg (ints .u8 r).toArray)] _ _
 refine R_seq ?_
 refine R_region ?_
 refine L_op rfl (W_box (ints .u8 r) rfl rfl rfl rfl rfl fun b3 => ?_)
 refine L_val rfl rfl rfl (OpP.v (P_assign rfl rfl)) ?_
 refine L_nil ?_
 refine St.env (.cons (t := 0) rfl (.cons (t := 3) rfl (.cons (t := 4) rfl .nil))) ?_
 refine Q_then ?_
 refine R_seq ?_
 refine R_region ?_
 refine L_op rfl (W_lit (z := .nilIface) (ints .u8 [2]) rfl rfl rfl ty_sl_48 ty_lz_48 rfl rfl rfl (by decide) (by decide) (by simp [Value.cells]) (rfl) fun b7 => ?_)
 refine St.res (rs' := [ownS 5 1 (.slice (some ⟨b7, 0, none⟩) 1 1) (1) (ints .u8 [2]), blk b3 (ints .u8 r) 29]) (Weak.turn .h0 (ownS.of_blk rfl (by decide))) ?_
 refine L_val rfl rfl rfl (OpP.v (P_assign rfl rfl)) ?_
 refine L_nil ?_
 refine St.env (.cons (t := 0) rfl (.cons (t := 3) rfl (.cons (t := 4) rfl (.cons (t := 5) rfl .nil)))) ?_
 refine Q_then ?_
 refine R_seq ?_
 refine R_seq ?_
 refine R_region ?_
 refine L_val rfl rfl rfl (OpP.v (P_assign rfl rfl)) ?_
 refine L_nil ?_
 refine Q_then ?_
 refine R_block ?_
 refine R_loop (G := Value × Nat) (fun g => [(0, .int .i64 n), (3, .pointer (some ⟨b3, 0, none⟩)), (4, .slice none 0 0), (5, g.1), (6, .int .i64 (g.2 : Int))]) (fun g => [ownS 5 1 g.1 (1 + g.2) (ints .u8 (2 :: (numB n).take g.2)), blk b3 (ints .u8 r) 29]) (fun g => g.2 ≤ 8) (fun g => 8 - g.2) ((.slice (some ⟨b7, 0, none⟩) 1 1, 0)) (Nat.zero_le _) (by repeat (first | exact .nil | refine .cons rfl ?_)) (ownS.to rfl rfl) ?_
 rintro ⟨v, i⟩ hinv
 replace hinv : i ≤ 8 := hinv
 show St (cx gl) _ [(0, .int .i64 n), (3, .pointer (some ⟨b3, 0, none⟩)), (4, .slice none 0 0), (5, v), (6, .int .i64 (i : Int))] [ownS 5 1 v (1 + i) (ints .u8 (2 :: (numB n).take i)), blk b3 (ints .u8 r) 29] _
 refine R_seq ?_
 refine R_seq ?_
 refine R_region ?_
 refine L_val rfl rfl rfl (OpP.v (P_move rfl rfl)) ?_
 refine L_val rfl rfl rfl (OpP.v (P_lss rfl rfl rfl)) ?_
 refine L_nil ?_
 refine Q_then ?_
 refine R_condP rfl (fun hlt => ?_) (fun hlt => ?_)
 ·skip
  refine R_skip ?_
  refine Q_then ?_
  refine R_seq ?_
  refine R_block ?_
  refine R_region ?_
  refine L_val rfl rfl rfl (OpP.v (P_move rfl rfl)) ?_
  refine L_val rfl rfl rfl (OpP.v (P_move rfl rfl)) ?_
  refine L_val rfl rfl rfl (OpP.v (P_conv rfl ty_int_3 ty_int_24 rfl)) ?_
  refine L_val rfl rfl rfl (OpP.v (P_move rfl rfl)) ?_
  first | (refine L_val rfl rfl rfl (OpP.v (P_mulN rfl rfl rfl (by simp only [fits]; omega))) ?_) | (refine L_val rfl rfl rfl (OpP.v (P_mul rfl rfl rfl)) ?_)
  refine L_val rfl rfl rfl (OpP.v (P_convN rfl ty_int_3 ty_int_133 rfl (by simp only [fits]; omega))) ?_
  refine L_val rfl rfl rfl (OpP.v (P_shr rfl rfl rfl (by omega))) ?_
  refine L_val rfl rfl rfl (OpP.v (P_conv rfl ty_int_24 ty_int_5 rfl)) ?_
  refine L_op rfl (W_lit (z := .nilIface) (ints .u8 [numF n i]) rfl rfl rfl ty_sl_48 ty_lz_48 rfl rfl rfl (by decide) (by decide) (by simp [Value.cells]) (rfl) fun b20 => ?_)
  refine L_op rfl (W_append (p := [_]) rfl rfl rfl ty_sl_48 ty_ap_48 ty_src_48 rfl rfl rfl (Src.slice (sz := 1) (news := ints .u8 [numF n i]) (Rds.blk .h0) rfl ints_one) (by omega) (by simp only [maxLen]; omega) fun v21 => ?_)
  refine L_val rfl rfl rfl (OpP.v (P_assign rfl rfl)) ?_
  refine L_nil ?_
  refine Q_block ?_
  refine Q_then ?_
  refine R_region ?_
  refine L_val rfl rfl rfl (OpP.v (P_move rfl rfl)) ?_
  first | (refine L_val rfl rfl rfl (OpP.v (P_addN rfl rfl rfl (by simp only [fits]; omega))) ?_) | (refine L_val rfl rfl rfl (OpP.v (P_add rfl rfl rfl)) ?_)
  refine L_val rfl rfl rfl (OpP.v (P_assign rfl rfl)) ?_
  refine L_nil ?_
  refine E_nat (t := 6) (n := i + 1) rfl (by omega) ?_
  exact Q_round ((v21, i + 1)) (by show (i + 1) ≤ 8; omega) (by show 8 - (i + 1) < 8 - i; omega) (by repeat (first | exact .nil | refine .cons rfl ?_)) (Weak.drop (ownS.to (by omega) (by rw [ints_append, numB_next _ _ (by omega)]; rfl)))
 ·skip
  obtain rfl : i = 8 := by omega
  refine R_exit ?_
  refine Q_then_exit ?_
  refine Q_then_exit ?_
  refine Q_block_eq ?_
  refine St.env (.cons (t := 3) rfl (.cons (t := 4) rfl (.cons (t := 5) rfl .nil))) ?_
  refine Q_then ?_
  refine R_seq ?_
  refine R_region ?_
  refine L_val rfl rfl rfl (OpP.v (P_move rfl rfl)) ?_
  refine L_val rfl rfl rfl (OpP.v (P_sliceAll rfl ty_ar_29 rfl)) ?_
  refine L_op rfl (W_append (p := []) rfl rfl rfl ty_sl_48 ty_ap_48 ty_src_48 rfl rfl rfl (Src.slice (sz := 1) (news := ints .u8 r) (Rds.blk .h1) (by rw [ints_length, hr]) ints_one) (by omega) (by simp only [maxLen]; omega) fun v24 => ?_)
  refine L_val rfl rfl rfl (OpP.v (P_assign rfl rfl)) ?_
  refine L_nil ?_
  refine St.env (.cons (t := 4) rfl .nil) ?_
  refine Q_then ?_
  refine R_ret ?_
  exact R_end (rs2 := _) rfl rfl (.tmp rfl .nil) (rfl) (Weak.trans (ownS.to (by omega) (by rw [List.take_of_length_le (by rw [numB_length]; omega)]; simp [ints])) (Weak.keep (Weak.nil _)))
theorem rleaf_ok {gl : Nat → Obj} (hG : GlobsR gl) (base : Option Addr) (c : Nat) (xs : List Int) (hmax : xs.length ≤ 140737488355000) : SpecV (cx gl) 61 [.slice base xs.length c] (fun w => Row w base (ints .u8 xs)) (.agg (ints .u8 (sha (0 :: xs))).toArray) := by
 refine Spec.enter (C := cx gl) Tryz.func61 rfl 6 rfl rfl fun w0 h0 hsep hsub hpre => ?_
 obtain rfl : h0 = Heap.none := hsep
 show St (cx gl) _ [(0, .slice base xs.length c)] _ _
 refine R_seq ?_
 refine R_region ?_
 refine L_op rfl (W_alloc rfl rfl rfl ty_ze_29 fun b2 => ?_)
 refine L_nil ?_
 refine Q_then ?_
 refine R_seq ?_
 refine R_region ?_
 refine L_val rfl rfl rfl (OpP.v (P_move rfl rfl)) ?_
 refine L_op rfl (W_call rfl rfl rfl rfl fn_ca_128 (leafText_ok base c xs hmax) (Split.nil _) (fun w a b _ _ _ m => (Sn.row hpre rfl).rw_ w ⟨_, ‹_›, m.le (Heap.le_join_right ‹_›)⟩) fun v4 rs1 (e1 : rs1 = _) => ?_)
 subst e1
 refine St.openOwn (p := []) (by omega) fun tb tcap junk htc htl htv => ?_
 subst htv
 refine St.res (rs' := [blk tb (ints .u8 (0 :: xs) ++ junk) 5, blk b2 (List.replicate 32 (.int .u8 0)) 29]) (Weak.refl _) ?_
 refine L_op rfl (W_callV rfl rfl rfl rfl fn_ca_17 (rsum_ok hG (some ⟨tb, 0, none⟩) tcap (0 :: xs) (by rw [List.length_cons]; exact htc) (by rw [List.length_cons]; omega)) (fun w nw => (Sn.ofBlkAt .h0 fun i v h => app_at i v h).rw_ w nw) ?_)
 refine L_op rfl (W_storeAll rfl rfl rfl rfl ty_ag_29 (by rw [ints_length, sha_length]) (ints_one) .h1 (by rw [ints_length, sha_length]; rfl) ?_)
 refine L_nil ?_
 refine St.env (.cons (t := 2) rfl .nil) ?_
 refine Q_then ?_
 refine R_ret ?_
 exact R_endV rfl rfl (.cell rfl (Rds.loadVar ty_ag_29 (Rds.blk .h1) (by rw [ints_length, sha_length])) .nil) (rfl)
theorem rinner_ok {gl : Nat → Obj} (hG : GlobsR gl) (l r : List Int) (hl : l.length = 32) (hr : r.length = 32) : SpecV (cx gl) 56 [.agg (ints .u8 l).toArray, .agg (ints .u8 r).toArray] noPre (.agg (ints .u8 (sha (1 :: (l ++ r)))).toArray) := by
 refine Spec.enter (C := cx gl) Tryz.func56 rfl 9 rfl rfl fun w0 h0 hsep hsub hpre => ?_
 obtain rfl : h0 = Heap.none := hsep
 show St (cx gl) _ [(0, .agg (ints .u8 l).toArray), (1, .agg (ints .u8 r).toArray)] _ _
 have hlr : (1 :: (l ++ r)).length = 65 := by rw [List.length_cons, List.length_append, hl, hr]
 refine R_seq ?_
 refine R_region ?_
 refine L_op rfl (W_box (ints .u8 l) rfl rfl rfl rfl rfl fun b2 => ?_)
 refine L_op rfl (W_box (ints .u8 r) rfl rfl rfl rfl rfl fun b3 => ?_)
 refine L_op rfl (W_alloc rfl rfl rfl ty_ze_29 fun b4 => ?_)
 refine L_nil ?_
 refine St.env (.cons (t := 2) rfl (.cons (t := 3) rfl (.cons (t := 4) rfl .nil))) ?_
 refine Q_then ?_
 refine R_seq ?_
 refine R_region ?_
 refine L_val rfl rfl rfl (V_loadAgg rfl rfl ty_ag_29 (Rds.blk .h2) (by rw [ints_length, hl])) ?_
 refine L_val rfl rfl rfl (V_loadAgg rfl rfl ty_ag_29 (Rds.blk .h1) (by rw [ints_length, hr])) ?_
 refine L_op rfl (W_call rfl rfl rfl rfl fn_ca_19 (innerText_ok l r hl hr) (Split.nil _) (fun _ _ _ _ _ _ _ => trivial) fun v7 rs1 (e1 : rs1 = _) => ?_)
 subst e1
 refine St.openOwn (p := []) (by omega) fun tb tcap junk htc htl htv => ?_
 subst htv
 refine St.res (rs' := [blk tb (ints .u8 (1 :: (l ++ r)) ++ junk) 5, blk b4 (List.replicate 32 (.int .u8 0)) 29, blk b3 (ints .u8 r) 29, blk b2 (ints .u8 l) 29]) (Weak.refl _) ?_
 refine L_op rfl (W_callV rfl rfl rfl rfl fn_ca_17 (by have h := rsum_ok hG (some ⟨tb, 0, none⟩) tcap (1 :: (l ++ r)) (by omega) (by omega); rw [hlr] at h; exact h) (fun w nw => (Sn.ofBlkAt .h0 fun i v h => app_at i v h).rw_ w nw) ?_)
 refine L_op rfl (W_storeAll rfl rfl rfl rfl ty_ag_29 (by rw [ints_length, sha_length]) (ints_one) .h1 (by rw [ints_length, sha_length]; rfl) ?_)
 refine L_nil ?_
 refine St.env (.cons (t := 4) rfl .nil) ?_
 refine Q_then ?_
 refine R_ret ?_
 exact R_endV rfl rfl (.cell rfl (Rds.loadVar ty_ag_29 (Rds.blk .h1) (by rw [ints_length, sha_length])) .nil) (rfl)
end Go.Proofs.YtfhjhaogmdaepaaGreatDoor

/- The ninth part of the program logic: rows of rows of whole numbers; made slices. -/
set_option linter.unusedVariables false
set_option linter.unusedSimpArgs false
namespace Go.Proofs.YtfhjhaogmdaepaaGreatDoor
open Go Go.RowKit

/-- The cells of rows of whole numbers. -/
def flat (k : IntKind) (xss : List (List Int)) : List Value := xss.flatMap (ints k)
theorem flat_cons (k : IntKind) (x : List Int) (xss : List (List Int)) : flat k (x :: xss) = ints k x ++ flat k xss := rfl
theorem flat_append (k : IntKind) (xss yss : List (List Int)) : flat k (xss ++ yss) = flat k xss ++ flat k yss := by simp [flat]
section
variable {k : IntKind} {n : Nat} {xss : List (List Int)} (h : ∀ x ∈ xss, x.length = n)
include h
theorem flat_length : (flat k xss).length = xss.length * n := by
 induction xss with
 | nil => simp [flat]
 | cons x xss ih => rw [flat_cons, List.length_append, ints_length, h x (by simp), ih (fun y hy => h y (by simp [hy])), List.length_cons, Nat.add_mul]; omega
theorem flat_drop (p : Nat) : (flat k xss).drop (p * n) = flat k (xss.drop p) := by
 induction xss generalizing p with
 | nil => simp [flat]
 | cons x xss ih =>
  cases p with
  | zero => simp
  | succ p =>
   have hx : (ints k x).length = n := by rw [ints_length, h x (by simp)]
   rw [flat_cons, Nat.add_mul, Nat.one_mul, Nat.add_comm, ← hx, List.drop_length_add_append, hx, ih (fun y hy => h y (by simp [hy])), List.drop_succ_cons]
theorem flat_take (p : Nat) : (flat k xss).take (p * n) = flat k (xss.take p) := by
 induction xss generalizing p with
 | nil => simp [flat]
 | cons x xss ih =>
  cases p with
  | zero => simp [flat]
  | succ p =>
   have hx : (ints k x).length = n := by rw [ints_length, h x (by simp)]
   rw [flat_cons, Nat.add_mul, Nat.one_mul, Nat.add_comm, ← hx, List.take_length_add_append, hx, ih (fun y hy => h y (by simp [hy])), List.take_succ_cons, flat_cons]
theorem flat_at {i : Nat} {x : List Int} (hi : xss[i]? = some x) (j : Nat) (v : Value) (hj : (ints k x)[j]? = some v) : (flat k xss)[i * n + j]? = some v := by
 rw [← List.getElem?_drop, flat_drop h]
 have : xss.drop i = x :: xss.drop (i + 1) := by
  have hlt := (List.getElem?_eq_some_iff.1 hi).1
  rw [List.drop_eq_getElem_cons hlt]
  rw [List.getElem?_eq_getElem hlt, Option.some.injEq] at hi
  rw [hi]
 rw [this, flat_cons, List.getElem?_append_left (List.getElem?_eq_some_iff.1 hj).1]
 exact hj
theorem flat_splice {i : Nat} {x : List Int} (hi : i < xss.length) (hx : x.length = n) : splice (flat k xss) (i * n) (ints k x) = flat k (xss.set i x) := by
 unfold splice
 rw [ints_length, hx, flat_take h, show i * n + n = (i + 1) * n by rw [Nat.add_mul, Nat.one_mul], flat_drop h, List.set_eq_take_append_cons_drop, if_pos hi, flat_append, flat_cons, List.append_assoc]
end

/-- The cells of a made slice. -/
def madeL (z : List Value) (m : Nat) : List Value := (madeCells z.toArray m).toList
theorem madeL_length (z : List Value) (m : Nat) : (madeL z m).length = m := by rw [madeL, Array.length_toList, size_madeCells]
theorem madeL_rep (s m : Nat) (v : Value) (hs : 0 < s) : madeL (List.replicate s v) m = List.replicate m v := by
 apply List.ext_getElem (by rw [madeL_length, List.length_replicate])
 intro i h1 h2
 have hm : i % s < s := Nat.mod_lt _ hs
 simp [madeL, madeCells, hm]
theorem flat_zeros (k : IntKind) (s n : Nat) : flat k (List.replicate n (List.replicate s 0)) = List.replicate (n * s) (.int k 0) := by
 induction n with
 | zero => simp [flat]
 | succ n ih => rw [List.replicate_succ, flat_cons, ih, ← rep_ints, List.replicate_append_replicate, Nat.add_mul, Nat.one_mul, Nat.add_comm]
section
variable {C : Cx} {F : Fx} {l : Env} {rs rs' : List HP} {K : Act → World → Prop} {o : Oper} {Q : Exit → Act → World → Prop} {d : Nat}
theorem W_make {t e sz bytes n : Nat} {x y : Operand} {k1 k2 : IntKind} {z : List Value} (ho : o.op = .makeSlice t x y) (hd : o.dst = some d) (hn : Nat.blt d F.n = true) (ht : slB C.P t e sz bytes = true) (hz : zeB C.P e z) (hx : ev l x = some (.int k1 (n : Int))) (hy : ev l y = some (.int k2 (n : Int)))
  (hb : bytes * n ≤ 281474976710656) (hm : n ≤ 9223372036854775807) (k : ∀ b, St C F ((d, .slice (some ⟨b, 0, none⟩) n n) :: l) (blk b (madeL z (n * sz)) e :: rs) K) : OpW C F l rs o K Q := fun a w r nw => by
 obtain ⟨h1, ti, h2, h3, h3b⟩ := slB_spec ht
 unfold zeB at hz
 obtain ⟨zv, hz1, hz2⟩ := Option.map_eq_some_iff.1 hz
 obtain ⟨i, hi1, hiz⟩ := Option.bind_eq_some_iff.1 hz1
 rw [h2, Option.some.injEq] at hi1
 subst hi1
 have hzc : zv.cells = z.toArray := by rw [← hz2]
 have hb' : (ti.bytes : Int) * (n : Int) ≤ 281474976710656 := by
  have h : ((ti.bytes * n : Nat) : Int) ≤ 281474976710656 := by rw [h3b]; omega
  rwa [Int.natCast_mul] at h
 have hr := run_make (P := C.P) w t e ti zv h1 h2 hiz k1 k2 (n : Int) (n : Int) (by omega) (Int.le_refl _) hb' (by omega)
 simp only [Int.toNat_natCast, h3, hzc] at hr
 unfold Oper.wp
 have : (execOp a.eval o).run C.P w = .ok (.value (.slice (some ⟨w.heap.size, 0, none⟩) n n)) (w.alloc (.cells (madeCells z.toArray (n * sz)) e)) := by
  simp only [execOp, ho, r.ev hx, r.ev hy, Sem.run_bind, hr, Result.andThen_ok, Sem.run_pure]
 rw [this]
 show K (a.put o.dst _) _
 rw [hd]
 have h5 := nw.alloc (madeL z (n * sz)) e
 exact k _ _ _ (r.put hn _) h5
/-- An owned slice that is not empty has a block. -/
theorem St.ownSome (p : List HP) {q : List HP} {T sz n : Nat} {v : Value} {cs : List Value} (hn : 0 < n) (h : ∀ b cap, v = .slice (some ⟨b, 0, none⟩) n cap → n ≤ cap → St C F l (p ++ ownS T sz v n cs :: q) K) : St C F l (p ++ ownS T sz v n cs :: q) K := fun a w r nw => by
 obtain ⟨_, hv, _⟩ := nw.has (r := ownS T sz v n cs) ⟨p, q, rfl, rfl⟩
 rcases hv.2 with ⟨_, h0, _⟩ | ⟨b, cap, junk, e, hc, _⟩
 ·omega
 ·exact h b cap e hc a w r nw
theorem St.ownForm (p : List HP) {q : List HP} {T sz n : Nat} {v : Value} {cs : List Value} (h : ∀ base cap, v = .slice base n cap → n ≤ cap → St C F l (p ++ ownS T sz v n cs :: q) K) : St C F l (p ++ ownS T sz v n cs :: q) K := fun a w r nw => by
 obtain ⟨_, hv, _⟩ := nw.has (r := ownS T sz v n cs) ⟨p, q, rfl, rfl⟩
 obtain ⟨b, cap, e, hc⟩ := hv.form
 exact h b cap e hc a w r nw
theorem Rd.own {T sz n cap b j : Nat} {cs : List Value} {u : Value} (m : Has rs (ownS T sz (.slice (some ⟨b, 0, none⟩) n cap) n cs) (ownS T sz (.slice (some ⟨b, 0, none⟩) n cap) n cs) rs) (hu : cs[j]? = some u) : Rd C F rs ⟨b, j, none⟩ u := fun w nw => by
 obtain ⟨ad, e, hc⟩ := (Sn.own (C := C) (F := F) m rfl).rw_ w nw j u hu
 rw [Option.some.injEq] at e
 subst e
 rwa [add_zero_off, Nat.zero_add] at hc
end
end Go.Proofs.YtfhjhaogmdaepaaGreatDoor

/- Plain: the tree over a list: where it is split, its top, its proofs. -/
set_option linter.unusedVariables false
set_option linter.unusedSimpArgs false
namespace Go.Proofs.YtfhjhaogmdaepaaGreatDoor
open Go

theorem splitF_bounds : ∀ (f k n : Nat), 0 < k → k < n → k ≤ splitF f k n ∧ splitF f k n < n
 | 0, k, n, _, h2 => ⟨Nat.le_refl _, h2⟩
 | f + 1, k, n, h1, h2 => by
  unfold splitF
  by_cases h : 2 * k < n
  ·rw [if_pos h]
   obtain ⟨a, b⟩ := splitF_bounds f (2 * k) n (by omega) h
   exact ⟨by omega, b⟩
  ·rw [if_neg h]; exact ⟨Nat.le_refl _, h2⟩
theorem splitN_pos {n : Nat} (h : 1 < n) : 0 < splitN n := by have := (splitF_bounds n 1 n (by decide) h).1; unfold splitN; omega
theorem splitN_lt {n : Nat} (h : 1 < n) : splitN n < n := (splitF_bounds n 1 n (by decide) h).2

def topF : Nat → List (List Int) → List Int
 | 0, _ => sha []
 | f + 1, l => if l.length = 0 then sha [] else if l.length = 1 then l.getD 0 [] else sha (1 :: (topF f (l.take (splitN l.length)) ++ topF f (l.drop (splitN l.length))))
/-- The top of a list of digests. -/
def topH (l : List (List Int)) : List Int := topF l.length l
theorem topF_fuel : ∀ (f g : Nat) (l : List (List Int)), l.length ≤ f → l.length ≤ g → topF f l = topF g l
 | 0, g, l, h1, h2 => by
  cases g with
  | zero => rfl
  | succ g => unfold topF; rw [if_pos (by omega)]
 | f + 1, 0, l, h1, h2 => by
  have : l.length = 0 := by omega
  simp only [topF]; rw [if_pos this]
 | f + 1, g + 1, l, h1, h2 => by
  unfold topF
  by_cases h0 : l.length = 0
  ·rw [if_pos h0, if_pos h0]
  ·by_cases h3 : l.length = 1
   ·rw [if_neg h0, if_neg h0, if_pos h3, if_pos h3]
   ·have h4 : 1 < l.length := by omega
    have := splitN_lt h4
    have := splitN_pos h4
    rw [if_neg h0, if_neg h0, if_neg h3, if_neg h3, topF_fuel f g (l.take _) (by rw [List.length_take]; omega) (by rw [List.length_take]; omega), topF_fuel f g (l.drop _) (by rw [List.length_drop]; omega) (by rw [List.length_drop]; omega)]
theorem topH_zero {l : List (List Int)} (h : l.length = 0) : topH l = sha [] := by unfold topH; rw [h]; rfl
theorem topH_one {l : List (List Int)} (h : l.length = 1) {x : List Int} (hx : l[0]? = some x) : topH l = x := by
 unfold topH; rw [h]; unfold topF
 rw [if_neg (by omega), if_pos h]
 simp [List.getD_eq_getElem?_getD, hx]
theorem topH_two {l : List (List Int)} (h : 1 < l.length) : topH l = sha (1 :: (topH (l.take (splitN l.length)) ++ topH (l.drop (splitN l.length)))) := by
 have h1 := splitN_lt h
 have h2 := splitN_pos h
 conv => lhs; unfold topH
 obtain ⟨n, hn⟩ : ∃ n, l.length = n + 1 := ⟨l.length - 1, by omega⟩
 rw [hn]; unfold topF
 rw [if_neg (by omega), if_neg (by omega)]
 unfold topH
 rw [topF_fuel n _ (l.take _) (by rw [List.length_take]; omega) (Nat.le_refl _), topF_fuel n _ (l.drop _) (by rw [List.length_drop]; omega) (Nat.le_refl _), hn]
theorem topH_length {l : List (List Int)} (h : ∀ x ∈ l, x.length = 32) : (topH l).length = 32 := by
 by_cases h0 : l.length = 0
 ·rw [topH_zero h0, sha_length]
 ·by_cases h1 : l.length = 1
  ·match l, h1 with
   | [x], _ => rw [topH_one rfl rfl]; exact h x (by simp)
  ·rw [topH_two (by omega), sha_length]
def leafH (x : List Int) : List Int := sha (0 :: x)
def leaves (xss : List (List Int)) : List (List Int) := xss.map leafH
theorem leaves_len (xss : List (List Int)) : ∀ h ∈ leaves xss, h.length = 32 := fun h hh => by
 obtain ⟨x, _, rfl⟩ := List.mem_map.1 hh
 exact sha_length _
theorem leaves_length (xss : List (List Int)) : (leaves xss).length = xss.length := by simp [leaves]
theorem leaves_take (xss : List (List Int)) (n : Nat) : leaves (xss.take n) = (leaves xss).take n := by simp [leaves]
theorem leaves_drop (xss : List (List Int)) (n : Nat) : leaves (xss.drop n) = (leaves xss).drop n := by simp [leaves]
/-- Is there too much? -/
def anyBig (xss : List (List Int)) : Bool := xss.any fun x => decide (1048576 < x.length)
def bigL (xss : List (List Int)) : Bool := decide (65536 < xss.length) || anyBig xss
theorem bigL_false {xss : List (List Int)} (h : bigL xss = false) : xss.length ≤ 65536 ∧ anyBig xss = false ∧ ∀ x ∈ xss, x.length ≤ 1048576 := by
 unfold bigL at h
 rw [Bool.or_eq_false_iff] at h
 refine ⟨by simpa using h.1, h.2, fun x hx => ?_⟩
 have := h.2
 unfold anyBig at this
 rw [List.any_eq_false] at this
 simpa using this x hx
theorem bigL_long {xss : List (List Int)} (h : 65536 < xss.length) : bigL xss = true := by unfold bigL; rw [decide_eq_true h]; rfl
theorem bigL_short {xss : List (List Int)} (h : ¬ 65536 < xss.length) : bigL xss = anyBig xss := by unfold bigL; rw [decide_eq_false h]; rfl
theorem anyBig_drop {xss : List (List Int)} {k : Nat} {y : List Int} (h : xss[k]? = some y) : anyBig (xss.drop k) = (decide (1048576 < y.length) || anyBig (xss.drop (k + 1))) := by
 have hlt := (List.getElem?_eq_some_iff.1 h).1
 rw [List.drop_eq_getElem_cons hlt]
 rw [List.getElem?_eq_getElem hlt, Option.some.injEq] at h
 rw [h]; rfl
theorem anyBig_end {xss : List (List Int)} {k : Nat} (h : xss.length ≤ k) : anyBig (xss.drop k) = false := by rw [List.drop_eq_nil_of_le h]; rfl
/-- Where the first of too many bytes stands. -/
def idxB : List (List Int) → Nat → Int
 | [], _ => -1
 | x :: r, i => if 1048576 < x.length then (i : Int) else idxB r (i + 1)
theorem idxB_drop {xss : List (List Int)} {k : Nat} {y : List Int} (h : xss[k]? = some y) : idxB (xss.drop k) k = if 1048576 < y.length then (k : Int) else idxB (xss.drop (k + 1)) (k + 1) := by
 have hlt := (List.getElem?_eq_some_iff.1 h).1
 rw [List.drop_eq_getElem_cons hlt]
 rw [List.getElem?_eq_getElem hlt, Option.some.injEq] at h
 rw [h]; rfl
theorem idxB_any : ∀ (xss : List (List Int)) (i : Nat), decide (0 ≤ idxB xss i) = anyBig xss
 | [], i => rfl
 | x :: r, i => by
  unfold idxB
  show _ = (decide (1048576 < x.length) || anyBig r)
  by_cases h : 1048576 < x.length
  ·rw [if_pos h, decide_eq_true h, Bool.true_or]; exact decide_eq_true (by omega)
  ·rw [if_neg h, decide_eq_false h, Bool.false_or]; exact idxB_any r (i + 1)
/-- The first k of n digests are filled. -/
def fillG (f : Nat → List Int) (n k : Nat) : List (List Int) := (List.range n).map fun i => if i < k then f i else List.replicate 32 0
theorem fillG_length (f : Nat → List Int) (n k : Nat) : (fillG f n k).length = n := by simp [fillG]
theorem fillG_len (f : Nat → List Int) (n k : Nat) (hf : ∀ i, (f i).length = 32) : ∀ x ∈ fillG f n k, x.length = 32 := fun x hx => by
 obtain ⟨i, _, rfl⟩ := List.mem_map.1 hx
 split
 ·exact hf i
 ·simp
theorem fillG_zero (f : Nat → List Int) (n : Nat) : fillG f n 0 = List.replicate n (List.replicate 32 0) := by
 apply List.ext_getElem (by simp [fillG])
 intro i h1 h2; simp [fillG]
theorem fillG_full (f : Nat → List Int) (n : Nat) : fillG f n n = (List.range n).map f := by
 apply List.ext_getElem (by simp [fillG])
 intro i h1 h2
 simp only [fillG, List.length_map, List.length_range] at h1
 simp [fillG, h1]
theorem fillG_set (f : Nat → List Int) (n k : Nat) : (fillG f n k).set k (f k) = fillG f n (k + 1) := by
 apply List.ext_getElem (by simp [fillG])
 intro i h1 h2
 rw [List.getElem_set]
 by_cases hik : k = i
 ·subst hik; simp [fillG]
 ·have : (i < k) ↔ (i < k + 1) := by omega
  simp [fillG, hik, this]
def leafF (xss : List (List Int)) (i : Nat) : List Int := leafH (xss.getD i [])
theorem leaves_fill (xss : List (List Int)) : fillG (leafF xss) xss.length xss.length = leaves xss := by
 rw [fillG_full]
 apply List.ext_getElem (by simp [leaves])
 intro i h1 h2
 simp only [List.length_map, List.length_range] at h1
 simp [leafF, leaves, List.getD_eq_getElem?_getD, h1]
/-- The root of a list. -/
def rootH (n : Nat) (t : List Int) : List Int := sha (2 :: (numB (n : Int) ++ t))
def rootD (xss : List (List Int)) : List Int := if bigL xss = true then List.replicate 32 0 else rootH xss.length (topH (leaves xss))
def rootE (xss : List (List Int)) : Int := if bigL xss = true then 4 else 0
def rootV (xss : List (List Int)) : Value := .tuple #[.agg (ints .u8 (rootD xss)).toArray, .int .i64 (rootE xss)]
theorem rootD_length (xss : List (List Int)) : (rootD xss).length = 32 := by
 unfold rootD rootH
 split
 ·simp
 ·rw [sha_length]
/-- Unlike texts with one digest. -/
def clashB (xs ys : List Int) : Bool := decide (xs ≠ ys) && decide (sha xs = sha ys)
theorem clashB_of {xs ys : List Int} (h : xs ≠ ys) (e : sha xs = sha ys) : clashB xs ys = true := by unfold clashB; rw [decide_eq_true h, decide_eq_true e]; rfl
theorem isB_u8 (x : Int) : 0 ≤ IntKind.u8.wrap x ∧ IntKind.u8.wrap x ≤ 255 := by
 simp only [IntKind.wrap, IntKind.signed, IntKind.bits, Bool.false_and, Bool.false_eq_true, if_false]; omega
theorem isB_sha (xs : List Int) : IsB (sha xs) := fun x hx => by
 obtain ⟨i, _, rfl⟩ := List.mem_map.1 hx
 exact isB_u8 _
theorem isB_numB (n : Int) : IsB (numB n) := fun x hx => by
 obtain ⟨i, _, rfl⟩ := List.mem_map.1 hx
 exact isB_u8 _
theorem IsB.cons {x : Int} {xs : List Int} (h0 : 0 ≤ x) (h1 : x ≤ 255) (h : IsB xs) : IsB (x :: xs) := fun y hy => by
 rcases List.mem_cons.1 hy with rfl | hy
 ·exact ⟨h0, h1⟩
 ·exact h y hy
theorem IsB.append {xs ys : List Int} (h : IsB xs) (k : IsB ys) : IsB (xs ++ ys) := fun y hy => by
 rcases List.mem_append.1 hy with hy | hy
 ·exact h y hy
 ·exact k y hy
theorem isB_topH {l : List (List Int)} (h : ∀ x ∈ l, IsB x) : IsB (topH l) := by
 by_cases h0 : l.length = 0
 ·rw [topH_zero h0]; exact isB_sha _
 ·by_cases h1 : l.length = 1
  ·match l, h1 with
   | [x], _ => rw [topH_one rfl rfl]; exact h x (by simp)
  ·rw [topH_two (by omega)]; exact isB_sha _
theorem isB_leaves (xss : List (List Int)) : ∀ x ∈ leaves xss, IsB x := fun x hx => by
 obtain ⟨y, _, rfl⟩ := List.mem_map.1 hx
 exact isB_sha _
theorem numF_small {n : Nat} (h : n ≤ 16777215) (j : Nat) (hj : j < 3) : numF (n : Int) j = ((n / 256 ^ j % 256 : Nat) : Int) := by
 have hw : IntKind.u64.wrap (n : Int) = (n : Int) := wrap_fits (by simp only [fits]; omega)
 unfold numF
 rw [hw]
 match j, hj with
 | 0, _ => simp [shrI, IntKind.wrap, IntKind.signed, IntKind.bits, Int.fdiv_eq_ediv]
 | 1, _ => simp [shrI, IntKind.wrap, IntKind.signed, IntKind.bits, Int.fdiv_eq_ediv]
 | 2, _ => simp [shrI, IntKind.wrap, IntKind.signed, IntKind.bits, Int.fdiv_eq_ediv]
theorem numB_inj {n m : Nat} (hn : n ≤ 16777215) (hm : m ≤ 16777215) (h : numB (n : Int) = numB (m : Int)) : n = m := by
 have key : ∀ j, j < 3 → n / 256 ^ j % 256 = m / 256 ^ j % 256 := fun j hj => by
  have h1 : (numB (n : Int)).getD j 0 = (numB (m : Int)).getD j 0 := by rw [h]
  have h2 : ∀ x : Int, (numB x).getD j 0 = numF x j := fun x => by
   have : j < 8 := by omega
   simp [numB, List.getD_eq_getElem?_getD, this]
  rw [h2, h2, numF_small hn j hj, numF_small hm j hj] at h1
  omega
 have k0 := key 0 (by decide)
 have k1 := key 1 (by decide)
 have k2 := key 2 (by decide)
 simp only [Nat.pow_zero, Nat.div_one, Nat.pow_one, show (256 : Nat) ^ 2 = 65536 from rfl] at k0 k1 k2
 omega
theorem rootText_inj {n m : Nat} {t u : List Int} (hn : n ≤ 16777215) (hm : m ≤ 16777215) (h : 2 :: (numB (n : Int) ++ t) = 2 :: (numB (m : Int) ++ u)) : n = m ∧ t = u := by
 have h2 : numB (n : Int) ++ t = numB (m : Int) ++ u := by injection h
 obtain ⟨a, b⟩ := List.append_inj h2 (by rw [numB_length, numB_length])
 exact ⟨numB_inj hn hm a, b⟩
end Go.Proofs.YtfhjhaogmdaepaaGreatDoor

/- Walks: tops of lists. Printed by gen.py. -/
set_option linter.unusedVariables false
set_option linter.unusedSimpArgs false
set_option maxRecDepth 100000
namespace Go.Proofs.YtfhjhaogmdaepaaGreatDoor
open Go Go.RowKit Go.Proofs
theorem BytesL.take {w : World} {vs : List Value} {xss : List (List Int)} (h : BytesL w vs xss) (n : Nat) : BytesL w (vs.take n) (xss.take n) :=
 ⟨by rw [List.length_take, List.length_take, h.1], fun i v x h1 h2 => by
  rw [List.getElem?_take] at h1 h2
  split at h1
  ·rename_i hi
   rw [if_pos hi] at h2
   exact h.2 i v x h1 h2
  ·cases h1⟩
theorem BytesL.drop {w : World} {vs : List Value} {xss : List (List Int)} (h : BytesL w vs xss) (n : Nat) : BytesL w (vs.drop n) (xss.drop n) :=
 ⟨by rw [List.length_drop, List.length_drop, h.1], fun i v x h1 h2 => by
  rw [List.getElem?_drop] at h1 h2
  exact h.2 _ v x h1 h2⟩
/-- A slice of slices of bytes, as items are. -/
def Items (w : World) (base : Option Addr) (vs : List Value) (xss : List (List Int)) : Prop := Row w base vs ∧ BytesL w vs xss
theorem Items.row {C : Cx} {F : Fx} {rs : List HP} {base : Option Addr} {vs : List Value} {xss : List (List Int)} (h : Items F.w base vs xss) (hf : F.h = Heap.none) : ∀ w, Now C F rs w → Items w base vs xss := fun w n =>
 ⟨(Sn.row h.1 hf).rw_ w n, h.2.1, fun i v x h1 h2 => by
  obtain ⟨b, c, e, hc, hr⟩ := h.2.2 i v x h1 h2
  exact ⟨b, c, e, hc, (Sn.row hr hf).rw_ w n⟩⟩
theorem Items.sliced {w : World} {base : Option Addr} {vs : List Value} {xss : List (List Int)} (h : Items w base vs xss) {p q c : Nat} (hq : q ≤ c) (hqn : q ≤ vs.length) : Items w (if c = p then base else base.map (·.add (p * 1))) ((vs.drop p).take (q - p)) ((xss.drop p).take (q - p)) := by
 refine ⟨?_, (h.2.drop p).take _⟩
 have := Row.sliced (sz := 1) (p := p) (q := q) (c := c) h.1 hq (.inr (by omega))
 simpa using this
theorem take_sub {α : Type} (l : List α) (p : Nat) : (l.drop p).take (l.length - p) = l.drop p := List.take_of_length_le (by rw [List.length_drop]; omega)
theorem rsplit_ok (gl : Nat → Obj) (n : Nat) (hn : n ≤ 70368744177664) : SpecV (cx gl) 66 [.int .i64 (n : Int)] noPre (.int .i64 (splitN n : Nat)) := by
 refine Spec.enter (C := cx gl) Tryz.func66 rfl 12 rfl rfl fun w0 h0 hsep hsub hpre => ?_
 obtain rfl : h0 = Heap.none := hsep
 show St (cx gl) _ [(0, .int .i64 (n : Int))] _ _
 refine R_seq ?_
 refine R_region ?_
 refine L_val rfl rfl rfl (OpP.v (P_assign rfl rfl)) ?_
 refine L_nil ?_
 refine Q_then ?_
 refine R_seq ?_
 refine R_region ?_
 refine L_val rfl rfl rfl (OpP.v (P_assign rfl rfl)) ?_
 refine L_nil ?_
 refine Q_then ?_
 refine R_seq ?_
 refine R_block ?_
 refine R_loop (G := Nat) (fun k => [(0, .int .i64 (n : Int)), (2, .int .i64 0), (3, .int .i64 (k : Int))]) (fun k => []) (fun k => 0 < k ∧ k < n + 2 ∧ splitN n = splitF n k n) (fun k => n - k) (1) (⟨by omega, by omega, rfl⟩) (by repeat (first | exact .nil | refine .cons rfl ?_)) (Weak.refl _) ?_
 intro k hinv
 obtain ⟨hk, hk2, hs⟩ := hinv
 refine R_seq ?_
 refine R_seq ?_
 refine R_region ?_
 refine L_val rfl rfl rfl (OpP.v (P_move rfl rfl)) ?_
 refine L_val rfl rfl rfl (OpP.v (P_move rfl rfl)) ?_
 refine L_val rfl rfl rfl (OpP.v (P_move rfl rfl)) ?_
 first | (refine L_val rfl rfl rfl (OpP.v (P_subN rfl rfl rfl (by simp only [fits]; omega))) ?_) | (refine L_val rfl rfl rfl (OpP.v (P_sub rfl rfl rfl)) ?_)
 refine L_val rfl rfl rfl (OpP.v (P_lss rfl rfl rfl)) ?_
 refine L_nil ?_
 refine Q_then ?_
 refine R_condP rfl (fun hlt => ?_) (fun hlt => ?_)
 ·skip
  refine R_skip ?_
  refine Q_then ?_
  refine R_block ?_
  refine R_region ?_
  refine L_val rfl rfl rfl (OpP.v (P_move rfl rfl)) ?_
  first | (refine L_val rfl rfl rfl (OpP.v (P_mulN rfl rfl rfl (by simp only [fits]; omega))) ?_) | (refine L_val rfl rfl rfl (OpP.v (P_mul rfl rfl rfl)) ?_)
  refine L_val rfl rfl rfl (OpP.v (P_assign rfl rfl)) ?_
  refine L_nil ?_
  refine Q_block ?_
  refine E_as (t := 3) (v' := .int .i64 ((2 * k : Nat) : Int)) rfl (by first | rfl | (congr 1; omega)) ?_
  exact Q_round (2 * k) (⟨by omega, by omega, by rw [hs, splitF_step hk (by omega), if_pos (by omega)]⟩) (by omega) (by repeat (first | exact .nil | refine .cons rfl ?_)) (Weak.refl _)
 ·skip
  refine R_exit ?_
  refine Q_then_exit ?_
  refine Q_then_exit ?_
  refine Q_block_eq ?_
  refine St.env (.cons (t := 2) rfl (.cons (t := 3) rfl .nil)) ?_
  refine Q_then ?_
  refine R_seq ?_
  refine R_region ?_
  refine L_val rfl rfl rfl (OpP.v (P_move rfl rfl)) ?_
  refine L_val rfl rfl rfl (OpP.v (P_assign rfl rfl)) ?_
  refine L_nil ?_
  refine St.env (.cons (t := 2) rfl .nil) ?_
  refine Q_then ?_
  refine R_ret ?_
  exact R_endV rfl rfl (.tmp rfl .nil) (by rw [hs, splitF_step hk (by omega), if_neg (by omega)]; rfl)
theorem top_step {gl : Nat → Obj} (hG : Globs gl) (base : Option Addr) (c : Nat) (hs : List (List Int)) (hh : ∀ h ∈ hs, h.length = 32) (hc : hs.length ≤ c) (hmax : hs.length ≤ 70368744177664)
  (ih : ∀ (base : Option Addr) (c : Nat) (hs' : List (List Int)), hs'.length < hs.length → (∀ h ∈ hs', h.length = 32) → hs'.length ≤ c → SpecV (cx gl) 117 [.slice base hs'.length c] (fun w => Row w base (flat .u8 hs')) (.agg (ints .u8 (topH hs')).toArray)) :
  SpecV (cx gl) 117 [.slice base hs.length c] (fun w => Row w base (flat .u8 hs)) (.agg (ints .u8 (topH hs)).toArray) := by
 refine Spec.enter (C := cx gl) Tryz.func117 rfl 26 rfl rfl fun w0 h0 hsep hsub hpre => ?_
 obtain rfl : h0 = Heap.none := hsep
 show St (cx gl) _ [(0, .slice base hs.length c)] _ _
 refine R_seq ?_
 refine R_region ?_
 refine L_op rfl (W_alloc rfl rfl rfl ty_ze_29 fun b2 => ?_)
 refine L_nil ?_
 refine Q_then ?_
 refine R_seq ?_
 refine R_seq ?_
 refine R_region ?_
 refine L_val rfl rfl rfl (OpP.v (P_move rfl rfl)) ?_
 refine L_val rfl rfl rfl (OpP.v (P_len rfl ty_sl_45 rfl)) ?_
 refine L_nil ?_
 refine St.env (.cons (t := 0) rfl (.cons (t := 2) rfl (.cons (t := 5) rfl .nil))) ?_
 refine Q_then ?_
 refine R_block ?_
 refine R_seq ?_
 refine R_region ?_
 refine L_val rfl rfl rfl (OpP.v (P_eql rfl rfl rfl)) ?_
 refine L_val rfl rfl rfl (OpP.v (P_assign rfl rfl)) ?_
 refine L_nil ?_
 refine St.env (.cons (t := 0) rfl (.cons (t := 2) rfl (.cons (t := 5) rfl (.cons (t := 6) rfl .nil)))) ?_
 refine Q_then ?_
 refine R_condP rfl (fun h0 => ?_) (fun h0 => ?_)
 ·skip
  refine R_seq ?_
  refine R_region ?_
  refine L_op rfl (W_callV rfl rfl rfl rfl fn_ca_123 (sum_ok hG none 0 [] (Nat.le_refl _)) (fun _ _ => Row.nil) ?_)
  refine L_op rfl (W_storeAll rfl rfl rfl rfl ty_ag_29 (by rw [ints_length, sha_length]) (ints_one) .h0 (by rw [ints_length, sha_length]; rfl) ?_)
  refine L_nil ?_
  refine St.env (.cons (t := 0) rfl (.cons (t := 2) rfl .nil)) ?_
  refine Q_then ?_
  refine R_ret ?_
  refine Q_block_ret ?_
  refine Q_then_ret ?_
  exact R_endV rfl rfl (.cell rfl (Rds.loadVar ty_ag_29 (Rds.blk .h0) (by rw [ints_length, sha_length])) .nil) (by rw [topH_zero (by omega)]; rfl)
 ·skip
  refine R_seq ?_
  refine R_region ?_
  refine L_val rfl rfl rfl (OpP.v (P_eql rfl rfl rfl)) ?_
  refine L_val rfl rfl rfl (OpP.v (P_assign rfl rfl)) ?_
  refine L_nil ?_
  refine St.env (.cons (t := 0) rfl (.cons (t := 2) rfl (.cons (t := 9) rfl .nil))) ?_
  refine Q_then ?_
  refine R_condP rfl (fun h1 => ?_) (fun h1 => ?_)
  ·skip
   obtain ⟨x, hx⟩ : ∃ x, hs[0]? = some x := ⟨_, List.getElem?_eq_getElem (by omega)⟩
   have hxl : x.length = 32 := hh x (List.mem_of_getElem? hx)
   obtain ⟨pb, pj, rfl, hrow⟩ := hpre.some_ (by rw [flat_length hh]; omega)
   refine R_seq ?_
   refine R_region ?_
   refine L_val rfl rfl rfl (OpP.v (P_move rfl rfl)) ?_
   refine L_val rfl rfl rfl (OpP.v (P_ixs (0) rfl ty_sl_45 rfl rfl (by first | rfl | omega) (by omega))) ?_
   refine L_val rfl rfl rfl (V_loadAgg rfl rfl ty_ag_29 ((Rds.row hrow rfl).part (0 * 32) fun j v hv => flat_at hh hx j v hv) (by rw [ints_length, hxl])) ?_
   refine L_op rfl (W_storeAll rfl rfl rfl rfl ty_ag_29 (by rw [ints_length, hxl]) (ints_one) .h0 (by rw [ints_length, hxl]; rfl) ?_)
   refine L_nil ?_
   refine St.env (.cons (t := 0) rfl (.cons (t := 2) rfl .nil)) ?_
   refine Q_then ?_
   refine R_ret ?_
   refine Q_block_ret ?_
   refine Q_then_ret ?_
   exact R_endV rfl rfl (.cell rfl (Rds.loadVar ty_ag_29 (Rds.blk .h0) (by rw [ints_length, hxl])) .nil) (by rw [topH_one (by omega) hx]; rfl)
  ·skip
   have hn : 1 < hs.length := by omega
   have hk1 := splitN_lt hn
   have hk2 := splitN_pos hn
   have e1 : (hs.take (splitN hs.length)).length = splitN hs.length := by rw [List.length_take]; omega
   have e2 : (hs.drop (splitN hs.length)).length = hs.length - splitN hs.length := by rw [List.length_drop]
   have hh1 : ∀ h ∈ (hs.take (splitN hs.length)), h.length = 32 := fun h hm => hh h (List.mem_of_mem_take hm)
   have hh2 : ∀ h ∈ (hs.drop (splitN hs.length)), h.length = 32 := fun h hm => hh h (List.mem_of_mem_drop hm)
   have r1 : ∀ rs, Rw (cx gl) ⟨26, [], w0, Heap.none⟩ rs (if c = 0 then base else base.map (·.add (0 * 32))) (flat .u8 (hs.take (splitN hs.length))) := fun rs => by
      have h := ((Sn.row (C := cx gl) (F := ⟨26, [], w0, Heap.none⟩) (rs := rs) hpre rfl).sliced (sz := 32) (p := 0) (q := splitN hs.length) (c := c) (by omega) (.inr (by rw [flat_length hh]; omega))).rw_
      rwa [Nat.zero_mul, List.drop_zero, Nat.sub_zero, flat_take hh] at h
   have r2 : ∀ rs, Rw (cx gl) ⟨26, [], w0, Heap.none⟩ rs (if c = splitN hs.length then base else base.map (·.add (splitN hs.length * 32))) (flat .u8 (hs.drop (splitN hs.length))) := fun rs => by
      have h := ((Sn.row (C := cx gl) (F := ⟨26, [], w0, Heap.none⟩) (rs := rs) hpre rfl).sliced (sz := 32) (p := splitN hs.length) (q := hs.length) (c := c) hc (.inr (by rw [flat_length hh]; omega))).rw_
      rwa [flat_drop hh, flat_take hh2, ← e2, List.take_length] at h
   refine R_skip ?_
   refine Q_block ?_
   refine Q_then ?_
   refine R_seq ?_
   refine R_region ?_
   refine L_val rfl rfl rfl (OpP.v (P_move rfl rfl)) ?_
   refine L_val rfl rfl rfl (OpP.v (P_len rfl ty_sl_45 rfl)) ?_
   refine L_op rfl (W_callV rfl rfl rfl rfl fn_ca_144 (split_ok gl hs.length (by omega)) (fun _ _ => trivial) ?_)
   refine L_val rfl rfl rfl (OpP.v (P_assign rfl rfl)) ?_
   refine L_nil ?_
   refine St.env (.cons (t := 0) rfl (.cons (t := 2) rfl (.cons (t := 3) rfl .nil))) ?_
   refine Q_then ?_
   refine R_seq ?_
   refine R_open [(0, 0), (1, 0), (2, 0), (4, 0), (5, 0), (6, 0), (3, 2), (7, 2), (8, 2), (9, 3)] mixed (by kernel_rfl) (QOk.then QOk.body) ?_
   refine O_pure rfl rfl rfl rfl (P_move rfl rfl) ?_
   refine O_pure rfl rfl rfl rfl (P_move rfl rfl) ?_
   refine O_pure rfl rfl rfl rfl (P_slice 0 (splitN hs.length) rfl ty_sl_45 rfl rfl ⟨_, rfl⟩ (by omega) (by omega)) ?_
   refine E_as (t := 19) (v' := .slice (if c = 0 then base else base.map (·.add (0 * 32))) (hs.take (splitN hs.length)).length c) rfl (by unfold sliced; rw [e1, Nat.sub_zero, Nat.sub_zero]) ?_
   refine O_pure rfl rfl rfl rfl (P_move rfl rfl) ?_
   refine O_pure rfl rfl rfl rfl (P_move rfl rfl) ?_
   refine O_pure rfl rfl rfl rfl (P_slice (splitN hs.length) hs.length rfl ty_sl_45 rfl ⟨_, rfl⟩ rfl (by omega) (by omega)) ?_
   refine E_as (t := 23) (v' := .slice (if c = splitN hs.length then base else base.map (·.add (splitN hs.length * 32))) (hs.drop (splitN hs.length)).length (c - splitN hs.length)) rfl (by unfold sliced; rw [e2]) ?_
   refine O_keep rfl rfl (W_callV rfl rfl rfl rfl fn_ca_117 (ih _ _ (hs.take (splitN hs.length)) (by omega) hh1 (by omega)) (r1 _) (K_keep (Weak.refl _) ?_))
   refine O_keep rfl rfl (W_callV rfl rfl rfl rfl fn_ca_117 (ih _ _ (hs.drop (splitN hs.length)) (by omega) hh2 (by omega)) (r2 _) (K_keep (Weak.refl _) ?_))
   refine O_keep rfl rfl (W_callV rfl rfl rfl rfl fn_ca_53 (inner_ok hG (topH (hs.take (splitN hs.length))) (topH (hs.drop (splitN hs.length))) (topH_length hh1) (topH_length hh2)) (fun _ _ => trivial) (K_keep (Weak.refl _) ?_))
   refine O_new rfl rfl (W_storeAll rfl rfl rfl rfl ty_ag_29 (by rw [ints_length, sha_length]) (ints_one) .h0 (by rw [ints_length, sha_length]; rfl) (K_new ?_))
   refine O_nil ?_
   refine St.env (.cons (t := 2) rfl .nil) ?_
   refine Q_then ?_
   refine R_ret ?_
   exact R_endV rfl rfl (.cell rfl (Rds.loadVar ty_ag_29 (Rds.blk .h0) (by rw [ints_length, sha_length])) .nil) (by rw [topH_two hn]; rfl)
theorem top_ok {gl : Nat → Obj} (hG : Globs gl) : ∀ (n : Nat) (base : Option Addr) (c : Nat) (hs : List (List Int)), hs.length ≤ n → n ≤ 70368744177664 → (∀ h ∈ hs, h.length = 32) → hs.length ≤ c →
  SpecV (cx gl) 117 [.slice base hs.length c] (fun w => Row w base (flat .u8 hs)) (.agg (ints .u8 (topH hs)).toArray)
 | 0, base, c, hs, hn, hm, hh, hc => top_step hG base c hs hh hc (by omega) fun _ _ hs' hl => absurd hl (by omega)
 | n + 1, base, c, hs, hn, hm, hh, hc => top_step hG base c hs hh hc (by omega) fun base' c' hs' hl hh' hc' => top_ok hG n base' c' hs' (by omega) (by omega) hh' hc'
theorem rtop_step {gl : Nat → Obj} (hG : GlobsR gl) (base : Option Addr) (c : Nat) (vs : List Value) (xss : List (List Int)) (hvx : vs.length = xss.length) (hb : ∀ x ∈ xss, x.length ≤ 140737488355000) (hc : vs.length ≤ c) (hmax : vs.length ≤ 70368744177664)
  (ih : ∀ (base : Option Addr) (c : Nat) (vs' : List Value) (xss' : List (List Int)), vs'.length < vs.length → vs'.length = xss'.length → (∀ x ∈ xss', x.length ≤ 140737488355000) → vs'.length ≤ c → SpecV (cx gl) 22 [.slice base vs'.length c] (fun w => Items w base vs' xss') (.agg (ints .u8 (topH (leaves xss'))).toArray)) :
  SpecV (cx gl) 22 [.slice base vs.length c] (fun w => Items w base vs xss) (.agg (ints .u8 (topH (leaves xss))).toArray) := by
 refine Spec.enter (C := cx gl) Tryz.func22 rfl 31 rfl rfl fun w0 h0 hsep hsub hpre => ?_
 obtain rfl : h0 = Heap.none := hsep
 show St (cx gl) _ [(0, .slice base vs.length c)] _ _
 have hll : (leaves xss).length = vs.length := by rw [leaves_length, hvx]
 refine R_seq ?_
 refine R_region ?_
 refine L_op rfl (W_alloc rfl rfl rfl ty_ze_29 fun b2 => ?_)
 refine L_nil ?_
 refine Q_then ?_
 refine R_seq ?_
 refine R_seq ?_
 refine R_region ?_
 refine L_val rfl rfl rfl (OpP.v (P_move rfl rfl)) ?_
 refine L_val rfl rfl rfl (OpP.v (P_len rfl ty_sl_42 rfl)) ?_
 refine L_val rfl rfl rfl (OpP.v (P_eql rfl rfl rfl)) ?_
 refine L_nil ?_
 refine St.env (.cons (t := 0) rfl (.cons (t := 2) rfl (.cons (t := 8) rfl .nil))) ?_
 refine Q_then ?_
 refine R_condP rfl (fun h0 => ?_) (fun h0 => ?_)
 ·skip
  refine R_seq ?_
  refine R_region ?_
  refine L_op rfl (W_callV rfl rfl rfl rfl fn_ca_17 (rsum_ok hG none 0 [] (Nat.le_refl _) (by decide)) (fun _ _ => Row.nil) ?_)
  refine L_op rfl (W_storeAll rfl rfl rfl rfl ty_ag_29 (by rw [ints_length, sha_length]) (ints_one) .h0 (by rw [ints_length, sha_length]; rfl) ?_)
  refine L_nil ?_
  refine St.env (.cons (t := 0) rfl (.cons (t := 2) rfl .nil)) ?_
  refine Q_then ?_
  refine R_ret ?_
  refine Q_then_ret ?_
  exact R_endV rfl rfl (.cell rfl (Rds.loadVar ty_ag_29 (Rds.blk .h0) (by rw [ints_length, sha_length])) .nil) (by rw [topH_zero (by omega)]; rfl)
 ·skip
  refine R_skip ?_
  refine Q_then ?_
  refine R_seq ?_
  refine R_seq ?_
  refine R_region ?_
  refine L_val rfl rfl rfl (OpP.v (P_move rfl rfl)) ?_
  refine L_val rfl rfl rfl (OpP.v (P_len rfl ty_sl_42 rfl)) ?_
  refine L_val rfl rfl rfl (OpP.v (P_eql rfl rfl rfl)) ?_
  refine L_nil ?_
  refine St.env (.cons (t := 0) rfl (.cons (t := 2) rfl (.cons (t := 12) rfl .nil))) ?_
  refine Q_then ?_
  refine R_condP rfl (fun h1 => ?_) (fun h1 => ?_)
  ·skip
   obtain ⟨bb, bc, ys, hvk, hxk, hbc, hbr⟩ := hpre.2.at_ (k := 0) (by omega)
   obtain ⟨pb, pj, rfl, hrow⟩ := hpre.1.some_ (by omega)
   have hys := hb ys (List.mem_of_getElem? hxk)
   refine R_seq ?_
   refine R_region ?_
   refine L_val rfl rfl rfl (OpP.v (P_move rfl rfl)) ?_
   refine L_val rfl rfl rfl (OpP.v (P_ixs (0) rfl ty_sl_42 rfl rfl (by first | rfl | omega) (by omega))) ?_
   refine L_val rfl rfl rfl (V_load rfl rfl ty_sc_48 (Rd.row hrow rfl hvk)) ?_
   refine L_op rfl (W_callV rfl rfl rfl rfl fn_ca_61 (rleaf_ok hG bb bc ys hys) (fun w nw => (Sn.row hbr rfl).rw_ w nw) ?_)
   refine L_op rfl (W_storeAll rfl rfl rfl rfl ty_ag_29 (by rw [ints_length, sha_length]) (ints_one) .h0 (by rw [ints_length, sha_length]; rfl) ?_)
   refine L_nil ?_
   refine St.env (.cons (t := 0) rfl (.cons (t := 2) rfl .nil)) ?_
   refine Q_then ?_
   refine R_ret ?_
   refine Q_then_ret ?_
   exact R_endV rfl rfl (.cell rfl (Rds.loadVar ty_ag_29 (Rds.blk .h0) (by rw [ints_length, sha_length])) .nil) (by rw [topH_one (x := sha (0 :: ys)) (by omega) (by unfold leaves; rw [List.getElem?_map, hxk]; rfl)]; rfl)
  ·skip
   have hn : 1 < vs.length := by omega
   have hk1 := splitN_lt hn
   have hk2 := splitN_pos hn
   have e1 : (vs.take (splitN vs.length)).length = splitN vs.length := by rw [List.length_take]; omega
   have e2 : (vs.drop (splitN vs.length)).length = vs.length - splitN vs.length := by rw [List.length_drop]
   have r1 : ∀ rs w, Now (cx gl) ⟨31, [], w0, Heap.none⟩ rs w → Items w (if c = 0 then base else base.map (·.add (0 * 1))) (vs.take (splitN vs.length)) (xss.take (splitN vs.length)) := fun rs w nw => by
      have h := (Items.row (C := cx gl) (F := ⟨31, [], w0, Heap.none⟩) (rs := rs) hpre rfl w nw).sliced (p := 0) (q := splitN vs.length) (c := c) (by omega) (by omega)
      rwa [List.drop_zero, List.drop_zero, Nat.sub_zero] at h
   have r2 : ∀ rs w, Now (cx gl) ⟨31, [], w0, Heap.none⟩ rs w → Items w (if c = splitN vs.length then base else base.map (·.add (splitN vs.length * 1))) (vs.drop (splitN vs.length)) (xss.drop (splitN vs.length)) := fun rs w nw => by
      have h := (Items.row (C := cx gl) (F := ⟨31, [], w0, Heap.none⟩) (rs := rs) hpre rfl w nw).sliced (p := splitN vs.length) (q := vs.length) (c := c) hc (Nat.le_refl _)
      rw [take_sub] at h
      rw [hvx] at h ⊢
      rwa [take_sub] at h
   have hb1 : ∀ x ∈ (xss.take (splitN vs.length)), x.length ≤ 140737488355000 := fun x hm => hb x (List.mem_of_mem_take hm)
   have hb2 : ∀ x ∈ (xss.drop (splitN vs.length)), x.length ≤ 140737488355000 := fun x hm => hb x (List.mem_of_mem_drop hm)
   refine R_skip ?_
   refine Q_then ?_
   refine R_seq ?_
   refine R_region ?_
   refine L_val rfl rfl rfl (OpP.v (P_move rfl rfl)) ?_
   refine L_val rfl rfl rfl (OpP.v (P_len rfl ty_sl_42 rfl)) ?_
   refine L_op rfl (W_callV rfl rfl rfl rfl fn_ca_66 (rsplit_ok gl vs.length (by omega)) (fun _ _ => trivial) ?_)
   refine L_val rfl rfl rfl (OpP.v (P_assign rfl rfl)) ?_
   refine L_nil ?_
   refine St.env (.cons (t := 0) rfl (.cons (t := 2) rfl (.cons (t := 3) rfl .nil))) ?_
   refine Q_then ?_
   refine R_seq ?_
   refine R_region ?_
   refine L_val rfl rfl rfl (OpP.v (P_move rfl rfl)) ?_
   refine L_val rfl rfl rfl (OpP.v (P_move rfl rfl)) ?_
   refine L_val rfl rfl rfl (OpP.v (P_slice 0 (splitN vs.length) rfl ty_sl_42 rfl rfl ⟨_, rfl⟩ (by omega) (by omega))) ?_
   refine E_as (t := 22) (v' := .slice (if c = 0 then base else base.map (·.add (0 * 1))) (vs.take (splitN vs.length)).length c) rfl (by unfold sliced; rw [e1, Nat.sub_zero, Nat.sub_zero]) ?_
   refine L_op rfl (W_callV rfl rfl rfl rfl fn_ca_22 (ih _ _ (vs.take (splitN vs.length)) (xss.take (splitN vs.length)) (by omega) (by rw [List.length_take, List.length_take, hvx]) hb1 (by omega)) (r1 _) ?_)
   refine L_op rfl (W_alloc rfl rfl rfl ty_ze_29 fun b4 => ?_)
   refine L_op rfl (W_storeAll rfl rfl rfl rfl ty_ag_29 (by rw [ints_length, topH_length (leaves_len _)]) (ints_one) .h0 (by rw [ints_length, topH_length (leaves_len _)]; rfl) ?_)
   refine L_nil ?_
   refine St.env (.cons (t := 0) rfl (.cons (t := 2) rfl (.cons (t := 3) rfl (.cons (t := 4) rfl .nil)))) ?_
   refine Q_then ?_
   refine R_seq ?_
   refine R_region ?_
   refine L_val rfl rfl rfl (OpP.v (P_move rfl rfl)) ?_
   refine L_val rfl rfl rfl (OpP.v (P_move rfl rfl)) ?_
   refine L_val rfl rfl rfl (OpP.v (P_slice (splitN vs.length) vs.length rfl ty_sl_42 rfl ⟨_, rfl⟩ rfl (by omega) (by omega))) ?_
   refine E_as (t := 26) (v' := .slice (if c = splitN vs.length then base else base.map (·.add (splitN vs.length * 1))) (vs.drop (splitN vs.length)).length (c - splitN vs.length)) rfl (by unfold sliced; rw [e2]) ?_
   refine L_op rfl (W_callV rfl rfl rfl rfl fn_ca_22 (ih _ _ (vs.drop (splitN vs.length)) (xss.drop (splitN vs.length)) (by omega) (by rw [List.length_drop, List.length_drop, hvx]) hb2 (by omega)) (r2 _) ?_)
   refine L_op rfl (W_alloc rfl rfl rfl ty_ze_29 fun b5 => ?_)
   refine L_op rfl (W_storeAll rfl rfl rfl rfl ty_ag_29 (by rw [ints_length, topH_length (leaves_len _)]) (ints_one) .h0 (by rw [ints_length, topH_length (leaves_len _)]; rfl) ?_)
   refine L_nil ?_
   refine St.env (.cons (t := 2) rfl (.cons (t := 4) rfl (.cons (t := 5) rfl .nil))) ?_
   refine Q_then ?_
   refine R_seq ?_
   refine R_region ?_
   refine L_val rfl rfl rfl (V_loadAgg rfl rfl ty_ag_29 (Rds.blk .h1) (by rw [ints_length, topH_length (leaves_len _)])) ?_
   refine L_val rfl rfl rfl (V_loadAgg rfl rfl ty_ag_29 (Rds.blk .h0) (by rw [ints_length, topH_length (leaves_len _)])) ?_
   refine L_op rfl (W_callV rfl rfl rfl rfl fn_ca_56 (rinner_ok hG (topH (leaves (xss.take (splitN vs.length)))) (topH (leaves (xss.drop (splitN vs.length)))) (topH_length (leaves_len _)) (topH_length (leaves_len _))) (fun _ _ => trivial) ?_)
   refine L_op rfl (W_storeAll rfl rfl rfl rfl ty_ag_29 (by rw [ints_length, sha_length]) (ints_one) .h2 (by rw [ints_length, sha_length]; rfl) ?_)
   refine L_nil ?_
   refine St.env (.cons (t := 2) rfl .nil) ?_
   refine Q_then ?_
   refine R_ret ?_
   exact R_endV rfl rfl (.cell rfl (Rds.loadVar ty_ag_29 (Rds.blk .h2) (by rw [ints_length, sha_length])) .nil) (by rw [topH_two (l := leaves xss) (by omega), hll, ← leaves_take, ← leaves_drop]; rfl)
theorem rtop_ok {gl : Nat → Obj} (hG : GlobsR gl) : ∀ (n : Nat) (base : Option Addr) (c : Nat) (vs : List Value) (xss : List (List Int)), vs.length ≤ n → n ≤ 70368744177664 → vs.length = xss.length → (∀ x ∈ xss, x.length ≤ 140737488355000) → vs.length ≤ c →
  SpecV (cx gl) 22 [.slice base vs.length c] (fun w => Items w base vs xss) (.agg (ints .u8 (topH (leaves xss))).toArray)
 | 0, base, c, vs, xss, hn, hm, hv, hb, hc => rtop_step hG base c vs xss hv hb hc (by omega) fun _ _ vs' _ hl => absurd hl (by omega)
 | n + 1, base, c, vs, xss, hn, hm, hv, hb, hc => rtop_step hG base c vs xss hv hb hc (by omega) fun base' c' vs' xss' hl hv' hb' hc' => rtop_ok hG n base' c' vs' xss' (by omega) (by omega) hv' hb' hc'
end Go.Proofs.YtfhjhaogmdaepaaGreatDoor

/- Plain: the way from the root down to a place; what a proof leads to. -/
set_option linter.unusedVariables false
set_option linter.unusedSimpArgs false
namespace Go.Proofs.YtfhjhaogmdaepaaGreatDoor
open Go

def turnsF : Nat → Nat → Nat → List Bool
 | 0, _, _ => []
 | f + 1, n, i => if n ≤ 1 then [] else decide (splitN n ≤ i) :: (if splitN n ≤ i then turnsF f (n - splitN n) (i - splitN n) else turnsF f (splitN n) i)
/-- At each step from the root down to a place: whether it goes to the right. -/
def turnsH (n i : Nat) : List Bool := turnsF n n i
theorem turnsF_fuel : ∀ (f g n i : Nat), n ≤ f → n ≤ g → turnsF f n i = turnsF g n i
 | 0, g, n, i, h1, h2 => by
  cases g with
  | zero => rfl
  | succ g => unfold turnsF; rw [if_pos (by omega)]
 | f + 1, 0, n, i, h1, h2 => by
  simp only [turnsF]; rw [if_pos (by omega)]
 | f + 1, g + 1, n, i, h1, h2 => by
  unfold turnsF
  by_cases h : n ≤ 1
  ·rw [if_pos h, if_pos h]
  ·have := splitN_lt (n := n) (by omega)
   have := splitN_pos (n := n) (by omega)
   rw [if_neg h, if_neg h]
   by_cases hk : splitN n ≤ i
   ·rw [if_pos hk, if_pos hk, turnsF_fuel f g _ _ (by omega) (by omega)]
   ·rw [if_neg hk, if_neg hk, turnsF_fuel f g _ _ (by omega) (by omega)]
theorem turnsH_one {n i : Nat} (h : n ≤ 1) : turnsH n i = [] := by
 unfold turnsH
 cases n with
 | zero => rfl
 | succ n => unfold turnsF; rw [if_pos h]
theorem turnsH_right {n i : Nat} (h : 1 < n) (hk : splitN n ≤ i) : turnsH n i = true :: turnsH (n - splitN n) (i - splitN n) := by
 have := splitN_lt h
 have := splitN_pos h
 obtain ⟨m, rfl⟩ : ∃ m, n = m + 1 := ⟨n - 1, by omega⟩
 unfold turnsH
 conv => lhs; unfold turnsF
 rw [if_neg (by omega), if_pos hk, decide_eq_true hk, turnsF_fuel m _ _ _ (by omega) (Nat.le_refl _)]
theorem turnsH_left {n i : Nat} (h : 1 < n) (hk : ¬ splitN n ≤ i) : turnsH n i = false :: turnsH (splitN n) i := by
 have := splitN_lt h
 have := splitN_pos h
 obtain ⟨m, rfl⟩ : ∃ m, n = m + 1 := ⟨n - 1, by omega⟩
 unfold turnsH
 conv => lhs; unfold turnsF
 rw [if_neg (by omega), if_neg hk, decide_eq_false hk, turnsF_fuel m _ _ _ (by omega) (Nat.le_refl _)]
theorem turnsH_len (n i : Nat) : (turnsH n i).length ≤ n := by
 have key : ∀ (m n i : Nat), n ≤ m → (turnsH n i).length ≤ n := by
  intro m
  induction m with
  | zero => intro n i h; rw [turnsH_one (by omega)]; exact Nat.zero_le _
  | succ m ih =>
   intro n i h
   by_cases h1 : n ≤ 1
   ·rw [turnsH_one h1]; exact Nat.zero_le _
   ·have h2 := splitN_lt (n := n) (by omega)
    have h3 := splitN_pos (n := n) (by omega)
    by_cases hk : splitN n ≤ i
    ·rw [turnsH_right (by omega) hk, List.length_cons]
     have := ih (n - splitN n) (i - splitN n) (by omega); omega
    ·rw [turnsH_left (by omega) hk, List.length_cons]
     have := ih (splitN n) i (by omega); omega
 exact key n n i (Nat.le_refl _)
/-- One step up. -/
def stepH (t a : List Int) (d : Bool) : List Int := if d = true then sha (1 :: (a ++ t)) else sha (1 :: (t ++ a))
theorem stepH_length (t a : List Int) (d : Bool) : (stepH t a d).length = 32 := by unfold stepH; split <;> exact sha_length _
/-- From a leaf's digest up along the aunts. -/
def climb (t : List Int) : List (List Int) → List Bool → List Int
 | a :: es, d :: ds => climb (stepH t a d) es ds
 | _, _ => t
theorem climb_append (t : List Int) : ∀ (es : List (List Int)) (ds : List Bool) (a : List Int) (d : Bool), es.length = ds.length → climb t (es ++ [a]) (ds ++ [d]) = stepH (climb t es ds) a d := by
 intro es
 induction es generalizing t with
 | nil => intro ds a d h; cases ds with
  | nil => rfl
  | cons => cases h
 | cons b es ih => intro ds a d h; cases ds with
  | nil => cases h
  | cons e ds => exact ih (stepH t b e) ds a d (by simpa using h)
theorem climb_length {t : List Int} (ht : t.length = 32) : ∀ (es : List (List Int)) (ds : List Bool), (climb t es ds).length = 32 := by
 intro es
 induction es generalizing t with
 | nil => intro ds; exact ht
 | cons a es ih => intro ds; cases ds with
  | nil => exact ht
  | cons d ds => exact ih (stepH_length _ _ _) ds
theorem climb_take (t : List Int) (es : List (List Int)) (ds : List Bool) (k : Nat) (a : List Int) (d : Bool) (ha : es[k]? = some a) (hd : ds[k]? = some d) : climb t (es.take (k + 1)) (ds.take (k + 1)) = stepH (climb t (es.take k) (ds.take k)) a d := by
 have h1 := (List.getElem?_eq_some_iff.1 ha).1
 have h2 := (List.getElem?_eq_some_iff.1 hd).1
 rw [List.take_add_one, List.take_add_one, ha, hd]
 exact climb_append t _ _ a d (by rw [List.length_take, List.length_take]; omega)
/-- The top to which a proof leads. -/
def leadH (n i : Nat) (es : List (List Int)) (t : List Int) : List Int := climb t es (turnsH n i).reverse
theorem leadH_one {n i : Nat} (h : n ≤ 1) (t : List Int) : leadH n i [] t = t := by unfold leadH; rw [turnsH_one h]; rfl
theorem leadH_right {n i : Nat} (h : 1 < n) (hk : splitN n ≤ i) {es : List (List Int)} (a t : List Int) (hl : es.length = (turnsH (n - splitN n) (i - splitN n)).length) : leadH n i (es ++ [a]) t = sha (1 :: (a ++ leadH (n - splitN n) (i - splitN n) es t)) := by
 unfold leadH
 rw [turnsH_right h hk, List.reverse_cons, climb_append _ _ _ _ _ (by rw [List.length_reverse]; exact hl)]
 rfl
theorem leadH_left {n i : Nat} (h : 1 < n) (hk : ¬ splitN n ≤ i) {es : List (List Int)} (a t : List Int) (hl : es.length = (turnsH (splitN n) i).length) : leadH n i (es ++ [a]) t = sha (1 :: (leadH (splitN n) i es t ++ a)) := by
 unfold leadH
 rw [turnsH_left h hk, List.reverse_cons, climb_append _ _ _ _ _ (by rw [List.length_reverse]; exact hl)]
 rfl
theorem leadH_length {n i : Nat} {es : List (List Int)} {t : List Int} (ht : t.length = 32) : (leadH n i es t).length = 32 := climb_length ht _ _
/-- May such a proof be? -/
def inB (total index : Int) : Bool := decide (1 ≤ total ∧ total ≤ 65536 ∧ 0 ≤ index ∧ index < total)
def fitsB (total index : Int) (m : Nat) : Bool := inB total index && decide (m = (turnsH total.toNat index.toNat).length)
/-- What Path answers. -/
def pathE (total index : Int) (hs : List (List Int)) (item : List Int) : Int := if 1048576 < item.length then 4 else if fitsB total index hs.length = true then 0 else 20
def pathD (total index : Int) (hs : List (List Int)) (item : List Int) : List Int := if pathE total index hs item = 0 then sha (2 :: (numB total ++ leadH total.toNat index.toNat hs (leafH item))) else List.replicate 32 0
theorem pathD_length (total index : Int) (hs : List (List Int)) (item : List Int) : (pathD total index hs item).length = 32 := by unfold pathD; split <;> simp [sha_length]
def verE (root : List Int) (total index : Int) (hs : List (List Int)) (item : List Int) : Int := if pathE total index hs item = 0 then (if pathD total index hs item = root then 0 else 21) else pathE total index hs item
def pathV (total index : Int) (hs : List (List Int)) (item : List Int) : Value := .tuple #[.agg (ints .u8 (pathD total index hs item)).toArray, .int .i64 (pathE total index hs item)]
theorem fitsB_true {total index : Int} {m : Nat} (h : fitsB total index m = true) : ∃ n i : Nat, total = n ∧ index = i ∧ 1 ≤ n ∧ n ≤ 65536 ∧ i < n ∧ m = (turnsH n i).length := by
 unfold fitsB inB at h
 simp only [Bool.and_eq_true, decide_eq_true_eq] at h
 refine ⟨total.toNat, index.toNat, by omega, by omega, by omega, by omega, by omega, h.2⟩
theorem inB_true {total index : Int} (h : inB total index = true) : ∃ n i : Nat, total = n ∧ index = i ∧ 1 ≤ n ∧ n ≤ 65536 ∧ i < n := by
 unfold inB at h
 simp only [decide_eq_true_eq] at h
 exact ⟨total.toNat, index.toNat, by omega, by omega, by omega, by omega, by omega⟩
end Go.Proofs.YtfhjhaogmdaepaaGreatDoor

/- Walks: turns, Length, up, Fits. Printed by gen.py. -/
set_option linter.unusedVariables false
set_option linter.unusedSimpArgs false
set_option maxRecDepth 100000
namespace Go.Proofs.YtfhjhaogmdaepaaGreatDoor
open Go Go.RowKit Go.Proofs
def bools (ds : List Bool) : List Value := ds.map Value.bool
theorem bools_snoc (ds : List Bool) (d : Bool) : bools ds ++ [.bool d] = bools (ds ++ [d]) := by simp [bools]
theorem bools_at {ds : List Bool} {i : Nat} {d : Bool} (h : ds[i]? = some d) : (bools ds)[i]? = some (.bool d) := by simp [bools, h]
theorem list_snoc {α : Type} {l : List α} (h : 0 < l.length) : ∃ es a, l = es ++ [a] := ⟨l.dropLast, l.getLast (by intro e; rw [e] at h; cases h), (List.dropLast_concat_getLast _).symm⟩
theorem fitsB_out {total index : Int} {m : Nat} (h : ¬ (1 ≤ total ∧ total ≤ 65536 ∧ 0 ≤ index ∧ index < total)) : fitsB total index m = false := by unfold fitsB inB; rw [decide_eq_false h]; rfl
theorem inB_of {total index : Int} (h : 1 ≤ total ∧ total ≤ 65536 ∧ 0 ≤ index ∧ index < total) : ∃ n i : Nat, total = n ∧ index = i ∧ 1 ≤ n ∧ n ≤ 65536 ∧ i < n := inB_true (by unfold inB; exact decide_eq_true h)
theorem fitsB_in {n i m : Nat} (h1 : 1 ≤ n) (h2 : n ≤ 65536) (h3 : i < n) : fitsB (n : Int) (i : Int) m = decide (m = (turnsH n i).length) := by
 unfold fitsB inB
 rw [decide_eq_true (by omega), Bool.true_and]; rfl
def LenOk (gl : Nat → Obj) (b : Nat) : Prop := ∀ n i : Nat, n < b → i ≤ 70368744177664 → SpecV (cx gl) 127 [.int .i64 (n : Int), .int .i64 (i : Int)] noPre (.int .i64 ((turnsH n i).length : Nat))
def UpOk (gl : Nat → Obj) (b : Nat) : Prop := ∀ (n i : Nat) (base : Option Addr) (c : Nat) (hs : List (List Int)) (lf : List Int), n < b → 1 ≤ n → i < n → hs.length = (turnsH n i).length → (∀ h ∈ hs, h.length = 32) → hs.length ≤ c → lf.length = 32 →
 SpecV (cx gl) 62 [.int .i64 (n : Int), .int .i64 (i : Int), .slice base hs.length c, .agg (ints .u8 lf).toArray] (fun w => Row w base (flat .u8 hs)) (.agg (ints .u8 (leadH n i hs lf)).toArray)
theorem turns_ok {gl : Nat → Obj} (n i : Nat) (hn : n ≤ 65536) (hi : i ≤ 65536) : Spec (cx gl) 179 [.int .i64 (n : Int), .int .i64 (i : Int)] (fun _ _ => True) [] (fun v rs => rs = [ownS 4 1 v (turnsH n i).length (bools (turnsH n i))]) := by
 refine Spec.enter (C := cx gl) Tryz.func179 rfl 28 rfl rfl fun w0 h0 hsep hsub hpre => ?_
 obtain rfl : h0 = Heap.none := hsep
 show St (cx gl) _ [(0, .int .i64 (n : Int)), (1, .int .i64 (i : Int))] _ _
 refine R_seq ?_
 refine R_region ?_
 refine L_val rfl rfl rfl (OpP.v (P_assign rfl rfl)) ?_
 refine L_nil ?_
 refine Q_then ?_
 refine R_seq ?_
 refine R_region ?_
 refine L_val rfl rfl rfl (OpP.v (P_assign rfl rfl)) ?_
 refine St.res (rs' := [ownS 4 1 (.slice none 0 0) 0 []]) (Weak.newNil) ?_
 refine L_nil ?_
 refine Q_then ?_
 refine R_seq ?_
 refine R_block ?_
 refine R_loop (G := Value × Nat × Nat × List Bool) (fun g => [(0, .int .i64 (g.2.1 : Int)), (1, .int .i64 (g.2.2.1 : Int)), (4, .slice none 0 0), (5, g.1)]) (fun g => [ownS 4 1 g.1 g.2.2.2.length (bools g.2.2.2)]) (fun g => turnsH n i = g.2.2.2 ++ turnsH g.2.1 g.2.2.1 ∧ g.2.1 ≤ n ∧ g.2.2.1 ≤ i) (fun g => g.2.1) ((.slice none 0 0, n, i, [])) (⟨rfl, Nat.le_refl _, Nat.le_refl _⟩) (by repeat (first | exact .nil | refine .cons rfl ?_)) (Weak.refl _) ?_
 rintro ⟨v, n1, i1, ds⟩ hinv
 replace hinv : turnsH n i = ds ++ turnsH n1 i1 ∧ n1 ≤ n ∧ i1 ≤ i := hinv
 show St (cx gl) _ [(0, .int .i64 (n1 : Int)), (1, .int .i64 (i1 : Int)), (4, .slice none 0 0), (5, v)] [ownS 4 1 v ds.length (bools ds)] _
 obtain ⟨hds, hn2, hi2⟩ := hinv
 have hdl : ds.length ≤ n := by have h := turnsH_len n i; rw [hds, List.length_append] at h; omega
 refine R_seq ?_
 refine R_seq ?_
 refine R_region ?_
 refine L_val rfl rfl rfl (OpP.v (P_move rfl rfl)) ?_
 refine L_val rfl rfl rfl (OpP.v (P_gtr rfl rfl rfl)) ?_
 refine L_nil ?_
 refine Q_then ?_
 refine R_condP rfl (fun hgt => ?_) (fun hgt => ?_)
 ·skip
  have hn1 : 1 < n1 := by omega
  have hk1 := splitN_lt hn1
  have hk2 := splitN_pos hn1
  refine R_skip ?_
  refine Q_then ?_
  refine R_block ?_
  refine R_seq ?_
  refine R_region ?_
  refine L_val rfl rfl rfl (OpP.v (P_move rfl rfl)) ?_
  refine L_op rfl (W_callV rfl rfl rfl rfl fn_ca_144 (split_ok gl n1 (by omega)) (fun _ _ => trivial) ?_)
  refine L_val rfl rfl rfl (OpP.v (P_assign rfl rfl)) ?_
  refine L_nil ?_
  refine Q_then ?_
  refine R_seq ?_
  refine R_region ?_
  refine L_val rfl rfl rfl (OpP.v (P_move rfl rfl)) ?_
  refine L_val rfl rfl rfl (OpP.v (P_move rfl rfl)) ?_
  refine L_val rfl rfl rfl (OpP.v (P_geq rfl rfl rfl)) ?_
  refine E_as (t := 14) (v' := .bool (decide (splitN n1 ≤ i1))) rfl (congrArg Value.bool (decide_eq_decide.2 (by omega))) ?_
  refine L_val rfl rfl rfl (OpP.v (P_assign rfl rfl)) ?_
  refine L_nil ?_
  refine Q_then ?_
  refine R_seq ?_
  refine R_region ?_
  refine L_val rfl rfl rfl (OpP.v (P_move rfl rfl)) ?_
  refine L_val rfl rfl rfl (OpP.v (P_move rfl rfl)) ?_
  refine L_op rfl (W_lit (z := .nilIface) ([.bool (decide (splitN n1 ≤ i1))]) rfl rfl rfl ty_sl_163 ty_lz_163 rfl rfl rfl (by decide) (by decide) (by simp [Value.cells]) (rfl) fun b17 => ?_)
  refine L_op rfl (W_append (p := [_]) rfl rfl rfl ty_sl_163 ty_ap_163 ty_src_163 rfl rfl rfl (Src.slice (sz := 1) (news := [.bool (decide (splitN n1 ≤ i1))]) (Rds.blk .h0) rfl (by simp [Value.oneCell'])) (by omega) (by simp only [maxLen]; omega) fun v18 => ?_)
  refine L_val rfl rfl rfl (OpP.v (P_assign rfl rfl)) ?_
  refine L_nil ?_
  refine Q_then ?_
  refine R_seq ?_
  refine R_region ?_
  refine L_val rfl rfl rfl (OpP.v (P_move rfl rfl)) ?_
  refine L_nil ?_
  refine Q_then ?_
  refine R_condP rfl (fun hk => ?_) (fun hk => ?_)
  ·skip
   refine R_region ?_
   refine L_val rfl rfl rfl (OpP.v (P_move rfl rfl)) ?_
   refine L_val rfl rfl rfl (OpP.v (P_move rfl rfl)) ?_
   first | (refine L_val rfl rfl rfl (OpP.v (P_subN rfl rfl rfl (by simp only [fits]; omega))) ?_) | (refine L_val rfl rfl rfl (OpP.v (P_sub rfl rfl rfl)) ?_)
   refine L_val rfl rfl rfl (OpP.v (P_move rfl rfl)) ?_
   refine L_val rfl rfl rfl (OpP.v (P_move rfl rfl)) ?_
   first | (refine L_val rfl rfl rfl (OpP.v (P_subN rfl rfl rfl (by simp only [fits]; omega))) ?_) | (refine L_val rfl rfl rfl (OpP.v (P_sub rfl rfl rfl)) ?_)
   refine L_val rfl rfl rfl (OpP.v (P_assign rfl rfl)) ?_
   refine L_val rfl rfl rfl (OpP.v (P_assign rfl rfl)) ?_
   refine L_nil ?_
   refine Q_block ?_
   refine E_as (t := 0) (v' := .int .i64 ((n1 - splitN n1 : Nat) : Int)) rfl (by congr 1; omega) ?_
   refine E_as (t := 1) (v' := .int .i64 ((i1 - splitN n1 : Nat) : Int)) rfl (by congr 1; omega) ?_
   exact Q_round ((v18, n1 - splitN n1, i1 - splitN n1, ds ++ [decide (splitN n1 ≤ i1)])) (⟨by show turnsH n i = (ds ++ [decide (splitN n1 ≤ i1)]) ++ turnsH (n1 - splitN n1) (i1 - splitN n1); rw [hds, turnsH_right hn1 hk, decide_eq_true hk, List.append_assoc]; rfl, by show n1 - splitN n1 ≤ n; omega, by show i1 - splitN n1 ≤ i; omega⟩) (by show (n1 - splitN n1) < n1; omega) (by repeat (first | exact .nil | refine .cons rfl ?_)) (Weak.drop (ownS.to (by simp) (bools_snoc _ _)))
  ·skip
   refine R_region ?_
   refine L_val rfl rfl rfl (OpP.v (P_move rfl rfl)) ?_
   refine L_val rfl rfl rfl (OpP.v (P_assign rfl rfl)) ?_
   refine L_nil ?_
   refine Q_block ?_
   exact Q_round ((v18, splitN n1, i1, ds ++ [decide (splitN n1 ≤ i1)])) (⟨by show turnsH n i = (ds ++ [decide (splitN n1 ≤ i1)]) ++ turnsH (splitN n1) i1; rw [hds, turnsH_left hn1 hk, decide_eq_false hk, List.append_assoc]; rfl, by show splitN n1 ≤ n; omega, hi2⟩) (by show (splitN n1) < n1; omega) (by repeat (first | exact .nil | refine .cons rfl ?_)) (Weak.drop (ownS.to (by simp) (bools_snoc _ _)))
 ·skip
  rw [turnsH_one (n := n1) (by omega), List.append_nil] at hds
  rw [← hds]
  refine R_exit ?_
  refine Q_then_exit ?_
  refine Q_then_exit ?_
  refine Q_block_eq ?_
  refine St.env (.cons (t := 4) rfl (.cons (t := 5) rfl .nil)) ?_
  refine Q_then ?_
  refine R_seq ?_
  refine R_region ?_
  refine L_val rfl rfl rfl (OpP.v (P_move rfl rfl)) ?_
  refine L_val rfl rfl rfl (OpP.v (P_assign rfl rfl)) ?_
  refine L_nil ?_
  refine St.env (.cons (t := 4) rfl .nil) ?_
  refine Q_then ?_
  refine R_ret ?_
  exact R_end (rs2 := _) rfl rfl (.tmp rfl .nil) (rfl) (Weak.refl _)
theorem length_step {gl : Nat → Obj} (b : Nat) (hb : b ≤ 70368744177664) (ih : LenOk gl b) : LenOk gl (b + 1) := by
 intro n i hn hi
 refine Spec.enter (C := cx gl) Tryz.func127 rfl 25 rfl rfl fun w0 h0 hsep hsub hpre => ?_
 obtain rfl : h0 = Heap.none := hsep
 show St (cx gl) _ [(0, .int .i64 (n : Int)), (1, .int .i64 (i : Int))] _ _
 refine R_seq ?_
 refine R_region ?_
 refine L_val rfl rfl rfl (OpP.v (P_assign rfl rfl)) ?_
 refine L_nil ?_
 refine Q_then ?_
 refine R_seq ?_
 refine R_seq ?_
 refine R_region ?_
 refine L_val rfl rfl rfl (OpP.v (P_move rfl rfl)) ?_
 refine L_val rfl rfl rfl (OpP.v (P_leq rfl rfl rfl)) ?_
 refine L_nil ?_
 refine St.env (.cons (t := 0) rfl (.cons (t := 1) rfl (.cons (t := 4) rfl (.cons (t := 7) rfl .nil)))) ?_
 refine Q_then ?_
 refine R_condP rfl (fun h1 => ?_) (fun h1 => ?_)
 ·skip
  refine R_seq ?_
  refine R_region ?_
  refine L_val rfl rfl rfl (OpP.v (P_assign rfl rfl)) ?_
  refine L_nil ?_
  refine St.env (.cons (t := 0) rfl (.cons (t := 1) rfl (.cons (t := 4) rfl .nil))) ?_
  refine Q_then ?_
  refine R_ret ?_
  refine Q_then_ret ?_
  exact R_endV rfl rfl (.tmp rfl .nil) (by rw [turnsH_one (by omega)]; rfl)
 ·skip
  have hn1 : 1 < n := by omega
  have hk1 := splitN_lt hn1
  have hk2 := splitN_pos hn1
  refine R_skip ?_
  refine Q_then ?_
  refine R_seq ?_
  refine R_region ?_
  refine L_val rfl rfl rfl (OpP.v (P_move rfl rfl)) ?_
  refine L_op rfl (W_callV rfl rfl rfl rfl fn_ca_66 (rsplit_ok gl n (by omega)) (fun _ _ => trivial) ?_)
  refine L_val rfl rfl rfl (OpP.v (P_assign rfl rfl)) ?_
  refine L_nil ?_
  refine St.env (.cons (t := 0) rfl (.cons (t := 1) rfl (.cons (t := 4) rfl (.cons (t := 5) rfl .nil)))) ?_
  refine Q_then ?_
  refine R_seq ?_
  refine R_seq ?_
  refine R_region ?_
  refine L_val rfl rfl rfl (OpP.v (P_move rfl rfl)) ?_
  refine L_val rfl rfl rfl (OpP.v (P_move rfl rfl)) ?_
  refine L_val rfl rfl rfl (OpP.v (P_lss rfl rfl rfl)) ?_
  refine L_nil ?_
  refine St.env (.cons (t := 0) rfl (.cons (t := 1) rfl (.cons (t := 4) rfl (.cons (t := 5) rfl (.cons (t := 12) rfl .nil))))) ?_
  refine Q_then ?_
  refine R_condP rfl (fun hk => ?_) (fun hk => ?_)
  ·skip
   refine R_seq ?_
   refine R_region ?_
   refine L_val rfl rfl rfl (OpP.v (P_move rfl rfl)) ?_
   refine L_val rfl rfl rfl (OpP.v (P_move rfl rfl)) ?_
   refine L_op rfl (W_callV rfl rfl rfl rfl fn_ca_127 (ih (splitN n) i (by omega) hi) (fun _ _ => trivial) ?_)
   refine L_val rfl rfl rfl (OpP.v (P_addN rfl rfl rfl (by have := turnsH_len (splitN n) i; simp only [fits]; omega))) ?_
   refine L_val rfl rfl rfl (OpP.v (P_assign rfl rfl)) ?_
   refine L_nil ?_
   refine St.env (.cons (t := 0) rfl (.cons (t := 1) rfl (.cons (t := 4) rfl (.cons (t := 5) rfl .nil)))) ?_
   refine Q_then ?_
   refine R_ret ?_
   refine Q_then_ret ?_
   exact R_endV rfl rfl (.tmp rfl .nil) (by rw [turnsH_left hn1 (by omega), List.length_cons]; rfl)
  ·skip
   refine R_skip ?_
   refine Q_then ?_
   refine R_seq ?_
   refine R_region ?_
   refine L_val rfl rfl rfl (OpP.v (P_move rfl rfl)) ?_
   refine L_val rfl rfl rfl (OpP.v (P_move rfl rfl)) ?_
   first | (refine L_val rfl rfl rfl (OpP.v (P_subN rfl rfl rfl (by simp only [fits]; omega))) ?_) | (refine L_val rfl rfl rfl (OpP.v (P_sub rfl rfl rfl)) ?_)
   refine E_as (t := 19) (v' := .int .i64 ((n - splitN n : Nat) : Int)) rfl (by congr 1; omega) ?_
   refine L_val rfl rfl rfl (OpP.v (P_move rfl rfl)) ?_
   refine L_val rfl rfl rfl (OpP.v (P_move rfl rfl)) ?_
   first | (refine L_val rfl rfl rfl (OpP.v (P_subN rfl rfl rfl (by simp only [fits]; omega))) ?_) | (refine L_val rfl rfl rfl (OpP.v (P_sub rfl rfl rfl)) ?_)
   refine E_as (t := 22) (v' := .int .i64 ((i - splitN n : Nat) : Int)) rfl (by congr 1; omega) ?_
   refine L_op rfl (W_callV rfl rfl rfl rfl fn_ca_127 (ih (n - splitN n) (i - splitN n) (by omega) (by omega)) (fun _ _ => trivial) ?_)
   refine L_val rfl rfl rfl (OpP.v (P_addN rfl rfl rfl (by have := turnsH_len (n - splitN n) (i - splitN n); simp only [fits]; omega))) ?_
   refine L_val rfl rfl rfl (OpP.v (P_assign rfl rfl)) ?_
   refine L_nil ?_
   refine St.env (.cons (t := 4) rfl .nil) ?_
   refine Q_then ?_
   refine R_ret ?_
   exact R_endV rfl rfl (.tmp rfl .nil) (by rw [turnsH_right hn1 (by omega), List.length_cons]; rfl)
theorem length_ok {gl : Nat → Obj} : ∀ b, b ≤ 70368744177664 → LenOk gl b
 | 0, _ => fun _ _ h => absurd h (by omega)
 | b + 1, hb => length_step b (by omega) (length_ok b (by omega))
theorem turnsH_pos {n i : Nat} (h : 1 < n) : 0 < (turnsH n i).length := by
 by_cases hk : splitN n ≤ i
 ·rw [turnsH_right h hk, List.length_cons]; omega
 ·rw [turnsH_left h hk, List.length_cons]; omega
theorem up_step {gl : Nat → Obj} (hG : GlobsR gl) (b : Nat) (hb : b ≤ 65537) (ih : UpOk gl b) : UpOk gl (b + 1) := by
 intro n i base c hs lf hn h1n hin hlen hh hc hlf
 refine Spec.enter (C := cx gl) Tryz.func62 rfl 53 rfl rfl fun w0 h0 hsep hsub hpre => ?_
 obtain rfl : h0 = Heap.none := hsep
 show St (cx gl) _ [(0, .int .i64 (n : Int)), (1, .int .i64 (i : Int)), (2, .slice base hs.length c), (3, .agg (ints .u8 (lf)).toArray)] _ _
 refine R_seq ?_
 refine R_region ?_
 refine L_op rfl (W_box (ints .u8 lf) rfl rfl rfl rfl rfl fun b7 => ?_)
 refine L_op rfl (W_alloc rfl rfl rfl ty_ze_29 fun b8 => ?_)
 refine L_nil ?_
 refine St.env (.cons (t := 0) rfl (.cons (t := 1) rfl (.cons (t := 2) rfl (.cons (t := 7) rfl (.cons (t := 8) rfl .nil))))) ?_
 refine Q_then ?_
 refine R_seq ?_
 refine R_seq ?_
 refine R_region ?_
 refine L_val rfl rfl rfl (OpP.v (P_move rfl rfl)) ?_
 refine L_val rfl rfl rfl (OpP.v (P_eql rfl rfl rfl)) ?_
 refine L_nil ?_
 refine St.env (.cons (t := 0) rfl (.cons (t := 1) rfl (.cons (t := 2) rfl (.cons (t := 7) rfl (.cons (t := 8) rfl (.cons (t := 15) rfl .nil)))))) ?_
 refine Q_then ?_
 refine R_condP rfl (fun h1 => ?_) (fun h1 => ?_)
 ·skip
  obtain rfl : n = 1 := by omega
  obtain rfl : hs = [] := List.eq_nil_of_length_eq_zero (by rw [hlen, turnsH_one (by omega)]; rfl)
  refine R_seq ?_
  refine R_region ?_
  refine L_val rfl rfl rfl (V_loadAgg rfl rfl ty_ag_29 (Rds.blk .h1) (by rw [ints_length, hlf])) ?_
  refine L_op rfl (W_storeAll rfl rfl rfl rfl ty_ag_29 (by rw [ints_length, hlf]) (ints_one) .h0 (by rw [ints_length, hlf]; rfl) ?_)
  refine L_nil ?_
  refine St.env (.cons (t := 0) rfl (.cons (t := 1) rfl (.cons (t := 2) rfl (.cons (t := 7) rfl (.cons (t := 8) rfl .nil))))) ?_
  refine Q_then ?_
  refine R_ret ?_
  refine Q_then_ret ?_
  exact R_endV rfl rfl (.cell rfl (Rds.loadVar ty_ag_29 (Rds.blk .h0) (by rw [ints_length, hlf])) .nil) (by rw [leadH_one (by omega)]; rfl)
 ·skip
  have hn1 : 1 < n := by omega
  have hk1 := splitN_lt hn1
  have hk2 := splitN_pos hn1
  have hpos : 0 < hs.length := by rw [hlen]; exact turnsH_pos hn1
  obtain ⟨es, a, rfl⟩ := list_snoc hpos
  have hel : (es ++ [a]).length = es.length + 1 := by simp
  have hsm : es.length ≤ 65537 := by have := turnsH_len n i; omega
  have hal : a.length = 32 := hh a (by simp)
  have hes : ∀ h ∈ es, h.length = 32 := fun h hm => hh h (by simp [hm])
  have hax : (es ++ [a])[es.length]? = some a := by simp
  obtain ⟨pb, pj, hbe, hrow⟩ := Row.some_ hpre (by rw [flat_length hh]; omega)
  have r1 : ∀ rs, Rw (cx gl) ⟨53, [], w0, Heap.none⟩ rs (if c = 0 then base else base.map (·.add (0 * 32))) (flat .u8 es) := fun rs => by
   have h := ((Sn.row (C := cx gl) (F := ⟨53, [], w0, Heap.none⟩) (rs := rs) hpre rfl).sliced (sz := 32) (p := 0) (q := es.length) (c := c) (by omega) (.inr (by rw [flat_length hh, hel]; omega))).rw_
   rwa [Nat.zero_mul, List.drop_zero, Nat.sub_zero, flat_take hh, List.take_left] at h
  rw [hel]
  refine R_skip ?_
  refine Q_then ?_
  refine R_seq ?_
  refine R_region ?_
  refine L_val rfl rfl rfl (OpP.v (P_move rfl rfl)) ?_
  refine L_op rfl (W_callV rfl rfl rfl rfl fn_ca_66 (rsplit_ok gl n (by omega)) (fun _ _ => trivial) ?_)
  refine L_val rfl rfl rfl (OpP.v (P_assign rfl rfl)) ?_
  refine L_nil ?_
  refine St.env (.cons (t := 0) rfl (.cons (t := 1) rfl (.cons (t := 2) rfl (.cons (t := 7) rfl (.cons (t := 8) rfl (.cons (t := 9) rfl .nil)))))) ?_
  refine Q_then ?_
  refine R_seq ?_
  refine R_region ?_
  subst hbe
  refine L_val rfl rfl rfl (OpP.v (P_move rfl rfl)) ?_
  refine L_val rfl rfl rfl (OpP.v (P_move rfl rfl)) ?_
  refine L_val rfl rfl rfl (OpP.v (P_len rfl ty_sl_45 rfl)) ?_
  first | (refine L_val rfl rfl rfl (OpP.v (P_subN rfl rfl rfl (by simp only [fits]; omega))) ?_) | (refine L_val rfl rfl rfl (OpP.v (P_sub rfl rfl rfl)) ?_)
  refine E_as (t := 22) (v' := .int .i64 ((es.length : Nat) : Int)) rfl (by congr 1; omega) ?_
  refine L_val rfl rfl rfl (OpP.v (P_ixs (es.length) rfl ty_sl_45 rfl rfl (by first | rfl | omega) (by omega))) ?_
  refine L_val rfl rfl rfl (V_loadAgg rfl rfl ty_ag_29 ((Rds.row hrow rfl).part (es.length * 32) fun j v hv => flat_at hh hax j v hv) (by rw [ints_length, hal])) ?_
  refine L_op rfl (W_alloc rfl rfl rfl ty_ze_29 fun b10 => ?_)
  refine L_op rfl (W_storeAll rfl rfl rfl rfl ty_ag_29 (by rw [ints_length, hal]) (ints_one) .h0 (by rw [ints_length, hal]; rfl) ?_)
  refine L_nil ?_
  refine St.env (.cons (t := 0) rfl (.cons (t := 1) rfl (.cons (t := 2) rfl (.cons (t := 7) rfl (.cons (t := 8) rfl (.cons (t := 9) rfl (.cons (t := 10) rfl .nil))))))) ?_
  refine Q_then ?_
  refine R_seq ?_
  refine R_region ?_
  refine L_val rfl rfl rfl (OpP.v (P_move rfl rfl)) ?_
  refine L_val rfl rfl rfl (OpP.v (P_move rfl rfl)) ?_
  refine L_val rfl rfl rfl (OpP.v (P_len rfl ty_sl_45 rfl)) ?_
  first | (refine L_val rfl rfl rfl (OpP.v (P_subN rfl rfl rfl (by simp only [fits]; omega))) ?_) | (refine L_val rfl rfl rfl (OpP.v (P_sub rfl rfl rfl)) ?_)
  refine E_as (t := 28) (v' := .int .i64 ((es.length : Nat) : Int)) rfl (by congr 1; omega) ?_
  refine L_val rfl rfl rfl (OpP.v (P_slice 0 es.length rfl ty_sl_45 rfl rfl ⟨_, rfl⟩ (by omega) (by omega))) ?_
  refine E_as (t := 29) (v' := .slice (if c = 0 then some ⟨pb, pj, none⟩ else (some (⟨pb, pj, none⟩ : Addr)).map (·.add (0 * 32))) es.length c) rfl (by unfold sliced; rw [Nat.sub_zero, Nat.sub_zero]) ?_
  refine L_val rfl rfl rfl (OpP.v (P_assign rfl rfl)) ?_
  refine L_nil ?_
  refine St.env (.cons (t := 0) rfl (.cons (t := 1) rfl (.cons (t := 7) rfl (.cons (t := 8) rfl (.cons (t := 9) rfl (.cons (t := 10) rfl (.cons (t := 11) rfl .nil))))))) ?_
  refine Q_then ?_
  refine R_seq ?_
  refine R_seq ?_
  refine R_region ?_
  refine L_val rfl rfl rfl (OpP.v (P_move rfl rfl)) ?_
  refine L_val rfl rfl rfl (OpP.v (P_move rfl rfl)) ?_
  refine L_val rfl rfl rfl (OpP.v (P_lss rfl rfl rfl)) ?_
  refine L_nil ?_
  refine St.env (.cons (t := 0) rfl (.cons (t := 1) rfl (.cons (t := 7) rfl (.cons (t := 8) rfl (.cons (t := 9) rfl (.cons (t := 10) rfl (.cons (t := 11) rfl (.cons (t := 32) rfl .nil)))))))) ?_
  refine Q_then ?_
  refine R_condP rfl (fun hk => ?_) (fun hk => ?_)
  ·skip
   have hq : es.length = (turnsH (splitN n) i).length := by rw [hel, turnsH_left hn1 (by omega), List.length_cons] at hlen; omega
   refine R_seq ?_
   refine R_region ?_
   refine L_val rfl rfl rfl (OpP.v (P_move rfl rfl)) ?_
   refine L_val rfl rfl rfl (OpP.v (P_move rfl rfl)) ?_
   refine L_val rfl rfl rfl (OpP.v (P_move rfl rfl)) ?_
   refine L_val rfl rfl rfl (V_loadAgg rfl rfl ty_ag_29 (Rds.blk .h2) (by rw [ints_length, hlf])) ?_
   refine L_op rfl (W_callV rfl rfl rfl rfl fn_ca_62 (ih (splitN n) i _ _ es lf (by omega) hk2 (by omega) hq hes (by omega) hlf) (r1 _) ?_)
   refine L_op rfl (W_alloc rfl rfl rfl ty_ze_29 fun b12 => ?_)
   refine L_op rfl (W_storeAll rfl rfl rfl rfl ty_ag_29 (by rw [ints_length, leadH_length hlf]) (ints_one) .h0 (by rw [ints_length, leadH_length hlf]; rfl) ?_)
   refine L_nil ?_
   refine St.env (.cons (t := 0) rfl (.cons (t := 1) rfl (.cons (t := 7) rfl (.cons (t := 8) rfl (.cons (t := 9) rfl (.cons (t := 10) rfl (.cons (t := 11) rfl (.cons (t := 12) rfl .nil)))))))) ?_
   refine Q_then ?_
   refine R_seq ?_
   refine R_region ?_
   refine L_val rfl rfl rfl (V_loadAgg rfl rfl ty_ag_29 (Rds.blk .h0) (by rw [ints_length, leadH_length hlf])) ?_
   refine L_val rfl rfl rfl (V_loadAgg rfl rfl ty_ag_29 (Rds.blk .h1) (by rw [ints_length, hal])) ?_
   refine L_op rfl (W_callV rfl rfl rfl rfl fn_ca_56 (rinner_ok hG _ _ (leadH_length hlf) hal) (fun _ _ => trivial) ?_)
   refine L_op rfl (W_storeAll rfl rfl rfl rfl ty_ag_29 (by rw [ints_length, sha_length]) (ints_one) .h2 (by rw [ints_length, sha_length]; rfl) ?_)
   refine L_nil ?_
   refine St.env (.cons (t := 0) rfl (.cons (t := 1) rfl (.cons (t := 7) rfl (.cons (t := 8) rfl (.cons (t := 9) rfl (.cons (t := 10) rfl (.cons (t := 11) rfl .nil))))))) ?_
   refine Q_then ?_
   refine R_ret ?_
   refine Q_then_ret ?_
   exact R_endV rfl rfl (.cell rfl (Rds.loadVar ty_ag_29 (Rds.blk .h2) (by rw [ints_length, sha_length])) .nil) (by rw [leadH_left hn1 (by omega) _ _ hq]; rfl)
  ·skip
   have hq : es.length = (turnsH (n - splitN n) (i - splitN n)).length := by rw [hel, turnsH_right hn1 (by omega), List.length_cons] at hlen; omega
   refine R_skip ?_
   refine Q_then ?_
   refine R_seq ?_
   refine R_region ?_
   refine L_val rfl rfl rfl (OpP.v (P_move rfl rfl)) ?_
   refine L_val rfl rfl rfl (OpP.v (P_move rfl rfl)) ?_
   first | (refine L_val rfl rfl rfl (OpP.v (P_subN rfl rfl rfl (by simp only [fits]; omega))) ?_) | (refine L_val rfl rfl rfl (OpP.v (P_sub rfl rfl rfl)) ?_)
   refine E_as (t := 43) (v' := .int .i64 ((n - splitN n : Nat) : Int)) rfl (by congr 1; omega) ?_
   refine L_val rfl rfl rfl (OpP.v (P_move rfl rfl)) ?_
   refine L_val rfl rfl rfl (OpP.v (P_move rfl rfl)) ?_
   first | (refine L_val rfl rfl rfl (OpP.v (P_subN rfl rfl rfl (by simp only [fits]; omega))) ?_) | (refine L_val rfl rfl rfl (OpP.v (P_sub rfl rfl rfl)) ?_)
   refine E_as (t := 46) (v' := .int .i64 ((i - splitN n : Nat) : Int)) rfl (by congr 1; omega) ?_
   refine L_val rfl rfl rfl (OpP.v (P_move rfl rfl)) ?_
   refine L_val rfl rfl rfl (V_loadAgg rfl rfl ty_ag_29 (Rds.blk .h2) (by rw [ints_length, hlf])) ?_
   refine L_op rfl (W_callV rfl rfl rfl rfl fn_ca_62 (ih (n - splitN n) (i - splitN n) _ _ es lf (by omega) (by omega) (by omega) hq hes (by omega) hlf) (r1 _) ?_)
   refine L_op rfl (W_alloc rfl rfl rfl ty_ze_29 fun b13 => ?_)
   refine L_op rfl (W_storeAll rfl rfl rfl rfl ty_ag_29 (by rw [ints_length, leadH_length hlf]) (ints_one) .h0 (by rw [ints_length, leadH_length hlf]; rfl) ?_)
   refine L_nil ?_
   refine St.env (.cons (t := 8) rfl (.cons (t := 10) rfl (.cons (t := 13) rfl .nil))) ?_
   refine Q_then ?_
   refine R_seq ?_
   refine R_region ?_
   refine L_val rfl rfl rfl (V_loadAgg rfl rfl ty_ag_29 (Rds.blk .h1) (by rw [ints_length, hal])) ?_
   refine L_val rfl rfl rfl (V_loadAgg rfl rfl ty_ag_29 (Rds.blk .h0) (by rw [ints_length, leadH_length hlf])) ?_
   refine L_op rfl (W_callV rfl rfl rfl rfl fn_ca_56 (rinner_ok hG _ _ hal (leadH_length hlf)) (fun _ _ => trivial) ?_)
   refine L_op rfl (W_storeAll rfl rfl rfl rfl ty_ag_29 (by rw [ints_length, sha_length]) (ints_one) .h2 (by rw [ints_length, sha_length]; rfl) ?_)
   refine L_nil ?_
   refine St.env (.cons (t := 8) rfl .nil) ?_
   refine Q_then ?_
   refine R_ret ?_
   exact R_endV rfl rfl (.cell rfl (Rds.loadVar ty_ag_29 (Rds.blk .h2) (by rw [ints_length, sha_length])) .nil) (by rw [leadH_right hn1 (by omega) _ _ hq]; rfl)
theorem up_ok {gl : Nat → Obj} (hG : GlobsR gl) : ∀ b, b ≤ 65537 → UpOk gl b
 | 0, _ => fun _ _ _ _ _ _ h => absurd h (by omega)
 | b + 1, hb => up_step hG b (by omega) (up_ok hG b (by omega))
theorem fits_ok {gl : Nat → Obj} (total index : Int) (base : Option Addr) (m c : Nat) (hm : m ≤ 70368744177664) : SpecV (cx gl) 60 [.agg [.int .i64 total, .int .i64 index, .slice base m c].toArray] noPre (.bool (fitsB total index m)) := by
 refine Spec.enter (C := cx gl) Tryz.func60 rfl 32 rfl rfl fun w0 h0 hsep hsub hpre => ?_
 obtain rfl : h0 = Heap.none := hsep
 show St (cx gl) _ [(0, .agg [.int .i64 total, .int .i64 index, .slice base m c].toArray)] _ _
 refine R_seq ?_
 refine R_region ?_
 refine L_op rfl (W_box ([.int .i64 total, .int .i64 index, .slice base m c]) rfl rfl rfl rfl rfl fun b1 => ?_)
 refine L_val rfl rfl rfl (OpP.v (P_assign rfl rfl)) ?_
 refine L_nil ?_
 refine St.env (.cons (t := 1) rfl (.cons (t := 2) rfl .nil)) ?_
 refine Q_then ?_
 refine R_seq ?_
 refine R_seq ?_
 refine R_region ?_
 refine L_val rfl rfl rfl (OpP.v (P_fld0 rfl ty_fl_47_0 rfl)) ?_
 refine L_val rfl rfl rfl (V_load rfl rfl ty_sc_3 (by first | exact Rd.blk .h0 rfl | exact Rd.blk .h1 rfl | exact Rd.blk .h2 rfl | exact Rd.blk .h3 rfl | exact Rd.blk .h4 rfl | exact Rd.blk .h5 rfl | exact Rd.blk .h6 rfl | exact Rd.blk .h7 rfl)) ?_
 refine L_val rfl rfl rfl (OpP.v (P_lss rfl rfl rfl)) ?_
 refine E_bool (t := 5) rfl (fun h1 => ?_) (fun h1 => ?_)
 ·skip
  refine L_val rfl rfl rfl (OpP.v (P_move rfl rfl)) ?_
  refine L_no rfl rfl rfl ?_
  refine L_no rfl rfl rfl ?_
  refine L_no rfl rfl rfl ?_
  refine L_val rfl rfl rfl (OpP.v (P_pick rfl rfl rfl)) ?_
  refine L_val rfl rfl rfl (OpP.v (P_move rfl rfl)) ?_
  refine L_no rfl rfl rfl ?_
  refine L_no rfl rfl rfl ?_
  refine L_no rfl rfl rfl ?_
  refine L_val rfl rfl rfl (OpP.v (P_pick rfl rfl rfl)) ?_
  refine L_val rfl rfl rfl (OpP.v (P_move rfl rfl)) ?_
  refine L_no rfl rfl rfl ?_
  refine L_no rfl rfl rfl ?_
  refine L_no rfl rfl rfl ?_
  refine L_no rfl rfl rfl ?_
  refine L_no rfl rfl rfl ?_
  refine L_val rfl rfl rfl (OpP.v (P_pick rfl rfl rfl)) ?_
  refine L_nil ?_
  refine St.env (.cons (t := 1) rfl (.cons (t := 2) rfl (.cons (t := 22) rfl .nil))) ?_
  refine Q_then ?_
  refine R_condT rfl ?_
  refine R_seq ?_
  refine R_region ?_
  refine L_val rfl rfl rfl (OpP.v (P_assign rfl rfl)) ?_
  refine L_nil ?_
  refine St.env (.cons (t := 1) rfl (.cons (t := 2) rfl .nil)) ?_
  refine Q_then ?_
  refine R_ret ?_
  refine Q_then_ret ?_
  exact R_endV rfl rfl (.tmp rfl .nil) (congrArg Value.bool (fitsB_out fun hh => by have := of_decide_eq_true h1; omega).symm)
 ·skip
  refine L_val rfl rfl rfl (OpP.v (P_move rfl rfl)) ?_
  refine L_val rfl rfl rfl (OpP.v (P_fld0 rfl ty_fl_47_0 rfl)) ?_
  refine L_val rfl rfl rfl (V_load rfl rfl ty_sc_3 (by first | exact Rd.blk .h0 rfl | exact Rd.blk .h1 rfl | exact Rd.blk .h2 rfl | exact Rd.blk .h3 rfl | exact Rd.blk .h4 rfl | exact Rd.blk .h5 rfl | exact Rd.blk .h6 rfl | exact Rd.blk .h7 rfl)) ?_
  refine L_val rfl rfl rfl (OpP.v (P_gtr rfl rfl rfl)) ?_
  refine E_bool (t := 9) rfl (fun h2 => ?_) (fun h2 => ?_)
  ·skip
   refine L_val rfl rfl rfl (OpP.v (P_pick rfl rfl rfl)) ?_
   refine L_val rfl rfl rfl (OpP.v (P_move rfl rfl)) ?_
   refine L_no rfl rfl rfl ?_
   refine L_no rfl rfl rfl ?_
   refine L_no rfl rfl rfl ?_
   refine L_val rfl rfl rfl (OpP.v (P_pick rfl rfl rfl)) ?_
   refine L_val rfl rfl rfl (OpP.v (P_move rfl rfl)) ?_
   refine L_no rfl rfl rfl ?_
   refine L_no rfl rfl rfl ?_
   refine L_no rfl rfl rfl ?_
   refine L_no rfl rfl rfl ?_
   refine L_no rfl rfl rfl ?_
   refine L_val rfl rfl rfl (OpP.v (P_pick rfl rfl rfl)) ?_
   refine L_nil ?_
   refine St.env (.cons (t := 1) rfl (.cons (t := 2) rfl (.cons (t := 22) rfl .nil))) ?_
   refine Q_then ?_
   refine R_condT rfl ?_
   refine R_seq ?_
   refine R_region ?_
   refine L_val rfl rfl rfl (OpP.v (P_assign rfl rfl)) ?_
   refine L_nil ?_
   refine St.env (.cons (t := 1) rfl (.cons (t := 2) rfl .nil)) ?_
   refine Q_then ?_
   refine R_ret ?_
   refine Q_then_ret ?_
   exact R_endV rfl rfl (.tmp rfl .nil) (congrArg Value.bool (fitsB_out fun hh => by have := of_decide_eq_true h2; omega).symm)
  ·skip
   refine L_val rfl rfl rfl (OpP.v (P_pick rfl rfl rfl)) ?_
   refine L_val rfl rfl rfl (OpP.v (P_move rfl rfl)) ?_
   refine L_val rfl rfl rfl (OpP.v (P_fld0 rfl ty_fl_47_1 rfl)) ?_
   refine L_val rfl rfl rfl (V_load rfl rfl ty_sc_3 (by first | exact Rd.blk .h0 rfl | exact Rd.blk .h1 rfl | exact Rd.blk .h2 rfl | exact Rd.blk .h3 rfl | exact Rd.blk .h4 rfl | exact Rd.blk .h5 rfl | exact Rd.blk .h6 rfl | exact Rd.blk .h7 rfl)) ?_
   refine L_val rfl rfl rfl (OpP.v (P_lss rfl rfl rfl)) ?_
   refine E_bool (t := 14) rfl (fun h3 => ?_) (fun h3 => ?_)
   ·skip
    refine L_val rfl rfl rfl (OpP.v (P_pick rfl rfl rfl)) ?_
    refine L_val rfl rfl rfl (OpP.v (P_move rfl rfl)) ?_
    refine L_no rfl rfl rfl ?_
    refine L_no rfl rfl rfl ?_
    refine L_no rfl rfl rfl ?_
    refine L_no rfl rfl rfl ?_
    refine L_no rfl rfl rfl ?_
    refine L_val rfl rfl rfl (OpP.v (P_pick rfl rfl rfl)) ?_
    refine L_nil ?_
    refine St.env (.cons (t := 1) rfl (.cons (t := 2) rfl (.cons (t := 22) rfl .nil))) ?_
    refine Q_then ?_
    refine R_condT rfl ?_
    refine R_seq ?_
    refine R_region ?_
    refine L_val rfl rfl rfl (OpP.v (P_assign rfl rfl)) ?_
    refine L_nil ?_
    refine St.env (.cons (t := 1) rfl (.cons (t := 2) rfl .nil)) ?_
    refine Q_then ?_
    refine R_ret ?_
    refine Q_then_ret ?_
    exact R_endV rfl rfl (.tmp rfl .nil) (congrArg Value.bool (fitsB_out fun hh => by have := of_decide_eq_true h3; omega).symm)
   ·skip
    refine L_val rfl rfl rfl (OpP.v (P_pick rfl rfl rfl)) ?_
    refine L_val rfl rfl rfl (OpP.v (P_move rfl rfl)) ?_
    refine L_val rfl rfl rfl (OpP.v (P_fld0 rfl ty_fl_47_1 rfl)) ?_
    refine L_val rfl rfl rfl (V_load rfl rfl ty_sc_3 (by first | exact Rd.blk .h0 rfl | exact Rd.blk .h1 rfl | exact Rd.blk .h2 rfl | exact Rd.blk .h3 rfl | exact Rd.blk .h4 rfl | exact Rd.blk .h5 rfl | exact Rd.blk .h6 rfl | exact Rd.blk .h7 rfl)) ?_
    refine L_val rfl rfl rfl (OpP.v (P_fld0 rfl ty_fl_47_0 rfl)) ?_
    refine L_val rfl rfl rfl (V_load rfl rfl ty_sc_3 (by first | exact Rd.blk .h0 rfl | exact Rd.blk .h1 rfl | exact Rd.blk .h2 rfl | exact Rd.blk .h3 rfl | exact Rd.blk .h4 rfl | exact Rd.blk .h5 rfl | exact Rd.blk .h6 rfl | exact Rd.blk .h7 rfl)) ?_
    refine L_val rfl rfl rfl (OpP.v (P_geq rfl rfl rfl)) ?_
    refine E_bool (t := 21) rfl (fun h4 => ?_) (fun h4 => ?_)
    ·skip
     refine L_val rfl rfl rfl (OpP.v (P_pick rfl rfl rfl)) ?_
     refine L_nil ?_
     refine St.env (.cons (t := 1) rfl (.cons (t := 2) rfl (.cons (t := 22) rfl .nil))) ?_
     refine Q_then ?_
     refine R_condT rfl ?_
     refine R_seq ?_
     refine R_region ?_
     refine L_val rfl rfl rfl (OpP.v (P_assign rfl rfl)) ?_
     refine L_nil ?_
     refine St.env (.cons (t := 1) rfl (.cons (t := 2) rfl .nil)) ?_
     refine Q_then ?_
     refine R_ret ?_
     refine Q_then_ret ?_
     exact R_endV rfl rfl (.tmp rfl .nil) (congrArg Value.bool (fitsB_out fun hh => by have := of_decide_eq_true h4; omega).symm)
    ·skip
     obtain ⟨n, i, rfl, rfl, hn1, hn2, hin⟩ := inB_of (total := total) (index := index) ⟨by have := of_decide_eq_false h1; omega, by have := of_decide_eq_false h2; omega, by have := of_decide_eq_false h3; omega, by have := of_decide_eq_false h4; omega⟩
     refine L_val rfl rfl rfl (OpP.v (P_pick rfl rfl rfl)) ?_
     refine L_nil ?_
     refine St.env (.cons (t := 1) rfl (.cons (t := 2) rfl (.cons (t := 22) rfl .nil))) ?_
     refine Q_then ?_
     refine R_condF rfl ?_
     refine R_skip ?_
     refine Q_then ?_
     refine R_seq ?_
     refine R_open [(0, 0), (1, 1), (2, 0), (3, 0), (4, 1), (5, 0), (6, 1), (7, 2), (8, 0), (9, 0)] mixed (by kernel_rfl) (QOk.then QOk.body) ?_
     refine O_pure rfl rfl rfl rfl (P_fld0 rfl ty_fl_47_2 rfl) ?_
     refine O_val rfl rfl rfl rfl (V_load rfl rfl ty_sc_45 (by first | exact Rd.blk .h0 rfl | exact Rd.blk .h1 rfl | exact Rd.blk .h2 rfl | exact Rd.blk .h3 rfl | exact Rd.blk .h4 rfl | exact Rd.blk .h5 rfl | exact Rd.blk .h6 rfl | exact Rd.blk .h7 rfl)) ?_
     refine O_pure rfl rfl rfl rfl (P_len rfl ty_sl_45 rfl) ?_
     refine O_pure rfl rfl rfl rfl (P_fld0 rfl ty_fl_47_0 rfl) ?_
     refine O_val rfl rfl rfl rfl (V_load rfl rfl ty_sc_3 (by first | exact Rd.blk .h0 rfl | exact Rd.blk .h1 rfl | exact Rd.blk .h2 rfl | exact Rd.blk .h3 rfl | exact Rd.blk .h4 rfl | exact Rd.blk .h5 rfl | exact Rd.blk .h6 rfl | exact Rd.blk .h7 rfl)) ?_
     refine O_pure rfl rfl rfl rfl (P_fld0 rfl ty_fl_47_1 rfl) ?_
     refine O_val rfl rfl rfl rfl (V_load rfl rfl ty_sc_3 (by first | exact Rd.blk .h0 rfl | exact Rd.blk .h1 rfl | exact Rd.blk .h2 rfl | exact Rd.blk .h3 rfl | exact Rd.blk .h4 rfl | exact Rd.blk .h5 rfl | exact Rd.blk .h6 rfl | exact Rd.blk .h7 rfl)) ?_
     refine O_keep rfl rfl (W_callV rfl rfl rfl rfl fn_ca_127 (length_ok (n + 1) (by omega) n i (by omega) (by omega)) (fun _ _ => trivial) (K_keep (Weak.refl _) ?_))
     refine O_pure rfl rfl rfl rfl (P_eql rfl rfl rfl) ?_
     refine O_pure rfl rfl rfl rfl (P_assign rfl rfl) ?_
     refine O_nil ?_
     refine St.env (.cons (t := 2) rfl .nil) ?_
     refine Q_then ?_
     refine R_ret ?_
     exact R_endV rfl rfl (.tmp rfl .nil) (congrArg Value.bool (by rw [fitsB_in hn1 hn2 hin]; exact decide_eq_decide.2 (by omega)))
end Go.Proofs.YtfhjhaogmdaepaaGreatDoor

/- Walks: what is too much; roots. Printed by gen.py. -/
set_option linter.unusedVariables false
set_option linter.unusedSimpArgs false
set_option maxRecDepth 100000
namespace Go.Proofs.YtfhjhaogmdaepaaGreatDoor
open Go Go.RowKit Go.Proofs
theorem large_ok {gl : Nat → Obj} (base : Option Addr) (c : Nat) (vs : List Value) (xss : List (List Int)) (hvx : vs.length = xss.length) (hc : vs.length ≤ c) (hmax : vs.length ≤ 70368744177664) : SpecV (cx gl) 59 [.slice base vs.length c] (fun w => Items w base vs xss) (.bool (bigL xss)) := by
 refine Spec.enter (C := cx gl) Tryz.func59 rfl 19 rfl rfl fun w0 h0 hsep hsub hpre => ?_
 obtain rfl : h0 = Heap.none := hsep
 show St (cx gl) _ [(0, .slice base vs.length c)] _ _
 refine R_seq ?_
 refine R_region ?_
 refine L_val rfl rfl rfl (OpP.v (P_assign rfl rfl)) ?_
 refine L_nil ?_
 refine Q_then ?_
 refine R_seq ?_
 refine R_seq ?_
 refine R_region ?_
 refine L_val rfl rfl rfl (OpP.v (P_move rfl rfl)) ?_
 refine L_val rfl rfl rfl (OpP.v (P_len rfl ty_sl_42 rfl)) ?_
 refine L_val rfl rfl rfl (OpP.v (P_gtr rfl rfl rfl)) ?_
 refine L_nil ?_
 refine St.env (.cons (t := 0) rfl (.cons (t := 2) rfl (.cons (t := 6) rfl .nil))) ?_
 refine Q_then ?_
 refine R_condP rfl (fun h0 => ?_) (fun h0 => ?_)
 ·skip
  refine R_seq ?_
  refine R_region ?_
  refine L_val rfl rfl rfl (OpP.v (P_assign rfl rfl)) ?_
  refine L_nil ?_
  refine St.env (.cons (t := 0) rfl (.cons (t := 2) rfl .nil)) ?_
  refine Q_then ?_
  refine R_ret ?_
  refine Q_then_ret ?_
  exact R_endV rfl rfl (.tmp rfl .nil) (by rw [bigL_long (by omega)]; rfl)
 ·skip
  rw [bigL_short (by omega)]
  refine R_skip ?_
  refine Q_then ?_
  refine R_seq ?_
  refine R_seq ?_
  refine R_region ?_
  refine L_val rfl rfl rfl (OpP.v (P_assign rfl rfl)) ?_
  refine L_nil ?_
  refine St.env (.cons (t := 0) rfl (.cons (t := 2) rfl (.cons (t := 3) rfl .nil))) ?_
  refine Q_then ?_
  refine R_block ?_
  refine R_loop (G := Nat) (fun k => [(0, .slice base vs.length c), (2, .bool false), (3, .int .i64 (k : Int))]) (fun k => []) (fun k => k ≤ vs.length ∧ anyBig xss = anyBig (xss.drop k)) (fun k => vs.length - k) (0) (⟨Nat.zero_le _, rfl⟩) (by repeat (first | exact .nil | refine .cons rfl ?_)) (Weak.refl _) ?_
  rintro k ⟨hk, hany⟩
  refine R_seq ?_
  refine R_seq ?_
  refine R_region ?_
  refine L_val rfl rfl rfl (OpP.v (P_move rfl rfl)) ?_
  refine L_val rfl rfl rfl (OpP.v (P_move rfl rfl)) ?_
  refine L_val rfl rfl rfl (OpP.v (P_len rfl ty_sl_42 rfl)) ?_
  refine L_val rfl rfl rfl (OpP.v (P_lss rfl rfl rfl)) ?_
  refine L_nil ?_
  refine Q_then ?_
  refine R_condP rfl (fun hlt => ?_) (fun hlt => ?_)
  ·skip
   obtain ⟨bb, bc, ys, hvk, hxk, hbc, hbr⟩ := hpre.2.at_ (k := k) (by omega)
   obtain ⟨pb, pj, rfl, hrow⟩ := hpre.1.some_ (by omega)
   refine R_skip ?_
   refine Q_then ?_
   refine R_seq ?_
   refine R_block ?_
   refine R_seq ?_
   refine R_region ?_
   refine L_val rfl rfl rfl (OpP.v (P_move rfl rfl)) ?_
   refine L_val rfl rfl rfl (OpP.v (P_move rfl rfl)) ?_
   refine L_val rfl rfl rfl (OpP.v (P_ixs (k) rfl ty_sl_42 rfl rfl (by first | rfl | omega) (by omega))) ?_
   refine L_val rfl rfl rfl (V_load rfl rfl ty_sc_48 (Rd.row hrow rfl hvk)) ?_
   refine L_val rfl rfl rfl (OpP.v (P_len rfl ty_sl_48 rfl)) ?_
   refine L_val rfl rfl rfl (OpP.v (P_gtr rfl rfl rfl)) ?_
   refine L_nil ?_
   refine Q_then ?_
   refine R_condP rfl (fun hbig => ?_) (fun hbig => ?_)
   ·skip
    refine R_seq ?_
    refine R_region ?_
    refine L_val rfl rfl rfl (OpP.v (P_assign rfl rfl)) ?_
    refine L_nil ?_
    refine Q_then ?_
    refine R_ret ?_
    refine Q_block_ret ?_
    refine Q_then_ret ?_
    refine Q_then_ret ?_
    refine Q_block_ret ?_
    refine Q_then_ret ?_
    exact R_endV rfl rfl (.tmp rfl .nil) (by rw [hany, anyBig_drop hxk, decide_eq_true (by omega)]; rfl)
   ·skip
    refine R_skip ?_
    refine Q_block ?_
    refine Q_then ?_
    refine R_region ?_
    refine L_val rfl rfl rfl (OpP.v (P_move rfl rfl)) ?_
    first | (refine L_val rfl rfl rfl (OpP.v (P_addN rfl rfl rfl (by simp only [fits]; omega))) ?_) | (refine L_val rfl rfl rfl (OpP.v (P_add rfl rfl rfl)) ?_)
    refine L_val rfl rfl rfl (OpP.v (P_assign rfl rfl)) ?_
    refine L_nil ?_
    exact Q_round (k + 1) (⟨by omega, by rw [hany, anyBig_drop hxk, decide_eq_false (by omega), Bool.false_or]⟩) (by omega) (by repeat (first | exact .nil | refine .cons rfl ?_)) (Weak.refl _)
  ·skip
   refine R_exit ?_
   refine Q_then_exit ?_
   refine Q_then_exit ?_
   refine Q_block_eq ?_
   refine St.env (.cons (t := 2) rfl .nil) ?_
   refine Q_then ?_
   refine R_seq ?_
   refine R_region ?_
   refine L_val rfl rfl rfl (OpP.v (P_assign rfl rfl)) ?_
   refine L_nil ?_
   refine Q_then ?_
   refine R_ret ?_
   exact R_endV rfl rfl (.tmp rfl .nil) (by rw [hany, anyBig_end (by omega)]; rfl)
theorem over_ok (gl : Nat → Obj) (b : Option Addr) (n c : Nat) : SpecV (cx gl) 170 [.slice b n c] noPre (.bool (decide (1048576 < n))) := by
 refine Spec.enter (C := cx gl) Tryz.func170 rfl 6 rfl rfl fun w0 h0 hsep hsub hpre => ?_
 obtain rfl : h0 = Heap.none := hsep
 show St (cx gl) _ [(0, .slice b n c)] _ _
 refine R_seq ?_
 refine R_region ?_
 refine L_val rfl rfl rfl (OpP.v (P_assign rfl rfl)) ?_
 refine L_nil ?_
 refine Q_then ?_
 refine R_seq ?_
 refine R_region ?_
 refine L_val rfl rfl rfl (OpP.v (P_move rfl rfl)) ?_
 refine L_val rfl rfl rfl (OpP.v (P_len rfl ty_sl_48 rfl)) ?_
 refine L_val rfl rfl rfl (OpP.v (P_gtr rfl rfl rfl)) ?_
 refine L_val rfl rfl rfl (OpP.v (P_assign rfl rfl)) ?_
 refine L_nil ?_
 refine St.env (.cons (t := 2) rfl .nil) ?_
 refine Q_then ?_
 refine R_ret ?_
 exact R_endV rfl rfl (.tmp rfl .nil) (congrArg Value.bool (decide_eq_decide.2 (by omega)))
theorem index_ok {gl : Nat → Obj} (base : Option Addr) (c : Nat) (vs : List Value) (xss : List (List Int)) (hvx : vs.length = xss.length) (hc : vs.length ≤ c) (hmax : vs.length ≤ 70368744177664) : SpecV (cx gl) 209 [.slice base vs.length c, .func (.func 170) #[] #[]] (fun w => Items w base vs xss) (.int .i64 (idxB xss 0)) := by
 refine Spec.enter (C := cx gl) Tryz.func209 rfl 19 rfl rfl fun w0 h0 hsep hsub hpre => ?_
 obtain rfl : h0 = Heap.none := hsep
 show St (cx gl) _ [(0, .slice base vs.length c), (1, .func (.func 170) #[] #[])] _ _
 refine R_seq ?_
 refine R_region ?_
 refine L_val rfl rfl rfl (OpP.v (P_assign rfl rfl)) ?_
 refine L_nil ?_
 refine Q_then ?_
 refine R_seq ?_
 refine R_seq ?_
 refine R_region ?_
 refine L_val rfl rfl rfl (OpP.v (P_move rfl rfl)) ?_
 refine L_val rfl rfl rfl (OpP.v (P_len rfl ty_sl_42 rfl)) ?_
 refine L_val rfl rfl rfl (OpP.v (P_move rfl rfl)) ?_
 refine L_nil ?_
 refine St.env (.cons (t := 0) rfl (.cons (t := 1) rfl (.cons (t := 4) rfl (.cons (t := 7) rfl (.cons (t := 8) rfl .nil))))) ?_
 refine Q_then ?_
 refine R_block ?_
 refine R_loop (G := Nat) (fun k => [(0, .slice base vs.length c), (1, .func (.func 170) #[] #[]), (4, .int .i64 0), (7, .int .i64 ((vs.length : Nat) : Int)), (8, .int .i64 (k : Int))]) (fun k => []) (fun k => k ≤ vs.length ∧ idxB xss 0 = idxB (xss.drop k) k) (fun k => vs.length - k) (0) (⟨Nat.zero_le _, rfl⟩) (by repeat (first | exact .nil | refine .cons rfl ?_)) (Weak.refl _) ?_
 rintro k ⟨hk, hidx⟩
 refine R_seq ?_
 refine R_region ?_
 refine L_val rfl rfl rfl (OpP.v (P_lss rfl rfl rfl)) ?_
 refine L_nil ?_
 refine Q_then ?_
 refine R_seq ?_
 refine R_condP rfl (fun hlt => ?_) (fun hlt => ?_)
 ·skip
  obtain ⟨bb, bc, ys, hvk, hxk, hbc, hbr⟩ := hpre.2.at_ (k := k) (by omega)
  obtain ⟨pb, pj, rfl, hrow⟩ := hpre.1.some_ (by omega)
  refine R_skip ?_
  refine Q_then ?_
  refine R_seq ?_
  refine R_block ?_
  refine R_seq ?_
  refine R_region ?_
  refine L_val rfl rfl rfl (OpP.v (P_move rfl rfl)) ?_
  refine L_val rfl rfl rfl (OpP.v (P_assign rfl rfl)) ?_
  refine L_nil ?_
  refine Q_then ?_
  refine R_seq ?_
  refine R_region ?_
  refine L_val rfl rfl rfl (OpP.v (P_move rfl rfl)) ?_
  refine L_val rfl rfl rfl (OpP.v (P_move rfl rfl)) ?_
  refine L_val rfl rfl rfl (OpP.v (P_move rfl rfl)) ?_
  refine L_val rfl rfl rfl (OpP.v (P_ixs (k) rfl ty_sl_42 rfl rfl (by first | rfl | omega) (by omega))) ?_
  refine L_val rfl rfl rfl (V_load rfl rfl ty_sc_48 (Rd.row hrow rfl hvk)) ?_
  refine L_op rfl (W_callFV (fi := []) (ca := []) rfl rfl rfl rfl rfl rfl fn_ca_170 (over_ok gl bb ys.length bc) (fun _ _ => trivial) ?_)
  refine L_nil ?_
  refine Q_then ?_
  refine R_condP rfl (fun hbig => ?_) (fun hbig => ?_)
  ·skip
   refine R_seq ?_
   refine R_region ?_
   refine L_val rfl rfl rfl (OpP.v (P_move rfl rfl)) ?_
   refine L_val rfl rfl rfl (OpP.v (P_assign rfl rfl)) ?_
   refine L_nil ?_
   refine Q_then ?_
   refine R_ret ?_
   refine Q_block_ret ?_
   refine Q_then_ret ?_
   refine Q_then_ret ?_
   refine Q_block_ret ?_
   refine Q_then_ret ?_
   exact R_endV rfl rfl (.tmp rfl .nil) (by rw [hidx, idxB_drop hxk, if_pos hbig]; rfl)
  ·skip
   refine R_skip ?_
   refine Q_block ?_
   refine Q_then ?_
   refine R_region ?_
   first | (refine L_val rfl rfl rfl (OpP.v (P_addN rfl rfl rfl (by simp only [fits]; omega))) ?_) | (refine L_val rfl rfl rfl (OpP.v (P_add rfl rfl rfl)) ?_)
   refine L_val rfl rfl rfl (OpP.v (P_move rfl rfl)) ?_
   refine L_nil ?_
   refine E_nat (t := 8) (n := k + 1) rfl (by omega) ?_
   exact Q_round (k + 1) (⟨by omega, by rw [hidx, idxB_drop hxk, if_neg hbig]⟩) (by omega) (by repeat (first | exact .nil | refine .cons rfl ?_)) (Weak.refl _)
 ·skip
  refine R_exit ?_
  refine Q_then_exit ?_
  refine Q_then_exit ?_
  refine Q_block_eq ?_
  refine St.env (.cons (t := 4) rfl .nil) ?_
  refine Q_then ?_
  refine R_seq ?_
  refine R_region ?_
  refine L_val rfl rfl rfl (OpP.v (P_assign rfl rfl)) ?_
  refine L_nil ?_
  refine Q_then ?_
  refine R_ret ?_
  exact R_endV rfl rfl (.tmp rfl .nil) (by rw [hidx, List.drop_eq_nil_of_le (by omega)]; rfl)
theorem contains_ok {gl : Nat → Obj} (base : Option Addr) (c : Nat) (vs : List Value) (xss : List (List Int)) (hvx : vs.length = xss.length) (hc : vs.length ≤ c) (hmax : vs.length ≤ 70368744177664) : SpecV (cx gl) 169 [.slice base vs.length c, .func (.func 170) #[] #[]] (fun w => Items w base vs xss) (.bool (anyBig xss)) := by
 refine Spec.enter (C := cx gl) Tryz.func169 rfl 9 rfl rfl fun w0 h0 hsep hsub hpre => ?_
 obtain rfl : h0 = Heap.none := hsep
 show St (cx gl) _ [(0, .slice base vs.length c), (1, .func (.func 170) #[] #[])] _ _
 refine R_seq ?_
 refine R_region ?_
 refine L_val rfl rfl rfl (OpP.v (P_assign rfl rfl)) ?_
 refine L_nil ?_
 refine Q_then ?_
 refine R_seq ?_
 refine R_region ?_
 refine L_val rfl rfl rfl (OpP.v (P_move rfl rfl)) ?_
 refine L_val rfl rfl rfl (OpP.v (P_move rfl rfl)) ?_
 refine L_op rfl (W_callV rfl rfl rfl rfl fn_ca_209 (index_ok base c vs xss hvx hc hmax) (Items.row hpre rfl) ?_)
 refine L_val rfl rfl rfl (OpP.v (P_geq rfl rfl rfl)) ?_
 refine L_val rfl rfl rfl (OpP.v (P_assign rfl rfl)) ?_
 refine L_nil ?_
 refine St.env (.cons (t := 4) rfl .nil) ?_
 refine Q_then ?_
 refine R_ret ?_
 exact R_endV rfl rfl (.tmp rfl .nil) (congrArg Value.bool (idxB_any xss 0))
theorem leavesOf_big {gl : Nat → Obj} (base : Option Addr) (c : Nat) (vs : List Value) (xss : List (List Int)) (hvx : vs.length = xss.length) (hc : vs.length ≤ c) (hmax : vs.length ≤ 70368744177664) (hB : bigL xss = true) : SpecV (cx gl) 115 [.slice base vs.length c] (fun w => Items w base vs xss) (.tuple #[.slice none 0 0, .int .i64 4]) := by
 refine Spec.enter (C := cx gl) Tryz.func115 rfl 31 rfl rfl fun w0 h0 hsep hsub hpre => ?_
 obtain rfl : h0 = Heap.none := hsep
 show St (cx gl) _ [(0, .slice base vs.length c)] _ _
 refine R_seq ?_
 refine R_region ?_
 refine L_val rfl rfl rfl (OpP.v (P_assign rfl rfl)) ?_
 refine L_val rfl rfl rfl (OpP.v (P_assign rfl rfl)) ?_
 refine L_nil ?_
 refine Q_then ?_
 refine R_seq ?_
 refine R_seq ?_
 refine R_region ?_
 refine L_val rfl rfl rfl (OpP.v (P_move rfl rfl)) ?_
 refine L_val rfl rfl rfl (OpP.v (P_len rfl ty_sl_42 rfl)) ?_
 refine L_val rfl rfl rfl (OpP.v (P_gtr rfl rfl rfl)) ?_
 refine E_bool (t := 9) rfl (fun hl => ?_) (fun hl => ?_)
 ·skip
  refine L_val rfl rfl rfl (OpP.v (P_move rfl rfl)) ?_
  refine L_no rfl rfl rfl ?_
  refine L_no rfl rfl rfl ?_
  refine L_val rfl rfl rfl (OpP.v (P_pick rfl rfl rfl)) ?_
  refine L_nil ?_
  refine St.env (.cons (t := 0) rfl (.cons (t := 2) rfl (.cons (t := 3) rfl (.cons (t := 13) rfl .nil)))) ?_
  refine Q_then ?_
  refine R_condT rfl ?_
  refine R_seq ?_
  refine R_region ?_
  refine L_val rfl rfl rfl (OpP.v (P_assign rfl rfl)) ?_
  refine L_val rfl rfl rfl (OpP.v (P_assign rfl rfl)) ?_
  refine L_nil ?_
  refine St.env (.cons (t := 0) rfl (.cons (t := 2) rfl (.cons (t := 3) rfl .nil))) ?_
  refine Q_then ?_
  refine R_ret ?_
  refine Q_then_ret ?_
  exact R_endV rfl rfl (.tmp rfl (.tmp rfl .nil)) (rfl)
 ·skip
  refine L_val rfl rfl rfl (OpP.v (P_move rfl rfl)) ?_
  refine L_val rfl rfl rfl (OpP.v (P_move rfl rfl)) ?_
  refine L_op rfl (W_callV rfl rfl rfl rfl fn_ca_169 (contains_ok base c vs xss hvx hc hmax) (Items.row hpre rfl) ?_)
  refine L_val rfl rfl rfl (OpP.v (P_pick rfl rfl rfl)) ?_
  refine E_true (t := 13) rfl (by rw [← bigL_short (by rw [← hvx]; have := of_decide_eq_false hl; omega)]; exact hB) ?_
  refine L_nil ?_
  refine St.env (.cons (t := 0) rfl (.cons (t := 2) rfl (.cons (t := 3) rfl (.cons (t := 13) rfl .nil)))) ?_
  refine Q_then ?_
  refine R_condT rfl ?_
  refine R_seq ?_
  refine R_region ?_
  refine L_val rfl rfl rfl (OpP.v (P_assign rfl rfl)) ?_
  refine L_val rfl rfl rfl (OpP.v (P_assign rfl rfl)) ?_
  refine L_nil ?_
  refine St.env (.cons (t := 0) rfl (.cons (t := 2) rfl (.cons (t := 3) rfl .nil))) ?_
  refine Q_then ?_
  refine R_ret ?_
  refine Q_then_ret ?_
  exact R_endV rfl rfl (.tmp rfl (.tmp rfl .nil)) (rfl)
theorem leavesOf_ok {gl : Nat → Obj} (hG : Globs gl) (base : Option Addr) (c : Nat) (vs : List Value) (xss : List (List Int)) (hvx : vs.length = xss.length) (hc : vs.length ≤ c) (hmax : vs.length ≤ 70368744177664) (hB : bigL xss = false) : Spec (cx gl) 115 [.slice base vs.length c] (fun w _ => Items w base vs xss) [] (fun v rs => ∃ b, v = .tuple #[.slice (some ⟨b, 0, none⟩) (leaves xss).length (leaves xss).length, .int .i64 0] ∧ rs = [blk b (flat .u8 (leaves xss)) 29]) := by
 refine Spec.enter (C := cx gl) Tryz.func115 rfl 31 rfl rfl fun w0 h0 hsep hsub hpre => ?_
 obtain rfl : h0 = Heap.none := hsep
 show St (cx gl) _ [(0, .slice base vs.length c)] _ _
 obtain ⟨hB1, hB2, hB3⟩ := bigL_false hB
 have hfl : ∀ k, ∀ x ∈ fillG (leafF xss) vs.length k, x.length = 32 := fun k => fillG_len _ _ _ fun i => sha_length _
 refine R_seq ?_
 refine R_region ?_
 refine L_val rfl rfl rfl (OpP.v (P_assign rfl rfl)) ?_
 refine L_val rfl rfl rfl (OpP.v (P_assign rfl rfl)) ?_
 refine L_nil ?_
 refine Q_then ?_
 refine R_seq ?_
 refine R_seq ?_
 refine R_region ?_
 refine L_val rfl rfl rfl (OpP.v (P_move rfl rfl)) ?_
 refine L_val rfl rfl rfl (OpP.v (P_len rfl ty_sl_42 rfl)) ?_
 refine L_val rfl rfl rfl (OpP.v (P_gtr rfl rfl rfl)) ?_
 refine E_false (t := 9) rfl (decide_eq_false (by omega)) ?_
 refine L_val rfl rfl rfl (OpP.v (P_move rfl rfl)) ?_
 refine L_val rfl rfl rfl (OpP.v (P_move rfl rfl)) ?_
 refine L_op rfl (W_callV rfl rfl rfl rfl fn_ca_169 (contains_ok base c vs xss hvx hc hmax) (Items.row hpre rfl) ?_)
 refine L_val rfl rfl rfl (OpP.v (P_pick rfl rfl rfl)) ?_
 refine E_false (t := 13) rfl (hB2) ?_
 refine L_nil ?_
 refine St.env (.cons (t := 0) rfl (.cons (t := 2) rfl (.cons (t := 3) rfl (.cons (t := 13) rfl .nil)))) ?_
 refine Q_then ?_
 refine R_condF rfl ?_
 refine R_skip ?_
 refine Q_then ?_
 refine R_seq ?_
 refine R_region ?_
 refine L_val rfl rfl rfl (OpP.v (P_move rfl rfl)) ?_
 refine L_val rfl rfl rfl (OpP.v (P_len rfl ty_sl_42 rfl)) ?_
 refine L_op rfl (W_make (n := vs.length) rfl rfl rfl ty_sl_45 ty_ze_29 rfl rfl (by omega) (by omega) fun b16 => ?_)
 rw [madeL_rep 32 _ _ (by decide), ← flat_zeros, ← fillG_zero (leafF xss)]
 refine L_val rfl rfl rfl (OpP.v (P_assign rfl rfl)) ?_
 refine L_nil ?_
 refine St.env (.cons (t := 0) rfl (.cons (t := 2) rfl (.cons (t := 3) rfl (.cons (t := 4) rfl .nil)))) ?_
 refine Q_then ?_
 refine R_seq ?_
 refine R_seq ?_
 refine R_region ?_
 refine L_val rfl rfl rfl (OpP.v (P_move rfl rfl)) ?_
 refine L_val rfl rfl rfl (OpP.v (P_len rfl ty_sl_42 rfl)) ?_
 refine L_val rfl rfl rfl (OpP.v (P_move rfl rfl)) ?_
 refine L_nil ?_
 refine St.env (.cons (t := 2) rfl (.cons (t := 3) rfl (.cons (t := 4) rfl (.cons (t := 17) rfl (.cons (t := 18) rfl (.cons (t := 19) rfl .nil)))))) ?_
 refine Q_then ?_
 refine R_block ?_
 refine R_loop (G := Nat) (fun k => [(2, .slice none 0 0), (3, .int .i64 0), (4, .slice (some ⟨b16, 0, none⟩) (vs.length) (vs.length)), (17, .slice base vs.length c), (18, .int .i64 ((vs.length : Nat) : Int)), (19, .int .i64 (k : Int))]) (fun k => [blk b16 (flat .u8 (fillG (leafF xss) vs.length k)) 29]) (fun k => k ≤ vs.length) (fun k => vs.length - k) (0) (by omega) (by repeat (first | exact .nil | refine .cons rfl ?_)) (Weak.refl _) ?_
 intro k hk
 refine R_seq ?_
 refine R_region ?_
 refine L_val rfl rfl rfl (OpP.v (P_lss rfl rfl rfl)) ?_
 refine L_nil ?_
 refine Q_then ?_
 refine R_seq ?_
 refine R_condP rfl (fun hlt => ?_) (fun hlt => ?_)
 ·skip
  obtain ⟨bb, bc, ys, hvk, hxk, hbc, hbr⟩ := hpre.2.at_ (k := k) (by omega)
  obtain ⟨pb, pj, rfl, hrow⟩ := hpre.1.some_ (by omega)
  have hgk : xss.getD k [] = ys := by rw [List.getD_eq_getElem?_getD, hxk]; rfl
  refine R_skip ?_
  refine Q_then ?_
  refine R_seq ?_
  refine R_block ?_
  refine R_seq ?_
  refine R_region ?_
  refine L_val rfl rfl rfl (OpP.v (P_move rfl rfl)) ?_
  refine L_val rfl rfl rfl (OpP.v (P_ixs (k) rfl ty_sl_42 rfl rfl (by first | rfl | omega) (by omega))) ?_
  refine L_val rfl rfl rfl (V_load rfl rfl ty_sc_48 (Rd.row hrow rfl hvk)) ?_
  refine L_val rfl rfl rfl (OpP.v (P_assign rfl rfl)) ?_
  refine L_val rfl rfl rfl (OpP.v (P_assign rfl rfl)) ?_
  refine L_nil ?_
  refine Q_then ?_
  refine R_region ?_
  refine L_val rfl rfl rfl (OpP.v (P_move rfl rfl)) ?_
  refine L_val rfl rfl rfl (OpP.v (P_move rfl rfl)) ?_
  refine L_val rfl rfl rfl (OpP.v (P_move rfl rfl)) ?_
  refine L_op rfl (W_callV rfl rfl rfl rfl fn_ca_171 (leaf_ok hG bb bc ys hbc) (fun w nw => (Sn.row hbr rfl).rw_ w nw) ?_)
  refine L_val rfl rfl rfl (OpP.v (P_ixs (k) rfl ty_sl_45 rfl rfl (by first | rfl | omega) (by omega))) ?_
  refine L_op rfl (W_storeAgg rfl rfl rfl rfl ty_ag_29 (by rw [ints_length]; exact sha_length _) (ints_one) .h0 (by rw [flat_length (hfl k), fillG_length, ints_length]; rw [sha_length]; omega) ?_)
  rw [Nat.zero_add, flat_splice (hfl k) (by rw [fillG_length]; omega) (sha_length _)]
  refine L_nil ?_
  refine Q_block ?_
  refine Q_then ?_
  refine R_region ?_
  first | (refine L_val rfl rfl rfl (OpP.v (P_addN rfl rfl rfl (by simp only [fits]; omega))) ?_) | (refine L_val rfl rfl rfl (OpP.v (P_add rfl rfl rfl)) ?_)
  refine L_val rfl rfl rfl (OpP.v (P_move rfl rfl)) ?_
  refine L_nil ?_
  refine E_nat (t := 19) (n := k + 1) rfl (by omega) ?_
  exact Q_round (k + 1) (by omega) (by omega) (by repeat (first | exact .nil | refine .cons rfl ?_)) (by rw [← fillG_set, leafF, hgk]; exact Weak.refl _)
 ·skip
  obtain rfl : k = vs.length := by omega
  rw [hvx, leaves_fill]
  refine R_exit ?_
  refine Q_then_exit ?_
  refine Q_then_exit ?_
  refine Q_block_eq ?_
  refine St.env (.cons (t := 2) rfl (.cons (t := 3) rfl (.cons (t := 4) rfl .nil))) ?_
  refine Q_then ?_
  refine R_seq ?_
  refine R_region ?_
  refine L_val rfl rfl rfl (OpP.v (P_move rfl rfl)) ?_
  refine L_val rfl rfl rfl (OpP.v (P_assign rfl rfl)) ?_
  refine L_val rfl rfl rfl (OpP.v (P_assign rfl rfl)) ?_
  refine L_nil ?_
  refine St.env (.cons (t := 2) rfl (.cons (t := 3) rfl .nil)) ?_
  refine Q_then ?_
  refine R_ret ?_
  exact R_end (rs2 := _) rfl rfl (.tmp rfl (.tmp rfl .nil)) (⟨b16, by rw [leaves_length]; rfl, rfl⟩) (Weak.refl _)
theorem root_big {gl : Nat → Obj} (base : Option Addr) (c : Nat) (vs : List Value) (xss : List (List Int)) (hvx : vs.length = xss.length) (hc : vs.length ≤ c) (hmax : vs.length ≤ 70368744177664) (hB : bigL xss = true) : SpecV (cx gl) 51 [.slice base vs.length c] (fun w => Items w base vs xss) (.tuple #[.agg (ints .u8 (List.replicate 32 0)).toArray, .int .i64 4]) := by
 refine Spec.enter (C := cx gl) Tryz.func51 rfl 20 rfl rfl fun w0 h0 hsep hsub hpre => ?_
 obtain rfl : h0 = Heap.none := hsep
 show St (cx gl) _ [(0, .slice base vs.length c)] _ _
 refine R_seq ?_
 refine R_region ?_
 refine L_op rfl (W_alloc rfl rfl rfl ty_ze_29 fun b2 => ?_)
 refine L_val rfl rfl rfl (OpP.v (P_assign rfl rfl)) ?_
 refine L_nil ?_
 refine Q_then ?_
 refine R_seq ?_
 refine R_region ?_
 refine L_val rfl rfl rfl (OpP.v (P_move rfl rfl)) ?_
 refine L_op rfl (W_callV rfl rfl rfl rfl fn_ca_115 (leavesOf_big base c vs xss hvx hc hmax hB) (Items.row hpre rfl) ?_)
 refine L_val rfl rfl rfl (OpP.v (P_move rfl rfl)) ?_
 refine L_val rfl rfl rfl (OpP.v (P_extract rfl rfl rfl)) ?_
 refine L_val rfl rfl rfl (OpP.v (P_extract rfl rfl rfl)) ?_
 refine L_val rfl rfl rfl (OpP.v (P_assign rfl rfl)) ?_
 refine L_val rfl rfl rfl (OpP.v (P_assign rfl rfl)) ?_
 refine L_nil ?_
 refine St.env (.cons (t := 2) rfl (.cons (t := 3) rfl (.cons (t := 4) rfl (.cons (t := 5) rfl .nil)))) ?_
 refine Q_then ?_
 refine R_seq ?_
 refine R_seq ?_
 refine R_region ?_
 refine L_val rfl rfl rfl (OpP.v (P_move rfl rfl)) ?_
 refine L_val rfl rfl rfl (OpP.v (P_neq rfl rfl rfl)) ?_
 refine E_true (t := 12) rfl (rfl) ?_
 refine L_nil ?_
 refine St.env (.cons (t := 2) rfl (.cons (t := 3) rfl (.cons (t := 4) rfl (.cons (t := 5) rfl (.cons (t := 12) rfl .nil))))) ?_
 refine Q_then ?_
 refine R_condT rfl ?_
 refine R_seq ?_
 refine R_region ?_
 refine L_val rfl rfl rfl (OpP.v (P_buildArrR rfl ty_ar_29 ty_ze_29 rfl rfl rfl (by decide) (by simp [Value.oneCell']))) ?_
 refine E_as (t := 13) (v' := .agg (ints .u8 (List.replicate 32 0)).toArray) rfl rfl ?_
 refine L_val rfl rfl rfl (OpP.v (P_move rfl rfl)) ?_
 refine L_op rfl (W_storeAll rfl rfl rfl rfl ty_ag_29 (rfl) (ints_one) .h0 (rfl) ?_)
 refine L_val rfl rfl rfl (OpP.v (P_assign rfl rfl)) ?_
 refine L_nil ?_
 refine St.env (.cons (t := 2) rfl (.cons (t := 3) rfl (.cons (t := 4) rfl .nil))) ?_
 refine Q_then ?_
 refine R_ret ?_
 refine Q_then_ret ?_
 exact R_endV rfl rfl (.cell rfl (Rds.loadVar ty_ag_29 (Rds.blk .h0) rfl) (.tmp rfl .nil)) (rfl)
theorem root_fine {gl : Nat → Obj} (hG : Globs gl) (base : Option Addr) (c : Nat) (vs : List Value) (xss : List (List Int)) (hvx : vs.length = xss.length) (hc : vs.length ≤ c) (hmax : vs.length ≤ 70368744177664) (hB : bigL xss = false) : SpecV (cx gl) 51 [.slice base vs.length c] (fun w => Items w base vs xss) (.tuple #[.agg (ints .u8 (rootH xss.length (topH (leaves xss)))).toArray, .int .i64 0]) := by
 refine Spec.enter (C := cx gl) Tryz.func51 rfl 20 rfl rfl fun w0 h0 hsep hsub hpre => ?_
 obtain rfl : h0 = Heap.none := hsep
 show St (cx gl) _ [(0, .slice base vs.length c)] _ _
 refine R_seq ?_
 refine R_region ?_
 refine L_op rfl (W_alloc rfl rfl rfl ty_ze_29 fun b2 => ?_)
 refine L_val rfl rfl rfl (OpP.v (P_assign rfl rfl)) ?_
 refine L_nil ?_
 refine Q_then ?_
 refine R_seq ?_
 refine R_region ?_
 refine L_val rfl rfl rfl (OpP.v (P_move rfl rfl)) ?_
 refine L_op rfl (W_call rfl rfl rfl rfl fn_ca_115 (leavesOf_ok hG base c vs xss hvx hc hmax hB) (Split.nil _) (fun w a b _ _ _ m => Items.row hpre rfl w ⟨_, ‹_›, m.le (Heap.le_join_right ‹_›)⟩) fun v8 rs1 ⟨lb, e1, e2⟩ => ?_)
 subst e1; subst e2
 refine St.res (rs' := [blk lb (flat .u8 (leaves xss)) 29, blk b2 (List.replicate 32 (.int .u8 0)) 29]) (Weak.refl _) ?_
 refine L_val rfl rfl rfl (OpP.v (P_move rfl rfl)) ?_
 refine L_val rfl rfl rfl (OpP.v (P_extract rfl rfl rfl)) ?_
 refine L_val rfl rfl rfl (OpP.v (P_extract rfl rfl rfl)) ?_
 refine L_val rfl rfl rfl (OpP.v (P_assign rfl rfl)) ?_
 refine L_val rfl rfl rfl (OpP.v (P_assign rfl rfl)) ?_
 refine L_nil ?_
 refine St.env (.cons (t := 2) rfl (.cons (t := 3) rfl (.cons (t := 4) rfl (.cons (t := 5) rfl .nil)))) ?_
 refine Q_then ?_
 refine R_seq ?_
 refine R_seq ?_
 refine R_region ?_
 refine L_val rfl rfl rfl (OpP.v (P_move rfl rfl)) ?_
 refine L_val rfl rfl rfl (OpP.v (P_neq rfl rfl rfl)) ?_
 refine E_false (t := 12) rfl (rfl) ?_
 refine L_nil ?_
 refine St.env (.cons (t := 2) rfl (.cons (t := 3) rfl (.cons (t := 4) rfl (.cons (t := 5) rfl (.cons (t := 12) rfl .nil))))) ?_
 refine Q_then ?_
 refine R_condF rfl ?_
 refine R_skip ?_
 refine Q_then ?_
 refine R_seq ?_
 refine R_region ?_
 refine L_val rfl rfl rfl (OpP.v (P_move rfl rfl)) ?_
 refine L_val rfl rfl rfl (OpP.v (P_len rfl ty_sl_45 rfl)) ?_
 refine L_val rfl rfl rfl (OpP.v (P_move rfl rfl)) ?_
 refine L_op rfl (W_callV rfl rfl rfl rfl fn_ca_117 (top_ok hG (leaves xss).length (some ⟨lb, 0, none⟩) (leaves xss).length (leaves xss) (Nat.le_refl _) (by rw [leaves_length]; omega) (leaves_len _) (Nat.le_refl _)) (fun w nw => (Sn.ofBlk .h0).rw_ w nw) ?_)
 refine L_op rfl (W_callV rfl rfl rfl rfl fn_ca_116 (under_ok hG ((leaves xss).length : Int) (topH (leaves xss)) (topH_length (leaves_len _))) (fun _ _ => trivial) ?_)
 rw [leaves_length]
 refine L_op rfl (W_storeAll rfl rfl rfl rfl ty_ag_29 (by rw [ints_length, sha_length]) (ints_one) .h1 (by rw [ints_length, sha_length]; rfl) ?_)
 refine L_val rfl rfl rfl (OpP.v (P_assign rfl rfl)) ?_
 refine L_nil ?_
 refine St.env (.cons (t := 2) rfl (.cons (t := 3) rfl .nil)) ?_
 refine Q_then ?_
 refine R_ret ?_
 exact R_endV rfl rfl (.cell rfl (Rds.loadVar ty_ag_29 (Rds.blk .h1) (by rw [ints_length, sha_length])) (.tmp rfl .nil)) (rfl)
theorem root_ok {gl : Nat → Obj} (hG : Globs gl) (base : Option Addr) (c : Nat) (vs : List Value) (xss : List (List Int)) (hvx : vs.length = xss.length) (hc : vs.length ≤ c) (hmax : vs.length ≤ 70368744177664) : SpecV (cx gl) 51 [.slice base vs.length c] (fun w => Items w base vs xss) (rootV xss) := by
 cases hB : bigL xss with
 | true => exact SpecV.mono (root_big base c vs xss hvx hc hmax hB) (fun _ h => h) (by unfold rootV rootD rootE; rw [hB]; rfl)
 | false => exact SpecV.mono (root_fine hG base c vs xss hvx hc hmax hB) (fun _ h => h) (by unfold rootV rootD rootE; rw [hB]; rfl)
theorem rroot_big {gl : Nat → Obj} (base : Option Addr) (c : Nat) (vs : List Value) (xss : List (List Int)) (hvx : vs.length = xss.length) (hc : vs.length ≤ c) (hmax : vs.length ≤ 70368744177664) (hB : bigL xss = true) : SpecV (cx gl) 13 [.slice base vs.length c] (fun w => Items w base vs xss) (.tuple #[.agg (ints .u8 (List.replicate 32 0)).toArray, .int .i64 4]) := by
 refine Spec.enter (C := cx gl) Tryz.func13 rfl 17 rfl rfl fun w0 h0 hsep hsub hpre => ?_
 obtain rfl : h0 = Heap.none := hsep
 show St (cx gl) _ [(0, .slice base vs.length c)] _ _
 refine R_seq ?_
 refine R_region ?_
 refine L_op rfl (W_alloc rfl rfl rfl ty_ze_29 fun b2 => ?_)
 refine L_val rfl rfl rfl (OpP.v (P_assign rfl rfl)) ?_
 refine L_nil ?_
 refine Q_then ?_
 refine R_seq ?_
 refine R_seq ?_
 refine R_region ?_
 refine L_val rfl rfl rfl (OpP.v (P_move rfl rfl)) ?_
 refine L_op rfl (W_callV rfl rfl rfl rfl fn_ca_59 (large_ok base c vs xss hvx hc hmax) (Items.row hpre rfl) ?_)
 refine E_true (t := 7) rfl (hB) ?_
 refine L_nil ?_
 refine St.env (.cons (t := 0) rfl (.cons (t := 2) rfl (.cons (t := 3) rfl (.cons (t := 7) rfl .nil)))) ?_
 refine Q_then ?_
 refine R_condT rfl ?_
 refine R_seq ?_
 refine R_region ?_
 refine L_val rfl rfl rfl (OpP.v (P_buildArrR rfl ty_ar_29 ty_ze_29 rfl rfl rfl (by decide) (by simp [Value.oneCell']))) ?_
 refine E_as (t := 8) (v' := .agg (ints .u8 (List.replicate 32 0)).toArray) rfl rfl ?_
 refine L_op rfl (W_storeAll rfl rfl rfl rfl ty_ag_29 (rfl) (ints_one) .h0 (rfl) ?_)
 refine L_val rfl rfl rfl (OpP.v (P_assign rfl rfl)) ?_
 refine L_nil ?_
 refine St.env (.cons (t := 0) rfl (.cons (t := 2) rfl (.cons (t := 3) rfl .nil))) ?_
 refine Q_then ?_
 refine R_ret ?_
 refine Q_then_ret ?_
 exact R_endV rfl rfl (.cell rfl (Rds.loadVar ty_ag_29 (Rds.blk .h0) rfl) (.tmp rfl .nil)) (rfl)
theorem rroot_fine {gl : Nat → Obj} (hG : GlobsR gl) (base : Option Addr) (c : Nat) (vs : List Value) (xss : List (List Int)) (hvx : vs.length = xss.length) (hc : vs.length ≤ c) (hmax : vs.length ≤ 70368744177664) (hB : bigL xss = false) : SpecV (cx gl) 13 [.slice base vs.length c] (fun w => Items w base vs xss) (.tuple #[.agg (ints .u8 (rootH xss.length (topH (leaves xss)))).toArray, .int .i64 0]) := by
 refine Spec.enter (C := cx gl) Tryz.func13 rfl 17 rfl rfl fun w0 h0 hsep hsub hpre => ?_
 obtain rfl : h0 = Heap.none := hsep
 show St (cx gl) _ [(0, .slice base vs.length c)] _ _
 obtain ⟨hB1, hB2, hB3⟩ := bigL_false hB
 have htl : (topH (leaves xss)).length = 32 := topH_length (leaves_len _)
 have hrl : (2 :: (numB (vs.length : Int) ++ topH (leaves xss))).length = 41 := by rw [List.length_cons, List.length_append, numB_length, htl]
 refine R_seq ?_
 refine R_region ?_
 refine L_op rfl (W_alloc rfl rfl rfl ty_ze_29 fun b2 => ?_)
 refine L_val rfl rfl rfl (OpP.v (P_assign rfl rfl)) ?_
 refine L_nil ?_
 refine Q_then ?_
 refine R_seq ?_
 refine R_seq ?_
 refine R_region ?_
 refine L_val rfl rfl rfl (OpP.v (P_move rfl rfl)) ?_
 refine L_op rfl (W_callV rfl rfl rfl rfl fn_ca_59 (large_ok base c vs xss hvx hc hmax) (Items.row hpre rfl) ?_)
 refine E_false (t := 7) rfl (hB) ?_
 refine L_nil ?_
 refine St.env (.cons (t := 0) rfl (.cons (t := 2) rfl (.cons (t := 3) rfl (.cons (t := 7) rfl .nil)))) ?_
 refine Q_then ?_
 refine R_condF rfl ?_
 refine R_skip ?_
 refine Q_then ?_
 refine R_seq ?_
 refine R_region ?_
 refine L_val rfl rfl rfl (OpP.v (P_move rfl rfl)) ?_
 refine L_op rfl (W_callV rfl rfl rfl rfl fn_ca_22 (rtop_ok hG vs.length base c vs xss (Nat.le_refl _) hmax hvx (fun x hx => by have := hB3 x hx; omega) hc) (Items.row hpre rfl) ?_)
 refine L_op rfl (W_alloc rfl rfl rfl ty_ze_29 fun b4 => ?_)
 refine L_op rfl (W_storeAll rfl rfl rfl rfl ty_ag_29 (by rw [ints_length, htl]) (ints_one) .h0 (by rw [ints_length, htl]; rfl) ?_)
 refine L_nil ?_
 refine St.env (.cons (t := 0) rfl (.cons (t := 2) rfl (.cons (t := 3) rfl (.cons (t := 4) rfl .nil)))) ?_
 refine Q_then ?_
 refine R_seq ?_
 refine R_region ?_
 refine L_val rfl rfl rfl (OpP.v (P_move rfl rfl)) ?_
 refine L_val rfl rfl rfl (OpP.v (P_len rfl ty_sl_42 rfl)) ?_
 refine L_val rfl rfl rfl (V_loadAgg rfl rfl ty_ag_29 (Rds.blk .h0) (by rw [ints_length, htl])) ?_
 refine L_op rfl (W_call rfl rfl rfl rfl fn_ca_21 (rootText_ok (vs.length : Int) (topH (leaves xss)) htl) (Split.nil _) (fun _ _ _ _ _ _ _ => trivial) fun v14 rs1 (e1 : rs1 = _) => ?_)
 subst e1
 refine St.openOwn (p := []) (by omega) fun tb tcap junk htc htl2 htv => ?_
 subst htv
 refine St.res (rs' := [blk tb (ints .u8 (2 :: (numB (vs.length : Int) ++ topH (leaves xss))) ++ junk) 5, blk b4 (ints .u8 (topH (leaves xss))) 29, blk b2 (List.replicate 32 (.int .u8 0)) 29]) (Weak.refl _) ?_
 refine L_op rfl (W_callV rfl rfl rfl rfl fn_ca_17 (by have h := rsum_ok hG (some ⟨tb, 0, none⟩) tcap (2 :: (numB (vs.length : Int) ++ topH (leaves xss))) (by omega) (by omega); rw [hrl] at h; exact h) (fun w nw => (Sn.ofBlkAt .h0 fun i v h => app_at i v h).rw_ w nw) ?_)
 rw [hvx]
 refine L_op rfl (W_alloc rfl rfl rfl ty_ze_29 fun b5 => ?_)
 refine L_op rfl (W_storeAll rfl rfl rfl rfl ty_ag_29 (by rw [ints_length, sha_length]) (ints_one) .h0 (by rw [ints_length, sha_length]; rfl) ?_)
 refine L_nil ?_
 refine St.env (.cons (t := 2) rfl (.cons (t := 3) rfl (.cons (t := 5) rfl .nil))) ?_
 refine Q_then ?_
 refine R_seq ?_
 refine R_region ?_
 refine L_val rfl rfl rfl (V_loadAgg rfl rfl ty_ag_29 (Rds.blk .h0) (by rw [ints_length, sha_length])) ?_
 refine L_op rfl (W_storeAll rfl rfl rfl rfl ty_ag_29 (by rw [ints_length, sha_length]) (ints_one) .h3 (by rw [ints_length, sha_length]; rfl) ?_)
 refine L_val rfl rfl rfl (OpP.v (P_assign rfl rfl)) ?_
 refine L_nil ?_
 refine St.env (.cons (t := 2) rfl (.cons (t := 3) rfl .nil)) ?_
 refine Q_then ?_
 refine R_ret ?_
 exact R_endV rfl rfl (.cell rfl (Rds.loadVar ty_ag_29 (Rds.blk .h3) (by rw [ints_length, sha_length])) (.tmp rfl .nil)) (rfl)
theorem rroot_ok {gl : Nat → Obj} (hG : GlobsR gl) (base : Option Addr) (c : Nat) (vs : List Value) (xss : List (List Int)) (hvx : vs.length = xss.length) (hc : vs.length ≤ c) (hmax : vs.length ≤ 70368744177664) : SpecV (cx gl) 13 [.slice base vs.length c] (fun w => Items w base vs xss) (rootV xss) := by
 cases hB : bigL xss with
 | true => exact SpecV.mono (rroot_big base c vs xss hvx hc hmax hB) (fun _ h => h) (by unfold rootV rootD rootE; rw [hB]; rfl)
 | false => exact SpecV.mono (rroot_fine hG base c vs xss hvx hc hmax hB) (fun _ h => h) (by unfold rootV rootD rootE; rw [hB]; rfl)
end Go.Proofs.YtfhjhaogmdaepaaGreatDoor

/- Walks: Path and Verify. Printed by gen.py. -/
set_option linter.unusedVariables false
set_option linter.unusedSimpArgs false
set_option maxRecDepth 100000
namespace Go.Proofs.YtfhjhaogmdaepaaGreatDoor
open Go Go.RowKit Go.Proofs
theorem leafH_length (x : List Int) : (leafH x).length = 32 := sha_length _
theorem pathE_big {total index : Int} {hs : List (List Int)} {item : List Int} (h : 1048576 < item.length) : pathE total index hs item = 4 := by unfold pathE; rw [if_pos h]
theorem pathE_out {total index : Int} {hs : List (List Int)} {item : List Int} (h : ¬ 1048576 < item.length) (hf : fitsB total index hs.length = false) : pathE total index hs item = 20 := by unfold pathE; rw [if_neg h, hf]; rfl
theorem pathE_in {total index : Int} {hs : List (List Int)} {item : List Int} (h : ¬ 1048576 < item.length) (hf : fitsB total index hs.length = true) : pathE total index hs item = 0 := by unfold pathE; rw [if_neg h, if_pos hf]
theorem pathV_zero {total index : Int} {hs : List (List Int)} {item : List Int} {e : Int} (h : pathE total index hs item = e) (he : e ≠ 0) : pathV total index hs item = .tuple #[.agg (ints .u8 (List.replicate 32 0)).toArray, .int .i64 e] := by
 unfold pathV pathD; rw [h, if_neg he]
theorem pathV_fine {n i : Nat} {hs : List (List Int)} {item : List Int} (h : pathE (n : Int) (i : Int) hs item = 0) : pathV (n : Int) (i : Int) hs item = .tuple #[.agg (ints .u8 (sha (2 :: (numB (n : Int) ++ leadH n i hs (leafH item))))).toArray, .int .i64 0] := by
 unfold pathV pathD; rw [h, if_pos rfl]; rfl
theorem rev_at {ds : List Bool} {k : Nat} {d : Bool} (h : ds.reverse[k]? = some d) : ds[ds.length - 1 - k]? = some d := by
 have hk := (List.getElem?_eq_some_iff.1 h).1
 rw [List.length_reverse] at hk
 rwa [List.getElem?_reverse hk] at h
theorem path_ok {gl : Nat → Obj} (hG : Globs gl) (total index : Int) (base : Option Addr) (c : Nat) (hs : List (List Int)) (ib : Option Addr) (ic : Nat) (item : List Int) (hh : ∀ h ∈ hs, h.length = 32) (hc : hs.length ≤ c) (hm : hs.length ≤ 70368744177664) (hic : item.length ≤ ic) : SpecV (cx gl) 125 [.agg [.int .i64 total, .int .i64 index, .slice base hs.length c].toArray, .slice ib item.length ic] (fun w => Row w base (flat .u8 hs) ∧ Row w ib (ints .u8 item)) (pathV total index hs item) := by
 refine Spec.enter (C := cx gl) Tryz.func125 rfl 76 rfl rfl fun w0 h0 hsep hsub hpre => ?_
 obtain rfl : h0 = Heap.none := hsep
 show St (cx gl) _ [(0, .agg [.int .i64 total, .int .i64 index, .slice base hs.length c].toArray), (1, .slice ib item.length ic)] _ _
 refine R_seq ?_
 refine R_region ?_
 refine L_op rfl (W_box ([.int .i64 total, .int .i64 index, .slice base hs.length c]) rfl rfl rfl rfl rfl fun b2 => ?_)
 refine L_op rfl (W_alloc rfl rfl rfl ty_ze_29 fun b4 => ?_)
 refine L_val rfl rfl rfl (OpP.v (P_assign rfl rfl)) ?_
 refine L_nil ?_
 refine St.env (.cons (t := 1) rfl (.cons (t := 2) rfl (.cons (t := 4) rfl (.cons (t := 5) rfl .nil)))) ?_
 refine Q_then ?_
 refine R_seq ?_
 refine R_seq ?_
 refine R_region ?_
 refine L_val rfl rfl rfl (OpP.v (P_move rfl rfl)) ?_
 refine L_val rfl rfl rfl (OpP.v (P_len rfl ty_sl_48 rfl)) ?_
 refine L_val rfl rfl rfl (OpP.v (P_gtr rfl rfl rfl)) ?_
 refine L_nil ?_
 refine St.env (.cons (t := 1) rfl (.cons (t := 2) rfl (.cons (t := 4) rfl (.cons (t := 5) rfl (.cons (t := 12) rfl .nil))))) ?_
 refine Q_then ?_
 refine R_condP rfl (fun hbig => ?_) (fun hbig => ?_)
 ·skip
  refine R_seq ?_
  refine R_region ?_
  refine L_val rfl rfl rfl (OpP.v (P_buildArrR rfl ty_ar_29 ty_ze_29 rfl rfl rfl (by decide) (by simp [Value.oneCell']))) ?_
  refine E_as (t := 13) (v' := .agg (ints .u8 (List.replicate 32 0)).toArray) rfl rfl ?_
  refine L_op rfl (W_storeAll rfl rfl rfl rfl ty_ag_29 (rfl) (ints_one) .h0 (rfl) ?_)
  refine L_val rfl rfl rfl (OpP.v (P_assign rfl rfl)) ?_
  refine L_nil ?_
  refine St.env (.cons (t := 1) rfl (.cons (t := 2) rfl (.cons (t := 4) rfl (.cons (t := 5) rfl .nil)))) ?_
  refine Q_then ?_
  refine R_ret ?_
  refine Q_then_ret ?_
  exact R_endV rfl rfl (.cell rfl (Rds.loadVar ty_ag_29 (Rds.blk .h0) rfl) (.tmp rfl .nil)) ((pathV_zero (pathE_big (by omega)) (by decide)).symm)
 ·skip
  refine R_skip ?_
  refine Q_then ?_
  refine R_seq ?_
  refine R_seq ?_
  refine R_region ?_
  refine L_val rfl rfl rfl (OpP.v (P_fld0 rfl ty_fl_47_0 rfl)) ?_
  refine L_val rfl rfl rfl (V_load rfl rfl ty_sc_3 (by first | exact Rd.blk .h0 rfl | exact Rd.blk .h1 rfl | exact Rd.blk .h2 rfl | exact Rd.blk .h3 rfl | exact Rd.blk .h4 rfl | exact Rd.blk .h5 rfl | exact Rd.blk .h6 rfl | exact Rd.blk .h7 rfl)) ?_
  refine L_val rfl rfl rfl (OpP.v (P_lss rfl rfl rfl)) ?_
  refine E_bool (t := 16) rfl (fun h1 => ?_) (fun h1 => ?_)
  ·skip
   refine L_val rfl rfl rfl (OpP.v (P_move rfl rfl)) ?_
   refine L_no rfl rfl rfl ?_
   refine L_no rfl rfl rfl ?_
   refine L_no rfl rfl rfl ?_
   refine L_val rfl rfl rfl (OpP.v (P_pick rfl rfl rfl)) ?_
   refine L_val rfl rfl rfl (OpP.v (P_move rfl rfl)) ?_
   refine L_no rfl rfl rfl ?_
   refine L_no rfl rfl rfl ?_
   refine L_no rfl rfl rfl ?_
   refine L_val rfl rfl rfl (OpP.v (P_pick rfl rfl rfl)) ?_
   refine L_val rfl rfl rfl (OpP.v (P_move rfl rfl)) ?_
   refine L_no rfl rfl rfl ?_
   refine L_no rfl rfl rfl ?_
   refine L_no rfl rfl rfl ?_
   refine L_no rfl rfl rfl ?_
   refine L_no rfl rfl rfl ?_
   refine L_val rfl rfl rfl (OpP.v (P_pick rfl rfl rfl)) ?_
   refine L_nil ?_
   refine St.env (.cons (t := 1) rfl (.cons (t := 2) rfl (.cons (t := 4) rfl (.cons (t := 5) rfl (.cons (t := 33) rfl .nil))))) ?_
   refine Q_then ?_
   refine R_condT rfl ?_
   refine R_seq ?_
   refine R_region ?_
   refine L_val rfl rfl rfl (OpP.v (P_buildArrR rfl ty_ar_29 ty_ze_29 rfl rfl rfl (by decide) (by simp [Value.oneCell']))) ?_
   refine E_as (t := 34) (v' := .agg (ints .u8 (List.replicate 32 0)).toArray) rfl rfl ?_
   refine L_op rfl (W_storeAll rfl rfl rfl rfl ty_ag_29 (rfl) (ints_one) .h0 (rfl) ?_)
   refine L_val rfl rfl rfl (OpP.v (P_assign rfl rfl)) ?_
   refine L_nil ?_
   refine St.env (.cons (t := 1) rfl (.cons (t := 2) rfl (.cons (t := 4) rfl (.cons (t := 5) rfl .nil)))) ?_
   refine Q_then ?_
   refine R_ret ?_
   refine Q_then_ret ?_
   exact R_endV rfl rfl (.cell rfl (Rds.loadVar ty_ag_29 (Rds.blk .h0) rfl) (.tmp rfl .nil)) ((pathV_zero (pathE_out (by omega) (fitsB_out fun hh => by have := of_decide_eq_true h1; omega)) (by decide)).symm)
  ·skip
   refine L_val rfl rfl rfl (OpP.v (P_move rfl rfl)) ?_
   refine L_val rfl rfl rfl (OpP.v (P_fld0 rfl ty_fl_47_0 rfl)) ?_
   refine L_val rfl rfl rfl (V_load rfl rfl ty_sc_3 (by first | exact Rd.blk .h0 rfl | exact Rd.blk .h1 rfl | exact Rd.blk .h2 rfl | exact Rd.blk .h3 rfl | exact Rd.blk .h4 rfl | exact Rd.blk .h5 rfl | exact Rd.blk .h6 rfl | exact Rd.blk .h7 rfl)) ?_
   refine L_val rfl rfl rfl (OpP.v (P_gtr rfl rfl rfl)) ?_
   refine E_bool (t := 20) rfl (fun h2 => ?_) (fun h2 => ?_)
   ·skip
    refine L_val rfl rfl rfl (OpP.v (P_pick rfl rfl rfl)) ?_
    refine L_val rfl rfl rfl (OpP.v (P_move rfl rfl)) ?_
    refine L_no rfl rfl rfl ?_
    refine L_no rfl rfl rfl ?_
    refine L_no rfl rfl rfl ?_
    refine L_val rfl rfl rfl (OpP.v (P_pick rfl rfl rfl)) ?_
    refine L_val rfl rfl rfl (OpP.v (P_move rfl rfl)) ?_
    refine L_no rfl rfl rfl ?_
    refine L_no rfl rfl rfl ?_
    refine L_no rfl rfl rfl ?_
    refine L_no rfl rfl rfl ?_
    refine L_no rfl rfl rfl ?_
    refine L_val rfl rfl rfl (OpP.v (P_pick rfl rfl rfl)) ?_
    refine L_nil ?_
    refine St.env (.cons (t := 1) rfl (.cons (t := 2) rfl (.cons (t := 4) rfl (.cons (t := 5) rfl (.cons (t := 33) rfl .nil))))) ?_
    refine Q_then ?_
    refine R_condT rfl ?_
    refine R_seq ?_
    refine R_region ?_
    refine L_val rfl rfl rfl (OpP.v (P_buildArrR rfl ty_ar_29 ty_ze_29 rfl rfl rfl (by decide) (by simp [Value.oneCell']))) ?_
    refine E_as (t := 34) (v' := .agg (ints .u8 (List.replicate 32 0)).toArray) rfl rfl ?_
    refine L_op rfl (W_storeAll rfl rfl rfl rfl ty_ag_29 (rfl) (ints_one) .h0 (rfl) ?_)
    refine L_val rfl rfl rfl (OpP.v (P_assign rfl rfl)) ?_
    refine L_nil ?_
    refine St.env (.cons (t := 1) rfl (.cons (t := 2) rfl (.cons (t := 4) rfl (.cons (t := 5) rfl .nil)))) ?_
    refine Q_then ?_
    refine R_ret ?_
    refine Q_then_ret ?_
    exact R_endV rfl rfl (.cell rfl (Rds.loadVar ty_ag_29 (Rds.blk .h0) rfl) (.tmp rfl .nil)) ((pathV_zero (pathE_out (by omega) (fitsB_out fun hh => by have := of_decide_eq_true h2; omega)) (by decide)).symm)
   ·skip
    refine L_val rfl rfl rfl (OpP.v (P_pick rfl rfl rfl)) ?_
    refine L_val rfl rfl rfl (OpP.v (P_move rfl rfl)) ?_
    refine L_val rfl rfl rfl (OpP.v (P_fld0 rfl ty_fl_47_1 rfl)) ?_
    refine L_val rfl rfl rfl (V_load rfl rfl ty_sc_3 (by first | exact Rd.blk .h0 rfl | exact Rd.blk .h1 rfl | exact Rd.blk .h2 rfl | exact Rd.blk .h3 rfl | exact Rd.blk .h4 rfl | exact Rd.blk .h5 rfl | exact Rd.blk .h6 rfl | exact Rd.blk .h7 rfl)) ?_
    refine L_val rfl rfl rfl (OpP.v (P_lss rfl rfl rfl)) ?_
    refine E_bool (t := 25) rfl (fun h3 => ?_) (fun h3 => ?_)
    ·skip
     refine L_val rfl rfl rfl (OpP.v (P_pick rfl rfl rfl)) ?_
     refine L_val rfl rfl rfl (OpP.v (P_move rfl rfl)) ?_
     refine L_no rfl rfl rfl ?_
     refine L_no rfl rfl rfl ?_
     refine L_no rfl rfl rfl ?_
     refine L_no rfl rfl rfl ?_
     refine L_no rfl rfl rfl ?_
     refine L_val rfl rfl rfl (OpP.v (P_pick rfl rfl rfl)) ?_
     refine L_nil ?_
     refine St.env (.cons (t := 1) rfl (.cons (t := 2) rfl (.cons (t := 4) rfl (.cons (t := 5) rfl (.cons (t := 33) rfl .nil))))) ?_
     refine Q_then ?_
     refine R_condT rfl ?_
     refine R_seq ?_
     refine R_region ?_
     refine L_val rfl rfl rfl (OpP.v (P_buildArrR rfl ty_ar_29 ty_ze_29 rfl rfl rfl (by decide) (by simp [Value.oneCell']))) ?_
     refine E_as (t := 34) (v' := .agg (ints .u8 (List.replicate 32 0)).toArray) rfl rfl ?_
     refine L_op rfl (W_storeAll rfl rfl rfl rfl ty_ag_29 (rfl) (ints_one) .h0 (rfl) ?_)
     refine L_val rfl rfl rfl (OpP.v (P_assign rfl rfl)) ?_
     refine L_nil ?_
     refine St.env (.cons (t := 1) rfl (.cons (t := 2) rfl (.cons (t := 4) rfl (.cons (t := 5) rfl .nil)))) ?_
     refine Q_then ?_
     refine R_ret ?_
     refine Q_then_ret ?_
     exact R_endV rfl rfl (.cell rfl (Rds.loadVar ty_ag_29 (Rds.blk .h0) rfl) (.tmp rfl .nil)) ((pathV_zero (pathE_out (by omega) (fitsB_out fun hh => by have := of_decide_eq_true h3; omega)) (by decide)).symm)
    ·skip
     refine L_val rfl rfl rfl (OpP.v (P_pick rfl rfl rfl)) ?_
     refine L_val rfl rfl rfl (OpP.v (P_move rfl rfl)) ?_
     refine L_val rfl rfl rfl (OpP.v (P_fld0 rfl ty_fl_47_1 rfl)) ?_
     refine L_val rfl rfl rfl (V_load rfl rfl ty_sc_3 (by first | exact Rd.blk .h0 rfl | exact Rd.blk .h1 rfl | exact Rd.blk .h2 rfl | exact Rd.blk .h3 rfl | exact Rd.blk .h4 rfl | exact Rd.blk .h5 rfl | exact Rd.blk .h6 rfl | exact Rd.blk .h7 rfl)) ?_
     refine L_val rfl rfl rfl (OpP.v (P_fld0 rfl ty_fl_47_0 rfl)) ?_
     refine L_val rfl rfl rfl (V_load rfl rfl ty_sc_3 (by first | exact Rd.blk .h0 rfl | exact Rd.blk .h1 rfl | exact Rd.blk .h2 rfl | exact Rd.blk .h3 rfl | exact Rd.blk .h4 rfl | exact Rd.blk .h5 rfl | exact Rd.blk .h6 rfl | exact Rd.blk .h7 rfl)) ?_
     refine L_val rfl rfl rfl (OpP.v (P_geq rfl rfl rfl)) ?_
     refine E_bool (t := 32) rfl (fun h4 => ?_) (fun h4 => ?_)
     ·skip
      refine L_val rfl rfl rfl (OpP.v (P_pick rfl rfl rfl)) ?_
      refine L_nil ?_
      refine St.env (.cons (t := 1) rfl (.cons (t := 2) rfl (.cons (t := 4) rfl (.cons (t := 5) rfl (.cons (t := 33) rfl .nil))))) ?_
      refine Q_then ?_
      refine R_condT rfl ?_
      refine R_seq ?_
      refine R_region ?_
      refine L_val rfl rfl rfl (OpP.v (P_buildArrR rfl ty_ar_29 ty_ze_29 rfl rfl rfl (by decide) (by simp [Value.oneCell']))) ?_
      refine E_as (t := 34) (v' := .agg (ints .u8 (List.replicate 32 0)).toArray) rfl rfl ?_
      refine L_op rfl (W_storeAll rfl rfl rfl rfl ty_ag_29 (rfl) (ints_one) .h0 (rfl) ?_)
      refine L_val rfl rfl rfl (OpP.v (P_assign rfl rfl)) ?_
      refine L_nil ?_
      refine St.env (.cons (t := 1) rfl (.cons (t := 2) rfl (.cons (t := 4) rfl (.cons (t := 5) rfl .nil)))) ?_
      refine Q_then ?_
      refine R_ret ?_
      refine Q_then_ret ?_
      exact R_endV rfl rfl (.cell rfl (Rds.loadVar ty_ag_29 (Rds.blk .h0) rfl) (.tmp rfl .nil)) ((pathV_zero (pathE_out (by omega) (fitsB_out fun hh => by have := of_decide_eq_true h4; omega)) (by decide)).symm)
     ·skip
      obtain ⟨n, i, rfl, rfl, hn1, hn2, hin⟩ := inB_of (total := total) (index := index) ⟨by have := of_decide_eq_false h1; omega, by have := of_decide_eq_false h2; omega, by have := of_decide_eq_false h3; omega, by have := of_decide_eq_false h4; omega⟩
      refine L_val rfl rfl rfl (OpP.v (P_pick rfl rfl rfl)) ?_
      refine L_nil ?_
      refine St.env (.cons (t := 1) rfl (.cons (t := 2) rfl (.cons (t := 4) rfl (.cons (t := 5) rfl (.cons (t := 33) rfl .nil))))) ?_
      refine Q_then ?_
      refine R_condF rfl ?_
      refine R_skip ?_
      refine Q_then ?_
      refine R_seq ?_
      refine R_region ?_
      refine L_val rfl rfl rfl (OpP.v (P_fld0 rfl ty_fl_47_0 rfl)) ?_
      refine L_val rfl rfl rfl (V_load rfl rfl ty_sc_3 (by first | exact Rd.blk .h0 rfl | exact Rd.blk .h1 rfl | exact Rd.blk .h2 rfl | exact Rd.blk .h3 rfl | exact Rd.blk .h4 rfl | exact Rd.blk .h5 rfl | exact Rd.blk .h6 rfl | exact Rd.blk .h7 rfl)) ?_
      refine L_val rfl rfl rfl (OpP.v (P_fld0 rfl ty_fl_47_1 rfl)) ?_
      refine L_val rfl rfl rfl (V_load rfl rfl ty_sc_3 (by first | exact Rd.blk .h0 rfl | exact Rd.blk .h1 rfl | exact Rd.blk .h2 rfl | exact Rd.blk .h3 rfl | exact Rd.blk .h4 rfl | exact Rd.blk .h5 rfl | exact Rd.blk .h6 rfl | exact Rd.blk .h7 rfl)) ?_
      refine L_op rfl (W_call rfl rfl rfl rfl fn_ca_179 (turns_ok n i hn2 (by omega)) (Split.nil _) (fun _ _ _ _ _ _ _ => trivial) fun v39 rs1 (e1 : rs1 = _) => ?_)
      subst e1
      refine St.res (rs' := [ownS 4 1 v39 (turnsH n i).length (bools (turnsH n i)), blk b4 (List.replicate 32 (.int .u8 0)) 29, blk b2 [.int .i64 (n : Int), .int .i64 (i : Int), .slice base hs.length c] 47]) (Weak.refl _) ?_
      refine L_val rfl rfl rfl (OpP.v (P_assign rfl rfl)) ?_
      refine L_nil ?_
      refine St.env (.cons (t := 1) rfl (.cons (t := 2) rfl (.cons (t := 4) rfl (.cons (t := 5) rfl (.cons (t := 6) rfl .nil))))) ?_
      refine Q_then ?_
      refine R_seq ?_
      refine R_seq ?_
      refine R_region ?_
      refine L_val rfl rfl rfl (OpP.v (P_move rfl rfl)) ?_
      refine L_val rfl rfl rfl (V_lenOwn .h0 rfl ty_sl_163 rfl) ?_
      refine L_val rfl rfl rfl (OpP.v (P_fld0 rfl ty_fl_47_2 rfl)) ?_
      refine L_val rfl rfl rfl (V_load rfl rfl ty_sc_45 (Rd.blk .h2 rfl)) ?_
      refine L_val rfl rfl rfl (OpP.v (P_len rfl ty_sl_45 rfl)) ?_
      refine L_val rfl rfl rfl (OpP.v (P_neq rfl rfl rfl)) ?_
      refine L_nil ?_
      refine St.env (.cons (t := 1) rfl (.cons (t := 2) rfl (.cons (t := 4) rfl (.cons (t := 5) rfl (.cons (t := 6) rfl (.cons (t := 45) rfl .nil)))))) ?_
      refine Q_then ?_
      refine R_condP rfl (fun hl => ?_) (fun hl => ?_)
      ·skip
       refine R_seq ?_
       refine R_region ?_
       refine L_val rfl rfl rfl (OpP.v (P_buildArrR rfl ty_ar_29 ty_ze_29 rfl rfl rfl (by decide) (by simp [Value.oneCell']))) ?_
       refine E_as (t := 46) (v' := .agg (ints .u8 (List.replicate 32 0)).toArray) rfl rfl ?_
       refine L_op rfl (W_storeAll rfl rfl rfl rfl ty_ag_29 (rfl) (ints_one) .h1 (rfl) ?_)
       refine L_val rfl rfl rfl (OpP.v (P_assign rfl rfl)) ?_
       refine L_nil ?_
       refine St.env (.cons (t := 1) rfl (.cons (t := 2) rfl (.cons (t := 4) rfl (.cons (t := 5) rfl (.cons (t := 6) rfl .nil))))) ?_
       refine Q_then ?_
       refine R_ret ?_
       refine Q_then_ret ?_
       exact R_endV rfl rfl (.cell rfl (Rds.loadVar ty_ag_29 (Rds.blk .h1) rfl) (.tmp rfl .nil)) ((pathV_zero (pathE_out (by omega) (by rw [fitsB_in hn1 hn2 hin]; exact decide_eq_false (by omega))) (by decide)).symm)
      ·skip
       refine R_skip ?_
       refine Q_then ?_
       refine R_seq ?_
       refine R_region ?_
       refine L_val rfl rfl rfl (OpP.v (P_move rfl rfl)) ?_
       refine L_op rfl (W_callV rfl rfl rfl rfl fn_ca_171 (leaf_ok hG ib ic item hic) ((Sn.row hpre.2 rfl).rw_) ?_)
       refine L_op rfl (W_alloc rfl rfl rfl ty_ze_29 fun b7 => ?_)
       refine L_op rfl (W_storeAll rfl rfl rfl rfl ty_ag_29 (by rw [ints_length]; exact sha_length _) (ints_one) .h0 (by rw [ints_length]; exact sha_length _) ?_)
       refine L_nil ?_
       refine St.env (.cons (t := 2) rfl (.cons (t := 4) rfl (.cons (t := 5) rfl (.cons (t := 6) rfl (.cons (t := 7) rfl .nil))))) ?_
       refine Q_then ?_
       refine R_seq ?_
       refine R_seq ?_
       refine R_region ?_
       refine L_val rfl rfl rfl (OpP.v (P_fld0 rfl ty_fl_47_2 rfl)) ?_
       refine L_val rfl rfl rfl (V_load rfl rfl ty_sc_45 (Rd.blk .h3 rfl)) ?_
       refine L_val rfl rfl rfl (OpP.v (P_len rfl ty_sl_45 rfl)) ?_
       refine L_val rfl rfl rfl (OpP.v (P_move rfl rfl)) ?_
       refine L_nil ?_
       refine St.env (.cons (t := 2) rfl (.cons (t := 4) rfl (.cons (t := 5) rfl (.cons (t := 6) rfl (.cons (t := 7) rfl (.cons (t := 50) rfl (.cons (t := 51) rfl (.cons (t := 52) rfl .nil)))))))) ?_
       refine Q_then ?_
       refine R_block ?_
       refine R_loop (G := Nat) (fun k => [(2, .pointer (some ⟨b2, 0, none⟩)), (4, .pointer (some ⟨b4, 0, none⟩)), (5, .int .i64 0), (6, v39), (7, .pointer (some ⟨b7, 0, none⟩)), (50, .slice base hs.length c), (51, .int .i64 (hs.length : Int)), (52, .int .i64 (k : Int))]) (fun k => [blk b7 (ints .u8 (climb (leafH item) (hs.take k) ((turnsH n i).reverse.take k))) 29, ownS 4 1 v39 (turnsH n i).length (bools (turnsH n i)), blk b4 (List.replicate 32 (.int .u8 0)) 29, blk b2 [.int .i64 (n : Int), .int .i64 (i : Int), .slice base hs.length c] 47]) (fun k => k ≤ hs.length) (fun k => hs.length - k) (0) (by omega) (by repeat (first | exact .nil | refine .cons rfl ?_)) (by rw [List.take_zero, List.take_zero]; exact Weak.refl _) ?_
       intro k hk
       refine R_seq ?_
       refine R_region ?_
       refine L_val rfl rfl rfl (OpP.v (P_lss rfl rfl rfl)) ?_
       refine L_nil ?_
       refine Q_then ?_
       refine R_seq ?_
       refine R_condP rfl (fun hlt => ?_) (fun hlt => ?_)
       ·skip
        obtain ⟨a, hax⟩ : ∃ a, hs[k]? = some a := ⟨_, List.getElem?_eq_getElem (by omega)⟩
        have hal : a.length = 32 := hh a (List.mem_of_getElem? hax)
        obtain ⟨d, hdx⟩ : ∃ d, (turnsH n i).reverse[k]? = some d := ⟨_, List.getElem?_eq_getElem (by rw [List.length_reverse]; omega)⟩
        have htx := rev_at hdx
        obtain ⟨pb, pj, rfl, hrow⟩ := hpre.1.some_ (by rw [flat_length hh]; omega)
        refine St.ownSome (p := [_]) (by omega) fun wb wcap hwv hwc => ?_
        subst hwv
        refine R_skip ?_
        refine Q_then ?_
        refine R_seq ?_
        refine R_block ?_
        refine R_seq ?_
        refine R_region ?_
        refine L_val rfl rfl rfl (OpP.v (P_move rfl rfl)) ?_
        refine L_val rfl rfl rfl (OpP.v (P_ixs (k) rfl ty_sl_45 rfl rfl (by first | rfl | omega) (by omega))) ?_
        refine L_val rfl rfl rfl (V_loadAgg rfl rfl ty_ag_29 ((Rds.row hrow rfl).part (k * 32) fun j v hv => flat_at hh hax j v hv) (by rw [ints_length, hal])) ?_
        refine L_op rfl (W_alloc rfl rfl rfl ty_ze_29 fun b9 => ?_)
        refine L_val rfl rfl rfl (OpP.v (P_assign rfl rfl)) ?_
        refine L_op rfl (W_storeAll rfl rfl rfl rfl ty_ag_29 (by rw [ints_length, hal]) (ints_one) .h0 (by rw [ints_length, hal]; rfl) ?_)
        refine L_nil ?_
        refine Q_then ?_
        refine R_seq ?_
        refine R_region ?_
        refine L_val rfl rfl rfl (OpP.v (P_move rfl rfl)) ?_
        refine L_val rfl rfl rfl (OpP.v (P_move rfl rfl)) ?_
        refine L_val rfl rfl rfl (V_lenOwn .h2 rfl ty_sl_163 rfl) ?_
        first | (refine L_val rfl rfl rfl (OpP.v (P_subN rfl rfl rfl (by simp only [fits]; omega))) ?_) | (refine L_val rfl rfl rfl (OpP.v (P_sub rfl rfl rfl)) ?_)
        refine L_val rfl rfl rfl (OpP.v (P_move rfl rfl)) ?_
        first | (refine L_val rfl rfl rfl (OpP.v (P_subN rfl rfl rfl (by simp only [fits]; omega))) ?_) | (refine L_val rfl rfl rfl (OpP.v (P_sub rfl rfl rfl)) ?_)
        refine L_val rfl rfl rfl (OpP.v (P_ixs ((turnsH n i).length - 1 - k) rfl ty_sl_163 rfl rfl (by first | rfl | omega) (by omega))) ?_
        refine L_val rfl rfl rfl (V_load rfl rfl ty_sc_4 (by rw [Nat.zero_add, Nat.mul_one]; exact Rd.own .h2 (bools_at htx))) ?_
        refine L_nil ?_
        refine Q_then ?_
        refine R_cond rfl (fun hd => ?_) (fun hd => ?_)
        ·skip
         refine R_region ?_
         refine L_val rfl rfl rfl (V_loadAgg rfl rfl ty_ag_29 (Rds.blk .h0) (by rw [ints_length, hal])) ?_
         refine L_val rfl rfl rfl (V_loadAgg rfl rfl ty_ag_29 (Rds.blk .h1) (by rw [ints_length, climb_length (leafH_length _) _ _])) ?_
         refine L_op rfl (W_callV rfl rfl rfl rfl fn_ca_53 (inner_ok hG a (climb (leafH item) (hs.take k) ((turnsH n i).reverse.take k)) hal (climb_length (leafH_length _) _ _)) (fun _ _ => trivial) ?_)
         refine L_op rfl (W_storeAll rfl rfl rfl rfl ty_ag_29 (by rw [ints_length, sha_length]) (ints_one) .h1 (by rw [ints_length, sha_length, ints_length, climb_length (leafH_length _) _ _]) ?_)
         refine L_nil ?_
         refine Q_block ?_
         refine Q_then ?_
         refine R_region ?_
         first | (refine L_val rfl rfl rfl (OpP.v (P_addN rfl rfl rfl (by simp only [fits]; omega))) ?_) | (refine L_val rfl rfl rfl (OpP.v (P_add rfl rfl rfl)) ?_)
         refine L_val rfl rfl rfl (OpP.v (P_move rfl rfl)) ?_
         refine L_nil ?_
         refine E_nat (t := 52) (n := k + 1) rfl (by omega) ?_
         exact Q_round (k + 1) (by omega) (by omega) (by repeat (first | exact .nil | refine .cons rfl ?_)) (Weak.drop (by rw [climb_take _ _ _ _ a d hax hdx, stepH, if_pos hd]; exact Weak.refl _))
        ·skip
         refine R_region ?_
         refine L_val rfl rfl rfl (V_loadAgg rfl rfl ty_ag_29 (Rds.blk .h1) (by rw [ints_length, climb_length (leafH_length _) _ _])) ?_
         refine L_val rfl rfl rfl (V_loadAgg rfl rfl ty_ag_29 (Rds.blk .h0) (by rw [ints_length, hal])) ?_
         refine L_op rfl (W_callV rfl rfl rfl rfl fn_ca_53 (inner_ok hG (climb (leafH item) (hs.take k) ((turnsH n i).reverse.take k)) a (climb_length (leafH_length _) _ _) hal) (fun _ _ => trivial) ?_)
         refine L_op rfl (W_storeAll rfl rfl rfl rfl ty_ag_29 (by rw [ints_length, sha_length]) (ints_one) .h1 (by rw [ints_length, sha_length, ints_length, climb_length (leafH_length _) _ _]) ?_)
         refine L_nil ?_
         refine Q_block ?_
         refine Q_then ?_
         refine R_region ?_
         first | (refine L_val rfl rfl rfl (OpP.v (P_addN rfl rfl rfl (by simp only [fits]; omega))) ?_) | (refine L_val rfl rfl rfl (OpP.v (P_add rfl rfl rfl)) ?_)
         refine L_val rfl rfl rfl (OpP.v (P_move rfl rfl)) ?_
         refine L_nil ?_
         refine E_nat (t := 52) (n := k + 1) rfl (by omega) ?_
         exact Q_round (k + 1) (by omega) (by omega) (by repeat (first | exact .nil | refine .cons rfl ?_)) (Weak.drop (by rw [climb_take _ _ _ _ a d hax hdx, stepH, if_neg (by rw [hd]; decide)]; exact Weak.refl _))
       ·skip
        obtain rfl : k = hs.length := by omega
        rw [List.take_length, List.take_of_length_le (l := (turnsH n i).reverse) (by rw [List.length_reverse]; omega)]
        refine R_exit ?_
        refine Q_then_exit ?_
        refine Q_then_exit ?_
        refine Q_block_eq ?_
        refine St.env (.cons (t := 2) rfl (.cons (t := 4) rfl (.cons (t := 5) rfl (.cons (t := 7) rfl .nil)))) ?_
        refine Q_then ?_
        refine R_seq ?_
        refine R_region ?_
        refine L_val rfl rfl rfl (OpP.v (P_fld0 rfl ty_fl_47_0 rfl)) ?_
        refine L_val rfl rfl rfl (V_load rfl rfl ty_sc_3 (Rd.blk .h3 rfl)) ?_
        refine L_val rfl rfl rfl (V_loadAgg rfl rfl ty_ag_29 (Rds.blk .h0) (by rw [ints_length, climb_length (leafH_length _) _ _])) ?_
        refine L_op rfl (W_callV rfl rfl rfl rfl fn_ca_116 (under_ok hG (n : Int) (climb (leafH item) hs (turnsH n i).reverse) (climb_length (leafH_length _) _ _)) (fun _ _ => trivial) ?_)
        refine L_op rfl (W_storeAll rfl rfl rfl rfl ty_ag_29 (by rw [ints_length, sha_length]) (ints_one) .h2 (by rw [ints_length, sha_length]; rfl) ?_)
        refine L_val rfl rfl rfl (OpP.v (P_assign rfl rfl)) ?_
        refine L_nil ?_
        refine St.env (.cons (t := 4) rfl (.cons (t := 5) rfl .nil)) ?_
        refine Q_then ?_
        refine R_ret ?_
        exact R_endV rfl rfl (.cell rfl (Rds.loadVar ty_ag_29 (Rds.blk .h2) (by rw [ints_length, sha_length])) (.tmp rfl .nil)) ((pathV_fine (pathE_in (by omega) (by rw [fitsB_in hn1 hn2 hin]; exact decide_eq_true (by omega)))).symm)
theorem rsum_okN {gl : Nat → Obj} (hG : GlobsR gl) (base : Option Addr) (c : Nat) {xs : List Int} {n : Nat} (hl : xs.length = n) (hc : n ≤ c) (hmax : n ≤ 9223372036854775000) : SpecV (cx gl) 17 [.slice base n c] (fun w => Row w base (ints .u8 xs)) (.agg (ints .u8 (sha xs)).toArray) := by
 subst hl; exact rsum_ok hG base c xs hc hmax
theorem rpath_ok {gl : Nat → Obj} (hG : GlobsR gl) (total index : Int) (base : Option Addr) (c : Nat) (hs : List (List Int)) (ib : Option Addr) (ic : Nat) (item : List Int) (hh : ∀ h ∈ hs, h.length = 32) (hc : hs.length ≤ c) (hm : hs.length ≤ 70368744177664) (hic : item.length ≤ ic) : SpecV (cx gl) 15 [.agg [.int .i64 total, .int .i64 index, .slice base hs.length c].toArray, .slice ib item.length ic] (fun w => Row w base (flat .u8 hs) ∧ Row w ib (ints .u8 item)) (pathV total index hs item) := by
 refine Spec.enter (C := cx gl) Tryz.func15 rfl 35 rfl rfl fun w0 h0 hsep hsub hpre => ?_
 obtain rfl : h0 = Heap.none := hsep
 show St (cx gl) _ [(0, .agg [.int .i64 total, .int .i64 index, .slice base hs.length c].toArray), (1, .slice ib item.length ic)] _ _
 refine R_seq ?_
 refine R_region ?_
 refine L_op rfl (W_box ([.int .i64 total, .int .i64 index, .slice base hs.length c]) rfl rfl rfl rfl rfl fun b2 => ?_)
 refine L_op rfl (W_alloc rfl rfl rfl ty_ze_29 fun b4 => ?_)
 refine L_val rfl rfl rfl (OpP.v (P_assign rfl rfl)) ?_
 refine L_nil ?_
 refine St.env (.cons (t := 1) rfl (.cons (t := 2) rfl (.cons (t := 4) rfl (.cons (t := 5) rfl .nil)))) ?_
 refine Q_then ?_
 refine R_seq ?_
 refine R_seq ?_
 refine R_region ?_
 refine L_val rfl rfl rfl (OpP.v (P_move rfl rfl)) ?_
 refine L_val rfl rfl rfl (OpP.v (P_len rfl ty_sl_48 rfl)) ?_
 refine L_val rfl rfl rfl (OpP.v (P_gtr rfl rfl rfl)) ?_
 refine L_nil ?_
 refine St.env (.cons (t := 1) rfl (.cons (t := 2) rfl (.cons (t := 4) rfl (.cons (t := 5) rfl (.cons (t := 12) rfl .nil))))) ?_
 refine Q_then ?_
 refine R_condP rfl (fun hbig => ?_) (fun hbig => ?_)
 ·skip
  refine R_seq ?_
  refine R_region ?_
  refine L_val rfl rfl rfl (OpP.v (P_buildArrR rfl ty_ar_29 ty_ze_29 rfl rfl rfl (by decide) (by simp [Value.oneCell']))) ?_
  refine E_as (t := 13) (v' := .agg (ints .u8 (List.replicate 32 0)).toArray) rfl rfl ?_
  refine L_op rfl (W_storeAll rfl rfl rfl rfl ty_ag_29 (rfl) (ints_one) .h0 (rfl) ?_)
  refine L_val rfl rfl rfl (OpP.v (P_assign rfl rfl)) ?_
  refine L_nil ?_
  refine St.env (.cons (t := 1) rfl (.cons (t := 2) rfl (.cons (t := 4) rfl (.cons (t := 5) rfl .nil)))) ?_
  refine Q_then ?_
  refine R_ret ?_
  refine Q_then_ret ?_
  exact R_endV rfl rfl (.cell rfl (Rds.loadVar ty_ag_29 (Rds.blk .h0) rfl) (.tmp rfl .nil)) ((pathV_zero (pathE_big (by omega)) (by decide)).symm)
 ·skip
  refine R_skip ?_
  refine Q_then ?_
  refine R_seq ?_
  refine R_region ?_
  refine L_val rfl rfl rfl (V_loadAgg rfl rfl ty_ag_47 (Rds.blk .h1) (rfl)) ?_
  refine L_op rfl (W_callV rfl rfl rfl rfl fn_ca_60 (fits_ok total index base hs.length c hm) (fun _ _ => trivial) ?_)
  refine E_bool (t := 15) rfl (fun hF => ?_) (fun hF => ?_)
  ·skip
   obtain ⟨n, i, rfl, rfl, hn1, hn2, hin, hlen⟩ := fitsB_true hF
   have htl : (2 :: (numB (n : Int) ++ leadH n i hs (leafH item))).length = 41 := by rw [List.length_cons, List.length_append, numB_length, leadH_length (leafH_length _)]
   refine L_val rfl rfl rfl (OpP.v (P_assign rfl rfl)) ?_
   refine L_nil ?_
   refine St.env (.cons (t := 1) rfl (.cons (t := 2) rfl (.cons (t := 4) rfl (.cons (t := 5) rfl (.cons (t := 6) rfl .nil))))) ?_
   refine Q_then ?_
   refine R_seq ?_
   refine R_seq ?_
   refine R_region ?_
   refine L_val rfl rfl rfl (OpP.v (P_move rfl rfl)) ?_
   refine L_val rfl rfl rfl (OpP.v (P_not rfl rfl)) ?_
   refine L_nil ?_
   refine St.env (.cons (t := 1) rfl (.cons (t := 2) rfl (.cons (t := 4) rfl (.cons (t := 5) rfl (.cons (t := 17) rfl .nil))))) ?_
   refine Q_then ?_
   refine R_condF rfl ?_
   refine R_skip ?_
   refine Q_then ?_
   refine R_seq ?_
   refine R_region ?_
   refine L_val rfl rfl rfl (OpP.v (P_move rfl rfl)) ?_
   refine L_op rfl (W_callV rfl rfl rfl rfl fn_ca_61 (rleaf_ok hG ib ic item (by omega)) ((Sn.row hpre.2 rfl).rw_) ?_)
   refine L_op rfl (W_alloc rfl rfl rfl ty_ze_29 fun b7 => ?_)
   refine L_op rfl (W_storeAll rfl rfl rfl rfl ty_ag_29 (by rw [ints_length]; exact sha_length _) (ints_one) .h0 (by rw [ints_length]; exact sha_length _) ?_)
   refine L_nil ?_
   refine St.env (.cons (t := 2) rfl (.cons (t := 4) rfl (.cons (t := 5) rfl (.cons (t := 7) rfl .nil)))) ?_
   refine Q_then ?_
   refine R_seq ?_
   refine R_region ?_
   refine L_val rfl rfl rfl (OpP.v (P_fld0 rfl ty_fl_47_0 rfl)) ?_
   refine L_val rfl rfl rfl (V_load rfl rfl ty_sc_3 (Rd.blk .h2 rfl)) ?_
   refine L_val rfl rfl rfl (OpP.v (P_fld0 rfl ty_fl_47_1 rfl)) ?_
   refine L_val rfl rfl rfl (V_load rfl rfl ty_sc_3 (Rd.blk .h2 rfl)) ?_
   refine L_val rfl rfl rfl (OpP.v (P_fld0 rfl ty_fl_47_2 rfl)) ?_
   refine L_val rfl rfl rfl (V_load rfl rfl ty_sc_45 (Rd.blk .h2 rfl)) ?_
   refine L_val rfl rfl rfl (V_loadAgg rfl rfl ty_ag_29 (Rds.blk .h0) (by rw [ints_length]; exact sha_length _)) ?_
   refine L_op rfl (W_callV rfl rfl rfl rfl fn_ca_62 (up_ok hG (n + 1) (by omega) n i base c hs (leafH item) (by omega) hn1 hin hlen hh hc (sha_length _)) ((Sn.row hpre.1 rfl).rw_) ?_)
   refine L_op rfl (W_alloc rfl rfl rfl ty_ze_29 fun b8 => ?_)
   refine L_op rfl (W_storeAll rfl rfl rfl rfl ty_ag_29 (by rw [ints_length, leadH_length (leafH_length _)]) (ints_one) .h0 (by rw [ints_length, leadH_length (leafH_length _)]; rfl) ?_)
   refine L_nil ?_
   refine St.env (.cons (t := 2) rfl (.cons (t := 4) rfl (.cons (t := 5) rfl (.cons (t := 8) rfl .nil)))) ?_
   refine Q_then ?_
   refine R_seq ?_
   refine R_region ?_
   refine L_val rfl rfl rfl (OpP.v (P_fld0 rfl ty_fl_47_0 rfl)) ?_
   refine L_val rfl rfl rfl (V_load rfl rfl ty_sc_3 (Rd.blk .h3 rfl)) ?_
   refine L_val rfl rfl rfl (V_loadAgg rfl rfl ty_ag_29 (Rds.blk .h0) (by rw [ints_length, leadH_length (leafH_length _)])) ?_
   refine L_op rfl (W_call rfl rfl rfl rfl fn_ca_21 (rootText_ok (n : Int) (leadH n i hs (leafH item)) (leadH_length (leafH_length _))) (Split.nil _) (fun _ _ _ _ _ _ _ => trivial) fun v32 rs1 (e1 : rs1 = _) => ?_)
   subst e1
   refine St.openOwn (p := []) (by omega) fun tb tcap junk htc htl2 htv => ?_
   subst htv
   refine St.res (rs' := [blk tb (ints .u8 (2 :: (numB (n : Int) ++ leadH n i hs (leafH item))) ++ junk) 5, blk b8 (ints .u8 (leadH n i hs (leafH item))) 29, blk b7 (ints .u8 (leafH item)) 29, blk b4 (List.replicate 32 (.int .u8 0)) 29, blk b2 [.int .i64 (n : Int), .int .i64 (i : Int), .slice base hs.length c] 47]) (Weak.refl _) ?_
   refine L_op rfl (W_callV rfl rfl rfl rfl fn_ca_17 (rsum_okN hG (some ⟨tb, 0, none⟩) tcap htl (by omega) (by decide)) (fun w nw => (Sn.ofBlkAt .h0 fun i v h => app_at i v h).rw_ w nw) ?_)
   refine L_op rfl (W_alloc rfl rfl rfl ty_ze_29 fun b9 => ?_)
   refine L_op rfl (W_storeAll rfl rfl rfl rfl ty_ag_29 (by rw [ints_length, sha_length]) (ints_one) .h0 (by rw [ints_length, sha_length]; rfl) ?_)
   refine L_nil ?_
   refine St.env (.cons (t := 4) rfl (.cons (t := 5) rfl (.cons (t := 9) rfl .nil))) ?_
   refine Q_then ?_
   refine R_seq ?_
   refine R_region ?_
   refine L_val rfl rfl rfl (V_loadAgg rfl rfl ty_ag_29 (Rds.blk .h0) (by rw [ints_length, sha_length])) ?_
   refine L_op rfl (W_storeAll rfl rfl rfl rfl ty_ag_29 (by rw [ints_length, sha_length]) (ints_one) .h4 (by rw [ints_length, sha_length]; rfl) ?_)
   refine L_val rfl rfl rfl (OpP.v (P_assign rfl rfl)) ?_
   refine L_nil ?_
   refine St.env (.cons (t := 4) rfl (.cons (t := 5) rfl .nil)) ?_
   refine Q_then ?_
   refine R_ret ?_
   exact R_endV rfl rfl (.cell rfl (Rds.loadVar ty_ag_29 (Rds.blk .h4) (by rw [ints_length, sha_length])) (.tmp rfl .nil)) ((pathV_fine (pathE_in (by omega) hF)).symm)
  ·skip
   refine L_val rfl rfl rfl (OpP.v (P_assign rfl rfl)) ?_
   refine L_nil ?_
   refine St.env (.cons (t := 1) rfl (.cons (t := 2) rfl (.cons (t := 4) rfl (.cons (t := 5) rfl (.cons (t := 6) rfl .nil))))) ?_
   refine Q_then ?_
   refine R_seq ?_
   refine R_seq ?_
   refine R_region ?_
   refine L_val rfl rfl rfl (OpP.v (P_move rfl rfl)) ?_
   refine L_val rfl rfl rfl (OpP.v (P_not rfl rfl)) ?_
   refine L_nil ?_
   refine St.env (.cons (t := 1) rfl (.cons (t := 2) rfl (.cons (t := 4) rfl (.cons (t := 5) rfl (.cons (t := 17) rfl .nil))))) ?_
   refine Q_then ?_
   refine R_condT rfl ?_
   refine R_seq ?_
   refine R_region ?_
   refine L_val rfl rfl rfl (OpP.v (P_buildArrR rfl ty_ar_29 ty_ze_29 rfl rfl rfl (by decide) (by simp [Value.oneCell']))) ?_
   refine E_as (t := 18) (v' := .agg (ints .u8 (List.replicate 32 0)).toArray) rfl rfl ?_
   refine L_op rfl (W_storeAll rfl rfl rfl rfl ty_ag_29 (rfl) (ints_one) .h0 (rfl) ?_)
   refine L_val rfl rfl rfl (OpP.v (P_assign rfl rfl)) ?_
   refine L_nil ?_
   refine St.env (.cons (t := 1) rfl (.cons (t := 2) rfl (.cons (t := 4) rfl (.cons (t := 5) rfl .nil)))) ?_
   refine Q_then ?_
   refine R_ret ?_
   refine Q_then_ret ?_
   exact R_endV rfl rfl (.cell rfl (Rds.loadVar ty_ag_29 (Rds.blk .h0) rfl) (.tmp rfl .nil)) ((pathV_zero (pathE_out (by omega) hF) (by decide)).symm)
theorem verify_ok {gl : Nat → Obj} (hG : Globs gl) (root : List Int) (hroot : root.length = 32) (total index : Int) (base : Option Addr) (c : Nat) (hs : List (List Int)) (ib : Option Addr) (ic : Nat) (item : List Int) (hh : ∀ h ∈ hs, h.length = 32) (hc : hs.length ≤ c) (hm : hs.length ≤ 70368744177664) (hic : item.length ≤ ic) : SpecV (cx gl) 126 [.agg (ints .u8 (root)).toArray, .agg [.int .i64 total, .int .i64 index, .slice base hs.length c].toArray, .slice ib item.length ic] (fun w => Row w base (flat .u8 hs) ∧ Row w ib (ints .u8 item)) (.int .i64 (verE root total index hs item)) := by
 refine Spec.enter (C := cx gl) Tryz.func126 rfl 23 rfl rfl fun w0 h0 hsep hsub hpre => ?_
 obtain rfl : h0 = Heap.none := hsep
 show St (cx gl) _ [(0, .agg (ints .u8 (root)).toArray), (1, .agg [.int .i64 total, .int .i64 index, .slice base hs.length c].toArray), (2, .slice ib item.length ic)] _ _
 refine R_seq ?_
 refine R_region ?_
 refine L_op rfl (W_box (ints .u8 root) rfl rfl rfl rfl rfl fun b3 => ?_)
 refine L_op rfl (W_box ([.int .i64 total, .int .i64 index, .slice base hs.length c]) rfl rfl rfl rfl rfl fun b4 => ?_)
 refine L_val rfl rfl rfl (OpP.v (P_assign rfl rfl)) ?_
 refine L_nil ?_
 refine St.env (.cons (t := 2) rfl (.cons (t := 3) rfl (.cons (t := 4) rfl (.cons (t := 6) rfl .nil)))) ?_
 refine Q_then ?_
 refine R_seq ?_
 refine R_region ?_
 refine L_val rfl rfl rfl (V_loadAgg rfl rfl ty_ag_47 (Rds.blk .h0) (rfl)) ?_
 refine L_val rfl rfl rfl (OpP.v (P_move rfl rfl)) ?_
 refine L_op rfl (W_callV rfl rfl rfl rfl fn_ca_125 (path_ok hG total index base c hs ib ic item hh hc hm hic) (fun w nw => ⟨(Sn.row hpre.1 rfl).rw_ w nw, (Sn.row hpre.2 rfl).rw_ w nw⟩) ?_)
 refine L_val rfl rfl rfl (OpP.v (P_move rfl rfl)) ?_
 refine L_val rfl rfl rfl (OpP.v (P_extract rfl rfl rfl)) ?_
 refine L_val rfl rfl rfl (OpP.v (P_extract rfl rfl rfl)) ?_
 refine L_op rfl (W_alloc rfl rfl rfl ty_ze_29 fun b7 => ?_)
 refine L_op rfl (W_storeAll rfl rfl rfl rfl ty_ag_29 (by rw [ints_length, pathD_length]) (ints_one) .h0 (by rw [ints_length, pathD_length]; rfl) ?_)
 refine L_val rfl rfl rfl (OpP.v (P_assign rfl rfl)) ?_
 refine L_nil ?_
 refine St.env (.cons (t := 3) rfl (.cons (t := 6) rfl (.cons (t := 7) rfl (.cons (t := 8) rfl .nil)))) ?_
 refine Q_then ?_
 refine R_seq ?_
 refine R_seq ?_
 refine R_region ?_
 refine L_val rfl rfl rfl (OpP.v (P_move rfl rfl)) ?_
 refine L_val rfl rfl rfl (OpP.v (P_eql rfl rfl rfl)) ?_
 refine E_bool (t := 16) rfl (fun he => ?_) (fun he => ?_)
 ·skip
  refine L_val rfl rfl rfl (OpP.v (P_move rfl rfl)) ?_
  refine L_val rfl rfl rfl (V_loadAgg rfl rfl ty_ag_29 (Rds.blk .h0) (by rw [ints_length, pathD_length])) ?_
  refine L_val rfl rfl rfl (V_loadAgg rfl rfl ty_ag_29 (Rds.blk .h2) (by rw [ints_length, hroot])) ?_
  refine L_val rfl rfl rfl (OpP.v (P_neArr rfl rfl rfl ty_un_29 ty_int_5 ty_sc_5 ty_eg_29 (pathD_length _ _ _ _) (hroot))) ?_
  refine E_bool (t := 20) rfl (fun hr => ?_) (fun hr => ?_)
  ·skip
   refine L_val rfl rfl rfl (OpP.v (P_pick rfl rfl rfl)) ?_
   refine L_nil ?_
   refine St.env (.cons (t := 6) rfl (.cons (t := 8) rfl (.cons (t := 21) rfl .nil))) ?_
   refine Q_then ?_
   refine R_condT rfl ?_
   refine R_seq ?_
   refine R_region ?_
   refine L_val rfl rfl rfl (OpP.v (P_assign rfl rfl)) ?_
   refine L_nil ?_
   refine St.env (.cons (t := 6) rfl (.cons (t := 8) rfl .nil)) ?_
   refine Q_then ?_
   refine R_ret ?_
   refine Q_then_ret ?_
   exact R_endV rfl rfl (.tmp rfl .nil) (by unfold verE; rw [if_pos (of_decide_eq_true he), if_neg (of_decide_eq_true hr)]; rfl)
  ·skip
   refine L_val rfl rfl rfl (OpP.v (P_pick rfl rfl rfl)) ?_
   refine L_nil ?_
   refine St.env (.cons (t := 6) rfl (.cons (t := 8) rfl (.cons (t := 21) rfl .nil))) ?_
   refine Q_then ?_
   refine R_condF rfl ?_
   refine R_skip ?_
   refine Q_then ?_
   refine R_seq ?_
   refine R_region ?_
   refine L_val rfl rfl rfl (OpP.v (P_move rfl rfl)) ?_
   refine L_val rfl rfl rfl (OpP.v (P_assign rfl rfl)) ?_
   refine L_nil ?_
   refine St.env (.cons (t := 6) rfl .nil) ?_
   refine Q_then ?_
   refine R_ret ?_
   exact R_endV rfl rfl (.tmp rfl .nil) (by unfold verE; rw [if_pos (of_decide_eq_true he), if_pos (Classical.not_not.1 (of_decide_eq_false hr)), of_decide_eq_true he]; rfl)
 ·skip
  refine L_val rfl rfl rfl (OpP.v (P_move rfl rfl)) ?_
  refine L_no rfl rfl rfl ?_
  refine L_no rfl rfl rfl ?_
  refine L_no rfl rfl rfl ?_
  refine L_val rfl rfl rfl (OpP.v (P_pick rfl rfl rfl)) ?_
  refine L_nil ?_
  refine St.env (.cons (t := 6) rfl (.cons (t := 8) rfl (.cons (t := 21) rfl .nil))) ?_
  refine Q_then ?_
  refine R_condF rfl ?_
  refine R_skip ?_
  refine Q_then ?_
  refine R_seq ?_
  refine R_region ?_
  refine L_val rfl rfl rfl (OpP.v (P_move rfl rfl)) ?_
  refine L_val rfl rfl rfl (OpP.v (P_assign rfl rfl)) ?_
  refine L_nil ?_
  refine St.env (.cons (t := 6) rfl .nil) ?_
  refine Q_then ?_
  refine R_ret ?_
  exact R_endV rfl rfl (.tmp rfl .nil) (by unfold verE; rw [if_neg (of_decide_eq_false he)]; rfl)
end Go.Proofs.YtfhjhaogmdaepaaGreatDoor

/- Plain: the proof of a place. -/
set_option linter.unusedVariables false
set_option linter.unusedSimpArgs false
namespace Go.Proofs.YtfhjhaogmdaepaaGreatDoor
open Go

def wayF : Nat → List (List Int) → Nat → List (List Int)
 | 0, _, _ => []
 | f + 1, l, i => if l.length ≤ 1 then [] else if i < splitN l.length then wayF f (l.take (splitN l.length)) i ++ [topH (l.drop (splitN l.length))] else wayF f (l.drop (splitN l.length)) (i - splitN l.length) ++ [topH (l.take (splitN l.length))]
/-- The digests beside the way from a leaf up. -/
def wayH (l : List (List Int)) (i : Nat) : List (List Int) := wayF l.length l i
end Go.Proofs.YtfhjhaogmdaepaaGreatDoor
