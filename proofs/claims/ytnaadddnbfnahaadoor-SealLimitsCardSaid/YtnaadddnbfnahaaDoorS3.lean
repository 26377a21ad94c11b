/- The seal of an address and a message. Printed by gen.py. -/
import Derived.Test.YtnaadddnbfnahaaDoorS2
import Derived.Test.YtnaadddnbfnahaaDoorD8
set_option linter.unusedVariables false
set_option linter.unusedSimpArgs false
set_option maxRecDepth 100000
namespace Go.Proofs.YtnaadddnbfnahaaDoor
open Go Go.RowKit Go.Proofs
/-- A byte of an address. -/
def bF (a : Int) (j : Nat) : Int := IntKind.u8.wrap (shrI .u64 a (8 * (j : Int)))
def be8 (a : Int) : List Int := (List.range 8).map fun i => bF a (7 - i)
theorem be8_length (a : Int) : (be8 a).length = 8 := by simp [be8]
theorem be8_next (a : Int) (j : Nat) (h : j < 8) : (be8 a).take (j + 1) = (be8 a).take j ++ [bF a (7 - j)] := by
  rw [List.take_add_one]
  congr 1
  rw [List.getElem?_eq_getElem (by rw [be8_length]; exact h)]
  simp [be8]
/-- The seal of an address and a message. -/
def sealH (a : Int) (xs : List Int) : List Int := (sha (be8 a ++ xs)).take 16
theorem sealH_length (a : Int) (xs : List Int) : (sealH a xs).length = 16 := by simp [sealH, sha_length]
theorem splice_full {cs news : List Value} (h : news.length = cs.length) : splice cs 0 news = news := by
  unfold splice
  simp [h]
/-- The first i bytes of a text, then zeros. -/
def cp16 (H : List Int) (i : Nat) : List Value := ints .u8 (H.take i ++ List.replicate (16 - i) 0)
theorem cp16_zero (H : List Int) : cp16 H 0 = List.replicate 16 (.int .u8 0) := by simp [cp16, ints]
theorem cp16_length {H : List Int} {i : Nat} (h : 16 ≤ H.length) (hi : i ≤ 16) : (cp16 H i).length = 16 := by simp [cp16, ints]; omega
theorem cp16_next {H : List Int} {i : Nat} (h : 16 ≤ H.length) (hi : i < 16) : (cp16 H i).set i (.int .u8 (H.getD i 0)) = cp16 H (i + 1) := by
  unfold cp16 ints
  have e : Value.int .u8 (H.getD i 0) = (fun x => Value.int .u8 x) (H.getD i 0) := rfl
  rw [e, ← List.map_set]
  congr 1
  rw [List.set_append_right _ _ (by rw [List.length_take]; omega)]
  rw [List.length_take, Nat.min_eq_left (by omega), Nat.sub_self]
  obtain ⟨k, hk⟩ : ∃ k, 16 - i = k + 1 := ⟨15 - i, by omega⟩
  rw [hk, List.replicate_succ, List.set_cons_zero, List.take_add_one, show 16 - (i + 1) = k by omega, List.append_assoc]
  congr 1
  rw [List.getElem?_eq_getElem (by omega)]
  simp [List.getD_eq_getElem?_getD, List.getElem?_eq_getElem (show i < H.length by omega)]
theorem cp16_full (H : List Int) : cp16 H 16 = ints .u8 (H.take 16) := by simp [cp16]
theorem seal_ok {gl : Nat → Obj} (hG : Globs gl) (a : Int) (base : Option Addr) (c : Nat) (xs : List Int) (hmax : xs.length ≤ 140737488355000) : SpecV (cx gl) 42 [.int .u64 a, .slice base xs.length c] (fun w => Row w base (ints .u8 xs)) (.agg (ints .u8 (sealH a xs)).toArray) := by
  refine Spec.enter (C := cx gl) Tryd.func42 rfl 33 rfl rfl fun w0 h0 hsep hsub hpre => ?_
  obtain rfl : h0 = Heap.none := hsep
  show St (cx gl) _ [(0, .int .u64 a), (1, .slice base xs.length c)] _ _
  have hl : (be8 a ++ xs).length = 8 + xs.length := by rw [List.length_append, be8_length]
  refine R_seq ?_
  refine R_region ?_
  refine L_op rfl (W_alloc rfl rfl rfl ty_ze_33 fun b4 => ?_)
  refine L_nil ?_
  refine Q_then ?_
  refine R_seq ?_
  refine R_region ?_
  refine L_val rfl rfl rfl (OpP.v (P_move rfl rfl)) ?_
  refine L_val rfl rfl rfl (OpP.v (P_len rfl ty_sl_24 rfl)) ?_
  first | (refine L_val rfl rfl rfl (OpP.v (P_addN rfl rfl rfl (by simp only [fits]; omega))) ?_) | (refine L_val rfl rfl rfl (OpP.v (P_add rfl rfl rfl)) ?_)
  refine E_nat (t := 10) (n := 8 + xs.length) rfl (by omega) ?_
  refine L_op rfl (W_make0 (n := 8 + xs.length) rfl rfl rfl ty_sl_24 ty_ze_5 rfl rfl (by omega) (by simp only [maxLen]; omega) fun v11 => ?_)
  refine L_val rfl rfl rfl (OpP.v (P_assign rfl rfl)) ?_
  refine L_nil ?_
  refine St.env (.cons (t := 0) rfl (.cons (t := 1) rfl (.cons (t := 4) rfl (.cons (t := 5) rfl .nil)))) ?_
  refine Q_then ?_
  refine R_seq ?_
  refine R_seq ?_
  refine R_region ?_
  refine L_val rfl rfl rfl (OpP.v (P_move rfl rfl)) ?_
  refine L_nil ?_
  refine Q_then ?_
  refine R_block ?_
  refine R_loopE (G := Value × Nat) (.cons (t := 0) rfl (.cons (t := 1) rfl (.cons (t := 4) rfl .nil))) (fun g => [(5, g.1), (12, .int .i64 (g.2 : Int))]) (fun g => [ownS 5 1 (g.1) (g.2) (ints .u8 ((be8 a).take g.2)), blk b4 (List.replicate 16 (.int .u8 0)) 33]) (fun g => g.2 ≤ 8) (fun g => 8 - g.2) (v11, 0) (Nat.zero_le _) (by repeat (first | exact .nil | refine .cons rfl ?_ | refine .consE rfl (by first | rfl | (congr 1; omega) | (congr 1; push_cast; omega)) ?_)) (Weak.refl _) ?_
  rintro ⟨v, i⟩ hinv
  replace hinv : i ≤ 8 := hinv
  show St (cx gl) _ ((5, v) :: (12, .int .i64 (i : Int)) :: _) [ownS 5 1 (v) (i) (ints .u8 ((be8 a).take i)), blk b4 (List.replicate 16 (.int .u8 0)) 33] _
  have hi := hinv
  refine R_seq ?_
  refine R_region ?_
  refine L_val rfl rfl rfl (OpP.v (P_lss rfl rfl rfl)) ?_
  refine L_nil ?_
  refine Q_then ?_
  refine R_seq ?_
  refine R_condP rfl (fun hlt => ?_) (fun hlt => ?_)
  · skip
    refine R_skip ?_
    refine Q_then ?_
    refine R_seq ?_
    refine R_block ?_
    refine R_seq ?_
    refine R_region ?_
    refine L_val rfl rfl rfl (OpP.v (P_move rfl rfl)) ?_
    refine L_val rfl rfl rfl (OpP.v (P_assign rfl rfl)) ?_
    refine L_nil ?_
    refine Q_then ?_
    refine R_region ?_
    refine L_val rfl rfl rfl (OpP.v (P_move rfl rfl)) ?_
    refine L_val rfl rfl rfl (OpP.v (P_move rfl rfl)) ?_
    refine L_val rfl rfl rfl (OpP.v (P_move rfl rfl)) ?_
    first | (refine L_val rfl rfl rfl (OpP.v (P_mulN rfl rfl rfl (by simp only [fits]; omega))) ?_) | (refine L_val rfl rfl rfl (OpP.v (P_mul rfl rfl rfl)) ?_)
    first | (refine L_val rfl rfl rfl (OpP.v (P_subN rfl rfl rfl (by simp only [fits]; omega))) ?_) | (refine L_val rfl rfl rfl (OpP.v (P_sub rfl rfl rfl)) ?_)
    refine L_val rfl rfl rfl (OpP.v (P_shr rfl rfl rfl (by omega))) ?_
    refine L_val rfl rfl rfl (OpP.v (P_conv rfl ty_int_23 ty_int_5 rfl)) ?_
    refine E_as (t := 21) (v' := .int .u8 (bF a (7 - i))) rfl (by unfold bF; congr 3; omega) ?_
    refine L_op rfl (W_lit (z := .nilIface) (ints .u8 [bF a (7 - i)]) rfl rfl rfl ty_sl_24 ty_lz_24 rfl rfl rfl (by decide) (by decide) (by simp [Value.cells]) (rfl) fun b22 => ?_)
    refine L_op rfl (W_append (p := [_]) rfl rfl rfl ty_sl_24 ty_ap_24 ty_src_24 rfl rfl rfl (Src.slice (sz := 1) (news := ints .u8 [bF a (7 - i)]) (Rds.blk .h0) rfl ints_one) (by omega) (by simp only [maxLen]; omega) fun v23 => ?_)
    refine L_val rfl rfl rfl (OpP.v (P_assign rfl rfl)) ?_
    refine L_nil ?_
    refine Q_block ?_
    refine Q_then ?_
    refine R_region ?_
    first | (refine L_val rfl rfl rfl (OpP.v (P_addN rfl rfl rfl (by simp only [fits]; omega))) ?_) | (refine L_val rfl rfl rfl (OpP.v (P_add rfl rfl rfl)) ?_)
    refine L_val rfl rfl rfl (OpP.v (P_move rfl rfl)) ?_
    refine L_nil ?_
    exact Q_round (v23, i + 1) (by show (i + 1) ≤ 8; omega) (by show 8 - (i + 1) < 8 - i; omega) (by repeat (first | exact .nil | refine .cons rfl ?_ | refine .consE rfl (by first | rfl | (congr 1; omega) | (congr 1; push_cast; omega)) ?_)) (Weak.drop (ownS.to rfl (by rw [be8_next _ _ (by omega), ints_append])))
  · skip
    obtain rfl : i = 8 := by omega
    refine R_exit ?_
    refine Q_then_exit ?_
    refine Q_then_exit ?_
    refine Q_block_eq ?_
    refine St.env (.cons (t := 1) rfl (.cons (t := 4) rfl (.cons (t := 5) rfl .nil))) ?_
    refine Q_then ?_
    refine R_seq ?_
    refine R_region ?_
    refine L_val rfl rfl rfl (OpP.v (P_move rfl rfl)) ?_
    refine L_val rfl rfl rfl (OpP.v (P_move rfl rfl)) ?_
    refine L_op rfl (W_append (p := []) rfl rfl rfl ty_sl_24 ty_ap_24 ty_src_24 rfl rfl rfl (Src.row (Sn.row hpre rfl).rw_ (by rw [ints_length]; omega) ints_one) (by omega) (by simp only [maxLen]; omega) fun v27 => ?_)
    refine St.ownForm (p := []) fun ub uc huv huc => ?_
    subst huv
    refine St.res (rs' := [ownS 5 1 (.slice ub (8 + xs.length) uc) (8 + xs.length) (ints .u8 (be8 a ++ xs)), blk b4 (List.replicate 16 (.int .u8 0)) 33]) (ownS.to rfl (by rw [List.take_of_length_le (by rw [be8_length]; omega), ints_append])) ?_
    refine L_op rfl (W_callV rfl rfl rfl rfl fn_ca_58 (by have h := sum_ok hG ub uc (be8 a ++ xs) (by rw [hl]; exact huc); rw [hl] at h; exact h) ((Sn.own .h0 rfl).rw_) ?_)
    refine L_op rfl (W_alloc rfl rfl rfl ty_ze_107 fun b7 => ?_)
    refine L_op rfl (W_storeAll rfl rfl rfl rfl ty_ag_107 (by rw [ints_length, sha_length]) (ints_one) .h0 (by rw [ints_length, sha_length]; rfl) ?_)
    refine L_nil ?_
    refine St.env (.cons (t := 4) rfl (.cons (t := 7) rfl .nil)) ?_
    refine Q_then ?_
    refine R_seq ?_
    refine R_open [(0, 0), (1, 0), (2, 3)] mixed (by kernel_rfl) (QOk.then QOk.body) ?_
    refine O_pure rfl rfl rfl rfl (P_sliceAll rfl ty_ar_33 rfl) ?_
    refine O_pure rfl rfl rfl rfl (P_sliceAll rfl ty_ar_107 rfl) ?_
    refine O_new rfl rfl (W_copy (k := 16) (news := ints .u8 (sealH a xs)) rfl rfl rfl ty_sl_24 rfl rfl rfl (rfl) (fun w nw => by have := Src.part (C := cx gl) (sz := 1) (k := 16) (m := 32) (c := 32) (Sn.ofBlk .h0).rw_ (by rw [ints_length, sha_length]; decide) w nw; rwa [Nat.mul_one, ints_take] at this) (ints_one) .h2 (by rw [ints_length, sealH_length]; simp) (K_new ?_))
    rw [splice_full (by rw [ints_length, sealH_length]; rfl)]
    refine O_nil ?_
    refine St.env (.cons (t := 4) rfl .nil) ?_
    refine Q_then ?_
    refine R_seq ?_
    refine R_region ?_
    refine L_val rfl rfl rfl (V_loadAgg rfl rfl ty_ag_33 (Rds.blk .h2) (by rw [ints_length, sealH_length])) ?_
    refine L_op rfl (W_storeAll rfl rfl rfl rfl ty_ag_33 (by rw [ints_length, sealH_length]) (ints_one) .h2 (by simp [ints_length, sealH_length]) ?_)
    refine L_nil ?_
    refine St.env (.cons (t := 4) rfl .nil) ?_
    refine Q_then ?_
    refine R_ret ?_
    exact R_endV rfl rfl (.cell rfl (Rds.loadVar ty_ag_33 (Rds.blk .h2) (by rw [ints_length, sealH_length])) .nil) (rfl)
theorem of_ok {gl : Nat → Obj} (hG : GlobsR gl) (a : Int) (base : Option Addr) (c : Nat) (xs : List Int) (hmax : xs.length ≤ 140737488355000) : SpecV (cx gl) 20 [.int .u64 a, .slice base xs.length c] (fun w => Row w base (ints .u8 xs)) (.agg (ints .u8 (sealH a xs)).toArray) := by
  refine Spec.enter (C := cx gl) Tryd.func20 rfl 38 rfl rfl fun w0 h0 hsep hsub hpre => ?_
  obtain rfl : h0 = Heap.none := hsep
  show St (cx gl) _ [(0, .int .u64 a), (1, .slice base xs.length c)] _ _
  have hl : (be8 a ++ xs).length = 8 + xs.length := by rw [List.length_append, be8_length]
  have hsl := sha_length (be8 a ++ xs)
  refine R_seq ?_
  refine R_region ?_
  refine L_op rfl (W_alloc rfl rfl rfl ty_ze_33 fun b4 => ?_)
  refine L_nil ?_
  refine Q_then ?_
  refine R_seq ?_
  refine R_region ?_
  refine L_val rfl rfl rfl (OpP.v (P_assign rfl rfl)) ?_
  refine L_nil ?_
  refine Q_then ?_
  refine R_seq ?_
  refine R_seq ?_
  refine St.res (rs' := [ownS 5 1 (.slice none 0 0) (0) ([]), blk b4 (List.replicate 16 (.int .u8 0)) 33]) (Weak.newNil) ?_
  refine R_region ?_
  refine L_val rfl rfl rfl (OpP.v (P_assign rfl rfl)) ?_
  refine L_nil ?_
  refine Q_then ?_
  refine R_block ?_
  refine R_loopE (G := Value × Nat) (.cons (t := 0) rfl (.cons (t := 1) rfl (.cons (t := 4) rfl .nil))) (fun g => [(5, g.1), (6, .int .i64 (7 - (g.2 : Int)))]) (fun g => [ownS 5 1 (g.1) (g.2) (ints .u8 ((be8 a).take g.2)), blk b4 (List.replicate 16 (.int .u8 0)) 33]) (fun g => g.2 ≤ 8) (fun g => 8 - g.2) (.slice none 0 0, 0) (Nat.zero_le _) (by repeat (first | exact .nil | refine .cons rfl ?_ | refine .consE rfl (by first | rfl | (congr 1; omega) | (congr 1; push_cast; omega)) ?_)) (Weak.refl _) ?_
  rintro ⟨v, i⟩ hinv
  replace hinv : i ≤ 8 := hinv
  show St (cx gl) _ ((5, v) :: (6, .int .i64 (7 - (i : Int))) :: _) [ownS 5 1 (v) (i) (ints .u8 ((be8 a).take i)), blk b4 (List.replicate 16 (.int .u8 0)) 33] _
  have hi := hinv
  refine R_seq ?_
  refine R_seq ?_
  refine R_region ?_
  refine L_val rfl rfl rfl (OpP.v (P_move rfl rfl)) ?_
  refine L_val rfl rfl rfl (OpP.v (P_geq rfl rfl rfl)) ?_
  refine L_nil ?_
  refine Q_then ?_
  refine R_condP rfl (fun hlt => ?_) (fun hlt => ?_)
  · skip
    have hlt : i < 8 := by omega
    refine R_skip ?_
    refine Q_then ?_
    refine R_seq ?_
    refine R_block ?_
    refine R_region ?_
    refine L_val rfl rfl rfl (OpP.v (P_move rfl rfl)) ?_
    refine L_val rfl rfl rfl (OpP.v (P_move rfl rfl)) ?_
    refine L_val rfl rfl rfl (OpP.v (P_move rfl rfl)) ?_
    first | (refine L_val rfl rfl rfl (OpP.v (P_mulN rfl rfl rfl (by simp only [fits]; omega))) ?_) | (refine L_val rfl rfl rfl (OpP.v (P_mul rfl rfl rfl)) ?_)
    refine L_val rfl rfl rfl (OpP.v (P_convN rfl ty_int_3 ty_int_105 rfl (by simp only [fits]; omega))) ?_
    refine L_val rfl rfl rfl (OpP.v (P_shr rfl rfl rfl (by omega))) ?_
    refine L_val rfl rfl rfl (OpP.v (P_conv rfl ty_int_22 ty_int_5 rfl)) ?_
    refine E_as (t := 20) (v' := .int .u8 (bF a (7 - i))) rfl (by unfold bF; congr 3; omega) ?_
    refine L_op rfl (W_lit (z := .nilIface) (ints .u8 [bF a (7 - i)]) rfl rfl rfl ty_sl_24 ty_lz_24 rfl rfl rfl (by decide) (by decide) (by simp [Value.cells]) (rfl) fun b21 => ?_)
    refine L_op rfl (W_append (p := [_]) rfl rfl rfl ty_sl_24 ty_ap_24 ty_src_24 rfl rfl rfl (Src.slice (sz := 1) (news := ints .u8 [bF a (7 - i)]) (Rds.blk .h0) rfl ints_one) (by omega) (by simp only [maxLen]; omega) fun v22 => ?_)
    refine L_val rfl rfl rfl (OpP.v (P_assign rfl rfl)) ?_
    refine L_nil ?_
    refine Q_block ?_
    refine Q_then ?_
    refine R_region ?_
    refine L_val rfl rfl rfl (OpP.v (P_move rfl rfl)) ?_
    first | (refine L_val rfl rfl rfl (OpP.v (P_subN rfl rfl rfl (by simp only [fits]; omega))) ?_) | (refine L_val rfl rfl rfl (OpP.v (P_sub rfl rfl rfl)) ?_)
    refine L_val rfl rfl rfl (OpP.v (P_assign rfl rfl)) ?_
    refine L_nil ?_
    exact Q_round (v22, i + 1) (by show (i + 1) ≤ 8; omega) (by show 8 - (i + 1) < 8 - i; omega) (by repeat (first | exact .nil | refine .cons rfl ?_ | refine .consE rfl (by first | rfl | (congr 1; omega) | (congr 1; push_cast; omega)) ?_)) (Weak.drop (ownS.to rfl (by rw [be8_next _ _ (by omega), ints_append])))
  · skip
    obtain rfl : i = 8 := by omega
    refine R_exit ?_
    refine Q_then_exit ?_
    refine Q_then_exit ?_
    refine Q_block_eq ?_
    refine St.env (.cons (t := 1) rfl (.cons (t := 4) rfl (.cons (t := 5) rfl .nil))) ?_
    refine Q_then ?_
    refine R_seq ?_
    refine R_region ?_
    refine L_val rfl rfl rfl (OpP.v (P_move rfl rfl)) ?_
    refine L_val rfl rfl rfl (OpP.v (P_move rfl rfl)) ?_
    refine L_op rfl (W_append (p := []) rfl rfl rfl ty_sl_24 ty_ap_24 ty_src_24 rfl rfl rfl (Src.row (Sn.row hpre rfl).rw_ (by rw [ints_length]; omega) ints_one) (by omega) (by simp only [maxLen]; omega) fun v25 => ?_)
    refine St.ownForm (p := []) fun ub uc huv huc => ?_
    subst huv
    refine St.res (rs' := [ownS 5 1 (.slice ub (8 + xs.length) uc) (8 + xs.length) (ints .u8 (be8 a ++ xs)), blk b4 (List.replicate 16 (.int .u8 0)) 33]) (ownS.to rfl (by rw [List.take_of_length_le (by rw [be8_length]; omega), ints_append])) ?_
    refine L_val rfl rfl rfl (OpP.v (P_assign rfl rfl)) ?_
    refine L_nil ?_
    refine St.env (.cons (t := 4) rfl (.cons (t := 5) rfl .nil)) ?_
    refine Q_then ?_
    refine R_seq ?_
    refine R_region ?_
    refine L_val rfl rfl rfl (OpP.v (P_move rfl rfl)) ?_
    refine L_op rfl (W_callV rfl rfl rfl rfl fn_ca_43 (by have h := rsum_ok hG ub uc (be8 a ++ xs) (by rw [hl]; exact huc) (by omega); rw [hl] at h; exact h) ((Sn.own .h0 rfl).rw_) ?_)
    refine L_op rfl (W_alloc rfl rfl rfl ty_ze_107 fun b7 => ?_)
    refine L_op rfl (W_storeAll rfl rfl rfl rfl ty_ag_107 (by rw [ints_length, sha_length]) (ints_one) .h0 (by rw [ints_length, sha_length]; rfl) ?_)
    refine L_nil ?_
    refine St.env (.cons (t := 4) rfl (.cons (t := 7) rfl .nil)) ?_
    refine Q_then ?_
    refine R_seq ?_
    refine R_region ?_
    refine L_op rfl (W_alloc rfl rfl rfl ty_ze_33 fun b8 => ?_)
    refine L_nil ?_
    refine Q_then ?_
    refine R_seq ?_
    refine R_seq ?_
    refine R_region ?_
    refine L_val rfl rfl rfl (OpP.v (P_assign rfl rfl)) ?_
    refine L_nil ?_
    refine Q_then ?_
    refine R_block ?_
    refine R_loopE (G := Nat) (.cons (t := 4) rfl (.cons (t := 7) rfl (.cons (t := 8) rfl .nil))) (fun g => [(9, .int .i64 (g : Int))]) (fun g => [blk b8 (cp16 (sha (be8 a ++ xs)) g) 33, blk b7 (ints .u8 (sha (be8 a ++ xs))) 107, blk b4 (List.replicate 16 (.int .u8 0)) 33]) (fun g => g ≤ 16) (fun g => 16 - g) (0) (Nat.zero_le _) (by repeat (first | exact .nil | refine .cons rfl ?_ | refine .consE rfl (by first | rfl | (congr 1; omega) | (congr 1; push_cast; omega)) ?_)) (by rw [cp16_zero]; exact Weak.keep (Weak.keep (Weak.drop (Weak.refl _)))) ?_
    intro j hinv
    replace hinv : j ≤ 16 := hinv
    show St (cx gl) _ ((9, .int .i64 (j : Int)) :: _) [blk b8 (cp16 (sha (be8 a ++ xs)) j) 33, blk b7 (ints .u8 (sha (be8 a ++ xs))) 107, blk b4 (List.replicate 16 (.int .u8 0)) 33] _
    have hj := hinv
    refine R_seq ?_
    refine R_seq ?_
    refine R_region ?_
    refine L_val rfl rfl rfl (OpP.v (P_move rfl rfl)) ?_
    refine L_val rfl rfl rfl (OpP.v (P_lss rfl rfl rfl)) ?_
    refine L_nil ?_
    refine Q_then ?_
    refine R_condP rfl (fun hlt2 => ?_) (fun hlt2 => ?_)
    · skip
      refine R_skip ?_
      refine Q_then ?_
      refine R_seq ?_
      refine R_block ?_
      refine R_region ?_
      refine L_val rfl rfl rfl (OpP.v (P_move rfl rfl)) ?_
      refine L_val rfl rfl rfl (OpP.v (P_move rfl rfl)) ?_
      first | (refine L_val rfl rfl rfl (OpP.v (P_ixa0 (j) rfl ty_ar_107 rfl rfl (by first | rfl | omega) (by omega))) ?_) | (refine L_val rfl rfl rfl (OpP.v (P_ixa (j) rfl ty_ar_107 rfl rfl (by first | rfl | omega) (by omega))) ?_)
      refine L_val rfl rfl rfl (V_load rfl rfl ty_sc_5 (Rd.blk .h1 (ints_at (k := .u8) (xs := sha (be8 a ++ xs)) (i := j) (by omega)))) ?_
      first | (refine L_val rfl rfl rfl (OpP.v (P_ixa0 (j) rfl ty_ar_33 rfl rfl (by first | rfl | omega) (by omega))) ?_) | (refine L_val rfl rfl rfl (OpP.v (P_ixa (j) rfl ty_ar_33 rfl rfl (by first | rfl | omega) (by omega))) ?_)
      refine L_op rfl (W_store rfl rfl rfl rfl ty_sc_5 rfl .h0 (by rw [cp16_length (by omega) (by omega)]; omega) ?_)
      refine L_nil ?_
      refine Q_block ?_
      refine Q_then ?_
      refine R_region ?_
      refine L_val rfl rfl rfl (OpP.v (P_move rfl rfl)) ?_
      first | (refine L_val rfl rfl rfl (OpP.v (P_addN rfl rfl rfl (by simp only [fits]; omega))) ?_) | (refine L_val rfl rfl rfl (OpP.v (P_add rfl rfl rfl)) ?_)
      refine L_val rfl rfl rfl (OpP.v (P_assign rfl rfl)) ?_
      refine L_nil ?_
      exact Q_round (j + 1) (by show (j + 1) ≤ 16; omega) (by show 16 - (j + 1) < 16 - j; omega) (by repeat (first | exact .nil | refine .cons rfl ?_ | refine .consE rfl (by first | rfl | (congr 1; omega) | (congr 1; push_cast; omega)) ?_)) (by rw [cp16_next (by omega) (by omega)]; exact Weak.refl _)
    · skip
      obtain rfl : j = 16 := by omega
      refine R_exit ?_
      refine Q_then_exit ?_
      refine Q_then_exit ?_
      refine Q_block_eq ?_
      refine St.env (.cons (t := 4) rfl (.cons (t := 8) rfl .nil)) ?_
      refine Q_then ?_
      refine R_seq ?_
      refine R_region ?_
      refine L_val rfl rfl rfl (V_loadAgg rfl rfl ty_ag_33 (Rds.blk .h0) (by rw [cp16_length (by omega) (by omega)])) ?_
      refine E_as (t := 37) (v' := .agg (ints .u8 (sealH a xs)).toArray) rfl (by rw [cp16_full]; rfl) ?_
      refine L_op rfl (W_storeAll rfl rfl rfl rfl ty_ag_33 (by rw [ints_length, sealH_length]) (ints_one) .h2 (by simp [ints_length, sealH_length]) ?_)
      refine L_nil ?_
      refine St.env (.cons (t := 4) rfl .nil) ?_
      refine Q_then ?_
      refine R_ret ?_
      exact R_endV rfl rfl (.cell rfl (Rds.loadVar ty_ag_33 (Rds.blk .h2) (by rw [ints_length, sealH_length])) .nil) (rfl)
end Go.Proofs.YtnaadddnbfnahaaDoor
