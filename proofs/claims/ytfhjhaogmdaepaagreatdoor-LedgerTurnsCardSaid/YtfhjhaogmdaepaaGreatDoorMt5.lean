/- Texts that ledgerTurns_holds leans on, part 5: each says at its head what it holds; no condition beyond its theorems' own. -/
import Derived.Test.YtfhjhaogmdaepaaGreatDoorMt4
/- Walks: the reference's TxBytes. Printed by gen.py. -/
set_option linter.unusedVariables false
set_option linter.unusedSimpArgs false
set_option maxRecDepth 100000
namespace Go.Proofs.YtfhjhaogmdaepaaGreatDoor
open Go Go.RowKit Go.Proofs
theorem rvar_ok {gl : Nat → Obj} (x : Int) (hx : u64 x) : Spec (cx gl) 195 [.int .u64 x] (fun _ _ => True) [] (fun v rs => rs = [ownS 5 1 (v) ((varB x).length) (ints .u8 (varB x))]) := by
 refine Spec.enter (C := cx gl) Tryz.func195 rfl 20 rfl rfl fun w0 h0 hsep hsub hpre => ?_
 obtain rfl : h0 = Heap.none := hsep
 show St (cx gl) _ [(0, .int .u64 x)] _ _
 have hvl := varB_len x
 refine R_seq ?_
 refine R_region ?_
 refine L_val rfl rfl rfl (OpP.v (P_assign rfl rfl)) ?_
 refine L_nil ?_
 refine Q_then ?_
 refine R_seq ?_
 refine R_region ?_
 refine L_val rfl rfl rfl (OpP.v (P_assign rfl rfl)) ?_
 refine L_nil ?_
 refine Q_then ?_
 refine R_seq ?_
 refine R_block ?_
 refine R_loopE (G := Int × Nat × List Int × Value) (.cons (t := 2) rfl .nil) (fun g => [(0, .int .u64 g.1), (3, g.2.2.2)]) (fun g => [ownS 5 1 (g.2.2.2) (g.2.1) (ints .u8 (g.2.2.1))]) (fun g => u64 g.1 ∧ g.2.2.1 ++ varB g.1 = varB x ∧ g.2.1 + (varB g.1).length = (varB x).length) (fun g => g.1.toNat) (x, 0, [], .slice none 0 0) (by show u64 (x) ∧ ([]) ++ varB (x) = varB x ∧ (0) + (varB (x)).length = (varB x).length; exact ⟨hx, rfl, Nat.zero_add _⟩) (by repeat (first | exact .nil | refine .cons rfl ?_ | refine .consE rfl (by first | rfl | (congr 1; omega) | (congr 1; push_cast; omega)) ?_)) (Weak.newNil (T := 5) (sz := 1)) ?_
 rintro ⟨v, m, ys, s⟩ hinv
 replace hinv : u64 v ∧ ys ++ varB v = varB x ∧ m + (varB v).length = (varB x).length := hinv
 show St (cx gl) _ ((0, .int .u64 v) :: (3, s) :: _) [ownS 5 1 (s) (m) (ints .u8 (ys))] _
 obtain ⟨hv, hxy, hmn⟩ := hinv
 refine R_seq ?_
 refine R_seq ?_
 refine R_region ?_
 refine L_val rfl rfl rfl (OpP.v (P_move rfl rfl)) ?_
 refine L_val rfl rfl rfl (OpP.v (P_geq rfl rfl rfl)) ?_
 refine L_nil ?_
 refine Q_then ?_
 refine R_condP rfl (fun hb => ?_) (fun hb => ?_)
 ·skip
  have hb : 128 ≤ v := hb
  refine R_skip ?_
  refine Q_then ?_
  refine R_block ?_
  refine R_seq ?_
  refine R_region ?_
  refine L_val rfl rfl rfl (OpP.v (P_move rfl rfl)) ?_
  refine L_val rfl rfl rfl (OpP.v (P_move rfl rfl)) ?_
  refine L_val rfl rfl rfl (OpP.v (P_rem rfl rfl rfl (by omega))) ?_
  refine E_as (t := 8) (v' := .int .u64 (v % 128)) rfl (by rw [Int.tmod_eq_emod_of_nonneg hv.1]) ?_
  refine L_val rfl rfl rfl (OpP.v (P_addN rfl rfl rfl (by simp only [fits]; omega))) ?_
  refine L_val rfl rfl rfl (OpP.v (P_conv rfl ty_int_24 ty_int_5 rfl)) ?_
  refine E_as (t := 10) (v' := .int .u8 (v % 128 + 128)) rfl (by rw [wrap_fits (by simp only [fits]; omega)]) ?_
  refine L_op rfl (W_lit (z := .nilIface) (ints .u8 [v % 128 + 128]) rfl rfl rfl ty_sl_48 ty_lz_48 rfl rfl rfl (by decide) (by decide) (by simp [Value.cells]) (rfl) fun b11 => ?_)
  refine L_op rfl (W_append (p := [_]) rfl rfl rfl ty_sl_48 ty_ap_48 ty_src_48 rfl rfl rfl (Src.slice (sz := 1) (news := ints .u8 [v % 128 + 128]) (Rds.blk .h0) rfl ints_one) (by omega) (by simp only [maxLen]; omega) fun v12 => ?_)
  refine L_val rfl rfl rfl (OpP.v (P_assign rfl rfl)) ?_
  refine L_nil ?_
  refine Q_then ?_
  refine R_region ?_
  refine L_val rfl rfl rfl (OpP.v (P_move rfl rfl)) ?_
  refine L_val rfl rfl rfl (OpP.v (P_quo rfl rfl rfl (by omega))) ?_
  refine E_as (t := 14) (v' := .int .u64 (v / 128)) rfl (by rw [Int.tdiv_eq_ediv_of_nonneg hv.1, wrap_fits (by have := hv.1; have := hv.2; simp only [fits]; omega)]) ?_
  refine L_val rfl rfl rfl (OpP.v (P_assign rfl rfl)) ?_
  refine L_nil ?_
  refine Q_block ?_
  exact Q_round (v / 128, m + 1, ys ++ [v % 128 + 128], v12) (by show u64 (v / 128) ∧ (ys ++ [v % 128 + 128]) ++ varB (v / 128) = varB x ∧ (m + 1) + (varB (v / 128)).length = (varB x).length; exact ⟨u64_div hv, by rw [← hxy, varB_big hv hb, List.append_assoc]; rfl, by rw [← hmn, varB_big hv hb, List.length_cons]; omega⟩) (by show (v / 128).toNat < v.toNat; have := hv.1; omega) (by repeat (first | exact .nil | refine .cons rfl ?_ | refine .consE rfl (by first | rfl | (congr 1; omega) | (congr 1; push_cast; omega)) ?_)) (Weak.drop (ownS.to1 rfl (by rw [ints_append])))
 ·skip
  have hb : ¬ 128 ≤ v := hb
  rw [varB_small hb] at hxy hmn
  have hw := wrap8 hv.1 hb
  refine R_exit ?_
  refine Q_then_exit ?_
  refine Q_then_exit ?_
  refine Q_block_eq ?_
  refine St.env (.cons (t := 0) rfl (.cons (t := 2) rfl (.cons (t := 3) rfl .nil))) ?_
  refine Q_then ?_
  refine R_seq ?_
  refine R_region ?_
  refine L_val rfl rfl rfl (OpP.v (P_move rfl rfl)) ?_
  refine L_val rfl rfl rfl (OpP.v (P_move rfl rfl)) ?_
  refine L_val rfl rfl rfl (OpP.v (P_conv rfl ty_int_24 ty_int_5 rfl)) ?_
  refine E_as (t := 17) (v' := .int .u8 v) rfl (by rw [hw]) ?_
  refine L_op rfl (W_lit (z := .nilIface) (ints .u8 [v]) rfl rfl rfl ty_sl_48 ty_lz_48 rfl rfl rfl (by decide) (by decide) (by simp [Value.cells]) (rfl) fun b18 => ?_)
  refine L_op rfl (W_append (p := [_]) rfl rfl rfl ty_sl_48 ty_ap_48 ty_src_48 rfl rfl rfl (Src.slice (sz := 1) (news := ints .u8 [v]) (Rds.blk .h0) rfl ints_one) (by omega) (by simp only [maxLen]; omega) fun v19 => ?_)
  refine L_val rfl rfl rfl (OpP.v (P_assign rfl rfl)) ?_
  refine L_nil ?_
  refine St.env (.cons (t := 2) rfl .nil) ?_
  refine Q_then ?_
  refine R_ret ?_
  exact R_end (rs2 := _) rfl rfl (.tmp rfl .nil) (rfl) (Weak.drop (ownS.to2 hmn (by rw [ints_append, hxy])))
theorem rnum_ok {gl : Nat → Obj} (x : Int) (hx : u64 x) : Spec (cx gl) 197 [.int .u64 x] (fun _ _ => True) [] (fun v rs => rs = [ownS 5 1 (v) ((varB x).length) (ints .u8 (varB x))]) := by
 refine Spec.enter (C := cx gl) Tryz.func197 rfl 5 rfl rfl fun w0 h0 hsep hsub hpre => ?_
 obtain rfl : h0 = Heap.none := hsep
 show St (cx gl) _ [(0, .int .u64 x)] _ _
 refine R_seq ?_
 refine R_region ?_
 refine L_val rfl rfl rfl (OpP.v (P_assign rfl rfl)) ?_
 refine L_nil ?_
 refine Q_then ?_
 refine R_seq ?_
 refine R_region ?_
 refine L_val rfl rfl rfl (OpP.v (P_move rfl rfl)) ?_
 refine L_op rfl (W_call rfl rfl rfl rfl fn_ca_195 (rvar_ok x hx) (Split.nil _) (fun _ _ _ _ _ _ _ => trivial) fun v1 rs1 (e1 : rs1 = _) => ?_)
 subst e1
 refine L_val rfl rfl rfl (OpP.v (P_assign rfl rfl)) ?_
 refine L_nil ?_
 refine St.env (.cons (t := 2) rfl .nil) ?_
 refine Q_then ?_
 refine R_ret ?_
 exact R_end (rs2 := _) rfl rfl (.tmp rfl .nil) (rfl) (Weak.refl _)
theorem rtext_ok {gl : Nat → Obj} (ch : List Int) (hb : IsB ch) (hc : ch.length ≤ 1000) : Spec (cx gl) 153 [.string (strOfNums ch)] (fun _ _ => True) [] (fun v rs => rs = [ownS 5 1 (v) ((varB (ch.length : Int)).length + ch.length) (ints .u8 (varB (ch.length : Int) ++ ch))]) := by
 refine Spec.enter (C := cx gl) Tryz.func153 rfl 10 rfl rfl fun w0 h0 hsep hsub hpre => ?_
 obtain rfl : h0 = Heap.none := hsep
 show St (cx gl) _ [(0, .string (strOfNums ch))] _ _
 have hvl := varB_len (ch.length : Int)
 refine R_seq ?_
 refine R_region ?_
 refine L_val rfl rfl rfl (OpP.v (P_assign rfl rfl)) ?_
 refine L_nil ?_
 refine Q_then ?_
 refine R_seq ?_
 refine R_region ?_
 refine L_val rfl rfl rfl (OpP.v (P_move rfl rfl)) ?_
 refine L_val rfl rfl rfl (OpP.v (P_lenStrN rfl ty_str_9 rfl)) ?_
 refine L_val rfl rfl rfl (OpP.v (P_convN rfl ty_int_3 ty_int_24 rfl (by simp only [fits]; omega))) ?_
 refine L_op rfl (W_call rfl rfl rfl rfl fn_ca_195 (rvar_ok (ch.length : Int) ⟨by omega, by omega⟩) (Split.nil _) (fun _ _ _ _ _ _ _ => trivial) fun v1 rs1 (e1 : rs1 = _) => ?_)
 subst e1
 refine L_val rfl rfl rfl (OpP.v (P_move rfl rfl)) ?_
 refine L_op rfl (W_bytes rfl rfl rfl ty_str_9 (slB_spec ty_sl_48).1 ty_int_5 rfl hb (by simp only [maxLen]; omega) fun v8 => ?_)
 refine St.ownForm (p := []) fun sb sc hsv hsc => ?_
 subst hsv
 refine L_op rfl (W_append (p := [_]) rfl rfl rfl ty_sl_48 ty_ap_48 ty_src_48 rfl rfl rfl (Src.row (sz := 1) (Sn.own .h0 rfl).rw_ (by rw [ints_length]; omega) ints_one) (by omega) (by simp only [maxLen]; omega) fun v9 => ?_)
 refine L_val rfl rfl rfl (OpP.v (P_assign rfl rfl)) ?_
 refine L_nil ?_
 refine St.env (.cons (t := 2) rfl .nil) ?_
 refine Q_then ?_
 refine R_ret ?_
 exact R_end (rs2 := _) rfl rfl (.tmp rfl .nil) (rfl) (Weak.drop (ownS.to2 rfl (by rw [ints_append])))
theorem rsealed_ok {gl : Nat → Obj} (sl : List Int) (hl : sl.length = 16) (q : Bool) : Spec (cx gl) 198 [.agg (ints .u8 sl).toArray, .bool q] (fun _ _ => True) [] (fun v rs => rs = [ownS 5 1 (v) ((if q = true then sl else []).length) (ints .u8 (if q = true then sl else []))]) := by
 refine Spec.enter (C := cx gl) Tryz.func198 rfl 9 rfl rfl fun w0 h0 hsep hsub hpre => ?_
 obtain rfl : h0 = Heap.none := hsep
 show St (cx gl) _ [(0, .agg (ints .u8 sl).toArray), (1, .bool q)] _ _
 refine R_seq ?_
 refine R_region ?_
 refine L_op rfl (W_box (ints .u8 sl) rfl rfl rfl rfl rfl fun b2 => ?_)
 refine L_val rfl rfl rfl (OpP.v (P_assign rfl rfl)) ?_
 refine L_nil ?_
 refine St.env (.cons (t := 1) rfl (.cons (t := 2) rfl (.cons (t := 4) rfl .nil))) ?_
 refine Q_then ?_
 refine R_seq ?_
 refine R_seq ?_
 refine R_region ?_
 refine L_val rfl rfl rfl (OpP.v (P_move rfl rfl)) ?_
 refine L_nil ?_
 refine St.env (.cons (t := 2) rfl (.cons (t := 4) rfl (.cons (t := 5) rfl .nil))) ?_
 refine Q_then ?_
 refine R_cond rfl (fun hq => ?_) (fun hq => ?_)
 ·skip
  refine R_seq ?_
  refine R_region ?_
  refine L_op rfl (W_lit0 rfl rfl rfl ty_sl_48 fun b6 => ?_)
  refine St.res (rs' := [ownS 5 1 (.slice (some ⟨b6, 0, none⟩) 0 0) (0) (ints .u8 ([])), blk b2 (ints .u8 sl) 86]) (Weak.turn .h0 (ownS.of_blk rfl (by decide))) ?_
  refine L_val rfl rfl rfl (OpP.v (P_sliceAll rfl ty_ar_86 rfl)) ?_
  refine L_op rfl (W_append (p := []) rfl rfl rfl ty_sl_48 ty_ap_48 ty_src_48 rfl rfl rfl (Src.slice (sz := 1) (m := 16) (news := ints .u8 sl) (Rds.blk .h1) (by rw [ints_length, hl]) ints_one) (by omega) (by simp only [maxLen]; omega) fun v8 => ?_)
  refine L_val rfl rfl rfl (OpP.v (P_assign rfl rfl)) ?_
  refine L_nil ?_
  refine St.env (.cons (t := 4) rfl .nil) ?_
  refine Q_then ?_
  refine R_ret ?_
  refine Q_then_ret ?_
  exact R_end (rs2 := _) rfl rfl (.tmp rfl .nil) (rfl) (by rw [if_pos hq]; exact ownS.to2 (by rw [hl]) (List.nil_append _))
 ·skip
  refine R_skip ?_
  refine Q_then ?_
  refine R_seq ?_
  refine R_region ?_
  refine L_val rfl rfl rfl (OpP.v (P_assign rfl rfl)) ?_
  refine L_nil ?_
  refine St.env (.cons (t := 4) rfl .nil) ?_
  refine Q_then ?_
  refine R_ret ?_
  exact R_end (rs2 := _) rfl rfl (.tmp rfl .nil) (rfl) (by rw [if_neg (by rw [hq]; decide)]; exact Weak.trans (Weak.newNil (T := 5) (sz := 1)) (Weak.keep (Weak.nil _)))
theorem flat_next {xss : List (List Int)} {i : Nat} {x : List Int} (h : xss[i]? = some x) : (xss.take (i + 1)).flatten = (xss.take i).flatten ++ x := by
 rw [List.take_add_one, h]; simp
theorem flat_le {xss : List (List Int)} {n : Nat} (h : ∀ x ∈ xss, x.length ≤ n) : xss.flatten.length ≤ n * xss.length := by
 induction xss with
 | nil => simp
 | cons x xss ih =>
  rw [List.flatten_cons, List.length_append, List.length_cons]
  have h1 := h x (by simp); have h2 := ih fun y hy => h y (by simp [hy])
  rw [Nat.mul_add]; omega
theorem rjoin_ok {gl : Nat → Obj} (base : Option Addr) (c : Nat) (vs : List Value) (xss : List (List Int)) (hvx : vs.length = xss.length) (hc : vs.length ≤ c) (hm : vs.length ≤ 100) (hs : ∀ x ∈ xss, x.length ≤ 1000) : Spec (cx gl) 196 [.slice base vs.length c] (fun w _ => Items w base vs xss) [] (fun v rs => rs = [ownS 5 1 (v) (xss.flatten.length) (ints .u8 (xss.flatten))]) := by
 refine Spec.enter (C := cx gl) Tryz.func196 rfl 18 rfl rfl fun w0 h0 hsep hsub hpre => ?_
 obtain rfl : h0 = Heap.none := hsep
 show St (cx gl) _ [(0, .slice base vs.length c)] _ _
 refine R_seq ?_
 refine R_region ?_
 refine L_val rfl rfl rfl (OpP.v (P_assign rfl rfl)) ?_
 refine L_nil ?_
 refine Q_then ?_
 refine R_seq ?_
 refine R_region ?_
 refine L_val rfl rfl rfl (OpP.v (P_assign rfl rfl)) ?_
 refine L_nil ?_
 refine Q_then ?_
 refine R_seq ?_
 refine R_seq ?_
 refine R_region ?_
 refine L_val rfl rfl rfl (OpP.v (P_assign rfl rfl)) ?_
 refine L_nil ?_
 refine Q_then ?_
 refine R_block ?_
 refine R_loopE (G := Nat × Value) (.cons (t := 0) rfl (.cons (t := 2) rfl .nil)) (fun g => [(3, g.2), (4, .int .i64 ((g.1 : Int)))]) (fun g => [ownS 5 1 (g.2) ((xss.take g.1).flatten.length) (ints .u8 ((xss.take g.1).flatten))]) (fun g => g.1 ≤ vs.length) (fun g => vs.length - g.1) (0, .slice none 0 0) (Nat.zero_le _) (by repeat (first | exact .nil | refine .cons rfl ?_ | refine .consE rfl (by first | rfl | (congr 1; omega) | (congr 1; push_cast; omega)) ?_)) (Weak.newNil (T := 5) (sz := 1)) ?_
 rintro ⟨i, s⟩ hinv
 replace hinv : i ≤ vs.length := hinv
 show St (cx gl) _ ((3, s) :: (4, .int .i64 ((i : Int))) :: _) [ownS 5 1 (s) ((xss.take i).flatten.length) (ints .u8 ((xss.take i).flatten))] _
 have hi := hinv
 refine R_seq ?_
 refine R_seq ?_
 refine R_region ?_
 refine L_val rfl rfl rfl (OpP.v (P_move rfl rfl)) ?_
 refine L_val rfl rfl rfl (OpP.v (P_move rfl rfl)) ?_
 refine L_val rfl rfl rfl (OpP.v (P_len rfl ty_sl_42 rfl)) ?_
 refine L_val rfl rfl rfl (OpP.v (P_lss rfl rfl rfl)) ?_
 refine L_nil ?_
 refine Q_then ?_
 refine R_condP rfl (fun hlt => ?_) (fun hlt => ?_)
 ·skip
  obtain ⟨yb, yc, y, hvk, hxk, hyc, hyr⟩ := hpre.2.at_ (k := i) (by omega)
  obtain ⟨pb, pj, rfl, hrow⟩ := hpre.1.some_ (by omega)
  have hyl := hs y (List.mem_of_getElem? hxk)
  have hfl := flat_le (xss := xss.take i) fun z hz => hs z (List.mem_of_mem_take hz)
  rw [List.length_take] at hfl
  refine R_skip ?_
  refine Q_then ?_
  refine R_seq ?_
  refine R_block ?_
  refine R_region ?_
  refine L_val rfl rfl rfl (OpP.v (P_move rfl rfl)) ?_
  refine L_val rfl rfl rfl (OpP.v (P_move rfl rfl)) ?_
  refine L_val rfl rfl rfl (OpP.v (P_move rfl rfl)) ?_
  refine L_val rfl rfl rfl (OpP.v (P_ixs (i) rfl ty_sl_42 rfl rfl (by first | rfl | omega) (by omega))) ?_
  refine L_val rfl rfl rfl (V_load rfl rfl ty_sc_48 (Rd.row hrow rfl hvk)) ?_
  refine L_op rfl (W_append (p := []) rfl rfl rfl ty_sl_48 ty_ap_48 ty_src_48 rfl rfl rfl (Src.row (sz := 1) (Sn.row hyr rfl).rw_ (by rw [ints_length]; omega) ints_one) (by omega) (by simp only [maxLen]; omega) fun v16 => ?_)
  refine L_val rfl rfl rfl (OpP.v (P_assign rfl rfl)) ?_
  refine L_nil ?_
  refine Q_block ?_
  refine Q_then ?_
  refine R_region ?_
  refine L_val rfl rfl rfl (OpP.v (P_move rfl rfl)) ?_
  first | (refine L_val rfl rfl rfl (OpP.v (P_addN rfl rfl rfl (by simp only [fits]; omega))) ?_) | (refine L_val rfl rfl rfl (OpP.v (P_add rfl rfl rfl)) ?_)
  refine L_val rfl rfl rfl (OpP.v (P_assign rfl rfl)) ?_
  refine L_nil ?_
  exact Q_round (i + 1, v16) (by omega) (by show vs.length - (i + 1) < vs.length - i; omega) (by repeat (first | exact .nil | refine .cons rfl ?_ | refine .consE rfl (by first | rfl | (congr 1; omega) | (congr 1; push_cast; omega)) ?_)) (ownS.to1 (by rw [flat_next hxk, List.length_append]) (by rw [flat_next hxk, ints_append]))
 ·skip
  have hin : i = vs.length := by omega
  subst hin
  rw [hvx, List.take_length]
  refine R_exit ?_
  refine Q_then_exit ?_
  refine Q_then_exit ?_
  refine Q_block_eq ?_
  refine St.env (.cons (t := 2) rfl (.cons (t := 3) rfl .nil)) ?_
  refine Q_then ?_
  refine R_seq ?_
  refine R_region ?_
  refine L_val rfl rfl rfl (OpP.v (P_move rfl rfl)) ?_
  refine L_val rfl rfl rfl (OpP.v (P_assign rfl rfl)) ?_
  refine L_nil ?_
  refine St.env (.cons (t := 2) rfl .nil) ?_
  refine Q_then ?_
  refine R_ret ?_
  exact R_end (rs2 := _) rfl rfl (.tmp rfl .nil) (rfl) (Weak.refl _)
theorem rds_seal {C : Cx} {F : Fx} {rs : List HP} {b : Nat} {x : Tx} (h : Rds C F rs ⟨b, 0, none⟩ x.cells) : Rds C F rs ⟨b, 6, none⟩ (ints .u8 x.sg16) := by
 have := h.part 6 (us := ints .u8 x.sg16) fun i v hv => by unfold Tx.cells; rw [List.getElem?_append_right (by simp), show 6 + i - [Value.int .i64 x.kind, .int .u64 x.frm, .int .u64 x.to, .int .u64 x.amt, .int .u64 x.fee, .int .u64 x.non].length = i by simp]; exact hv
 rwa [Nat.zero_add] at this
theorem rtx_ok {gl : Nat → Obj} (x : Tx) (hx : x.ok) (q : Bool) : Spec (cx gl) 154 [.agg x.cells.toArray, .bool q] (fun _ _ => True) [] (fun v rs => rs = [ownS 5 1 (v) ((txB x ++ (if q = true then x.sg16 else [])).length) (ints .u8 (txB x ++ (if q = true then x.sg16 else [])))]) := by
 refine Spec.enter (C := cx gl) Tryz.func154 rfl 30 rfl rfl fun w0 h0 hsep hsub hpre => ?_
 obtain rfl : h0 = Heap.none := hsep
 show St (cx gl) _ [(0, .agg x.cells.toArray), (1, .bool q)] _ _
 have hsm : ∀ y ∈ ([[kindB x.kind], varB x.frm, varB x.to, varB x.amt, varB x.fee, varB x.non, if q = true then x.sg16 else []] : List (List Int)), y.length ≤ 1000 := by
  intro y hy; simp only [List.mem_cons, List.not_mem_nil, or_false] at hy
  have h6 := hx.len; have l1 := varB_len x.frm; have l2 := varB_len x.to; have l3 := varB_len x.amt; have l4 := varB_len x.fee; have l5 := varB_len x.non
  rcases hy with rfl | rfl | rfl | rfl | rfl | rfl | rfl <;> first | omega | (simp; done) | (split <;> first | omega | (simp; done))
 have hfl : ([[kindB x.kind], varB x.frm, varB x.to, varB x.amt, varB x.fee, varB x.non, if q = true then x.sg16 else []] : List (List Int)).flatten = txB x ++ (if q = true then x.sg16 else []) := by simp [txB, varsB, txW]
 refine R_seq ?_
 refine R_region ?_
 refine L_op rfl (W_box (x.cells) rfl rfl rfl rfl rfl fun b2 => ?_)
 refine L_val rfl rfl rfl (OpP.v (P_assign rfl rfl)) ?_
 refine L_nil ?_
 refine St.env (.cons (t := 1) rfl (.cons (t := 2) rfl (.cons (t := 4) rfl .nil))) ?_
 refine Q_then ?_
 refine R_seq ?_
 refine T_open (.op 0 0 (.op 1 1 (.op 2 0 (.op 4 0 (.op 5 1 (.op 7 0 (.op 8 1 (.op 10 0 (.op 11 1 (.op 13 0 (.op 14 1 (.op 16 0 (.op 17 1 (.op 19 0 (.op 20 1 (.op 21 0 (.two 3 6 (.op 6 2 (.op 9 2 (.op 12 2 (.op 15 2 (.op 18 2 (.op 22 2 (.op 23 2 (.op 24 2 (.op 25 0 .nil))))))))) (.two 3 9 (.op 9 2 (.op 12 2 (.op 15 2 (.op 18 2 (.op 22 2 (.op 23 2 (.op 24 2 (.op 25 0 .nil)))))))) (.two 3 12 (.op 12 2 (.op 15 2 (.op 18 2 (.op 22 2 (.op 23 2 (.op 24 2 (.op 25 0 .nil))))))) (.two 3 15 (.op 15 2 (.op 18 2 (.op 22 2 (.op 23 2 (.op 24 2 (.op 25 0 .nil)))))) (.two 3 18 (.op 18 2 (.op 22 2 (.op 23 2 (.op 24 2 (.op 25 0 .nil))))) (.two 3 22 (.op 22 2 (.op 23 2 (.op 24 2 (.op 25 0 .nil)))) (.op 3 2 (.op 23 2 (.op 24 2 (.op 25 0 .nil)))))))))))))))))))))))))) mixed (by kernel_rfl) (QOk.then QOk.body) ?_
 refine T_pure rfl rfl rfl rfl (P_fld0 rfl ty_fl_88_0 rfl) ?_
 refine T_val rfl rfl rfl rfl (V_load rfl rfl ty_sc_3 (Rd.blk (by first | exact .h0 | exact .h1 | exact .h2 | exact .h3 | exact .h4 | exact .h5 | exact .h6 | exact .h7) rfl)) ?_
 refine T_pure rfl rfl rfl rfl (P_conv rfl ty_int_3 ty_int_5 rfl) ?_
 refine T_pure rfl rfl rfl rfl (P_fld0 rfl ty_fl_88_1 rfl) ?_
 refine T_val rfl rfl rfl rfl (V_load rfl rfl ty_sc_27 (Rd.blk (by first | exact .h0 | exact .h1 | exact .h2 | exact .h3 | exact .h4 | exact .h5 | exact .h6 | exact .h7) rfl)) ?_
 refine T_pure rfl rfl rfl rfl (P_fld0 rfl ty_fl_88_2 rfl) ?_
 refine T_val rfl rfl rfl rfl (V_load rfl rfl ty_sc_27 (Rd.blk (by first | exact .h0 | exact .h1 | exact .h2 | exact .h3 | exact .h4 | exact .h5 | exact .h6 | exact .h7) rfl)) ?_
 refine T_pure rfl rfl rfl rfl (P_fld0 rfl ty_fl_88_3 rfl) ?_
 refine T_val rfl rfl rfl rfl (V_load rfl rfl ty_sc_24 (Rd.blk (by first | exact .h0 | exact .h1 | exact .h2 | exact .h3 | exact .h4 | exact .h5 | exact .h6 | exact .h7) rfl)) ?_
 refine T_pure rfl rfl rfl rfl (P_fld0 rfl ty_fl_88_4 rfl) ?_
 refine T_val rfl rfl rfl rfl (V_load rfl rfl ty_sc_24 (Rd.blk (by first | exact .h0 | exact .h1 | exact .h2 | exact .h3 | exact .h4 | exact .h5 | exact .h6 | exact .h7) rfl)) ?_
 refine T_pure rfl rfl rfl rfl (P_fld0 rfl ty_fl_88_5 rfl) ?_
 refine T_val rfl rfl rfl rfl (V_load rfl rfl ty_sc_24 (Rd.blk (by first | exact .h0 | exact .h1 | exact .h2 | exact .h3 | exact .h4 | exact .h5 | exact .h6 | exact .h7) rfl)) ?_
 refine T_pure rfl rfl rfl rfl (P_fld0 rfl ty_fl_88_6 rfl) ?_
 refine T_val rfl rfl rfl rfl (V_loadAgg rfl rfl ty_ag_86 (rds_seal (Rds.blk (by first | exact .h0 | exact .h1 | exact .h2 | exact .h3 | exact .h4 | exact .h5 | exact .h6 | exact .h7))) (by rw [ints_length, hx.len])) ?_
 refine T_pure rfl rfl rfl rfl (P_move rfl rfl) ?_
 refine T_two ?_ ?_
 ·skip
  refine T_keep rfl rfl (W_lit (z := .nilIface) (ints .u8 [kindB x.kind]) rfl rfl rfl ty_sl_48 ty_lz_48 rfl rfl rfl (by decide) (by decide) (by simp [Value.cells]) (rfl) fun b8 => (K_keepT (Weak.drop (Weak.refl _)) ?_))
  refine T_keep rfl rfl (W_call rfl rfl rfl rfl fn_ca_197 (rnum_ok (x.frm) (hx.frm)) (Split.nil _) (fun _ _ _ _ _ _ _ => trivial) fun v1 rs1 (e1 : rs1 = _) => ?_)
  subst e1
  refine St.ownForm (p := []) fun a1 c1 ha1 hc1 => ?_
  subst ha1
  refine K_keepT (Weak.drop (Weak.refl _)) ?_
  refine T_keep rfl rfl (W_call rfl rfl rfl rfl fn_ca_197 (rnum_ok (x.to) (hx.to)) (Split.nil _) (fun _ _ _ _ _ _ _ => trivial) fun v2 rs2 (e2 : rs2 = _) => ?_)
  subst e2
  refine St.ownForm (p := []) fun a2 c2 ha2 hc2 => ?_
  subst ha2
  refine K_keepT (Weak.drop (Weak.refl _)) ?_
  refine T_keep rfl rfl (W_call rfl rfl rfl rfl fn_ca_197 (rnum_ok (x.amt) (hx.amt)) (Split.nil _) (fun _ _ _ _ _ _ _ => trivial) fun v3 rs3 (e3 : rs3 = _) => ?_)
  subst e3
  refine St.ownForm (p := []) fun a3 c3 ha3 hc3 => ?_
  subst ha3
  refine K_keepT (Weak.drop (Weak.refl _)) ?_
  refine T_keep rfl rfl (W_call rfl rfl rfl rfl fn_ca_197 (rnum_ok (x.fee) (hx.fee)) (Split.nil _) (fun _ _ _ _ _ _ _ => trivial) fun v4 rs4 (e4 : rs4 = _) => ?_)
  subst e4
  refine St.ownForm (p := []) fun a4 c4 ha4 hc4 => ?_
  subst ha4
  refine K_keepT (Weak.drop (Weak.refl _)) ?_
  refine T_keep rfl rfl (W_call rfl rfl rfl rfl fn_ca_197 (rnum_ok (x.non) (hx.non)) (Split.nil _) (fun _ _ _ _ _ _ _ => trivial) fun v5 rs5 (e5 : rs5 = _) => ?_)
  subst e5
  refine St.ownForm (p := []) fun a5 c5 ha5 hc5 => ?_
  subst ha5
  refine K_keepT (Weak.drop (Weak.refl _)) ?_
  refine T_keep rfl rfl (W_call rfl rfl rfl rfl fn_ca_198 (rsealed_ok x.sg16 hx.len q) (Split.nil _) (fun _ _ _ _ _ _ _ => trivial) fun v6 rs6 (e6 : rs6 = _) => ?_)
  subst e6
  refine St.ownForm (p := []) fun a6 c6 ha6 hc6 => ?_
  subst ha6
  refine K_keepT (Weak.drop (Weak.refl _)) ?_
  refine T_keep rfl rfl (W_lit (z := .nilIface) ([.slice (some ⟨b8, 0, none⟩) 1 1, .slice a1 (varB x.frm).length c1, .slice a2 (varB x.to).length c2, .slice a3 (varB x.amt).length c3, .slice a4 (varB x.fee).length c4, .slice a5 (varB x.non).length c5, .slice a6 (if q = true then x.sg16 else []).length c6]) rfl rfl rfl ty_sl_42 ty_lz_42 rfl rfl rfl (by decide) (by decide) (by intro v hv; simp only [List.mem_cons, List.not_mem_nil, or_false] at hv; rcases hv with rfl | rfl | rfl | rfl | rfl | rfl | rfl <;> rfl) (rfl) fun b28 => (K_keepT (Weak.drop (Weak.refl _)) ?_))
  refine T_keep rfl rfl (W_call rfl rfl rfl rfl fn_ca_196 (rjoin_ok (some ⟨b28, 0, none⟩) 7 [.slice (some ⟨b8, 0, none⟩) 1 1, .slice a1 (varB x.frm).length c1, .slice a2 (varB x.to).length c2, .slice a3 (varB x.amt).length c3, .slice a4 (varB x.fee).length c4, .slice a5 (varB x.non).length c5, .slice a6 (if q = true then x.sg16 else []).length c6] [[kindB x.kind], varB x.frm, varB x.to, varB x.amt, varB x.fee, varB x.non, if q = true then x.sg16 else []] rfl (Nat.le_refl 7) (show 7 ≤ 100 by decide) hsm) (Split.nil _) (fun w a b _ hb dj m => ⟨(Sn.ofBlk .h0).rw_ w ⟨_, hb, m.le (Heap.le_join_right dj)⟩, BytesL.cons ⟨_, _, rfl, Nat.le_refl 1, (Sn.ofBlk (by first | exact .h0 | exact .h1 | exact .h2 | exact .h3 | exact .h4 | exact .h5 | exact .h6 | exact .h7 | exact .h8)).rw_ w ⟨_, hb, m.le (Heap.le_join_right dj)⟩⟩ (BytesL.cons ⟨_, _, rfl, by omega, (Sn.own (by first | exact .h0 | exact .h1 | exact .h2 | exact .h3 | exact .h4 | exact .h5 | exact .h6 | exact .h7 | exact .h8) rfl).rw_ w ⟨_, hb, m.le (Heap.le_join_right dj)⟩⟩ ( BytesL.cons ⟨_, _, rfl, by omega, (Sn.own (by first | exact .h0 | exact .h1 | exact .h2 | exact .h3 | exact .h4 | exact .h5 | exact .h6 | exact .h7 | exact .h8) rfl).rw_ w ⟨_, hb, m.le (Heap.le_join_right dj)⟩⟩ ( BytesL.cons ⟨_, _, rfl, by omega, (Sn.own (by first | exact .h0 | exact .h1 | exact .h2 | exact .h3 | exact .h4 | exact .h5 | exact .h6 | exact .h7 | exact .h8) rfl).rw_ w ⟨_, hb, m.le (Heap.le_join_right dj)⟩⟩ ( BytesL.cons ⟨_, _, rfl, by omega, (Sn.own (by first | exact .h0 | exact .h1 | exact .h2 | exact .h3 | exact .h4 | exact .h5 | exact .h6 | exact .h7 | exact .h8) rfl).rw_ w ⟨_, hb, m.le (Heap.le_join_right dj)⟩⟩ ( BytesL.cons ⟨_, _, rfl, by omega, (Sn.own (by first | exact .h0 | exact .h1 | exact .h2 | exact .h3 | exact .h4 | exact .h5 | exact .h6 | exact .h7 | exact .h8) rfl).rw_ w ⟨_, hb, m.le (Heap.le_join_right dj)⟩⟩ ( BytesL.cons ⟨_, _, rfl, by omega, (Sn.own (by first | exact .h0 | exact .h1 | exact .h2 | exact .h3 | exact .h4 | exact .h5 | exact .h6 | exact .h7 | exact .h8) rfl).rw_ w ⟨_, hb, m.le (Heap.le_join_right dj)⟩⟩ ( BytesL.nil)))))))⟩) fun v9 rs9 (e9 : rs9 = _) => ?_)
  subst e9
  refine K_keepT (Weak.drop (Weak.refl _)) ?_
  refine T_pure rfl rfl rfl rfl (P_assign rfl rfl) ?_
  refine T_nil ?_
  refine St.env (.cons (t := 4) rfl .nil) ?_
  refine Q_then ?_
  refine R_ret ?_
  exact R_end (rs2 := _) rfl rfl (.tmp rfl .nil) (rfl) (Weak.trans (ownS.to1 (by rw [hfl]) (by rw [hfl])) (Weak.keep (Weak.nil _)))
 ·skip
  refine T_keep rfl rfl (W_call rfl rfl rfl rfl fn_ca_197 (rnum_ok (x.frm) (hx.frm)) (Split.nil _) (fun _ _ _ _ _ _ _ => trivial) fun v1 rs1 (e1 : rs1 = _) => ?_)
  subst e1
  refine St.ownForm (p := []) fun a1 c1 ha1 hc1 => ?_
  subst ha1
  refine K_keepT (Weak.drop (Weak.refl _)) ?_
  refine T_two ?_ ?_
  ·skip
   refine T_keep rfl rfl (W_lit (z := .nilIface) (ints .u8 [kindB x.kind]) rfl rfl rfl ty_sl_48 ty_lz_48 rfl rfl rfl (by decide) (by decide) (by simp [Value.cells]) (rfl) fun b8 => (K_keepT (Weak.drop (Weak.refl _)) ?_))
   refine T_keep rfl rfl (W_call rfl rfl rfl rfl fn_ca_197 (rnum_ok (x.to) (hx.to)) (Split.nil _) (fun _ _ _ _ _ _ _ => trivial) fun v2 rs2 (e2 : rs2 = _) => ?_)
   subst e2
   refine St.ownForm (p := []) fun a2 c2 ha2 hc2 => ?_
   subst ha2
   refine K_keepT (Weak.drop (Weak.refl _)) ?_
   refine T_keep rfl rfl (W_call rfl rfl rfl rfl fn_ca_197 (rnum_ok (x.amt) (hx.amt)) (Split.nil _) (fun _ _ _ _ _ _ _ => trivial) fun v3 rs3 (e3 : rs3 = _) => ?_)
   subst e3
   refine St.ownForm (p := []) fun a3 c3 ha3 hc3 => ?_
   subst ha3
   refine K_keepT (Weak.drop (Weak.refl _)) ?_
   refine T_keep rfl rfl (W_call rfl rfl rfl rfl fn_ca_197 (rnum_ok (x.fee) (hx.fee)) (Split.nil _) (fun _ _ _ _ _ _ _ => trivial) fun v4 rs4 (e4 : rs4 = _) => ?_)
   subst e4
   refine St.ownForm (p := []) fun a4 c4 ha4 hc4 => ?_
   subst ha4
   refine K_keepT (Weak.drop (Weak.refl _)) ?_
   refine T_keep rfl rfl (W_call rfl rfl rfl rfl fn_ca_197 (rnum_ok (x.non) (hx.non)) (Split.nil _) (fun _ _ _ _ _ _ _ => trivial) fun v5 rs5 (e5 : rs5 = _) => ?_)
   subst e5
   refine St.ownForm (p := []) fun a5 c5 ha5 hc5 => ?_
   subst ha5
   refine K_keepT (Weak.drop (Weak.refl _)) ?_
   refine T_keep rfl rfl (W_call rfl rfl rfl rfl fn_ca_198 (rsealed_ok x.sg16 hx.len q) (Split.nil _) (fun _ _ _ _ _ _ _ => trivial) fun v6 rs6 (e6 : rs6 = _) => ?_)
   subst e6
   refine St.ownForm (p := []) fun a6 c6 ha6 hc6 => ?_
   subst ha6
   refine K_keepT (Weak.drop (Weak.refl _)) ?_
   refine T_keep rfl rfl (W_lit (z := .nilIface) ([.slice (some ⟨b8, 0, none⟩) 1 1, .slice a1 (varB x.frm).length c1, .slice a2 (varB x.to).length c2, .slice a3 (varB x.amt).length c3, .slice a4 (varB x.fee).length c4, .slice a5 (varB x.non).length c5, .slice a6 (if q = true then x.sg16 else []).length c6]) rfl rfl rfl ty_sl_42 ty_lz_42 rfl rfl rfl (by decide) (by decide) (by intro v hv; simp only [List.mem_cons, List.not_mem_nil, or_false] at hv; rcases hv with rfl | rfl | rfl | rfl | rfl | rfl | rfl <;> rfl) (rfl) fun b28 => (K_keepT (Weak.drop (Weak.refl _)) ?_))
   refine T_keep rfl rfl (W_call rfl rfl rfl rfl fn_ca_196 (rjoin_ok (some ⟨b28, 0, none⟩) 7 [.slice (some ⟨b8, 0, none⟩) 1 1, .slice a1 (varB x.frm).length c1, .slice a2 (varB x.to).length c2, .slice a3 (varB x.amt).length c3, .slice a4 (varB x.fee).length c4, .slice a5 (varB x.non).length c5, .slice a6 (if q = true then x.sg16 else []).length c6] [[kindB x.kind], varB x.frm, varB x.to, varB x.amt, varB x.fee, varB x.non, if q = true then x.sg16 else []] rfl (Nat.le_refl 7) (show 7 ≤ 100 by decide) hsm) (Split.nil _) (fun w a b _ hb dj m => ⟨(Sn.ofBlk .h0).rw_ w ⟨_, hb, m.le (Heap.le_join_right dj)⟩, BytesL.cons ⟨_, _, rfl, Nat.le_refl 1, (Sn.ofBlk (by first | exact .h0 | exact .h1 | exact .h2 | exact .h3 | exact .h4 | exact .h5 | exact .h6 | exact .h7 | exact .h8)).rw_ w ⟨_, hb, m.le (Heap.le_join_right dj)⟩⟩ (BytesL.cons ⟨_, _, rfl, by omega, (Sn.own (by first | exact .h0 | exact .h1 | exact .h2 | exact .h3 | exact .h4 | exact .h5 | exact .h6 | exact .h7 | exact .h8) rfl).rw_ w ⟨_, hb, m.le (Heap.le_join_right dj)⟩⟩ ( BytesL.cons ⟨_, _, rfl, by omega, (Sn.own (by first | exact .h0 | exact .h1 | exact .h2 | exact .h3 | exact .h4 | exact .h5 | exact .h6 | exact .h7 | exact .h8) rfl).rw_ w ⟨_, hb, m.le (Heap.le_join_right dj)⟩⟩ ( BytesL.cons ⟨_, _, rfl, by omega, (Sn.own (by first | exact .h0 | exact .h1 | exact .h2 | exact .h3 | exact .h4 | exact .h5 | exact .h6 | exact .h7 | exact .h8) rfl).rw_ w ⟨_, hb, m.le (Heap.le_join_right dj)⟩⟩ ( BytesL.cons ⟨_, _, rfl, by omega, (Sn.own (by first | exact .h0 | exact .h1 | exact .h2 | exact .h3 | exact .h4 | exact .h5 | exact .h6 | exact .h7 | exact .h8) rfl).rw_ w ⟨_, hb, m.le (Heap.le_join_right dj)⟩⟩ ( BytesL.cons ⟨_, _, rfl, by omega, (Sn.own (by first | exact .h0 | exact .h1 | exact .h2 | exact .h3 | exact .h4 | exact .h5 | exact .h6 | exact .h7 | exact .h8) rfl).rw_ w ⟨_, hb, m.le (Heap.le_join_right dj)⟩⟩ ( BytesL.cons ⟨_, _, rfl, by omega, (Sn.own (by first | exact .h0 | exact .h1 | exact .h2 | exact .h3 | exact .h4 | exact .h5 | exact .h6 | exact .h7 | exact .h8) rfl).rw_ w ⟨_, hb, m.le (Heap.le_join_right dj)⟩⟩ ( BytesL.nil)))))))⟩) fun v9 rs9 (e9 : rs9 = _) => ?_)
   subst e9
   refine K_keepT (Weak.drop (Weak.refl _)) ?_
   refine T_pure rfl rfl rfl rfl (P_assign rfl rfl) ?_
   refine T_nil ?_
   refine St.env (.cons (t := 4) rfl .nil) ?_
   refine Q_then ?_
   refine R_ret ?_
   exact R_end (rs2 := _) rfl rfl (.tmp rfl .nil) (rfl) (Weak.trans (ownS.to1 (by rw [hfl]) (by rw [hfl])) (Weak.keep (Weak.nil _)))
  ·skip
   refine T_keep rfl rfl (W_call rfl rfl rfl rfl fn_ca_197 (rnum_ok (x.to) (hx.to)) (Split.nil _) (fun _ _ _ _ _ _ _ => trivial) fun v2 rs2 (e2 : rs2 = _) => ?_)
   subst e2
   refine St.ownForm (p := []) fun a2 c2 ha2 hc2 => ?_
   subst ha2
   refine K_keepT (Weak.drop (Weak.refl _)) ?_
   refine T_two ?_ ?_
   ·skip
    refine T_keep rfl rfl (W_lit (z := .nilIface) (ints .u8 [kindB x.kind]) rfl rfl rfl ty_sl_48 ty_lz_48 rfl rfl rfl (by decide) (by decide) (by simp [Value.cells]) (rfl) fun b8 => (K_keepT (Weak.drop (Weak.refl _)) ?_))
    refine T_keep rfl rfl (W_call rfl rfl rfl rfl fn_ca_197 (rnum_ok (x.amt) (hx.amt)) (Split.nil _) (fun _ _ _ _ _ _ _ => trivial) fun v3 rs3 (e3 : rs3 = _) => ?_)
    subst e3
    refine St.ownForm (p := []) fun a3 c3 ha3 hc3 => ?_
    subst ha3
    refine K_keepT (Weak.drop (Weak.refl _)) ?_
    refine T_keep rfl rfl (W_call rfl rfl rfl rfl fn_ca_197 (rnum_ok (x.fee) (hx.fee)) (Split.nil _) (fun _ _ _ _ _ _ _ => trivial) fun v4 rs4 (e4 : rs4 = _) => ?_)
    subst e4
    refine St.ownForm (p := []) fun a4 c4 ha4 hc4 => ?_
    subst ha4
    refine K_keepT (Weak.drop (Weak.refl _)) ?_
    refine T_keep rfl rfl (W_call rfl rfl rfl rfl fn_ca_197 (rnum_ok (x.non) (hx.non)) (Split.nil _) (fun _ _ _ _ _ _ _ => trivial) fun v5 rs5 (e5 : rs5 = _) => ?_)
    subst e5
    refine St.ownForm (p := []) fun a5 c5 ha5 hc5 => ?_
    subst ha5
    refine K_keepT (Weak.drop (Weak.refl _)) ?_
    refine T_keep rfl rfl (W_call rfl rfl rfl rfl fn_ca_198 (rsealed_ok x.sg16 hx.len q) (Split.nil _) (fun _ _ _ _ _ _ _ => trivial) fun v6 rs6 (e6 : rs6 = _) => ?_)
    subst e6
    refine St.ownForm (p := []) fun a6 c6 ha6 hc6 => ?_
    subst ha6
    refine K_keepT (Weak.drop (Weak.refl _)) ?_
    refine T_keep rfl rfl (W_lit (z := .nilIface) ([.slice (some ⟨b8, 0, none⟩) 1 1, .slice a1 (varB x.frm).length c1, .slice a2 (varB x.to).length c2, .slice a3 (varB x.amt).length c3, .slice a4 (varB x.fee).length c4, .slice a5 (varB x.non).length c5, .slice a6 (if q = true then x.sg16 else []).length c6]) rfl rfl rfl ty_sl_42 ty_lz_42 rfl rfl rfl (by decide) (by decide) (by intro v hv; simp only [List.mem_cons, List.not_mem_nil, or_false] at hv; rcases hv with rfl | rfl | rfl | rfl | rfl | rfl | rfl <;> rfl) (rfl) fun b28 => (K_keepT (Weak.drop (Weak.refl _)) ?_))
    refine T_keep rfl rfl (W_call rfl rfl rfl rfl fn_ca_196 (rjoin_ok (some ⟨b28, 0, none⟩) 7 [.slice (some ⟨b8, 0, none⟩) 1 1, .slice a1 (varB x.frm).length c1, .slice a2 (varB x.to).length c2, .slice a3 (varB x.amt).length c3, .slice a4 (varB x.fee).length c4, .slice a5 (varB x.non).length c5, .slice a6 (if q = true then x.sg16 else []).length c6] [[kindB x.kind], varB x.frm, varB x.to, varB x.amt, varB x.fee, varB x.non, if q = true then x.sg16 else []] rfl (Nat.le_refl 7) (show 7 ≤ 100 by decide) hsm) (Split.nil _) (fun w a b _ hb dj m => ⟨(Sn.ofBlk .h0).rw_ w ⟨_, hb, m.le (Heap.le_join_right dj)⟩, BytesL.cons ⟨_, _, rfl, Nat.le_refl 1, (Sn.ofBlk (by first | exact .h0 | exact .h1 | exact .h2 | exact .h3 | exact .h4 | exact .h5 | exact .h6 | exact .h7 | exact .h8)).rw_ w ⟨_, hb, m.le (Heap.le_join_right dj)⟩⟩ (BytesL.cons ⟨_, _, rfl, by omega, (Sn.own (by first | exact .h0 | exact .h1 | exact .h2 | exact .h3 | exact .h4 | exact .h5 | exact .h6 | exact .h7 | exact .h8) rfl).rw_ w ⟨_, hb, m.le (Heap.le_join_right dj)⟩⟩ ( BytesL.cons ⟨_, _, rfl, by omega, (Sn.own (by first | exact .h0 | exact .h1 | exact .h2 | exact .h3 | exact .h4 | exact .h5 | exact .h6 | exact .h7 | exact .h8) rfl).rw_ w ⟨_, hb, m.le (Heap.le_join_right dj)⟩⟩ ( BytesL.cons ⟨_, _, rfl, by omega, (Sn.own (by first | exact .h0 | exact .h1 | exact .h2 | exact .h3 | exact .h4 | exact .h5 | exact .h6 | exact .h7 | exact .h8) rfl).rw_ w ⟨_, hb, m.le (Heap.le_join_right dj)⟩⟩ ( BytesL.cons ⟨_, _, rfl, by omega, (Sn.own (by first | exact .h0 | exact .h1 | exact .h2 | exact .h3 | exact .h4 | exact .h5 | exact .h6 | exact .h7 | exact .h8) rfl).rw_ w ⟨_, hb, m.le (Heap.le_join_right dj)⟩⟩ ( BytesL.cons ⟨_, _, rfl, by omega, (Sn.own (by first | exact .h0 | exact .h1 | exact .h2 | exact .h3 | exact .h4 | exact .h5 | exact .h6 | exact .h7 | exact .h8) rfl).rw_ w ⟨_, hb, m.le (Heap.le_join_right dj)⟩⟩ ( BytesL.cons ⟨_, _, rfl, by omega, (Sn.own (by first | exact .h0 | exact .h1 | exact .h2 | exact .h3 | exact .h4 | exact .h5 | exact .h6 | exact .h7 | exact .h8) rfl).rw_ w ⟨_, hb, m.le (Heap.le_join_right dj)⟩⟩ ( BytesL.nil)))))))⟩) fun v9 rs9 (e9 : rs9 = _) => ?_)
    subst e9
    refine K_keepT (Weak.drop (Weak.refl _)) ?_
    refine T_pure rfl rfl rfl rfl (P_assign rfl rfl) ?_
    refine T_nil ?_
    refine St.env (.cons (t := 4) rfl .nil) ?_
    refine Q_then ?_
    refine R_ret ?_
    exact R_end (rs2 := _) rfl rfl (.tmp rfl .nil) (rfl) (Weak.trans (ownS.to1 (by rw [hfl]) (by rw [hfl])) (Weak.keep (Weak.nil _)))
   ·skip
    refine T_keep rfl rfl (W_call rfl rfl rfl rfl fn_ca_197 (rnum_ok (x.amt) (hx.amt)) (Split.nil _) (fun _ _ _ _ _ _ _ => trivial) fun v3 rs3 (e3 : rs3 = _) => ?_)
    subst e3
    refine St.ownForm (p := []) fun a3 c3 ha3 hc3 => ?_
    subst ha3
    refine K_keepT (Weak.drop (Weak.refl _)) ?_
    refine T_two ?_ ?_
    ·skip
     refine T_keep rfl rfl (W_lit (z := .nilIface) (ints .u8 [kindB x.kind]) rfl rfl rfl ty_sl_48 ty_lz_48 rfl rfl rfl (by decide) (by decide) (by simp [Value.cells]) (rfl) fun b8 => (K_keepT (Weak.drop (Weak.refl _)) ?_))
     refine T_keep rfl rfl (W_call rfl rfl rfl rfl fn_ca_197 (rnum_ok (x.fee) (hx.fee)) (Split.nil _) (fun _ _ _ _ _ _ _ => trivial) fun v4 rs4 (e4 : rs4 = _) => ?_)
     subst e4
     refine St.ownForm (p := []) fun a4 c4 ha4 hc4 => ?_
     subst ha4
     refine K_keepT (Weak.drop (Weak.refl _)) ?_
     refine T_keep rfl rfl (W_call rfl rfl rfl rfl fn_ca_197 (rnum_ok (x.non) (hx.non)) (Split.nil _) (fun _ _ _ _ _ _ _ => trivial) fun v5 rs5 (e5 : rs5 = _) => ?_)
     subst e5
     refine St.ownForm (p := []) fun a5 c5 ha5 hc5 => ?_
     subst ha5
     refine K_keepT (Weak.drop (Weak.refl _)) ?_
     refine T_keep rfl rfl (W_call rfl rfl rfl rfl fn_ca_198 (rsealed_ok x.sg16 hx.len q) (Split.nil _) (fun _ _ _ _ _ _ _ => trivial) fun v6 rs6 (e6 : rs6 = _) => ?_)
     subst e6
     refine St.ownForm (p := []) fun a6 c6 ha6 hc6 => ?_
     subst ha6
     refine K_keepT (Weak.drop (Weak.refl _)) ?_
     refine T_keep rfl rfl (W_lit (z := .nilIface) ([.slice (some ⟨b8, 0, none⟩) 1 1, .slice a1 (varB x.frm).length c1, .slice a2 (varB x.to).length c2, .slice a3 (varB x.amt).length c3, .slice a4 (varB x.fee).length c4, .slice a5 (varB x.non).length c5, .slice a6 (if q = true then x.sg16 else []).length c6]) rfl rfl rfl ty_sl_42 ty_lz_42 rfl rfl rfl (by decide) (by decide) (by intro v hv; simp only [List.mem_cons, List.not_mem_nil, or_false] at hv; rcases hv with rfl | rfl | rfl | rfl | rfl | rfl | rfl <;> rfl) (rfl) fun b28 => (K_keepT (Weak.drop (Weak.refl _)) ?_))
     refine T_keep rfl rfl (W_call rfl rfl rfl rfl fn_ca_196 (rjoin_ok (some ⟨b28, 0, none⟩) 7 [.slice (some ⟨b8, 0, none⟩) 1 1, .slice a1 (varB x.frm).length c1, .slice a2 (varB x.to).length c2, .slice a3 (varB x.amt).length c3, .slice a4 (varB x.fee).length c4, .slice a5 (varB x.non).length c5, .slice a6 (if q = true then x.sg16 else []).length c6] [[kindB x.kind], varB x.frm, varB x.to, varB x.amt, varB x.fee, varB x.non, if q = true then x.sg16 else []] rfl (Nat.le_refl 7) (show 7 ≤ 100 by decide) hsm) (Split.nil _) (fun w a b _ hb dj m => ⟨(Sn.ofBlk .h0).rw_ w ⟨_, hb, m.le (Heap.le_join_right dj)⟩, BytesL.cons ⟨_, _, rfl, Nat.le_refl 1, (Sn.ofBlk (by first | exact .h0 | exact .h1 | exact .h2 | exact .h3 | exact .h4 | exact .h5 | exact .h6 | exact .h7 | exact .h8)).rw_ w ⟨_, hb, m.le (Heap.le_join_right dj)⟩⟩ (BytesL.cons ⟨_, _, rfl, by omega, (Sn.own (by first | exact .h0 | exact .h1 | exact .h2 | exact .h3 | exact .h4 | exact .h5 | exact .h6 | exact .h7 | exact .h8) rfl).rw_ w ⟨_, hb, m.le (Heap.le_join_right dj)⟩⟩ ( BytesL.cons ⟨_, _, rfl, by omega, (Sn.own (by first | exact .h0 | exact .h1 | exact .h2 | exact .h3 | exact .h4 | exact .h5 | exact .h6 | exact .h7 | exact .h8) rfl).rw_ w ⟨_, hb, m.le (Heap.le_join_right dj)⟩⟩ ( BytesL.cons ⟨_, _, rfl, by omega, (Sn.own (by first | exact .h0 | exact .h1 | exact .h2 | exact .h3 | exact .h4 | exact .h5 | exact .h6 | exact .h7 | exact .h8) rfl).rw_ w ⟨_, hb, m.le (Heap.le_join_right dj)⟩⟩ ( BytesL.cons ⟨_, _, rfl, by omega, (Sn.own (by first | exact .h0 | exact .h1 | exact .h2 | exact .h3 | exact .h4 | exact .h5 | exact .h6 | exact .h7 | exact .h8) rfl).rw_ w ⟨_, hb, m.le (Heap.le_join_right dj)⟩⟩ ( BytesL.cons ⟨_, _, rfl, by omega, (Sn.own (by first | exact .h0 | exact .h1 | exact .h2 | exact .h3 | exact .h4 | exact .h5 | exact .h6 | exact .h7 | exact .h8) rfl).rw_ w ⟨_, hb, m.le (Heap.le_join_right dj)⟩⟩ ( BytesL.cons ⟨_, _, rfl, by omega, (Sn.own (by first | exact .h0 | exact .h1 | exact .h2 | exact .h3 | exact .h4 | exact .h5 | exact .h6 | exact .h7 | exact .h8) rfl).rw_ w ⟨_, hb, m.le (Heap.le_join_right dj)⟩⟩ ( BytesL.nil)))))))⟩) fun v9 rs9 (e9 : rs9 = _) => ?_)
     subst e9
     refine K_keepT (Weak.drop (Weak.refl _)) ?_
     refine T_pure rfl rfl rfl rfl (P_assign rfl rfl) ?_
     refine T_nil ?_
     refine St.env (.cons (t := 4) rfl .nil) ?_
     refine Q_then ?_
     refine R_ret ?_
     exact R_end (rs2 := _) rfl rfl (.tmp rfl .nil) (rfl) (Weak.trans (ownS.to1 (by rw [hfl]) (by rw [hfl])) (Weak.keep (Weak.nil _)))
    ·skip
     refine T_keep rfl rfl (W_call rfl rfl rfl rfl fn_ca_197 (rnum_ok (x.fee) (hx.fee)) (Split.nil _) (fun _ _ _ _ _ _ _ => trivial) fun v4 rs4 (e4 : rs4 = _) => ?_)
     subst e4
     refine St.ownForm (p := []) fun a4 c4 ha4 hc4 => ?_
     subst ha4
     refine K_keepT (Weak.drop (Weak.refl _)) ?_
     refine T_two ?_ ?_
     ·skip
      refine T_keep rfl rfl (W_lit (z := .nilIface) (ints .u8 [kindB x.kind]) rfl rfl rfl ty_sl_48 ty_lz_48 rfl rfl rfl (by decide) (by decide) (by simp [Value.cells]) (rfl) fun b8 => (K_keepT (Weak.drop (Weak.refl _)) ?_))
      refine T_keep rfl rfl (W_call rfl rfl rfl rfl fn_ca_197 (rnum_ok (x.non) (hx.non)) (Split.nil _) (fun _ _ _ _ _ _ _ => trivial) fun v5 rs5 (e5 : rs5 = _) => ?_)
      subst e5
      refine St.ownForm (p := []) fun a5 c5 ha5 hc5 => ?_
      subst ha5
      refine K_keepT (Weak.drop (Weak.refl _)) ?_
      refine T_keep rfl rfl (W_call rfl rfl rfl rfl fn_ca_198 (rsealed_ok x.sg16 hx.len q) (Split.nil _) (fun _ _ _ _ _ _ _ => trivial) fun v6 rs6 (e6 : rs6 = _) => ?_)
      subst e6
      refine St.ownForm (p := []) fun a6 c6 ha6 hc6 => ?_
      subst ha6
      refine K_keepT (Weak.drop (Weak.refl _)) ?_
      refine T_keep rfl rfl (W_lit (z := .nilIface) ([.slice (some ⟨b8, 0, none⟩) 1 1, .slice a1 (varB x.frm).length c1, .slice a2 (varB x.to).length c2, .slice a3 (varB x.amt).length c3, .slice a4 (varB x.fee).length c4, .slice a5 (varB x.non).length c5, .slice a6 (if q = true then x.sg16 else []).length c6]) rfl rfl rfl ty_sl_42 ty_lz_42 rfl rfl rfl (by decide) (by decide) (by intro v hv; simp only [List.mem_cons, List.not_mem_nil, or_false] at hv; rcases hv with rfl | rfl | rfl | rfl | rfl | rfl | rfl <;> rfl) (rfl) fun b28 => (K_keepT (Weak.drop (Weak.refl _)) ?_))
      refine T_keep rfl rfl (W_call rfl rfl rfl rfl fn_ca_196 (rjoin_ok (some ⟨b28, 0, none⟩) 7 [.slice (some ⟨b8, 0, none⟩) 1 1, .slice a1 (varB x.frm).length c1, .slice a2 (varB x.to).length c2, .slice a3 (varB x.amt).length c3, .slice a4 (varB x.fee).length c4, .slice a5 (varB x.non).length c5, .slice a6 (if q = true then x.sg16 else []).length c6] [[kindB x.kind], varB x.frm, varB x.to, varB x.amt, varB x.fee, varB x.non, if q = true then x.sg16 else []] rfl (Nat.le_refl 7) (show 7 ≤ 100 by decide) hsm) (Split.nil _) (fun w a b _ hb dj m => ⟨(Sn.ofBlk .h0).rw_ w ⟨_, hb, m.le (Heap.le_join_right dj)⟩, BytesL.cons ⟨_, _, rfl, Nat.le_refl 1, (Sn.ofBlk (by first | exact .h0 | exact .h1 | exact .h2 | exact .h3 | exact .h4 | exact .h5 | exact .h6 | exact .h7 | exact .h8)).rw_ w ⟨_, hb, m.le (Heap.le_join_right dj)⟩⟩ (BytesL.cons ⟨_, _, rfl, by omega, (Sn.own (by first | exact .h0 | exact .h1 | exact .h2 | exact .h3 | exact .h4 | exact .h5 | exact .h6 | exact .h7 | exact .h8) rfl).rw_ w ⟨_, hb, m.le (Heap.le_join_right dj)⟩⟩ ( BytesL.cons ⟨_, _, rfl, by omega, (Sn.own (by first | exact .h0 | exact .h1 | exact .h2 | exact .h3 | exact .h4 | exact .h5 | exact .h6 | exact .h7 | exact .h8) rfl).rw_ w ⟨_, hb, m.le (Heap.le_join_right dj)⟩⟩ ( BytesL.cons ⟨_, _, rfl, by omega, (Sn.own (by first | exact .h0 | exact .h1 | exact .h2 | exact .h3 | exact .h4 | exact .h5 | exact .h6 | exact .h7 | exact .h8) rfl).rw_ w ⟨_, hb, m.le (Heap.le_join_right dj)⟩⟩ ( BytesL.cons ⟨_, _, rfl, by omega, (Sn.own (by first | exact .h0 | exact .h1 | exact .h2 | exact .h3 | exact .h4 | exact .h5 | exact .h6 | exact .h7 | exact .h8) rfl).rw_ w ⟨_, hb, m.le (Heap.le_join_right dj)⟩⟩ ( BytesL.cons ⟨_, _, rfl, by omega, (Sn.own (by first | exact .h0 | exact .h1 | exact .h2 | exact .h3 | exact .h4 | exact .h5 | exact .h6 | exact .h7 | exact .h8) rfl).rw_ w ⟨_, hb, m.le (Heap.le_join_right dj)⟩⟩ ( BytesL.cons ⟨_, _, rfl, by omega, (Sn.own (by first | exact .h0 | exact .h1 | exact .h2 | exact .h3 | exact .h4 | exact .h5 | exact .h6 | exact .h7 | exact .h8) rfl).rw_ w ⟨_, hb, m.le (Heap.le_join_right dj)⟩⟩ ( BytesL.nil)))))))⟩) fun v9 rs9 (e9 : rs9 = _) => ?_)
      subst e9
      refine K_keepT (Weak.drop (Weak.refl _)) ?_
      refine T_pure rfl rfl rfl rfl (P_assign rfl rfl) ?_
      refine T_nil ?_
      refine St.env (.cons (t := 4) rfl .nil) ?_
      refine Q_then ?_
      refine R_ret ?_
      exact R_end (rs2 := _) rfl rfl (.tmp rfl .nil) (rfl) (Weak.trans (ownS.to1 (by rw [hfl]) (by rw [hfl])) (Weak.keep (Weak.nil _)))
     ·skip
      refine T_keep rfl rfl (W_call rfl rfl rfl rfl fn_ca_197 (rnum_ok (x.non) (hx.non)) (Split.nil _) (fun _ _ _ _ _ _ _ => trivial) fun v5 rs5 (e5 : rs5 = _) => ?_)
      subst e5
      refine St.ownForm (p := []) fun a5 c5 ha5 hc5 => ?_
      subst ha5
      refine K_keepT (Weak.drop (Weak.refl _)) ?_
      refine T_two ?_ ?_
      ·skip
       refine T_keep rfl rfl (W_lit (z := .nilIface) (ints .u8 [kindB x.kind]) rfl rfl rfl ty_sl_48 ty_lz_48 rfl rfl rfl (by decide) (by decide) (by simp [Value.cells]) (rfl) fun b8 => (K_keepT (Weak.drop (Weak.refl _)) ?_))
       refine T_keep rfl rfl (W_call rfl rfl rfl rfl fn_ca_198 (rsealed_ok x.sg16 hx.len q) (Split.nil _) (fun _ _ _ _ _ _ _ => trivial) fun v6 rs6 (e6 : rs6 = _) => ?_)
       subst e6
       refine St.ownForm (p := []) fun a6 c6 ha6 hc6 => ?_
       subst ha6
       refine K_keepT (Weak.drop (Weak.refl _)) ?_
       refine T_keep rfl rfl (W_lit (z := .nilIface) ([.slice (some ⟨b8, 0, none⟩) 1 1, .slice a1 (varB x.frm).length c1, .slice a2 (varB x.to).length c2, .slice a3 (varB x.amt).length c3, .slice a4 (varB x.fee).length c4, .slice a5 (varB x.non).length c5, .slice a6 (if q = true then x.sg16 else []).length c6]) rfl rfl rfl ty_sl_42 ty_lz_42 rfl rfl rfl (by decide) (by decide) (by intro v hv; simp only [List.mem_cons, List.not_mem_nil, or_false] at hv; rcases hv with rfl | rfl | rfl | rfl | rfl | rfl | rfl <;> rfl) (rfl) fun b28 => (K_keepT (Weak.drop (Weak.refl _)) ?_))
       refine T_keep rfl rfl (W_call rfl rfl rfl rfl fn_ca_196 (rjoin_ok (some ⟨b28, 0, none⟩) 7 [.slice (some ⟨b8, 0, none⟩) 1 1, .slice a1 (varB x.frm).length c1, .slice a2 (varB x.to).length c2, .slice a3 (varB x.amt).length c3, .slice a4 (varB x.fee).length c4, .slice a5 (varB x.non).length c5, .slice a6 (if q = true then x.sg16 else []).length c6] [[kindB x.kind], varB x.frm, varB x.to, varB x.amt, varB x.fee, varB x.non, if q = true then x.sg16 else []] rfl (Nat.le_refl 7) (show 7 ≤ 100 by decide) hsm) (Split.nil _) (fun w a b _ hb dj m => ⟨(Sn.ofBlk .h0).rw_ w ⟨_, hb, m.le (Heap.le_join_right dj)⟩, BytesL.cons ⟨_, _, rfl, Nat.le_refl 1, (Sn.ofBlk (by first | exact .h0 | exact .h1 | exact .h2 | exact .h3 | exact .h4 | exact .h5 | exact .h6 | exact .h7 | exact .h8)).rw_ w ⟨_, hb, m.le (Heap.le_join_right dj)⟩⟩ (BytesL.cons ⟨_, _, rfl, by omega, (Sn.own (by first | exact .h0 | exact .h1 | exact .h2 | exact .h3 | exact .h4 | exact .h5 | exact .h6 | exact .h7 | exact .h8) rfl).rw_ w ⟨_, hb, m.le (Heap.le_join_right dj)⟩⟩ ( BytesL.cons ⟨_, _, rfl, by omega, (Sn.own (by first | exact .h0 | exact .h1 | exact .h2 | exact .h3 | exact .h4 | exact .h5 | exact .h6 | exact .h7 | exact .h8) rfl).rw_ w ⟨_, hb, m.le (Heap.le_join_right dj)⟩⟩ ( BytesL.cons ⟨_, _, rfl, by omega, (Sn.own (by first | exact .h0 | exact .h1 | exact .h2 | exact .h3 | exact .h4 | exact .h5 | exact .h6 | exact .h7 | exact .h8) rfl).rw_ w ⟨_, hb, m.le (Heap.le_join_right dj)⟩⟩ ( BytesL.cons ⟨_, _, rfl, by omega, (Sn.own (by first | exact .h0 | exact .h1 | exact .h2 | exact .h3 | exact .h4 | exact .h5 | exact .h6 | exact .h7 | exact .h8) rfl).rw_ w ⟨_, hb, m.le (Heap.le_join_right dj)⟩⟩ ( BytesL.cons ⟨_, _, rfl, by omega, (Sn.own (by first | exact .h0 | exact .h1 | exact .h2 | exact .h3 | exact .h4 | exact .h5 | exact .h6 | exact .h7 | exact .h8) rfl).rw_ w ⟨_, hb, m.le (Heap.le_join_right dj)⟩⟩ ( BytesL.cons ⟨_, _, rfl, by omega, (Sn.own (by first | exact .h0 | exact .h1 | exact .h2 | exact .h3 | exact .h4 | exact .h5 | exact .h6 | exact .h7 | exact .h8) rfl).rw_ w ⟨_, hb, m.le (Heap.le_join_right dj)⟩⟩ ( BytesL.nil)))))))⟩) fun v9 rs9 (e9 : rs9 = _) => ?_)
       subst e9
       refine K_keepT (Weak.drop (Weak.refl _)) ?_
       refine T_pure rfl rfl rfl rfl (P_assign rfl rfl) ?_
       refine T_nil ?_
       refine St.env (.cons (t := 4) rfl .nil) ?_
       refine Q_then ?_
       refine R_ret ?_
       exact R_end (rs2 := _) rfl rfl (.tmp rfl .nil) (rfl) (Weak.trans (ownS.to1 (by rw [hfl]) (by rw [hfl])) (Weak.keep (Weak.nil _)))
      ·skip
       refine T_keep rfl rfl (W_call rfl rfl rfl rfl fn_ca_198 (rsealed_ok x.sg16 hx.len q) (Split.nil _) (fun _ _ _ _ _ _ _ => trivial) fun v6 rs6 (e6 : rs6 = _) => ?_)
       subst e6
       refine St.ownForm (p := []) fun a6 c6 ha6 hc6 => ?_
       subst ha6
       refine K_keepT (Weak.drop (Weak.refl _)) ?_
       refine T_keep rfl rfl (W_lit (z := .nilIface) (ints .u8 [kindB x.kind]) rfl rfl rfl ty_sl_48 ty_lz_48 rfl rfl rfl (by decide) (by decide) (by simp [Value.cells]) (rfl) fun b8 => (K_keepT (Weak.drop (Weak.refl _)) ?_))
       refine T_keep rfl rfl (W_lit (z := .nilIface) ([.slice (some ⟨b8, 0, none⟩) 1 1, .slice a1 (varB x.frm).length c1, .slice a2 (varB x.to).length c2, .slice a3 (varB x.amt).length c3, .slice a4 (varB x.fee).length c4, .slice a5 (varB x.non).length c5, .slice a6 (if q = true then x.sg16 else []).length c6]) rfl rfl rfl ty_sl_42 ty_lz_42 rfl rfl rfl (by decide) (by decide) (by intro v hv; simp only [List.mem_cons, List.not_mem_nil, or_false] at hv; rcases hv with rfl | rfl | rfl | rfl | rfl | rfl | rfl <;> rfl) (rfl) fun b28 => (K_keepT (Weak.drop (Weak.refl _)) ?_))
       refine T_keep rfl rfl (W_call rfl rfl rfl rfl fn_ca_196 (rjoin_ok (some ⟨b28, 0, none⟩) 7 [.slice (some ⟨b8, 0, none⟩) 1 1, .slice a1 (varB x.frm).length c1, .slice a2 (varB x.to).length c2, .slice a3 (varB x.amt).length c3, .slice a4 (varB x.fee).length c4, .slice a5 (varB x.non).length c5, .slice a6 (if q = true then x.sg16 else []).length c6] [[kindB x.kind], varB x.frm, varB x.to, varB x.amt, varB x.fee, varB x.non, if q = true then x.sg16 else []] rfl (Nat.le_refl 7) (show 7 ≤ 100 by decide) hsm) (Split.nil _) (fun w a b _ hb dj m => ⟨(Sn.ofBlk .h0).rw_ w ⟨_, hb, m.le (Heap.le_join_right dj)⟩, BytesL.cons ⟨_, _, rfl, Nat.le_refl 1, (Sn.ofBlk (by first | exact .h0 | exact .h1 | exact .h2 | exact .h3 | exact .h4 | exact .h5 | exact .h6 | exact .h7 | exact .h8)).rw_ w ⟨_, hb, m.le (Heap.le_join_right dj)⟩⟩ (BytesL.cons ⟨_, _, rfl, by omega, (Sn.own (by first | exact .h0 | exact .h1 | exact .h2 | exact .h3 | exact .h4 | exact .h5 | exact .h6 | exact .h7 | exact .h8) rfl).rw_ w ⟨_, hb, m.le (Heap.le_join_right dj)⟩⟩ ( BytesL.cons ⟨_, _, rfl, by omega, (Sn.own (by first | exact .h0 | exact .h1 | exact .h2 | exact .h3 | exact .h4 | exact .h5 | exact .h6 | exact .h7 | exact .h8) rfl).rw_ w ⟨_, hb, m.le (Heap.le_join_right dj)⟩⟩ ( BytesL.cons ⟨_, _, rfl, by omega, (Sn.own (by first | exact .h0 | exact .h1 | exact .h2 | exact .h3 | exact .h4 | exact .h5 | exact .h6 | exact .h7 | exact .h8) rfl).rw_ w ⟨_, hb, m.le (Heap.le_join_right dj)⟩⟩ ( BytesL.cons ⟨_, _, rfl, by omega, (Sn.own (by first | exact .h0 | exact .h1 | exact .h2 | exact .h3 | exact .h4 | exact .h5 | exact .h6 | exact .h7 | exact .h8) rfl).rw_ w ⟨_, hb, m.le (Heap.le_join_right dj)⟩⟩ ( BytesL.cons ⟨_, _, rfl, by omega, (Sn.own (by first | exact .h0 | exact .h1 | exact .h2 | exact .h3 | exact .h4 | exact .h5 | exact .h6 | exact .h7 | exact .h8) rfl).rw_ w ⟨_, hb, m.le (Heap.le_join_right dj)⟩⟩ ( BytesL.cons ⟨_, _, rfl, by omega, (Sn.own (by first | exact .h0 | exact .h1 | exact .h2 | exact .h3 | exact .h4 | exact .h5 | exact .h6 | exact .h7 | exact .h8) rfl).rw_ w ⟨_, hb, m.le (Heap.le_join_right dj)⟩⟩ ( BytesL.nil)))))))⟩) fun v9 rs9 (e9 : rs9 = _) => ?_)
       subst e9
       refine K_keepT (Weak.drop (Weak.refl _)) ?_
       refine T_pure rfl rfl rfl rfl (P_assign rfl rfl) ?_
       refine T_nil ?_
       refine St.env (.cons (t := 4) rfl .nil) ?_
       refine Q_then ?_
       refine R_ret ?_
       exact R_end (rs2 := _) rfl rfl (.tmp rfl .nil) (rfl) (Weak.trans (ownS.to1 (by rw [hfl]) (by rw [hfl])) (Weak.keep (Weak.nil _)))
theorem rtx0_ok {gl : Nat → Obj} (x : Tx) (hx : x.ok) : Spec (cx gl) 154 [.agg x.cells.toArray, .bool false] (fun _ _ => True) [] (fun v rs => rs = [ownS 5 1 (v) ((txB x).length) (ints .u8 (txB x))]) := by
 have h := rtx_ok (gl := gl) x hx false
 simp only [Bool.false_eq_true, if_false, List.append_nil] at h
 exact h
end Go.Proofs.YtfhjhaogmdaepaaGreatDoor

/- Walks: the reference's PlainTx, TxBytes. Printed by gen.py. -/
set_option linter.unusedVariables false
set_option linter.unusedSimpArgs false
set_option maxRecDepth 100000
namespace Go.Proofs.YtfhjhaogmdaepaaGreatDoor
open Go Go.RowKit Go.Proofs
theorem ramount_ok {gl : Nat → Obj} (a : Int) : SpecV (cx gl) 194 [.int .u64 a] noPre (.bool (decide (a ≤ MS))) := by
 refine Spec.enter (C := cx gl) Tryz.func194 rfl 5 rfl rfl fun w0 h0 hsep hsub hpre => ?_
 obtain rfl : h0 = Heap.none := hsep
 show St (cx gl) _ [(0, .int .u64 a)] _ _
 refine R_seq ?_
 refine R_region ?_
 refine L_val rfl rfl rfl (OpP.v (P_assign rfl rfl)) ?_
 refine L_nil ?_
 refine Q_then ?_
 refine R_seq ?_
 refine R_region ?_
 refine L_val rfl rfl rfl (OpP.v (P_move rfl rfl)) ?_
 refine L_val rfl rfl rfl (OpP.v (P_leq rfl rfl rfl)) ?_
 refine L_val rfl rfl rfl (OpP.v (P_assign rfl rfl)) ?_
 refine L_nil ?_
 refine St.env (.cons (t := 2) rfl .nil) ?_
 refine Q_then ?_
 refine R_ret ?_
 exact R_endV rfl rfl (.tmp rfl .nil) (rfl)
theorem rnamed_ok {gl : Nat → Obj} (ch : List Int) : SpecV (cx gl) 151 [.string (strOfNums ch)] noPre (.bool (decide (nameE ch = 0))) := by
 refine Spec.enter (C := cx gl) Tryz.func151 rfl 11 rfl rfl fun w0 h0 hsep hsub hpre => ?_
 obtain rfl : h0 = Heap.none := hsep
 show St (cx gl) _ [(0, .string (strOfNums ch))] _ _
 refine R_seq ?_
 refine R_region ?_
 refine L_val rfl rfl rfl (OpP.v (P_assign rfl rfl)) ?_
 refine L_nil ?_
 refine Q_then ?_
 refine R_seq ?_
 refine R_region ?_
 refine L_val rfl rfl rfl (OpP.v (P_move rfl rfl)) ?_
 refine L_val rfl rfl rfl (OpP.v (P_lenStrN rfl ty_str_9 rfl)) ?_
 refine L_val rfl rfl rfl (OpP.v (P_geq rfl rfl rfl)) ?_
 refine E_bool (t := 5) rfl (fun h1 => ?_) (fun h1 => ?_)
 ·skip
  have h1 := of_decide_eq_true h1
  refine L_val rfl rfl rfl (OpP.v (P_move rfl rfl)) ?_
  refine L_val rfl rfl rfl (OpP.v (P_move rfl rfl)) ?_
  refine L_val rfl rfl rfl (OpP.v (P_lenStrN rfl ty_str_9 rfl)) ?_
  refine L_val rfl rfl rfl (OpP.v (P_leq rfl rfl rfl)) ?_
  refine L_val rfl rfl rfl (OpP.v (P_pick rfl rfl rfl)) ?_
  refine L_val rfl rfl rfl (OpP.v (P_assign rfl rfl)) ?_
  refine L_nil ?_
  refine St.env (.cons (t := 2) rfl .nil) ?_
  refine Q_then ?_
  refine R_ret ?_
  exact R_endV rfl rfl (.tmp rfl .nil) (congrArg Value.bool (by unfold nameE; first | (rw [decide_eq_decide]; split <;> omega) | (refine (decide_eq_false ?_).symm; split <;> omega)))
 ·skip
  have h1 := of_decide_eq_false h1
  refine L_val rfl rfl rfl (OpP.v (P_move rfl rfl)) ?_
  refine L_no rfl rfl rfl ?_
  refine L_no rfl rfl rfl ?_
  refine L_no rfl rfl rfl ?_
  refine L_val rfl rfl rfl (OpP.v (P_pick rfl rfl rfl)) ?_
  refine L_val rfl rfl rfl (OpP.v (P_assign rfl rfl)) ?_
  refine L_nil ?_
  refine St.env (.cons (t := 2) rfl .nil) ?_
  refine Q_then ?_
  refine R_ret ?_
  exact R_endV rfl rfl (.tmp rfl .nil) (congrArg Value.bool (by unfold nameE; first | (rw [decide_eq_decide]; split <;> omega) | (refine (decide_eq_false ?_).symm; split <;> omega)))
theorem rplain_ok {gl : Nat → Obj} (x : Tx) (hx : x.ok) : SpecV (cx gl) 152 [.agg x.cells.toArray] noPre (.int .i64 (plainE x)) := by
 refine Spec.enter (C := cx gl) Tryz.func152 rfl 39 rfl rfl fun w0 h0 hsep hsub hpre => ?_
 obtain rfl : h0 = Heap.none := hsep
 show St (cx gl) _ [(0, .agg x.cells.toArray)] _ _
 have hms : MS = 1152921504606846975 := rfl
 refine R_seq ?_
 refine R_region ?_
 refine L_op rfl (W_box (x.cells) rfl rfl rfl rfl rfl fun b1 => ?_)
 refine L_val rfl rfl rfl (OpP.v (P_assign rfl rfl)) ?_
 refine L_nil ?_
 refine St.env (.cons (t := 1) rfl (.cons (t := 2) rfl .nil)) ?_
 refine Q_then ?_
 refine R_seq ?_
 refine R_seq ?_
 refine R_region ?_
 refine L_val rfl rfl rfl (OpP.v (P_fld0 rfl ty_fl_88_0 rfl)) ?_
 refine L_val rfl rfl rfl (V_load rfl rfl ty_sc_3 (Rd.blk .h0 rfl)) ?_
 refine L_val rfl rfl rfl (OpP.v (P_lss rfl rfl rfl)) ?_
 refine E_bool (t := 5) rfl (fun h1 => ?_) (fun h1 => ?_)
 ·skip
  have h1 := of_decide_eq_true h1
  refine L_val rfl rfl rfl (OpP.v (P_move rfl rfl)) ?_
  refine L_no rfl rfl rfl ?_
  refine L_no rfl rfl rfl ?_
  refine L_no rfl rfl rfl ?_
  refine L_val rfl rfl rfl (OpP.v (P_pick rfl rfl rfl)) ?_
  refine L_nil ?_
  refine St.env (.cons (t := 1) rfl (.cons (t := 2) rfl (.cons (t := 10) rfl .nil))) ?_
  refine Q_then ?_
  refine R_condT rfl ?_
  refine R_seq ?_
  refine R_region ?_
  refine L_val rfl rfl rfl (OpP.v (P_assign rfl rfl)) ?_
  refine L_nil ?_
  refine St.env (.cons (t := 1) rfl (.cons (t := 2) rfl .nil)) ?_
  refine Q_then ?_
  refine R_ret ?_
  refine Q_then_ret ?_
  have h9 : plainE x = 40 := by
   unfold plainE
   (repeat' split) <;> omega
  exact R_endV rfl rfl (.tmp rfl .nil) (by rw [h9]; rfl)
 ·skip
  have h1 := of_decide_eq_false h1
  refine L_val rfl rfl rfl (OpP.v (P_move rfl rfl)) ?_
  refine L_val rfl rfl rfl (OpP.v (P_fld0 rfl ty_fl_88_0 rfl)) ?_
  refine L_val rfl rfl rfl (V_load rfl rfl ty_sc_3 (Rd.blk .h0 rfl)) ?_
  refine L_val rfl rfl rfl (OpP.v (P_gtr rfl rfl rfl)) ?_
  refine L_val rfl rfl rfl (OpP.v (P_pick rfl rfl rfl)) ?_
  refine L_nil ?_
  refine St.env (.cons (t := 1) rfl (.cons (t := 2) rfl (.cons (t := 10) rfl .nil))) ?_
  refine Q_then ?_
  refine R_condP rfl (fun h2 => ?_) (fun h2 => ?_)
  ·skip
   refine R_seq ?_
   refine R_region ?_
   refine L_val rfl rfl rfl (OpP.v (P_assign rfl rfl)) ?_
   refine L_nil ?_
   refine St.env (.cons (t := 1) rfl (.cons (t := 2) rfl .nil)) ?_
   refine Q_then ?_
   refine R_ret ?_
   refine Q_then_ret ?_
   have h9 : plainE x = 40 := by
    unfold plainE
    (repeat' split) <;> omega
   exact R_endV rfl rfl (.tmp rfl .nil) (by rw [h9]; rfl)
  ·skip
   refine R_skip ?_
   refine Q_then ?_
   refine R_seq ?_
   refine R_seq ?_
   refine R_region ?_
   refine L_val rfl rfl rfl (OpP.v (P_fld0 rfl ty_fl_88_1 rfl)) ?_
   refine L_val rfl rfl rfl (V_load rfl rfl ty_sc_27 (Rd.blk .h0 rfl)) ?_
   refine L_val rfl rfl rfl (OpP.v (P_eql rfl rfl rfl)) ?_
   refine L_nil ?_
   refine St.env (.cons (t := 1) rfl (.cons (t := 2) rfl (.cons (t := 13) rfl .nil))) ?_
   refine Q_then ?_
   refine R_condP rfl (fun h3 => ?_) (fun h3 => ?_)
   ·skip
    refine R_seq ?_
    refine R_region ?_
    refine L_val rfl rfl rfl (OpP.v (P_assign rfl rfl)) ?_
    refine L_nil ?_
    refine St.env (.cons (t := 1) rfl (.cons (t := 2) rfl .nil)) ?_
    refine Q_then ?_
    refine R_ret ?_
    refine Q_then_ret ?_
    have h9 : plainE x = 41 := by
     unfold plainE
     (repeat' split) <;> omega
    exact R_endV rfl rfl (.tmp rfl .nil) (by rw [h9]; rfl)
   ·skip
    refine R_skip ?_
    refine Q_then ?_
    refine R_seq ?_
    refine R_seq ?_
    refine R_region ?_
    refine L_val rfl rfl rfl (OpP.v (P_fld0 rfl ty_fl_88_0 rfl)) ?_
    refine L_val rfl rfl rfl (V_load rfl rfl ty_sc_3 (Rd.blk .h0 rfl)) ?_
    refine L_val rfl rfl rfl (OpP.v (P_eql rfl rfl rfl)) ?_
    refine L_val rfl rfl rfl (OpP.v (P_fld0 rfl ty_fl_88_2 rfl)) ?_
    refine L_val rfl rfl rfl (V_load rfl rfl ty_sc_27 (Rd.blk .h0 rfl)) ?_
    refine L_val rfl rfl rfl (OpP.v (P_eql rfl rfl rfl)) ?_
    refine L_val rfl rfl rfl (OpP.v (P_eql_bool rfl ty_bool_4 rfl rfl)) ?_
    refine L_nil ?_
    refine St.env (.cons (t := 1) rfl (.cons (t := 2) rfl (.cons (t := 20) rfl .nil))) ?_
    refine Q_then ?_
    refine R_cond rfl (fun h4 => ?_) (fun h4 => ?_)
    ·skip
     have h4' : (x.kind = 1) ↔ (x.to = 0) := by rw [beq_iff_eq, decide_eq_decide] at h4; exact h4
     refine R_seq ?_
     refine R_region ?_
     refine L_val rfl rfl rfl (OpP.v (P_assign rfl rfl)) ?_
     refine L_nil ?_
     refine St.env (.cons (t := 1) rfl (.cons (t := 2) rfl .nil)) ?_
     refine Q_then ?_
     refine R_ret ?_
     refine Q_then_ret ?_
     have h9 : plainE x = 41 := by
      unfold plainE
      (repeat' split) <;> omega
     exact R_endV rfl rfl (.tmp rfl .nil) (by rw [h9]; rfl)
    ·skip
     have h4' : ¬ ((x.kind = 1) ↔ (x.to = 0)) := by rw [beq_eq_false_iff_ne, ne_eq, decide_eq_decide] at h4; exact h4
     refine R_skip ?_
     refine Q_then ?_
     refine R_seq ?_
     refine R_seq ?_
     refine R_region ?_
     refine L_val rfl rfl rfl (OpP.v (P_fld0 rfl ty_fl_88_3 rfl)) ?_
     refine L_val rfl rfl rfl (V_load rfl rfl ty_sc_24 (Rd.blk .h0 rfl)) ?_
     refine L_op rfl (W_callV rfl rfl rfl rfl fn_ca_194 (ramount_ok x.amt) (fun _ _ => trivial) ?_)
     refine L_val rfl rfl rfl (OpP.v (P_not rfl rfl)) ?_
     refine E_bool (t := 24) rfl (fun h5 => ?_) (fun h5 => ?_)
     ·skip
      have h5' : ¬ x.amt ≤ MS := by simpa using h5
      refine L_val rfl rfl rfl (OpP.v (P_move rfl rfl)) ?_
      refine L_no rfl rfl rfl ?_
      refine L_no rfl rfl rfl ?_
      refine L_no rfl rfl rfl ?_
      refine L_no rfl rfl rfl ?_
      refine L_no rfl rfl rfl ?_
      refine L_no rfl rfl rfl ?_
      refine L_no rfl rfl rfl ?_
      refine L_no rfl rfl rfl ?_
      refine L_val rfl rfl rfl (OpP.v (P_pick rfl rfl rfl)) ?_
      refine L_nil ?_
      refine St.env (.cons (t := 1) rfl (.cons (t := 2) rfl (.cons (t := 34) rfl .nil))) ?_
      refine Q_then ?_
      refine R_condT rfl ?_
      refine R_seq ?_
      refine R_region ?_
      refine L_val rfl rfl rfl (OpP.v (P_assign rfl rfl)) ?_
      refine L_nil ?_
      refine St.env (.cons (t := 1) rfl (.cons (t := 2) rfl .nil)) ?_
      refine Q_then ?_
      refine R_ret ?_
      refine Q_then_ret ?_
      have h9 : plainE x = 41 := by
       unfold plainE
       (repeat' split) <;> omega
      exact R_endV rfl rfl (.tmp rfl .nil) (by rw [h9]; rfl)
     ·skip
      have h5' : x.amt ≤ MS := by simpa using h5
      refine L_val rfl rfl rfl (OpP.v (P_move rfl rfl)) ?_
      refine L_val rfl rfl rfl (OpP.v (P_fld0 rfl ty_fl_88_0 rfl)) ?_
      refine L_val rfl rfl rfl (V_load rfl rfl ty_sc_3 (Rd.blk .h0 rfl)) ?_
      refine L_val rfl rfl rfl (OpP.v (P_eql rfl rfl rfl)) ?_
      refine E_bool (t := 28) rfl (fun h6 => ?_) (fun h6 => ?_)
      ·skip
       have h6 := of_decide_eq_true h6
       refine L_val rfl rfl rfl (OpP.v (P_move rfl rfl)) ?_
       refine L_val rfl rfl rfl (OpP.v (P_fld0 rfl ty_fl_88_3 rfl)) ?_
       refine L_val rfl rfl rfl (V_load rfl rfl ty_sc_24 (Rd.blk .h0 rfl)) ?_
       refine L_val rfl rfl rfl (OpP.v (P_neq rfl rfl rfl)) ?_
       refine L_val rfl rfl rfl (OpP.v (P_pick rfl rfl rfl)) ?_
       refine L_val rfl rfl rfl (OpP.v (P_pick rfl rfl rfl)) ?_
       refine L_nil ?_
       refine St.env (.cons (t := 1) rfl (.cons (t := 2) rfl (.cons (t := 34) rfl .nil))) ?_
       refine Q_then ?_
       refine R_condP rfl (fun h7 => ?_) (fun h7 => ?_)
       ·skip
        refine R_seq ?_
        refine R_region ?_
        refine L_val rfl rfl rfl (OpP.v (P_assign rfl rfl)) ?_
        refine L_nil ?_
        refine St.env (.cons (t := 1) rfl (.cons (t := 2) rfl .nil)) ?_
        refine Q_then ?_
        refine R_ret ?_
        refine Q_then_ret ?_
        have h9 : plainE x = 41 := by
         unfold plainE
         (repeat' split) <;> omega
        exact R_endV rfl rfl (.tmp rfl .nil) (by rw [h9]; rfl)
       ·skip
        refine R_skip ?_
        refine Q_then ?_
        refine R_seq ?_
        refine R_seq ?_
        refine R_region ?_
        refine L_val rfl rfl rfl (OpP.v (P_fld0 rfl ty_fl_88_4 rfl)) ?_
        refine L_val rfl rfl rfl (V_load rfl rfl ty_sc_24 (Rd.blk .h0 rfl)) ?_
        refine L_op rfl (W_callV rfl rfl rfl rfl fn_ca_194 (ramount_ok x.fee) (fun _ _ => trivial) ?_)
        refine L_val rfl rfl rfl (OpP.v (P_not rfl rfl)) ?_
        refine L_nil ?_
        refine St.env (.cons (t := 2) rfl (.cons (t := 38) rfl .nil)) ?_
        refine Q_then ?_
        refine R_cond rfl (fun h8 => ?_) (fun h8 => ?_)
        ·skip
         have h8' : ¬ x.fee ≤ MS := by simpa using h8
         refine R_seq ?_
         refine R_region ?_
         refine L_val rfl rfl rfl (OpP.v (P_assign rfl rfl)) ?_
         refine L_nil ?_
         refine St.env (.cons (t := 2) rfl .nil) ?_
         refine Q_then ?_
         refine R_ret ?_
         refine Q_then_ret ?_
         have h9 : plainE x = 41 := by
          unfold plainE
          (repeat' split) <;> omega
         exact R_endV rfl rfl (.tmp rfl .nil) (by rw [h9]; rfl)
        ·skip
         have h8' : x.fee ≤ MS := by simpa using h8
         refine R_skip ?_
         refine Q_then ?_
         refine R_seq ?_
         refine R_region ?_
         refine L_val rfl rfl rfl (OpP.v (P_assign rfl rfl)) ?_
         refine L_nil ?_
         refine St.env (.cons (t := 2) rfl .nil) ?_
         refine Q_then ?_
         refine R_ret ?_
         have h9 : plainE x = 0 := by
          unfold plainE
          (repeat' split) <;> omega
         exact R_endV rfl rfl (.tmp rfl .nil) (by rw [h9]; rfl)
      ·skip
       have h6 := of_decide_eq_false h6
       refine L_val rfl rfl rfl (OpP.v (P_move rfl rfl)) ?_
       refine L_no rfl rfl rfl ?_
       refine L_no rfl rfl rfl ?_
       refine L_no rfl rfl rfl ?_
       refine L_val rfl rfl rfl (OpP.v (P_pick rfl rfl rfl)) ?_
       refine L_val rfl rfl rfl (OpP.v (P_pick rfl rfl rfl)) ?_
       refine L_nil ?_
       refine St.env (.cons (t := 1) rfl (.cons (t := 2) rfl (.cons (t := 34) rfl .nil))) ?_
       refine Q_then ?_
       refine R_condF rfl ?_
       refine R_skip ?_
       refine Q_then ?_
       refine R_seq ?_
       refine R_seq ?_
       refine R_region ?_
       refine L_val rfl rfl rfl (OpP.v (P_fld0 rfl ty_fl_88_4 rfl)) ?_
       refine L_val rfl rfl rfl (V_load rfl rfl ty_sc_24 (Rd.blk .h0 rfl)) ?_
       refine L_op rfl (W_callV rfl rfl rfl rfl fn_ca_194 (ramount_ok x.fee) (fun _ _ => trivial) ?_)
       refine L_val rfl rfl rfl (OpP.v (P_not rfl rfl)) ?_
       refine L_nil ?_
       refine St.env (.cons (t := 2) rfl (.cons (t := 38) rfl .nil)) ?_
       refine Q_then ?_
       refine R_cond rfl (fun h8 => ?_) (fun h8 => ?_)
       ·skip
        have h8' : ¬ x.fee ≤ MS := by simpa using h8
        refine R_seq ?_
        refine R_region ?_
        refine L_val rfl rfl rfl (OpP.v (P_assign rfl rfl)) ?_
        refine L_nil ?_
        refine St.env (.cons (t := 2) rfl .nil) ?_
        refine Q_then ?_
        refine R_ret ?_
        refine Q_then_ret ?_
        have h9 : plainE x = 41 := by
         unfold plainE
         (repeat' split) <;> omega
        exact R_endV rfl rfl (.tmp rfl .nil) (by rw [h9]; rfl)
       ·skip
        have h8' : x.fee ≤ MS := by simpa using h8
        refine R_skip ?_
        refine Q_then ?_
        refine R_seq ?_
        refine R_region ?_
        refine L_val rfl rfl rfl (OpP.v (P_assign rfl rfl)) ?_
        refine L_nil ?_
        refine St.env (.cons (t := 2) rfl .nil) ?_
        refine Q_then ?_
        refine R_ret ?_
        have h9 : plainE x = 0 := by
         unfold plainE
         (repeat' split) <;> omega
        exact R_endV rfl rfl (.tmp rfl .nil) (by rw [h9]; rfl)
theorem nameE_bad {ch : List Int} (h : nameE ch ≠ 0) : nameE ch = 41 := by
 unfold nameE at h ⊢; split at h
 ·rename_i h1; rw [if_pos h1]
 ·omega
theorem txbE_name {ch : List Int} {x : Tx} (h : nameE ch ≠ 0) : txbE ch x = 41 := by unfold txbE; rw [if_pos h, nameE_bad h]
theorem txbE_rest {ch : List Int} {x : Tx} (h : nameE ch = 0) : txbE ch x = plainE x := by unfold txbE; rw [if_neg (by rw [h]; simp)]
theorem rtxBytes_ok {gl : Nat → Obj} (ch : List Int) (hb : IsB ch) (x : Tx) (hx : x.ok) : Spec (cx gl) 99 [.string (strOfNums ch), .agg x.cells.toArray] (fun _ _ => True) [] (fun v rs => ∃ u, v = .tuple #[u, .int .i64 (txbE ch x)] ∧ rs = [ownS 5 1 (u) ((txbB ch x).length) (ints .u8 (txbB ch x))]) := by
 refine Spec.enter (C := cx gl) Tryz.func99 rfl 22 rfl rfl fun w0 h0 hsep hsub hpre => ?_
 obtain rfl : h0 = Heap.none := hsep
 show St (cx gl) _ [(0, .string (strOfNums ch)), (1, .agg x.cells.toArray)] _ _
 refine R_seq ?_
 refine R_region ?_
 refine L_op rfl (W_box (x.cells) rfl rfl rfl rfl rfl fun b3 => ?_)
 refine L_val rfl rfl rfl (OpP.v (P_assign rfl rfl)) ?_
 refine L_val rfl rfl rfl (OpP.v (P_assign rfl rfl)) ?_
 refine L_nil ?_
 refine St.env (.cons (t := 0) rfl (.cons (t := 3) rfl (.cons (t := 4) rfl (.cons (t := 5) rfl .nil)))) ?_
 refine Q_then ?_
 refine R_seq ?_
 refine R_seq ?_
 refine R_region ?_
 refine L_val rfl rfl rfl (OpP.v (P_move rfl rfl)) ?_
 refine L_op rfl (W_callV rfl rfl rfl rfl fn_ca_151 (rnamed_ok ch) (fun _ _ => trivial) ?_)
 refine L_val rfl rfl rfl (OpP.v (P_not rfl rfl)) ?_
 refine L_nil ?_
 refine St.env (.cons (t := 0) rfl (.cons (t := 3) rfl (.cons (t := 4) rfl (.cons (t := 5) rfl (.cons (t := 9) rfl .nil))))) ?_
 refine Q_then ?_
 refine R_cond rfl (fun h1 => ?_) (fun h1 => ?_)
 ·skip
  have hn : nameE ch ≠ 0 := by simpa using h1
  refine R_seq ?_
  refine R_region ?_
  refine L_val rfl rfl rfl (OpP.v (P_assign rfl rfl)) ?_
  refine L_val rfl rfl rfl (OpP.v (P_assign rfl rfl)) ?_
  refine L_nil ?_
  refine St.env (.cons (t := 0) rfl (.cons (t := 3) rfl (.cons (t := 4) rfl (.cons (t := 5) rfl .nil)))) ?_
  refine Q_then ?_
  refine R_ret ?_
  refine Q_then_ret ?_
  exact R_end (rs2 := [ownS 5 1 (.slice none 0 0) ((txbB ch x).length) (ints .u8 (txbB ch x))]) rfl rfl (.tmp rfl (.tmp rfl .nil)) (⟨_, by rw [txbE_name hn]; rfl, rfl⟩) (by rw [txbB_bad (by rw [txbE_name hn]; decide)]; exact Weak.trans (Weak.newNil (T := 5) (sz := 1)) (Weak.keep (Weak.nil _)))
 ·skip
  have hn : nameE ch = 0 := by simpa using h1
  obtain ⟨hc1, hc2⟩ := nameE_fine hn
  have hvl := varB_len (ch.length : Int)
  have htl := txB_len x
  refine R_skip ?_
  refine Q_then ?_
  refine R_seq ?_
  refine R_seq ?_
  refine R_region ?_
  refine L_val rfl rfl rfl (V_loadAgg rfl rfl ty_ag_88 (Rds.blk .h0) (hx.cellsLen)) ?_
  refine L_op rfl (W_callV rfl rfl rfl rfl fn_ca_152 (rplain_ok x hx) (fun _ _ => trivial) ?_)
  refine L_val rfl rfl rfl (OpP.v (P_assign rfl rfl)) ?_
  refine L_nil ?_
  refine St.env (.cons (t := 0) rfl (.cons (t := 3) rfl (.cons (t := 4) rfl (.cons (t := 5) rfl (.cons (t := 6) rfl .nil))))) ?_
  refine Q_then ?_
  refine R_seq ?_
  refine R_region ?_
  refine L_val rfl rfl rfl (OpP.v (P_move rfl rfl)) ?_
  refine L_val rfl rfl rfl (OpP.v (P_neq rfl rfl rfl)) ?_
  refine L_nil ?_
  refine St.env (.cons (t := 0) rfl (.cons (t := 3) rfl (.cons (t := 4) rfl (.cons (t := 5) rfl (.cons (t := 6) rfl (.cons (t := 13) rfl .nil)))))) ?_
  refine Q_then ?_
  refine R_condP rfl (fun hp => ?_) (fun hp => ?_)
  ·skip
   refine R_seq ?_
   refine R_region ?_
   refine L_val rfl rfl rfl (OpP.v (P_move rfl rfl)) ?_
   refine L_val rfl rfl rfl (OpP.v (P_assign rfl rfl)) ?_
   refine L_val rfl rfl rfl (OpP.v (P_assign rfl rfl)) ?_
   refine L_nil ?_
   refine St.env (.cons (t := 0) rfl (.cons (t := 3) rfl (.cons (t := 4) rfl (.cons (t := 5) rfl .nil)))) ?_
   refine Q_then ?_
   refine R_ret ?_
   refine Q_then_ret ?_
   exact R_end (rs2 := [ownS 5 1 (.slice none 0 0) ((txbB ch x).length) (ints .u8 (txbB ch x))]) rfl rfl (.tmp rfl (.tmp rfl .nil)) (⟨_, by rw [txbE_rest hn]; rfl, rfl⟩) (by rw [txbB_bad (by rw [txbE_rest hn]; exact hp)]; exact Weak.trans (Weak.newNil (T := 5) (sz := 1)) (Weak.keep (Weak.nil _)))
  ·skip
   have hp : plainE x = 0 := Classical.not_not.1 hp
   have he : txbE ch x = 0 := by rw [txbE_rest hn, hp]
   have hsl := saidB_length ch x
   refine R_skip ?_
   refine Q_then ?_
   refine R_seq ?_
   refine TQ_open (.op 1 0 (.op 4 1 (.two 0 2 (.op 2 2 (.op 3 2 (.op 5 2 (.op 6 2 (.op 7 0 (.op 8 0 .nil)))))) (.op 0 2 (.op 3 2 (.op 5 2 (.op 6 2 (.op 7 0 (.op 8 0 .nil))))))))) [blk b3 x.cells 88] (Weak.refl _) mixed (by kernel_rfl) (QOk.then QOk.body) ?_
   refine TQ_pure rfl rfl rfl rfl (P_move rfl rfl) ?_
   refine TQ_val rfl rfl rfl rfl (V_loadAgg rfl rfl ty_ag_88 (Rds.blk .h0) (hx.cellsLen)) ?_
   refine TQ_two ?_ ?_
   ·skip
    refine TQ_keep rfl rfl (W_lit (z := .nilIface) (ints .u8 [84]) rfl rfl rfl ty_sl_48 ty_lz_48 rfl rfl rfl (by decide) (by decide) (by simp [Value.cells]) (rfl) fun b15 => (K_keepTQ (by repeat (first | exact Weak.refl _ | refine Weak.drop ?_)) ?_))
    refine TQ_keep rfl rfl (W_call rfl rfl rfl rfl fn_ca_153 (rtext_ok ch hb (by omega)) (Split.nil _) (fun _ _ _ _ _ _ _ => trivial) fun v1 rs1 (e1 : rs1 = _) => ?_)
    subst e1
    refine St.ownForm (p := []) fun tb tc htv htc => ?_
    subst htv
    refine K_keepTQ (by repeat (first | exact Weak.refl _ | refine Weak.drop ?_)) ?_
    refine TQ_keep rfl rfl (W_appendFull (n := 1) rfl rfl rfl ty_sl_48 ty_ap_48 ty_src_48 rfl rfl (Rds.blk (by first | exact .h0 | exact .h1 | exact .h2 | exact .h3)) rfl (Src.row (sz := 1) (Sn.own (by first | exact .h0 | exact .h1 | exact .h2 | exact .h3) rfl).rw_ (by rw [ints_length, List.length_append]; omega) ints_one) (by omega) (by omega) (by simp only [maxLen]; omega) fun v18 => (K_keepTQ (by repeat (first | exact Weak.refl _ | refine Weak.drop ?_)) ?_))
    refine TQ_keep rfl rfl (W_call rfl rfl rfl rfl fn_ca_154 (rtx0_ok x hx) (Split.nil _) (fun _ _ _ _ _ _ _ => trivial) fun v2 rs2 (e2 : rs2 = _) => ?_)
    subst e2
    refine St.ownForm (p := []) fun xb xc hxv hxc => ?_
    subst hxv
    refine K_keepTQ (by repeat (first | exact Weak.refl _ | refine Weak.drop ?_)) ?_
    refine TQ_keep rfl rfl (W_append (p := [_]) rfl rfl rfl ty_sl_48 ty_ap_48 ty_src_48 rfl rfl rfl (Src.row (sz := 1) (Sn.own .h0 rfl).rw_ (by rw [ints_length]; omega) ints_one) (by omega) (by simp only [maxLen]; omega) fun v21 => (K_keepTQ (by repeat (first | exact Weak.refl _ | refine Weak.drop ?_)) ?_))
    refine TQ_pure rfl rfl rfl rfl (P_assign rfl rfl) ?_
    refine TQ_pure rfl rfl rfl rfl (P_assign rfl rfl) ?_
    refine TQ_nil ?_
    refine St.env (.cons (t := 4) rfl (.cons (t := 5) rfl .nil)) ?_
    refine Q_then ?_
    refine R_ret ?_
    exact R_end (rs2 := _) rfl rfl (.tmp rfl (.tmp rfl .nil)) (⟨_, by rw [he]; rfl, rfl⟩) (Weak.drop (Weak.trans (ownS.to1 (by rw [txbB_fine he]; omega) (by rw [txbB_fine he, ints_append, ints_append]; simp only [saidB, List.cons_append, List.nil_append])) (Weak.keep (Weak.nil _))))
   ·skip
    refine TQ_keep rfl rfl (W_call rfl rfl rfl rfl fn_ca_153 (rtext_ok ch hb (by omega)) (Split.nil _) (fun _ _ _ _ _ _ _ => trivial) fun v1 rs1 (e1 : rs1 = _) => ?_)
    subst e1
    refine St.ownForm (p := []) fun tb tc htv htc => ?_
    subst htv
    refine K_keepTQ (by repeat (first | exact Weak.refl _ | refine Weak.drop ?_)) ?_
    refine TQ_keep rfl rfl (W_lit (z := .nilIface) (ints .u8 [84]) rfl rfl rfl ty_sl_48 ty_lz_48 rfl rfl rfl (by decide) (by decide) (by simp [Value.cells]) (rfl) fun b15 => (K_keepTQ (by repeat (first | exact Weak.refl _ | refine Weak.drop ?_)) ?_))
    refine TQ_keep rfl rfl (W_appendFull (n := 1) rfl rfl rfl ty_sl_48 ty_ap_48 ty_src_48 rfl rfl (Rds.blk (by first | exact .h0 | exact .h1 | exact .h2 | exact .h3)) rfl (Src.row (sz := 1) (Sn.own (by first | exact .h0 | exact .h1 | exact .h2 | exact .h3) rfl).rw_ (by rw [ints_length, List.length_append]; omega) ints_one) (by omega) (by omega) (by simp only [maxLen]; omega) fun v18 => (K_keepTQ (by repeat (first | exact Weak.refl _ | refine Weak.drop ?_)) ?_))
    refine TQ_keep rfl rfl (W_call rfl rfl rfl rfl fn_ca_154 (rtx0_ok x hx) (Split.nil _) (fun _ _ _ _ _ _ _ => trivial) fun v2 rs2 (e2 : rs2 = _) => ?_)
    subst e2
    refine St.ownForm (p := []) fun xb xc hxv hxc => ?_
    subst hxv
    refine K_keepTQ (by repeat (first | exact Weak.refl _ | refine Weak.drop ?_)) ?_
    refine TQ_keep rfl rfl (W_append (p := [_]) rfl rfl rfl ty_sl_48 ty_ap_48 ty_src_48 rfl rfl rfl (Src.row (sz := 1) (Sn.own .h0 rfl).rw_ (by rw [ints_length]; omega) ints_one) (by omega) (by simp only [maxLen]; omega) fun v21 => (K_keepTQ (by repeat (first | exact Weak.refl _ | refine Weak.drop ?_)) ?_))
    refine TQ_pure rfl rfl rfl rfl (P_assign rfl rfl) ?_
    refine TQ_pure rfl rfl rfl rfl (P_assign rfl rfl) ?_
    refine TQ_nil ?_
    refine St.env (.cons (t := 4) rfl (.cons (t := 5) rfl .nil)) ?_
    refine Q_then ?_
    refine R_ret ?_
    exact R_end (rs2 := _) rfl rfl (.tmp rfl (.tmp rfl .nil)) (⟨_, by rw [he]; rfl, rfl⟩) (Weak.drop (Weak.trans (ownS.to1 (by rw [txbB_fine he]; omega) (by rw [txbB_fine he, ints_append, ints_append]; simp only [saidB, List.cons_append, List.nil_append])) (Weak.keep (Weak.nil _))))
end Go.Proofs.YtfhjhaogmdaepaaGreatDoor

/- Walks: made, Check. Printed by gen.py. -/
set_option linter.unusedVariables false
set_option linter.unusedSimpArgs false
set_option maxRecDepth 100000
namespace Go.Proofs.YtfhjhaogmdaepaaGreatDoor
open Go Go.RowKit Go.Proofs
theorem made_ok {gl : Nat → Obj} (q : Nat) (sg : List (Int × Nat)) (rc : List Rcd) : SpecR (cx gl) 109 [.pointer (some ⟨q, 0, none⟩)] (fun _ _ => True) [REG q sg rc] (.bool true) [REG q sg rc] := by
 refine Spec.enter (C := cx gl) Tryz.func109 rfl 12 rfl rfl fun w0 h0 hsep hsub hpre => ?_
 show St (cx gl) _ [(0, .pointer (some ⟨q, 0, none⟩))] _ _
 refine R_seq ?_
 refine R_region ?_
 refine L_val rfl rfl rfl (OpP.v (P_assign rfl rfl)) ?_
 refine L_nil ?_
 refine Q_then ?_
 refine R_seq ?_
 refine R_region ?_
 refine L_val rfl rfl rfl (OpP.v (P_move rfl rfl)) ?_
 refine L_op rfl (W_callR rfl rfl rfl rfl fn_ca_97 (enter_zero q sg rc) (Weak.refl _) (fun _ _ _ _ _ _ _ => trivial) ?_)
 refine L_val rfl rfl rfl (OpP.v (P_move rfl rfl)) ?_
 refine L_val rfl rfl rfl (OpP.v (P_extract rfl rfl rfl)) ?_
 refine L_val rfl rfl rfl (OpP.v (P_extract rfl rfl rfl)) ?_
 refine L_val rfl rfl rfl (OpP.v (P_assign rfl rfl)) ?_
 refine L_val rfl rfl rfl (OpP.v (P_assign rfl rfl)) ?_
 refine L_nil ?_
 refine St.env (.cons (t := 2) rfl (.cons (t := 4) rfl .nil)) ?_
 refine Q_then ?_
 refine R_seq ?_
 refine R_region ?_
 refine L_val rfl rfl rfl (OpP.v (P_move rfl rfl)) ?_
 refine L_val rfl rfl rfl (OpP.v (P_neq rfl rfl rfl)) ?_
 refine E_true (t := 11) rfl (rfl) ?_
 refine L_val rfl rfl rfl (OpP.v (P_assign rfl rfl)) ?_
 refine L_nil ?_
 refine St.env (.cons (t := 2) rfl .nil) ?_
 refine Q_then ?_
 refine R_ret ?_
 exact R_end (rs2 := _) rfl rfl (.tmp rfl .nil) (⟨rfl, rfl⟩) (Weak.refl _)
set_option maxHeartbeats 1000000 in
theorem lcheck_ok {gl : Nat → Obj} (hG : Globs gl) (q : Nat) (sg : List (Int × Nat)) (rc : List Rcd) (base : Option Addr) (c : Nat) (l : List Acc) (hc : l.length ≤ c) (hm : l.length ≤ 3518437208800) (base' : Option Addr) (c' : Nat) (r : List Rel) (hc' : r.length ≤ c') (hm' : r.length ≤ 4398046511104) (bu su : Int) (ch : List Int) (hcb : IsB ch) (p : Par) (hp3 : u64 p.p3) (h : Int) (hh : u64 h) (x : Tx) (hx : x.ok) : SpecR (cx gl) 46 [.agg (ledV (.slice base l.length c) (.slice base' r.length c') bu su).toArray, .pointer (some ⟨q, 0, none⟩), .string (strOfNums ch), .agg p.cells.toArray, .int .u64 h, .agg x.cells.toArray] (fun w hp => Seen w hp base (Go.Proofs.YtfhjhaogmdaepaaGreatDoor.rc l) ∧ Seen w hp base' (Go.Proofs.YtfhjhaogmdaepaaGreatDoor.rc r)) [REG q sg rc] (.int .i64 (chkE rc ch (⟨l, r, bu, su⟩ : Led) p h x)) [REG q sg rc] := by
 refine Spec.enter (C := cx gl) Tryz.func46 rfl 86 rfl rfl fun w0 h0 hsep hsub hpre => ?_
 show St (cx gl) _ [(0, .agg (ledV (.slice base l.length c) (.slice base' r.length c') bu su).toArray), (1, .pointer (some ⟨q, 0, none⟩)), (2, .string (strOfNums ch)), (3, .agg p.cells.toArray), (4, .int .u64 h), (5, .agg x.cells.toArray)] _ _
 obtain ⟨hh0, hh1⟩ := hh
 have hnn := hx.non
 refine R_seq ?_
 refine R_region ?_
 refine L_op rfl (W_box (ledV (.slice base l.length c) (.slice base' r.length c') bu su) rfl rfl rfl rfl rfl fun b6 => ?_)
 refine L_op rfl (W_box (p.cells) rfl rfl rfl rfl rfl fun b9 => ?_)
 refine L_op rfl (W_box (x.cells) rfl rfl rfl rfl rfl fun b11 => ?_)
 refine L_val rfl rfl rfl (OpP.v (P_assign rfl rfl)) ?_
 refine L_nil ?_
 refine St.env (.cons (t := 1) rfl (.cons (t := 2) rfl (.cons (t := 4) rfl (.cons (t := 6) rfl (.cons (t := 9) rfl (.cons (t := 11) rfl (.cons (t := 12) rfl .nil))))))) ?_
 refine Q_then ?_
 refine R_seq ?_
 refine R_seq ?_
 refine St.res (rs' := [REG q sg rc, blk b11 x.cells 88, blk b9 p.cells 62, blk b6 (ledV (.slice base l.length c) (.slice base' r.length c') bu su) 26]) (Weak.pick (p := [_, _, _]) (Weak.keep (Weak.keep (Weak.keep (Weak.nil _))))) ?_
 refine R_region ?_
 refine L_val rfl rfl rfl (OpP.v (P_move rfl rfl)) ?_
 refine L_val rfl rfl rfl (OpP.v (P_eqNil rfl ty_ptr_96 rfl rfl)) ?_
 refine L_val rfl rfl rfl (OpP.v (P_move rfl rfl)) ?_
 refine L_val rfl rfl rfl (OpP.v (P_move rfl rfl)) ?_
 refine L_op rfl (W_callR rfl rfl rfl rfl fn_ca_109 (made_ok q sg rc) (Split.one (p := [])) (fun _ _ _ _ _ _ _ => trivial) ?_)
 refine L_val rfl rfl rfl (OpP.v (P_not rfl rfl)) ?_
 refine E_false (t := 22) rfl (rfl) ?_
 refine L_val rfl rfl rfl (OpP.v (P_pick rfl rfl rfl)) ?_
 refine L_nil ?_
 refine St.env (.cons (t := 1) rfl (.cons (t := 2) rfl (.cons (t := 4) rfl (.cons (t := 6) rfl (.cons (t := 9) rfl (.cons (t := 11) rfl (.cons (t := 12) rfl (.cons (t := 23) rfl .nil)))))))) ?_
 refine Q_then ?_
 refine R_condF rfl ?_
 refine R_skip ?_
 refine Q_then ?_
 refine R_seq ?_
 refine R_seq ?_
 refine R_region ?_
 refine L_val rfl rfl rfl (OpP.v (P_move rfl rfl)) ?_
 refine L_val rfl rfl rfl (OpP.v (P_eql rfl rfl rfl)) ?_
 refine E_bool (t := 25) rfl (fun h1 => ?_) (fun h1 => ?_)
 ·skip
  have h1 := of_decide_eq_true h1
  refine L_val rfl rfl rfl (OpP.v (P_move rfl rfl)) ?_
  refine L_no rfl rfl rfl ?_
  refine L_no rfl rfl rfl ?_
  refine L_val rfl rfl rfl (OpP.v (P_pick rfl rfl rfl)) ?_
  refine L_val rfl rfl rfl (OpP.v (P_move rfl rfl)) ?_
  refine L_no rfl rfl rfl ?_
  refine L_no rfl rfl rfl ?_
  refine L_no rfl rfl rfl ?_
  refine L_val rfl rfl rfl (OpP.v (P_pick rfl rfl rfl)) ?_
  refine L_nil ?_
  refine St.env (.cons (t := 1) rfl (.cons (t := 2) rfl (.cons (t := 4) rfl (.cons (t := 6) rfl (.cons (t := 9) rfl (.cons (t := 11) rfl (.cons (t := 12) rfl (.cons (t := 34) rfl .nil)))))))) ?_
  refine Q_then ?_
  refine R_condT rfl ?_
  refine R_seq ?_
  refine R_region ?_
  refine L_val rfl rfl rfl (OpP.v (P_assign rfl rfl)) ?_
  refine L_nil ?_
  refine St.env (.cons (t := 1) rfl (.cons (t := 2) rfl (.cons (t := 4) rfl (.cons (t := 6) rfl (.cons (t := 9) rfl (.cons (t := 11) rfl (.cons (t := 12) rfl .nil))))))) ?_
  refine Q_then ?_
  refine R_ret ?_
  refine Q_then_ret ?_
  exact R_end (rs2 := [REG q sg rc]) rfl rfl (.tmp rfl .nil) (⟨by rw [show chkE rc ch (⟨l, r, bu, su⟩ : Led) p h x = 2 by unfold chkE; rw [if_pos (by unfold timeB; omega)]]; rfl, rfl⟩) (Weak.keep (Weak.nil _))
 ·skip
  have h1 := of_decide_eq_false h1
  refine L_val rfl rfl rfl (OpP.v (P_move rfl rfl)) ?_
  refine L_val rfl rfl rfl (OpP.v (P_move rfl rfl)) ?_
  refine L_val rfl rfl rfl (OpP.v (P_gtr rfl rfl rfl)) ?_
  refine E_bool (t := 28) rfl (fun h2 => ?_) (fun h2 => ?_)
  ·skip
   have h2 := of_decide_eq_true h2
   refine L_val rfl rfl rfl (OpP.v (P_pick rfl rfl rfl)) ?_
   refine L_val rfl rfl rfl (OpP.v (P_move rfl rfl)) ?_
   refine L_no rfl rfl rfl ?_
   refine L_no rfl rfl rfl ?_
   refine L_no rfl rfl rfl ?_
   refine L_val rfl rfl rfl (OpP.v (P_pick rfl rfl rfl)) ?_
   refine L_nil ?_
   refine St.env (.cons (t := 1) rfl (.cons (t := 2) rfl (.cons (t := 4) rfl (.cons (t := 6) rfl (.cons (t := 9) rfl (.cons (t := 11) rfl (.cons (t := 12) rfl (.cons (t := 34) rfl .nil)))))))) ?_
   refine Q_then ?_
   refine R_condT rfl ?_
   refine R_seq ?_
   refine R_region ?_
   refine L_val rfl rfl rfl (OpP.v (P_assign rfl rfl)) ?_
   refine L_nil ?_
   refine St.env (.cons (t := 1) rfl (.cons (t := 2) rfl (.cons (t := 4) rfl (.cons (t := 6) rfl (.cons (t := 9) rfl (.cons (t := 11) rfl (.cons (t := 12) rfl .nil))))))) ?_
   refine Q_then ?_
   refine R_ret ?_
   refine Q_then_ret ?_
   exact R_end (rs2 := [REG q sg rc]) rfl rfl (.tmp rfl .nil) (⟨by rw [show chkE rc ch (⟨l, r, bu, su⟩ : Led) p h x = 2 by unfold chkE; rw [if_pos (by unfold timeB; omega)]]; rfl, rfl⟩) (Weak.keep (Weak.nil _))
  ·skip
   have h2 := of_decide_eq_false h2
   refine L_val rfl rfl rfl (OpP.v (P_pick rfl rfl rfl)) ?_
   refine L_val rfl rfl rfl (OpP.v (P_move rfl rfl)) ?_
   refine L_val rfl rfl rfl (OpP.v (P_fld0 rfl ty_fl_62_3 rfl)) ?_
   refine L_val rfl rfl rfl (V_load rfl rfl ty_sc_24 (Rd.blk .h2 rfl)) ?_
   refine L_val rfl rfl rfl (OpP.v (P_gtr rfl rfl rfl)) ?_
   refine L_val rfl rfl rfl (OpP.v (P_pick rfl rfl rfl)) ?_
   refine L_nil ?_
   refine St.env (.cons (t := 1) rfl (.cons (t := 2) rfl (.cons (t := 4) rfl (.cons (t := 6) rfl (.cons (t := 9) rfl (.cons (t := 11) rfl (.cons (t := 12) rfl (.cons (t := 34) rfl .nil)))))))) ?_
   refine Q_then ?_
   refine R_condP rfl (fun h3 => ?_) (fun h3 => ?_)
   ·skip
    refine R_seq ?_
    refine R_region ?_
    refine L_val rfl rfl rfl (OpP.v (P_assign rfl rfl)) ?_
    refine L_nil ?_
    refine St.env (.cons (t := 1) rfl (.cons (t := 2) rfl (.cons (t := 4) rfl (.cons (t := 6) rfl (.cons (t := 9) rfl (.cons (t := 11) rfl (.cons (t := 12) rfl .nil))))))) ?_
    refine Q_then ?_
    refine R_ret ?_
    refine Q_then_ret ?_
    exact R_end (rs2 := [REG q sg rc]) rfl rfl (.tmp rfl .nil) (⟨by rw [show chkE rc ch (⟨l, r, bu, su⟩ : Led) p h x = 2 by unfold chkE; rw [if_pos (by unfold timeB; omega)]]; rfl, rfl⟩) (Weak.keep (Weak.nil _))
   ·skip
    have ht : ¬ timeB p h := by unfold timeB; omega
    refine R_skip ?_
    refine Q_then ?_
    refine R_seq ?_
    refine R_region ?_
    refine L_val rfl rfl rfl (OpP.v (P_move rfl rfl)) ?_
    refine L_val rfl rfl rfl (V_loadAgg rfl rfl ty_ag_88 (Rds.blk .h1) (hx.cellsLen)) ?_
    refine L_op rfl (W_call rfl rfl rfl rfl fn_ca_110 (txBytes_ok ch hcb x hx) (Split.nil _) (fun _ _ _ _ _ _ _ => trivial) fun v1 rs1 ⟨u, e1, e2⟩ => ?_)
    subst e1; subst e2
    refine St.ownForm (p := []) fun ub uc huv huc => ?_
    subst huv
    refine L_val rfl rfl rfl (OpP.v (P_move rfl rfl)) ?_
    refine L_val rfl rfl rfl (OpP.v (P_extract rfl rfl rfl)) ?_
    refine L_val rfl rfl rfl (OpP.v (P_extract rfl rfl rfl)) ?_
    refine L_val rfl rfl rfl (OpP.v (P_assign rfl rfl)) ?_
    refine L_val rfl rfl rfl (OpP.v (P_assign rfl rfl)) ?_
    refine L_nil ?_
    refine St.env (.cons (t := 1) rfl (.cons (t := 4) rfl (.cons (t := 6) rfl (.cons (t := 9) rfl (.cons (t := 11) rfl (.cons (t := 12) rfl (.cons (t := 13) rfl (.cons (t := 14) rfl .nil)))))))) ?_
    refine Q_then ?_
    refine R_seq ?_
    refine R_seq ?_
    refine R_region ?_
    refine L_val rfl rfl rfl (OpP.v (P_move rfl rfl)) ?_
    refine L_val rfl rfl rfl (OpP.v (P_neq rfl rfl rfl)) ?_
    refine L_nil ?_
    refine St.env (.cons (t := 1) rfl (.cons (t := 4) rfl (.cons (t := 6) rfl (.cons (t := 9) rfl (.cons (t := 11) rfl (.cons (t := 12) rfl (.cons (t := 13) rfl (.cons (t := 14) rfl (.cons (t := 42) rfl .nil))))))))) ?_
    refine Q_then ?_
    refine R_condP rfl (fun he => ?_) (fun he => ?_)
    ·skip
     refine R_seq ?_
     refine R_region ?_
     refine L_val rfl rfl rfl (OpP.v (P_move rfl rfl)) ?_
     refine L_val rfl rfl rfl (OpP.v (P_assign rfl rfl)) ?_
     refine L_nil ?_
     refine St.env (.cons (t := 1) rfl (.cons (t := 4) rfl (.cons (t := 6) rfl (.cons (t := 9) rfl (.cons (t := 11) rfl (.cons (t := 12) rfl (.cons (t := 13) rfl .nil))))))) ?_
     refine Q_then ?_
     refine R_ret ?_
     refine Q_then_ret ?_
     exact R_end (rs2 := [REG q sg rc]) rfl rfl (.tmp rfl .nil) (⟨by rw [show chkE rc ch (⟨l, r, bu, su⟩ : Led) p h x = txbE ch x by unfold chkE; rw [if_neg ht, if_pos he]]; rfl, rfl⟩) (Weak.drop (Weak.keep (Weak.nil _)))
    ·skip
     have he : txbE ch x = 0 := Classical.not_not.1 he
     have hF := txFine_of (txbE_fine he).2
     have htl := txbB_len ch x
     refine R_skip ?_
     refine Q_then ?_
     refine R_seq ?_
     refine R_seq ?_
     refine R_region ?_
     refine L_val rfl rfl rfl (OpP.v (P_move rfl rfl)) ?_
     refine L_val rfl rfl rfl (OpP.v (P_fld0 rfl ty_fl_88_1 rfl)) ?_
     refine L_val rfl rfl rfl (V_load rfl rfl ty_sc_27 (Rd.blk .h2 rfl)) ?_
     refine L_val rfl rfl rfl (OpP.v (P_move rfl rfl)) ?_
     refine L_val rfl rfl rfl (OpP.v (P_fld0 rfl ty_fl_88_6 rfl)) ?_
     refine L_val rfl rfl rfl (V_loadAgg rfl rfl ty_ag_86 (rds_seal (Rds.blk .h2)) (by rw [ints_length, hx.len])) ?_
     refine L_op rfl (W_callR rfl rfl rfl rfl fn_ca_111 (check_ok hG q sg rc x.frm ub uc (txbB ch x) x.sg16 (txbB_b hcb hx) (by omega) hx.len) (Weak.pick (p := [_]) (Weak.keep (Weak.keep (Weak.keep (Weak.keep (Weak.nil _)))))) (Sn.pre (Sn.own .h0 rfl)) ?_)
     refine St.res (rs' := [REG q sg rc, blk b11 x.cells 88, blk b9 p.cells 62, blk b6 (ledV (.slice base l.length c) (.slice base' r.length c') bu su) 26]) (Weak.keep (Weak.drop (Weak.refl _))) ?_
     refine E_as (t := 50) (v' := .bool (seald rc ch x)) rfl (rfl) ?_
     refine L_val rfl rfl rfl (OpP.v (P_not rfl rfl)) ?_
     refine L_nil ?_
     refine St.env (.cons (t := 4) rfl (.cons (t := 6) rfl (.cons (t := 9) rfl (.cons (t := 11) rfl (.cons (t := 12) rfl (.cons (t := 51) rfl .nil)))))) ?_
     refine Q_then ?_
     refine R_cond rfl (fun hs => ?_) (fun hs => ?_)
     ·skip
      have hs : seald rc ch x = false := by simpa using hs
      refine R_seq ?_
      refine R_region ?_
      refine L_val rfl rfl rfl (OpP.v (P_assign rfl rfl)) ?_
      refine L_nil ?_
      refine St.env (.cons (t := 4) rfl (.cons (t := 6) rfl (.cons (t := 9) rfl (.cons (t := 11) rfl (.cons (t := 12) rfl .nil))))) ?_
      refine Q_then ?_
      refine R_ret ?_
      refine Q_then_ret ?_
      exact R_end (rs2 := [REG q sg rc]) rfl rfl (.tmp rfl .nil) (⟨by rw [show chkE rc ch (⟨l, r, bu, su⟩ : Led) p h x = 84 by unfold chkE; rw [if_neg ht, if_neg (by rw [he]; simp), if_pos hs]]; rfl, rfl⟩) (Weak.keep (Weak.nil _))
     ·skip
      have hs : ¬ seald rc ch x = false := by simpa using hs
      refine R_skip ?_
      refine Q_then ?_
      refine R_seq ?_
      refine R_region ?_
      refine L_val rfl rfl rfl (V_loadAgg rfl rfl ty_ag_26 (Rds.blk .h3) (rfl)) ?_
      refine L_val rfl rfl rfl (OpP.v (P_fld0 rfl ty_fl_88_1 rfl)) ?_
      refine L_val rfl rfl rfl (V_load rfl rfl ty_sc_27 (Rd.blk .h1 rfl)) ?_
      refine L_op rfl (W_callV rfl rfl rfl rfl fn_ca_76 (place_ok base c l hc (by omega) (.slice base' r.length c') rfl bu su x.frm) (fun w nw => (Sn.old hpre.1).rw_ w nw) ?_)
      refine L_val rfl rfl rfl (OpP.v (P_assign rfl rfl)) ?_
      refine L_nil ?_
      refine St.env (.cons (t := 4) rfl (.cons (t := 6) rfl (.cons (t := 9) rfl (.cons (t := 11) rfl (.cons (t := 12) rfl (.cons (t := 15) rfl .nil)))))) ?_
      refine Q_then ?_
      refine R_seq ?_
      refine R_seq ?_
      refine R_region ?_
      refine L_val rfl rfl rfl (OpP.v (P_move rfl rfl)) ?_
      refine L_val rfl rfl rfl (OpP.v (P_lss rfl rfl rfl)) ?_
      refine L_nil ?_
      refine St.env (.cons (t := 4) rfl (.cons (t := 6) rfl (.cons (t := 9) rfl (.cons (t := 11) rfl (.cons (t := 12) rfl (.cons (t := 15) rfl (.cons (t := 57) rfl .nil))))))) ?_
      refine Q_then ?_
      refine R_condP rfl (fun hp => ?_) (fun hp => ?_)
      ·skip
       have hp := (place_neg _ _).1 hp
       refine R_seq ?_
       refine R_region ?_
       refine L_val rfl rfl rfl (OpP.v (P_assign rfl rfl)) ?_
       refine L_nil ?_
       refine St.env (.cons (t := 4) rfl (.cons (t := 6) rfl (.cons (t := 9) rfl (.cons (t := 11) rfl (.cons (t := 12) rfl (.cons (t := 15) rfl .nil)))))) ?_
       refine Q_then ?_
       refine R_ret ?_
       refine Q_then_ret ?_
       exact R_end (rs2 := [REG q sg rc]) rfl rfl (.tmp rfl .nil) (⟨by rw [show chkE rc ch (⟨l, r, bu, su⟩ : Led) p h x = 85 by unfold chkE; rw [if_neg ht, if_neg (by rw [he]; simp), if_neg hs, if_pos hp]]; rfl, rfl⟩) (Weak.keep (Weak.nil _))
      ·skip
       have hb : spotB l x.frm = true := by cases h9 : spotB l x.frm with | true => rfl | false => exact absurd ((place_neg _ _).2 h9) hp
       have hp2 : placeI l x.frm = (spotI l x.frm : Int) := by unfold placeI; rw [if_pos hb]
       have hlt : spotI l x.frm < l.length := by unfold spotB at hb; rw [Bool.and_eq_true, decide_eq_true_eq] at hb; exact hb.1
       have hA := accAt_get hlt
       obtain ⟨pb, pj, rfl, _⟩ := hpre.1.row.some_ (by rw [rc_length]; show 0 < _ * 5; omega)
       refine E_as (t := 15) (v' := .int .i64 ((spotI l x.frm : Nat) : Int)) rfl (by rw [hp2]) ?_
       refine R_skip ?_
       refine Q_then ?_
       refine R_seq ?_
       refine R_region ?_
       refine L_val rfl rfl rfl (OpP.v (P_fld0 rfl ty_fl_26_0 rfl)) ?_
       refine L_val rfl rfl rfl (V_load rfl rfl ty_sc_22 (Rd.blk .h3 rfl)) ?_
       refine L_val rfl rfl rfl (OpP.v (P_move rfl rfl)) ?_
       refine L_val rfl rfl rfl (OpP.v (P_ixs (spotI l x.frm) rfl ty_sl_22 rfl rfl (by first | rfl | omega) (by omega))) ?_
       refine L_val rfl rfl rfl (V_loadAgg rfl rfl ty_ag_38 (rds_rc (Sn.rdsj (Sn.old hpre.1)) hA) (rfl)) ?_
       refine L_op rfl (W_alloc rfl rfl rfl ty_ze_38 fun b16 => ?_)
       refine L_op rfl (W_storeAll rfl rfl rfl rfl ty_ag_38 (rfl) (Rec.one (accAt l (spotI l x.frm))) .h0 (rfl) ?_)
       refine L_nil ?_
       refine St.env (.cons (t := 4) rfl (.cons (t := 6) rfl (.cons (t := 9) rfl (.cons (t := 11) rfl (.cons (t := 12) rfl (.cons (t := 16) rfl .nil)))))) ?_
       refine Q_then ?_
       refine R_seq ?_
       refine R_block ?_
       refine R_seq ?_
       refine R_region ?_
       refine L_val rfl rfl rfl (OpP.v (P_fld0 rfl ty_fl_88_5 rfl)) ?_
       refine L_val rfl rfl rfl (V_load rfl rfl ty_sc_24 (Rd.blk .h2 rfl)) ?_
       refine L_val rfl rfl rfl (OpP.v (P_fld0 rfl ty_fl_38_3 rfl)) ?_
       refine L_val rfl rfl rfl (V_load rfl rfl ty_sc_24 (Rd.blk .h0 rfl)) ?_
       refine L_val rfl rfl rfl (OpP.v (P_neq rfl rfl rfl)) ?_
       refine E_bool (t := 68) rfl (fun h5 => ?_) (fun h5 => ?_)
       ·skip
        have h5 := of_decide_eq_true h5
        refine L_val rfl rfl rfl (OpP.v (P_move rfl rfl)) ?_
        refine L_no rfl rfl rfl ?_
        refine L_no rfl rfl rfl ?_
        refine L_no rfl rfl rfl ?_
        refine L_val rfl rfl rfl (OpP.v (P_pick rfl rfl rfl)) ?_
        refine L_val rfl rfl rfl (OpP.v (P_assign rfl rfl)) ?_
        refine L_nil ?_
        refine St.env (.cons (t := 4) rfl (.cons (t := 6) rfl (.cons (t := 9) rfl (.cons (t := 11) rfl (.cons (t := 12) rfl (.cons (t := 16) rfl (.cons (t := 63) rfl .nil))))))) ?_
        refine Q_then ?_
        refine R_condT rfl ?_
        refine R_seq ?_
        refine R_region ?_
        refine L_val rfl rfl rfl (OpP.v (P_assign rfl rfl)) ?_
        refine L_nil ?_
        refine St.env (.cons (t := 4) rfl (.cons (t := 6) rfl (.cons (t := 9) rfl (.cons (t := 11) rfl (.cons (t := 12) rfl (.cons (t := 16) rfl .nil)))))) ?_
        refine Q_then ?_
        refine R_ret ?_
        refine Q_block_ret ?_
        refine Q_then_ret ?_
        exact R_end (rs2 := [REG q sg rc]) rfl rfl (.tmp rfl .nil) (⟨by rw [show chkE rc ch (⟨l, r, bu, su⟩ : Led) p h x = 80 by unfold chkE; rw [if_neg ht, if_neg (by rw [he]; simp), if_neg hs, if_neg (by show ¬ spotB l x.frm = false; rw [hb]; decide), if_pos (by show x.non ≠ (accAt l (spotI l x.frm)).non ∨ x.non = 18446744073709551615; omega)]]; rfl, rfl⟩) (Weak.drop (Weak.keep (Weak.nil _)))
       ·skip
        have h5 := of_decide_eq_false h5
        refine L_val rfl rfl rfl (OpP.v (P_move rfl rfl)) ?_
        refine L_val rfl rfl rfl (OpP.v (P_fld0 rfl ty_fl_88_5 rfl)) ?_
        refine L_val rfl rfl rfl (V_load rfl rfl ty_sc_24 (Rd.blk .h2 rfl)) ?_
        refine L_val rfl rfl rfl (OpP.v (P_eql rfl rfl rfl)) ?_
        refine L_val rfl rfl rfl (OpP.v (P_pick rfl rfl rfl)) ?_
        refine L_val rfl rfl rfl (OpP.v (P_assign rfl rfl)) ?_
        refine L_nil ?_
        refine St.env (.cons (t := 4) rfl (.cons (t := 6) rfl (.cons (t := 9) rfl (.cons (t := 11) rfl (.cons (t := 12) rfl (.cons (t := 16) rfl (.cons (t := 63) rfl .nil))))))) ?_
        refine Q_then ?_
        refine R_condP rfl (fun h6 => ?_) (fun h6 => ?_)
        ·skip
         refine R_seq ?_
         refine R_region ?_
         refine L_val rfl rfl rfl (OpP.v (P_assign rfl rfl)) ?_
         refine L_nil ?_
         refine St.env (.cons (t := 4) rfl (.cons (t := 6) rfl (.cons (t := 9) rfl (.cons (t := 11) rfl (.cons (t := 12) rfl (.cons (t := 16) rfl .nil)))))) ?_
         refine Q_then ?_
         refine R_ret ?_
         refine Q_block_ret ?_
         refine Q_then_ret ?_
         exact R_end (rs2 := [REG q sg rc]) rfl rfl (.tmp rfl .nil) (⟨by rw [show chkE rc ch (⟨l, r, bu, su⟩ : Led) p h x = 80 by unfold chkE; rw [if_neg ht, if_neg (by rw [he]; simp), if_neg hs, if_neg (by show ¬ spotB l x.frm = false; rw [hb]; decide), if_pos (by show x.non ≠ (accAt l (spotI l x.frm)).non ∨ x.non = 18446744073709551615; omega)]]; rfl, rfl⟩) (Weak.drop (Weak.keep (Weak.nil _)))
        ·skip
         refine R_seq ?_
         refine R_open [(0, 1), (2, 0), (3, 1), (1, 2), (4, 0), (5, 0)] mixed (by kernel_rfl) (QOk.then (QOk.block (QOk.then QOk.body))) ?_
         refine O_val rfl rfl rfl rfl (V_loadAgg rfl rfl ty_ag_88 (Rds.blk .h2) (hx.cellsLen)) ?_
         refine O_pure rfl rfl rfl rfl (P_fld0 rfl ty_fl_38_1 rfl) ?_
         refine O_val rfl rfl rfl rfl (V_load rfl rfl ty_sc_24 (Rd.blk .h0 rfl)) ?_
         refine O_keep rfl rfl (W_callV rfl rfl rfl rfl fn_ca_103 (spends_ok x hx hF.amt hF.fee) (fun _ _ => trivial) (K_keep (Weak.refl _) ?_))
         refine O_pure rfl rfl rfl rfl (P_gtr rfl rfl rfl) ?_
         refine O_pure rfl rfl rfl rfl (P_assign rfl rfl) ?_
         refine O_nil ?_
         refine St.env (.cons (t := 4) rfl (.cons (t := 6) rfl (.cons (t := 9) rfl (.cons (t := 11) rfl (.cons (t := 12) rfl (.cons (t := 16) rfl (.cons (t := 74) rfl .nil))))))) ?_
         refine Q_then ?_
         refine R_condP rfl (fun h7 => ?_) (fun h7 => ?_)
         ·skip
          refine R_seq ?_
          refine R_region ?_
          refine L_val rfl rfl rfl (OpP.v (P_assign rfl rfl)) ?_
          refine L_nil ?_
          refine St.env (.cons (t := 4) rfl (.cons (t := 6) rfl (.cons (t := 9) rfl (.cons (t := 11) rfl (.cons (t := 12) rfl (.cons (t := 16) rfl .nil)))))) ?_
          refine Q_then ?_
          refine R_ret ?_
          refine Q_block_ret ?_
          refine Q_then_ret ?_
          exact R_end (rs2 := [REG q sg rc]) rfl rfl (.tmp rfl .nil) (⟨by rw [show chkE rc ch (⟨l, r, bu, su⟩ : Led) p h x = 81 by unfold chkE; rw [if_neg ht, if_neg (by rw [he]; simp), if_neg hs, if_neg (by show ¬ spotB l x.frm = false; rw [hb]; decide), if_neg (by show ¬ (x.non ≠ (accAt l (spotI l x.frm)).non ∨ x.non = 18446744073709551615); omega), if_pos (show (senderA (⟨l, r, bu, su⟩ : Led) x).bal < costI x from h7)]]; rfl, rfl⟩) (Weak.drop (Weak.keep (Weak.nil _)))
         ·skip
          refine R_skip ?_
          refine Q_block ?_
          refine Q_then ?_
          refine R_seq ?_
          refine R_region ?_
          refine L_val rfl rfl rfl (V_loadAgg rfl rfl ty_ag_26 (Rds.blk .h4) (rfl)) ?_
          refine L_val rfl rfl rfl (V_loadAgg rfl rfl ty_ag_62 (Rds.blk .h3) (rfl)) ?_
          refine L_val rfl rfl rfl (OpP.v (P_move rfl rfl)) ?_
          refine L_val rfl rfl rfl (V_loadAgg rfl rfl ty_ag_88 (Rds.blk .h2) (hx.cellsLen)) ?_
          refine L_val rfl rfl rfl (V_loadAgg rfl rfl ty_ag_38 (Rds.blk .h0) (rfl)) ?_
          refine L_op rfl (W_callV rfl rfl rfl rfl fn_ca_112 (lkind_ok _ c l hc hm base' c' r hc' hm' bu su p h (by unfold timeB at ht; omega) (by unfold timeB at ht; have := hp3.1; omega) x hx (accAt l (spotI l x.frm))) (fun w nw => And.intro ((Sn.old hpre.1).rw_ w nw) ((Sn.old hpre.2).rw_ w nw)) ?_)
          refine L_val rfl rfl rfl (OpP.v (P_assign rfl rfl)) ?_
          refine L_nil ?_
          refine St.env (.cons (t := 12) rfl .nil) ?_
          refine Q_then ?_
          refine R_ret ?_
          exact R_end (rs2 := [REG q sg rc]) rfl rfl (.tmp rfl .nil) (⟨by rw [show chkE rc ch (⟨l, r, bu, su⟩ : Led) p h x = kindE (⟨l, r, bu, su⟩ : Led) p h x (accAt l (spotI l x.frm)) by unfold chkE; rw [if_neg ht, if_neg (by rw [he]; simp), if_neg hs, if_neg (by show ¬ spotB l x.frm = false; rw [hb]; decide), if_neg (by show ¬ (x.non ≠ (accAt l (spotI l x.frm)).non ∨ x.non = 18446744073709551615); omega), if_neg (show ¬ (senderA (⟨l, r, bu, su⟩ : Led) x).bal < costI x from h7)]; rfl]; rfl, rfl⟩) (Weak.drop (Weak.keep (Weak.nil _)))
end Go.Proofs.YtfhjhaogmdaepaaGreatDoor

/- Walks: Apply. Printed by gen.py. -/
set_option linter.unusedVariables false
set_option linter.unusedSimpArgs false
set_option maxRecDepth 100000
namespace Go.Proofs.YtfhjhaogmdaepaaGreatDoor
open Go Go.RowKit Go.Proofs
def w64 (x : Int) : Int := IntKind.u64.wrap x
def payer (x : Tx) (A : Acc) : Acc := ⟨A.a, A.bal - costI x, A.bond, A.non + 1, A.jail⟩
def addBal (n : Int) (A : Acc) : Acc := ⟨A.a, w64 (A.bal + n), A.bond, A.non, A.jail⟩
def addBond (n : Int) (A : Acc) : Acc := ⟨A.a, A.bal, w64 (A.bond + n), A.non, A.jail⟩
def subBond (n : Int) (A : Acc) : Acc := ⟨A.a, A.bal, A.bond - n, A.non, A.jail⟩
def unjail (A : Acc) : Acc := ⟨A.a, A.bal, A.bond, A.non, false⟩
def addAmt (n : Int) (y : Rel) : Rel := ⟨y.h, y.a, y.born, w64 (y.amt + n)⟩
/-- There is such an account from now on. -/
def midA (l : List Acc) (a : Int) : List Acc := if spotB l a = true then l else insL l (spotI l a) ⟨a, 0, 0, 0, false⟩
def payP (l : List Acc) (a n : Int) : List Acc := (midA l a).set (spotI l a) (addBal n (accAt (midA l a) (spotI l a)))
def midR (r : List Rel) (h a b : Int) : List Rel := if rowB r h a = true then r else insL r (rowI r h a) ⟨h, a, b, 0⟩
def relP (r : List Rel) (h a b n : Int) : List Rel := (midR r h a b).set (rowI r h a) (addAmt n (relAt (midR r h a b) (rowI r h a)))
/-- The accounts when the sender has paid. -/
def paidL (L : Led) (x : Tx) : List Acc := L.acc.set (spotI L.acc x.frm) (payer x (senderA L x))
def accK (L : Led) (x : Tx) : List Acc :=
 if x.kind = 1 then payP (paidL L x) x.to x.amt else if x.kind = 2 then L.acc.set (spotI L.acc x.frm) (addBond x.amt (payer x (senderA L x)))
 else if x.kind = 3 then L.acc.set (spotI L.acc x.frm) (subBond x.amt (payer x (senderA L x))) else if x.kind = 4 then L.acc.set (spotI L.acc x.frm) (unjail (payer x (senderA L x))) else paidL L x
def relK (L : Led) (p : Par) (h : Int) (x : Tx) : List Rel := if x.kind = 3 then relP L.rel (h + p.p3) x.frm h x.amt else L.rel
/-- The ledger behind a transaction that is taken. -/
def appP (L : Led) (p : Par) (h b : Int) (x : Tx) : Led :=
 if spotB (accK L x) b = true then ⟨(accK L x).set (spotI (accK L x) b) (addBal x.fee (accAt (accK L x) (spotI (accK L x) b))), relK L p h x, L.burnt, L.sup⟩ else ⟨accK L x, relK L p h x, w64 (L.burnt + x.fee), L.sup⟩
/-- What Apply answers. -/
def appL (rc : List Rcd) (ch : List Int) (L : Led) (p : Par) (h b : Int) (x : Tx) : Led := if chkE rc ch L p h x = 0 then appP L p h b x else led0
theorem paidL_length (L : Led) (x : Tx) : (paidL L x).length = L.acc.length := by unfold paidL; rw [List.length_set]
theorem midA_yes {l : List Acc} {a : Int} (h : spotB l a = true) : midA l a = l := if_pos h
theorem midA_no {l : List Acc} {a : Int} (h : spotB l a = false) : midA l a = insL l (spotI l a) ⟨a, 0, 0, 0, false⟩ := if_neg (by rw [h]; decide)
theorem midR_yes {r : List Rel} {h a b : Int} (e : rowB r h a = true) : midR r h a b = r := if_pos e
theorem midR_no {r : List Rel} {h a b : Int} (e : rowB r h a = false) : midR r h a b = insL r (rowI r h a) ⟨h, a, b, 0⟩ := if_neg (by rw [e]; decide)
theorem spotB_lt {l : List Acc} {a : Int} (h : spotB l a = true) : spotI l a < l.length := by unfold spotB at h; rw [Bool.and_eq_true, decide_eq_true_eq] at h; exact h.1
theorem rowB_lt {r : List Rel} {h a : Int} (e : rowB r h a = true) : rowI r h a < r.length := by unfold rowB at e; rw [Bool.and_eq_true, decide_eq_true_eq] at e; exact e.1
theorem midA_lt (l : List Acc) (a : Int) : spotI l a < (midA l a).length := by
 cases h : spotB l a with
 | true => rw [midA_yes h]; exact spotB_lt h
 | false => rw [midA_no h, insL_length (spotI_le l a)]; have := spotI_le l a; omega
theorem midR_lt (r : List Rel) (h a b : Int) : rowI r h a < (midR r h a b).length := by
 cases e : rowB r h a with
 | true => rw [midR_yes e]; exact rowB_lt e
 | false => rw [midR_no e, insL_length (rowI_le r h a)]; have := rowI_le r h a; omega
theorem midA_le (l : List Acc) (a : Int) : (midA l a).length ≤ l.length + 1 := by
 unfold midA; split
 ·omega
 ·rw [insL_length (spotI_le l a)]; exact Nat.le_refl _
theorem midR_le (r : List Rel) (h a b : Int) : (midR r h a b).length ≤ r.length + 1 := by
 unfold midR; split
 ·omega
 ·rw [insL_length (rowI_le r h a)]; exact Nat.le_refl _
theorem accK_le (L : Led) (x : Tx) : (accK L x).length ≤ L.acc.length + 1 := by
 unfold accK
 split
 ·unfold payP; rw [List.length_set]; have := midA_le (paidL L x) x.to; rwa [paidL_length] at this
 ·split
  ·rw [List.length_set]; omega
  ·split
   ·rw [List.length_set]; omega
   ·split
    ·rw [List.length_set]; omega
    ·rw [paidL_length]; omega
theorem relK_le (L : Led) (p : Par) (h : Int) (x : Tx) : (relK L p h x).length ≤ L.rel.length + 1 := by
 unfold relK
 split
 ·unfold relP; rw [List.length_set]; exact midR_le _ _ _ _
 ·omega
theorem accAt_set {l : List Acc} {i : Nat} (h : i < l.length) (y : Acc) : (l.set i y)[i]? = some y := List.getElem?_set_self h
set_option maxHeartbeats 4000000 in
theorem apply_ok {gl : Nat → Obj} (hG : Globs gl) (q : Nat) (sg : List (Int × Nat)) (rc : List Rcd) (base : Option Addr) (c : Nat) (l : List Acc) (hc : l.length ≤ c) (hm : l.length ≤ 1759218604000)(hok : ∀ x ∈ l, x.ok) (base' : Option Addr) (c' : Nat) (r : List Rel) (hc' : r.length ≤ c') (hm' : r.length ≤ 2199023255000) (hok' : ∀ y ∈ r, y.ok) (bu su : Int) (hbu : u64 bu) (ch : List Int) (hcb : IsB ch) (p : Par) (hp3 : u64 p.p3) (h by_ : Int) (hh : u64 h) (x : Tx) (hx : x.ok) : Spec (cx gl) 43 [.agg (ledV (.slice base l.length c) (.slice base' r.length c') bu su).toArray, .pointer (some ⟨q, 0, none⟩), .string (strOfNums ch), .agg p.cells.toArray, .int .u64 h, .int .u64 by_, .agg x.cells.toArray] (fun w hp => Seen w hp base (Go.Proofs.YtfhjhaogmdaepaaGreatDoor.rc l) ∧ Seen w hp base' (Go.Proofs.YtfhjhaogmdaepaaGreatDoor.rc r)) [REG q sg rc] (fun v rs => ∃ u u', v = .tuple #[.agg (ledV u u' (appL rc ch (⟨l, r, bu, su⟩ : Led) p h by_ x).burnt (appL rc ch (⟨l, r, bu, su⟩ : Led) p h by_ x).sup).toArray, .int .i64 (chkE rc ch (⟨l, r, bu, su⟩ : Led) p h x)] ∧ rs = [ownS 38 5 (u) ((appL rc ch (⟨l, r, bu, su⟩ : Led) p h by_ x).acc.length) (Go.Proofs.YtfhjhaogmdaepaaGreatDoor.rc ((appL rc ch (⟨l, r, bu, su⟩ : Led) p h by_ x).acc)), ownS 135 4 (u') ((appL rc ch (⟨l, r, bu, su⟩ : Led) p h by_ x).rel.length) (Go.Proofs.YtfhjhaogmdaepaaGreatDoor.rc ((appL rc ch (⟨l, r, bu, su⟩ : Led) p h by_ x).rel)), REG q sg rc]) := by
 refine Spec.enter (C := cx gl) Tryz.func43 rfl 186 rfl rfl fun w0 h0 hsep hsub hpre => ?_
 show St (cx gl) _ [(0, .agg (ledV (.slice base l.length c) (.slice base' r.length c') bu su).toArray), (1, .pointer (some ⟨q, 0, none⟩)), (2, .string (strOfNums ch)), (3, .agg p.cells.toArray), (4, .int .u64 h), (5, .int .u64 by_), (6, .agg x.cells.toArray)] _ _
 have hhc := hh
 obtain ⟨hh0, hh1⟩ := hhc
 refine R_seq ?_
 refine R_region ?_
 refine L_op rfl (W_box (ledV (.slice base l.length c) (.slice base' r.length c') bu su) rfl rfl rfl rfl rfl fun b7 => ?_)
 refine L_op rfl (W_box (p.cells) rfl rfl rfl rfl rfl fun b10 => ?_)
 refine L_op rfl (W_box (x.cells) rfl rfl rfl rfl rfl fun b13 => ?_)
 refine L_op rfl (W_alloc rfl rfl rfl ty_ze_26 fun b14 => ?_)
 refine L_val rfl rfl rfl (OpP.v (P_assign rfl rfl)) ?_
 refine L_nil ?_
 refine St.env (.cons (t := 1) rfl (.cons (t := 2) rfl (.cons (t := 4) rfl (.cons (t := 5) rfl (.cons (t := 7) rfl (.cons (t := 10) rfl (.cons (t := 13) rfl (.cons (t := 14) rfl (.cons (t := 15) rfl .nil))))))))) ?_
 refine Q_then ?_
 refine R_seq ?_
 refine R_seq ?_
 refine St.res (rs' := [REG q sg rc, blk b14 (ledV (.slice none 0 0) (.slice none 0 0) 0 0) 26, blk b13 x.cells 88, blk b10 p.cells 62, blk b7 (ledV (.slice base l.length c) (.slice base' r.length c') bu su) 26]) (Weak.pick (p := [_, _, _, _]) (Weak.keep (Weak.keep (Weak.keep (Weak.keep (Weak.nil _)))))) ?_
 refine R_region ?_
 refine L_val rfl rfl rfl (V_loadAgg rfl rfl ty_ag_26 (Rds.blk .h4) (rfl)) ?_
 refine L_val rfl rfl rfl (OpP.v (P_move rfl rfl)) ?_
 refine L_val rfl rfl rfl (OpP.v (P_move rfl rfl)) ?_
 refine L_val rfl rfl rfl (V_loadAgg rfl rfl ty_ag_62 (Rds.blk .h3) (rfl)) ?_
 refine L_val rfl rfl rfl (OpP.v (P_move rfl rfl)) ?_
 refine L_val rfl rfl rfl (V_loadAgg rfl rfl ty_ag_88 (Rds.blk .h2) (hx.cellsLen)) ?_
 refine L_op rfl (W_callR rfl rfl rfl rfl fn_ca_46 (lcheck_ok hG q sg rc base c l hc (by omega) base' c' r hc' (by omega) bu su ch hcb p hp3 h hh x hx) (Split.one (p := [])) (fun w a b ha hb dj m => ⟨Sn.pre (Sn.old hpre.1) w a b ha hb dj m, Sn.pre (Sn.old hpre.2) w a b ha hb dj m⟩) ?_)
 refine L_val rfl rfl rfl (OpP.v (P_assign rfl rfl)) ?_
 refine L_nil ?_
 refine St.env (.cons (t := 4) rfl (.cons (t := 5) rfl (.cons (t := 7) rfl (.cons (t := 10) rfl (.cons (t := 13) rfl (.cons (t := 14) rfl (.cons (t := 15) rfl (.cons (t := 16) rfl .nil)))))))) ?_
 refine Q_then ?_
 refine R_seq ?_
 refine R_region ?_
 refine L_val rfl rfl rfl (OpP.v (P_move rfl rfl)) ?_
 refine L_val rfl rfl rfl (OpP.v (P_neq rfl rfl rfl)) ?_
 refine L_nil ?_
 refine St.env (.cons (t := 4) rfl (.cons (t := 5) rfl (.cons (t := 7) rfl (.cons (t := 10) rfl (.cons (t := 13) rfl (.cons (t := 14) rfl (.cons (t := 15) rfl (.cons (t := 16) rfl (.cons (t := 31) rfl .nil))))))))) ?_
 refine Q_then ?_
 refine R_condP rfl (fun he => ?_) (fun he => ?_)
 ·skip
  refine R_seq ?_
  refine R_region ?_
  refine L_val rfl rfl rfl (OpP.v (P_buildStruct rfl ty_pl_26 ty_ze_26 rfl rfl (rfl))) ?_
  refine L_val rfl rfl rfl (OpP.v (P_move rfl rfl)) ?_
  refine L_op rfl (W_storeAll rfl rfl rfl rfl ty_ag_26 (rfl) (ledV_one _ _ _ _ rfl rfl) .h1 (rfl) ?_)
  refine L_val rfl rfl rfl (OpP.v (P_assign rfl rfl)) ?_
  refine L_nil ?_
  refine St.env (.cons (t := 4) rfl (.cons (t := 5) rfl (.cons (t := 7) rfl (.cons (t := 10) rfl (.cons (t := 13) rfl (.cons (t := 14) rfl (.cons (t := 15) rfl .nil))))))) ?_
  refine Q_then ?_
  refine R_ret ?_
  refine Q_then_ret ?_
  exact R_end (rs2 := _) rfl rfl (.cell rfl (Rds.loadVar ty_ag_26 (Rds.blk .h1) rfl) (.tmp rfl .nil)) (⟨.slice none 0 0, .slice none 0 0, by rw [show (appL rc ch (⟨l, r, bu, su⟩ : Led) p h by_ x) = led0 from if_neg he]; rfl, rfl⟩) (by rw [show (appL rc ch (⟨l, r, bu, su⟩ : Led) p h by_ x) = led0 from if_neg he]; exact Weak.trans (Weak.newNil (T := 135) (sz := 4)) (Weak.trans (Weak.newNil (T := 38) (sz := 5)) (Weak.keep (Weak.keep (Weak.keep (Weak.nil _))))))
 ·skip
  have he : chkE rc ch (⟨l, r, bu, su⟩ : Led) p h x = 0 := Classical.not_not.1 he
  have hC := chkFine_of he
  have hF := txFine_of (txbE_fine hC.tx).2
  have hlt : spotI l x.frm < l.length := spotB_lt hC.frm
  have hA : l[spotI l x.frm]? = some (senderA (⟨l, r, bu, su⟩ : Led) x) := accAt_get hlt
  obtain ⟨⟨hA0, hA1⟩, ⟨hb0, hb1⟩, ⟨hd0, hd1⟩, ⟨hn0, hn1⟩⟩ := hok _ (List.mem_of_getElem? hA)
  have hkd := hC.kind
  have hn := hC.non
  have hn2 := hC.top
  have hbal := hC.bal
  have htime := hC.time
  unfold timeB at htime
  have hcost : 0 ≤ costI x := by unfold costI; have := hx.fee.1; have := hx.amt.1; split <;> omega
  refine R_skip ?_
  refine Q_then ?_
  refine R_seq ?_
  refine R_open [(0, 0), (1, 1), (3, 0), (4, 1), (2, 2), (6, 0), (5, 2), (7, 3), (8, 0), (9, 3)] mixed (by kernel_rfl) (QOk.then QOk.body) ?_
  refine O_pure rfl rfl rfl rfl (P_fld0 rfl ty_fl_26_0 rfl) ?_
  refine O_val rfl rfl rfl rfl (V_load rfl rfl ty_sc_22 (Rd.blk .h4 rfl)) ?_
  refine O_pure rfl rfl rfl rfl (P_fld0 rfl ty_fl_26_1 rfl) ?_
  refine O_val rfl rfl rfl rfl (V_load rfl rfl ty_sc_23 (Rd.blk .h4 rfl)) ?_
  refine O_keep rfl rfl (W_call rfl rfl rfl rfl fn_ca_72 (freshA_ok base c l hc (by omega)) (Split.nil _) (Sn.pre (Sn.old hpre.1)) fun v1 rs1 (e1 : rs1 = _) => ?_)
  subst e1
  refine St.ownSome (p := []) (by omega) fun fb fc huv hfc => ?_
  subst huv
  refine K_keep (Weak.drop (Weak.refl _)) ?_
  refine O_pure rfl rfl rfl rfl (P_fld0 rfl ty_fl_26_0 rfl) ?_
  refine O_keep rfl rfl (W_call rfl rfl rfl rfl fn_ca_73 (freshR_ok base' c' r hc' (by omega)) (Split.nil _) (Sn.pre (Sn.old hpre.2)) fun v2 rs2 (e2 : rs2 = _) => ?_)
  subst e2
  refine St.ownForm (p := []) fun vb vc hvv hvc => ?_
  subst hvv
  refine K_keep (Weak.drop (Weak.refl _)) ?_
  refine O_new rfl rfl (W_store rfl rfl rfl rfl ty_sc_22 rfl .h6 (by simp [ledV]) (K_new ?_))
  refine O_pure rfl rfl rfl rfl (P_fld0 rfl ty_fl_26_1 rfl) ?_
  refine O_new rfl rfl (W_store rfl rfl rfl rfl ty_sc_23 rfl .h6 (by simp [ledV]) (K_new ?_))
  refine O_nil ?_
  refine St.env (.cons (t := 4) rfl (.cons (t := 5) rfl (.cons (t := 7) rfl (.cons (t := 10) rfl (.cons (t := 13) rfl (.cons (t := 14) rfl (.cons (t := 15) rfl .nil))))))) ?_
  refine Q_then ?_
  refine R_seq ?_
  refine St.res (rs' := [REG q sg rc, ownS 38 5 (.slice (some ⟨fb, 0, none⟩) l.length fc) (l.length) (Go.Proofs.YtfhjhaogmdaepaaGreatDoor.rc (l)), ownS 135 4 (.slice vb r.length vc) (r.length) (Go.Proofs.YtfhjhaogmdaepaaGreatDoor.rc (r)), blk b14 (ledV (.slice none 0 0) (.slice none 0 0) 0 0) 26, blk b13 x.cells 88, blk b10 p.cells 62, blk b7 (ledV (.slice (some ⟨fb, 0, none⟩) l.length fc) (.slice vb r.length vc) (bu) su) 26]) (Weak.pick (p := [_, _]) (Weak.pick (p := [_]) (Weak.keep (Weak.keep (Weak.keep (Weak.keep (Weak.keep (Weak.nil _)))))))) ?_
  refine R_open [(0, 0), (1, 1), (2, 1), (3, 0), (4, 1), (5, 2), (6, 0), (7, 0)] mixed (by kernel_rfl) (QOk.then QOk.body) ?_
  refine O_pure rfl rfl rfl rfl (P_fld0 rfl ty_fl_26_0 rfl) ?_
  refine O_val rfl rfl rfl rfl (V_load rfl rfl ty_sc_22 (Rd.blk .h6 rfl)) ?_
  refine O_val rfl rfl rfl rfl (V_loadAgg rfl rfl ty_ag_26 (Rds.blk .h6) (rfl)) ?_
  refine O_pure rfl rfl rfl rfl (P_fld0 rfl ty_fl_88_1 rfl) ?_
  refine O_val rfl rfl rfl rfl (V_load rfl rfl ty_sc_27 (Rd.blk .h4 rfl)) ?_
  refine O_keep rfl rfl (W_callV rfl rfl rfl rfl fn_ca_76 (place_ok (some ⟨fb, 0, none⟩) fc l hfc (by omega) (.slice vb r.length vc) rfl bu su x.frm) ((Sn.own .h1 rfl).rw_) (K_keep (Weak.refl _) ?_))
  refine E_as (t := 47) (v' := .int .i64 ((spotI l x.frm : Nat) : Int)) rfl (by unfold placeI; rw [if_pos (show spotB l x.frm = true from hC.frm)]) ?_
  refine O_pure rfl rfl rfl rfl (P_ixs (spotI l x.frm) rfl ty_sl_22 rfl rfl (by first | rfl | omega) (by omega)) ?_
  refine O_pure rfl rfl rfl rfl (P_assign rfl rfl) ?_
  refine O_nil ?_
  refine St.env (.cons (t := 4) rfl (.cons (t := 5) rfl (.cons (t := 7) rfl (.cons (t := 10) rfl (.cons (t := 13) rfl (.cons (t := 14) rfl (.cons (t := 15) rfl (.cons (t := 17) rfl .nil)))))))) ?_
  refine Q_then ?_
  refine R_seq ?_
  refine R_region ?_
  refine L_val rfl rfl rfl (OpP.v (P_move rfl rfl)) ?_
  refine L_val rfl rfl rfl (OpP.v (P_nil rfl rfl)) ?_
  refine L_val rfl rfl rfl (OpP.v (P_fld rfl ty_fl_38_3 rfl)) ?_
  refine L_val rfl rfl rfl (V_load rfl rfl ty_sc_24 (rd_rc (rds_own .h1) hA rfl)) ?_
  refine L_val rfl rfl rfl (OpP.v (P_addN rfl rfl rfl (by simp only [fits]; omega))) ?_
  refine L_val rfl rfl rfl (OpP.v (P_nil rfl rfl)) ?_
  refine L_val rfl rfl rfl (OpP.v (P_fld rfl ty_fl_38_3 rfl)) ?_
  refine L_op rfl (W_setRec (sz := 5) (j := 3) (z := ⟨(senderA (⟨l, r, bu, su⟩ : Led) x).a, (senderA (⟨l, r, bu, su⟩ : Led) x).bal, (senderA (⟨l, r, bu, su⟩ : Led) x).bond, (senderA (⟨l, r, bu, su⟩ : Led) x).non + 1, (senderA (⟨l, r, bu, su⟩ : Led) x).jail⟩) rfl rfl rfl rfl ty_sc_24 rfl (hA) rfl (by decide) rfl .h1 ?_)
  refine L_nil ?_
  refine St.env (.cons (t := 4) rfl (.cons (t := 5) rfl (.cons (t := 7) rfl (.cons (t := 10) rfl (.cons (t := 13) rfl (.cons (t := 14) rfl (.cons (t := 15) rfl (.cons (t := 17) rfl .nil)))))))) ?_
  refine Q_then ?_
  refine R_seq ?_
  have hA1 := accAt_set hlt (⟨(senderA (⟨l, r, bu, su⟩ : Led) x).a, (senderA (⟨l, r, bu, su⟩ : Led) x).bal, (senderA (⟨l, r, bu, su⟩ : Led) x).bond, (senderA (⟨l, r, bu, su⟩ : Led) x).non + 1, (senderA (⟨l, r, bu, su⟩ : Led) x).jail⟩ : Acc)
  refine R_open [(0, 0), (1, 0), (2, 0), (3, 1), (4, 1), (5, 2), (6, 0), (7, 0), (8, 0), (9, 3)] mixed (by kernel_rfl) (QOk.then QOk.body) ?_
  refine O_pure rfl rfl rfl rfl (P_move rfl rfl) ?_
  refine O_pure rfl rfl rfl rfl (P_nil rfl rfl) ?_
  refine O_pure rfl rfl rfl rfl (P_fld rfl ty_fl_38_1 rfl) ?_
  refine O_val rfl rfl rfl rfl (V_load rfl rfl ty_sc_24 (rd_rc (rds_own .h1) hA1 rfl)) ?_
  refine O_val rfl rfl rfl rfl (V_loadAgg rfl rfl ty_ag_88 (Rds.blk .h4) (hx.cellsLen)) ?_
  refine O_keep rfl rfl (W_callV rfl rfl rfl rfl fn_ca_103 (spends_ok x hx hF.amt hF.fee) (fun _ _ => trivial) (K_keep (Weak.refl _) ?_))
  refine O_pure rfl rfl rfl rfl (P_subN rfl rfl rfl (by simp only [fits]; omega)) ?_
  refine O_pure rfl rfl rfl rfl (P_nil rfl rfl) ?_
  refine O_pure rfl rfl rfl rfl (P_fld rfl ty_fl_38_1 rfl) ?_
  refine O_new rfl rfl (W_setRec (sz := 5) (j := 1) (z := (payer x (senderA (⟨l, r, bu, su⟩ : Led) x))) rfl rfl rfl rfl ty_sc_24 rfl (hA1) rfl (by decide) rfl .h1 (K_new ?_))
  refine O_nil ?_
  refine St.env (.cons (t := 4) rfl (.cons (t := 5) rfl (.cons (t := 7) rfl (.cons (t := 10) rfl (.cons (t := 13) rfl (.cons (t := 14) rfl (.cons (t := 15) rfl (.cons (t := 17) rfl .nil)))))))) ?_
  refine Q_then ?_
  refine R_joinE (G := Nat × Nat × Nat × Option Addr × Nat × Nat) (.cons (t := 5) rfl (.cons (t := 7) rfl (.cons (t := 13) rfl (.cons (t := 14) rfl (.cons (t := 15) rfl .nil))))) (fun g => []) (fun g => [REG q sg rc, ownS 38 5 (.slice (some ⟨g.1, 0, none⟩) g.2.1 g.2.2.1) (g.2.1) (Go.Proofs.YtfhjhaogmdaepaaGreatDoor.rc ((accK (⟨l, r, bu, su⟩ : Led) x))), ownS 135 4 (.slice g.2.2.2.1 g.2.2.2.2.1 g.2.2.2.2.2) (g.2.2.2.2.1) (Go.Proofs.YtfhjhaogmdaepaaGreatDoor.rc ((relK (⟨l, r, bu, su⟩ : Led) p h x))), blk b14 (ledV (.slice none 0 0) (.slice none 0 0) 0 0) 26, blk b13 x.cells 88, blk b10 p.cells 62, blk b7 (ledV (.slice (some ⟨g.1, 0, none⟩) g.2.1 g.2.2.1) (.slice g.2.2.2.1 g.2.2.2.2.1 g.2.2.2.2.2) (bu) su) 26]) (fun g => g.2.1 = (accK (⟨l, r, bu, su⟩ : Led) x).length ∧ g.2.1 ≤ g.2.2.1 ∧ g.2.2.2.2.1 = (relK (⟨l, r, bu, su⟩ : Led) p h x).length ∧ g.2.2.2.2.1 ≤ g.2.2.2.2.2) ?_ ?_
  ·skip
   refine R_seq ?_
   refine St.res (rs' := [REG q sg rc, ownS 38 5 (.slice (some ⟨fb, 0, none⟩) l.length fc) (l.length) (Go.Proofs.YtfhjhaogmdaepaaGreatDoor.rc ((paidL (⟨l, r, bu, su⟩ : Led) x))), ownS 135 4 (.slice vb r.length vc) (r.length) (Go.Proofs.YtfhjhaogmdaepaaGreatDoor.rc (r)), blk b14 (ledV (.slice none 0 0) (.slice none 0 0) 0 0) 26, blk b13 x.cells 88, blk b10 p.cells 62, blk b7 (ledV (.slice (some ⟨fb, 0, none⟩) l.length fc) (.slice vb r.length vc) (bu) su) 26]) (Weak.keep (Weak.trans (ownS.to1 rfl (by rw [List.set_set]; rfl)) (Weak.refl _))) ?_
   have hP : (paidL (⟨l, r, bu, su⟩ : Led) x)[spotI l x.frm]? = some (payer x (senderA (⟨l, r, bu, su⟩ : Led) x)) := accAt_set hlt _
   have hL1 := paidL_length (⟨l, r, bu, su⟩ : Led) x
   have hL1' : (paidL (⟨l, r, bu, su⟩ : Led) x).length = l.length := hL1
   refine R_region ?_
   refine L_val rfl rfl rfl (OpP.v (P_fld0 rfl ty_fl_88_0 rfl)) ?_
   refine L_val rfl rfl rfl (V_load rfl rfl ty_sc_3 (Rd.blk .h4 rfl)) ?_
   refine L_nil ?_
   refine St.env (.cons (t := 4) rfl (.cons (t := 5) rfl (.cons (t := 7) rfl (.cons (t := 10) rfl (.cons (t := 13) rfl (.cons (t := 14) rfl (.cons (t := 15) rfl (.cons (t := 17) rfl (.cons (t := 66) rfl .nil))))))))) ?_
   refine Q_then ?_
   refine R_block ?_
   refine R_seq ?_
   refine R_region ?_
   refine L_val rfl rfl rfl (OpP.v (P_eql rfl rfl rfl)) ?_
   refine E_bool (t := 68) rfl (fun k1 => ?_) (fun k1 => ?_)
   ·skip
    have k1 := of_decide_eq_true k1
    have haK : accK (⟨l, r, bu, su⟩ : Led) x = payP (paidL (⟨l, r, bu, su⟩ : Led) x) x.to x.amt := by unfold accK; rw [if_pos k1]
    have hrK : relK (⟨l, r, bu, su⟩ : Led) p h x = r := by unfold relK; rw [if_neg (by omega)]
    refine L_val rfl rfl rfl (OpP.v (P_assign rfl rfl)) ?_
    refine L_nil ?_
    refine St.env (.cons (t := 4) rfl (.cons (t := 5) rfl (.cons (t := 7) rfl (.cons (t := 10) rfl (.cons (t := 13) rfl (.cons (t := 14) rfl (.cons (t := 15) rfl (.cons (t := 17) rfl (.cons (t := 66) rfl (.cons (t := 67) rfl .nil)))))))))) ?_
    refine Q_then ?_
    refine R_condT rfl ?_
    refine R_seq ?_
    refine R_region ?_
    refine L_val rfl rfl rfl (V_loadAgg rfl rfl ty_ag_26 (Rds.blk .h6) (rfl)) ?_
    refine L_val rfl rfl rfl (OpP.v (P_fld0 rfl ty_fl_88_2 rfl)) ?_
    refine L_val rfl rfl rfl (V_load rfl rfl ty_sc_27 (Rd.blk .h4 rfl)) ?_
    refine L_op rfl (W_callV rfl rfl rfl rfl fn_ca_90 ((by have h9 := spot_ok (gl := gl) (some ⟨fb, 0, none⟩) fc (paidL (⟨l, r, bu, su⟩ : Led) x) (by rw [hL1']; exact hfc) (by rw [hL1']; omega) (.slice vb r.length vc) rfl bu su x.to; rw [hL1'] at h9; exact h9)) ((Sn.own .h1 rfl).rw_) ?_)
    refine L_val rfl rfl rfl (OpP.v (P_move rfl rfl)) ?_
    refine L_val rfl rfl rfl (OpP.v (P_extract rfl rfl rfl)) ?_
    refine L_val rfl rfl rfl (OpP.v (P_extract rfl rfl rfl)) ?_
    refine L_val rfl rfl rfl (OpP.v (P_assign rfl rfl)) ?_
    refine L_val rfl rfl rfl (OpP.v (P_assign rfl rfl)) ?_
    refine L_nil ?_
    refine St.env (.cons (t := 5) rfl (.cons (t := 7) rfl (.cons (t := 13) rfl (.cons (t := 14) rfl (.cons (t := 15) rfl (.cons (t := 18) rfl (.cons (t := 19) rfl .nil))))))) ?_
    refine Q_then ?_
    refine R_joinE (G := Nat × Nat × Nat) (.cons (t := 5) rfl (.cons (t := 7) rfl (.cons (t := 13) rfl (.cons (t := 14) rfl (.cons (t := 15) rfl (.cons (t := 18) rfl .nil)))))) (fun g => []) (fun g => [REG q sg rc, ownS 38 5 (.slice (some ⟨g.1, 0, none⟩) g.2.1 g.2.2) (g.2.1) (Go.Proofs.YtfhjhaogmdaepaaGreatDoor.rc ((midA (paidL (⟨l, r, bu, su⟩ : Led) x) x.to))), ownS 135 4 (.slice vb r.length vc) (r.length) (Go.Proofs.YtfhjhaogmdaepaaGreatDoor.rc (r)), blk b14 (ledV (.slice none 0 0) (.slice none 0 0) 0 0) 26, blk b13 x.cells 88, blk b10 p.cells 62, blk b7 (ledV (.slice (some ⟨g.1, 0, none⟩) g.2.1 g.2.2) (.slice vb r.length vc) (bu) su) 26]) (fun g => g.2.1 = (midA (paidL (⟨l, r, bu, su⟩ : Led) x) x.to).length ∧ g.2.1 ≤ g.2.2) ?_ ?_
    ·skip
     refine R_seq ?_
     refine R_region ?_
     refine L_val rfl rfl rfl (OpP.v (P_move rfl rfl)) ?_
     refine L_val rfl rfl rfl (OpP.v (P_not rfl rfl)) ?_
     refine L_nil ?_
     refine St.env (.cons (t := 5) rfl (.cons (t := 7) rfl (.cons (t := 13) rfl (.cons (t := 14) rfl (.cons (t := 15) rfl (.cons (t := 18) rfl (.cons (t := 77) rfl .nil))))))) ?_
     refine Q_then ?_
     refine R_cond rfl (fun hto => ?_) (fun hto => ?_)
     ·skip
      have hto : spotB (paidL (⟨l, r, bu, su⟩ : Led) x) x.to = false := by simpa using hto
      have hmid := midA_no hto
      have hil := insL_length (spotI_le (paidL (⟨l, r, bu, su⟩ : Led) x) x.to) (⟨x.to, 0, 0, 0, false⟩ : Acc)
      refine R_region ?_
      refine L_val rfl rfl rfl (OpP.v (P_fld0 rfl ty_fl_26_0 rfl)) ?_
      refine L_val rfl rfl rfl (V_load rfl rfl ty_sc_22 (Rd.blk .h6 rfl)) ?_
      refine L_val rfl rfl rfl (OpP.v (P_move rfl rfl)) ?_
      refine L_val rfl rfl rfl (OpP.v (P_fld0 rfl ty_fl_88_2 rfl)) ?_
      refine L_val rfl rfl rfl (V_load rfl rfl ty_sc_27 (Rd.blk .h4 rfl)) ?_
      refine L_val rfl rfl rfl (OpP.v (P_buildStruct rfl ty_pl_38 ty_ze_38 rfl rfl (rfl))) ?_
      refine E_as (t := 83) (v' := .agg (⟨x.to, 0, 0, 0, false⟩ : Acc).cells.toArray) rfl (rfl) ?_
      refine L_op rfl (W_litZ (z := .nilIface) (Rec.cells (⟨x.to, 0, 0, 0, false⟩ : Acc)) rfl rfl rfl ty_sl_22 ty_lz_22 rfl rfl rfl (by decide) (by decide) (by intro v hv; simp only [List.mem_cons, List.not_mem_nil, or_false] at hv; subst hv; rfl) (by rfl) fun b84 => ?_)
      have h9a := insA_ok (gl := gl) (some ⟨fb, 0, none⟩) fc (paidL (⟨l, r, bu, su⟩ : Led) x) (spotI (paidL (⟨l, r, bu, su⟩ : Led) x) x.to) (⟨x.to, 0, 0, 0, false⟩ : Acc) b84 (spotI_le _ _) (by rw [hL1']; exact hfc) (by rw [hL1']; omega)
      rw [hL1'] at h9a
      refine L_op rfl (W_call rfl rfl rfl rfl fn_ca_104 (h9a) (Weak.pick (p := [_, _]) (Weak.keep (Weak.keep (Weak.keep (Weak.keep (Weak.keep (Weak.keep (Weak.keep (Weak.nil _))))))))) (fun _ _ _ _ _ _ _ => trivial) fun v1 rs1 (e1 : rs1 = _) => ?_)
      subst e1
      refine St.ownSome (p := []) (by omega) fun gb gc huv hgc => ?_
      subst huv
      refine L_val rfl rfl rfl (OpP.v (P_fld0 rfl ty_fl_26_0 rfl)) ?_
      refine L_op rfl (W_store rfl rfl rfl rfl ty_sc_22 rfl .h6 (by simp [ledV]) ?_)
      refine L_nil ?_
      refine St.env (.cons (t := 5) rfl (.cons (t := 7) rfl (.cons (t := 13) rfl (.cons (t := 14) rfl (.cons (t := 15) rfl (.cons (t := 18) rfl .nil)))))) ?_
      exact Q_meet (gb, l.length + 1, gc) (by show (l.length + 1) = (midA (paidL (⟨l, r, bu, su⟩ : Led) x) x.to).length ∧ (l.length + 1) ≤ (gc); exact ⟨by rw [hmid, hil, hL1'], hgc⟩) (by repeat (first | exact .nil | refine .cons rfl ?_ | refine .consE rfl (by first | rfl | (congr 1; omega) | (congr 1; push_cast; omega)) ?_)) (Weak.trans (Weak.pick (p := [_]) (Weak.keep (Weak.keep (Weak.keep (Weak.keep (Weak.keep (Weak.keep (Weak.nil _)))))))) (Weak.keep (ownS.to1 rfl (by rw [hmid]))))
     ·skip
      have hto : spotB (paidL (⟨l, r, bu, su⟩ : Led) x) x.to = true := by simpa using hto
      have hmid := midA_yes hto
      refine R_skip ?_
      exact Q_meet (fb, l.length, fc) (by show (l.length) = (midA (paidL (⟨l, r, bu, su⟩ : Led) x) x.to).length ∧ (l.length) ≤ (fc); exact ⟨by rw [hmid, hL1'], hfc⟩) (by repeat (first | exact .nil | refine .cons rfl ?_ | refine .consE rfl (by first | rfl | (congr 1; omega) | (congr 1; push_cast; omega)) ?_)) (Weak.keep (ownS.to1 rfl (by rw [hmid])))
    ·rintro ⟨gb, gn, gc⟩ hinv
     replace hinv : gn = (midA (paidL (⟨l, r, bu, su⟩ : Led) x) x.to).length ∧ gn ≤ gc := hinv
     show St (cx gl) _ _ [REG q sg rc, ownS 38 5 (.slice (some ⟨gb, 0, none⟩) gn gc) (gn) (Go.Proofs.YtfhjhaogmdaepaaGreatDoor.rc ((midA (paidL (⟨l, r, bu, su⟩ : Led) x) x.to))), ownS 135 4 (.slice vb r.length vc) (r.length) (Go.Proofs.YtfhjhaogmdaepaaGreatDoor.rc (r)), blk b14 (ledV (.slice none 0 0) (.slice none 0 0) 0 0) 26, blk b13 x.cells 88, blk b10 p.cells 62, blk b7 (ledV (.slice (some ⟨gb, 0, none⟩) gn gc) (.slice vb r.length vc) (bu) su) 26] _
     obtain ⟨hgn, hgc⟩ := hinv
     have hMl : (spotI (paidL (⟨l, r, bu, su⟩ : Led) x) x.to) < gn := by rw [hgn]; exact midA_lt _ _
     have hM : (midA (paidL (⟨l, r, bu, su⟩ : Led) x) x.to)[(spotI (paidL (⟨l, r, bu, su⟩ : Led) x) x.to)]? = some (accAt (midA (paidL (⟨l, r, bu, su⟩ : Led) x) x.to) (spotI (paidL (⟨l, r, bu, su⟩ : Led) x) x.to)) := accAt_get (midA_lt _ _)
     refine R_open [(0, 0), (1, 1), (2, 0), (3, 0), (4, 0), (5, 1), (6, 0), (7, 1), (8, 0), (9, 0), (10, 0), (11, 3)] mixed (by kernel_rfl) (QOk.block (QOk.then QOk.body)) ?_
     refine O_pure rfl rfl rfl rfl (P_fld0 rfl ty_fl_26_0 rfl) ?_
     refine O_val rfl rfl rfl rfl (V_load rfl rfl ty_sc_22 (Rd.blk .h6 rfl)) ?_
     refine O_pure rfl rfl rfl rfl (P_move rfl rfl) ?_
     refine O_pure rfl rfl rfl rfl (P_ixs ((spotI (paidL (⟨l, r, bu, su⟩ : Led) x) x.to)) rfl ty_sl_22 rfl rfl (by first | rfl | omega) (by omega)) ?_
     refine O_pure rfl rfl rfl rfl (P_fld rfl ty_fl_38_1 rfl) ?_
     refine O_val rfl rfl rfl rfl (V_load rfl rfl ty_sc_24 (rd_rc (rds_own .h1) hM rfl)) ?_
     refine O_pure rfl rfl rfl rfl (P_fld0 rfl ty_fl_88_3 rfl) ?_
     refine O_val rfl rfl rfl rfl (V_load rfl rfl ty_sc_24 (Rd.blk .h4 rfl)) ?_
     refine O_pure rfl rfl rfl rfl (P_add rfl rfl rfl) ?_
     refine O_pure rfl rfl rfl rfl (P_ixs ((spotI (paidL (⟨l, r, bu, su⟩ : Led) x) x.to)) rfl ty_sl_22 rfl rfl (by first | rfl | omega) (by omega)) ?_
     refine O_pure rfl rfl rfl rfl (P_fld rfl ty_fl_38_1 rfl) ?_
     refine O_new rfl rfl (W_setRec (sz := 5) (j := 1) (z := addBal x.amt (accAt (midA (paidL (⟨l, r, bu, su⟩ : Led) x) x.to) (spotI (paidL (⟨l, r, bu, su⟩ : Led) x) x.to))) rfl rfl rfl rfl ty_sc_24 rfl (hM) rfl (by decide) rfl .h1 (K_new ?_))
     refine O_nil ?_
     refine St.env (.cons (t := 5) rfl (.cons (t := 7) rfl (.cons (t := 13) rfl (.cons (t := 14) rfl (.cons (t := 15) rfl .nil))))) ?_
     refine Q_block ?_
     exact Q_meet (gb, gn, gc, vb, r.length, vc) (by show (gn) = (accK (⟨l, r, bu, su⟩ : Led) x).length ∧ (gn) ≤ (gc) ∧ (r.length) = (relK (⟨l, r, bu, su⟩ : Led) p h x).length ∧ (r.length) ≤ (vc); exact ⟨by rw [haK]; unfold payP; rw [List.length_set]; exact hgn, hgc, by rw [hrK], hvc⟩) (by repeat (first | exact .nil | refine .cons rfl ?_ | refine .consE rfl (by first | rfl | (congr 1; omega) | (congr 1; push_cast; omega)) ?_)) (Weak.keep (Weak.trans (ownS.to1 rfl (by rw [haK]; rfl)) (Weak.keep (ownS.to1 rfl (by rw [hrK])))))
   ·skip
    have k1 := of_decide_eq_false k1
    refine L_val rfl rfl rfl (OpP.v (P_assign rfl rfl)) ?_
    refine L_nil ?_
    refine St.env (.cons (t := 4) rfl (.cons (t := 5) rfl (.cons (t := 7) rfl (.cons (t := 10) rfl (.cons (t := 13) rfl (.cons (t := 14) rfl (.cons (t := 15) rfl (.cons (t := 17) rfl (.cons (t := 66) rfl (.cons (t := 67) rfl .nil)))))))))) ?_
    refine Q_then ?_
    refine R_condF rfl ?_
    refine R_seq ?_
    refine R_region ?_
    refine L_val rfl rfl rfl (OpP.v (P_eql rfl rfl rfl)) ?_
    refine E_bool (t := 99) rfl (fun k2 => ?_) (fun k2 => ?_)
    ·skip
     have k2 := of_decide_eq_true k2
     have haK : accK (⟨l, r, bu, su⟩ : Led) x = l.set (spotI l x.frm) (addBond x.amt (payer x (senderA (⟨l, r, bu, su⟩ : Led) x))) := by unfold accK; rw [if_neg k1, if_pos k2]
     have hrK : relK (⟨l, r, bu, su⟩ : Led) p h x = r := by unfold relK; rw [if_neg (by omega)]
     refine L_val rfl rfl rfl (OpP.v (P_assign rfl rfl)) ?_
     refine L_nil ?_
     refine St.env (.cons (t := 4) rfl (.cons (t := 5) rfl (.cons (t := 7) rfl (.cons (t := 10) rfl (.cons (t := 13) rfl (.cons (t := 14) rfl (.cons (t := 15) rfl (.cons (t := 17) rfl (.cons (t := 66) rfl (.cons (t := 98) rfl .nil)))))))))) ?_
     refine Q_then ?_
     refine R_condT rfl ?_
     refine R_open [(0, 0), (1, 0), (2, 0), (3, 1), (4, 0), (5, 1), (6, 0), (7, 0), (8, 0), (9, 3)] mixed (by kernel_rfl) (QOk.block (QOk.then QOk.body)) ?_
     refine O_pure rfl rfl rfl rfl (P_move rfl rfl) ?_
     refine O_pure rfl rfl rfl rfl (P_nil rfl rfl) ?_
     refine O_pure rfl rfl rfl rfl (P_fld rfl ty_fl_38_2 rfl) ?_
     refine O_val rfl rfl rfl rfl (V_load rfl rfl ty_sc_24 (rd_rc (rds_own .h1) hP rfl)) ?_
     refine O_pure rfl rfl rfl rfl (P_fld0 rfl ty_fl_88_3 rfl) ?_
     refine O_val rfl rfl rfl rfl (V_load rfl rfl ty_sc_24 (Rd.blk .h4 rfl)) ?_
     refine O_pure rfl rfl rfl rfl (P_add rfl rfl rfl) ?_
     refine O_pure rfl rfl rfl rfl (P_nil rfl rfl) ?_
     refine O_pure rfl rfl rfl rfl (P_fld rfl ty_fl_38_2 rfl) ?_
     refine O_new rfl rfl (W_setRec (sz := 5) (j := 2) (z := addBond x.amt (payer x (senderA (⟨l, r, bu, su⟩ : Led) x))) rfl rfl rfl rfl ty_sc_24 rfl (hP) rfl (by decide) rfl .h1 (K_new ?_))
     refine O_nil ?_
     refine St.env (.cons (t := 5) rfl (.cons (t := 7) rfl (.cons (t := 13) rfl (.cons (t := 14) rfl (.cons (t := 15) rfl .nil))))) ?_
     refine Q_block ?_
     exact Q_meet (fb, l.length, fc, vb, r.length, vc) (by show (l.length) = (accK (⟨l, r, bu, su⟩ : Led) x).length ∧ (l.length) ≤ (fc) ∧ (r.length) = (relK (⟨l, r, bu, su⟩ : Led) p h x).length ∧ (r.length) ≤ (vc); exact ⟨by rw [haK, List.length_set], hfc, by rw [hrK], hvc⟩) (by repeat (first | exact .nil | refine .cons rfl ?_ | refine .consE rfl (by first | rfl | (congr 1; omega) | (congr 1; push_cast; omega)) ?_)) (Weak.keep (Weak.trans (ownS.to1 rfl (by rw [haK]; exact congrArg _ (List.set_set ..))) (Weak.keep (ownS.to1 rfl (by rw [hrK])))))
    ·skip
     have k2 := of_decide_eq_false k2
     refine L_val rfl rfl rfl (OpP.v (P_assign rfl rfl)) ?_
     refine L_nil ?_
     refine St.env (.cons (t := 4) rfl (.cons (t := 5) rfl (.cons (t := 7) rfl (.cons (t := 10) rfl (.cons (t := 13) rfl (.cons (t := 14) rfl (.cons (t := 15) rfl (.cons (t := 17) rfl (.cons (t := 66) rfl (.cons (t := 98) rfl .nil)))))))))) ?_
     refine Q_then ?_
     refine R_condF rfl ?_
     refine R_seq ?_
     refine R_region ?_
     refine L_val rfl rfl rfl (OpP.v (P_eql rfl rfl rfl)) ?_
     refine E_bool (t := 110) rfl (fun k3 => ?_) (fun k3 => ?_)
     ·skip
      have k3 := of_decide_eq_true k3
      have haK : accK (⟨l, r, bu, su⟩ : Led) x = l.set (spotI l x.frm) (subBond x.amt (payer x (senderA (⟨l, r, bu, su⟩ : Led) x))) := by unfold accK; rw [if_neg k1, if_neg k2, if_pos k3]
      have hrK : relK (⟨l, r, bu, su⟩ : Led) p h x = relP r (h + p.p3) x.frm h x.amt := by unfold relK; rw [if_pos k3]
      have hsub : x.amt ≤ (senderA (⟨l, r, bu, su⟩ : Led) x).bond := by unfold kindE at hkd; rw [if_neg k1, if_pos k3] at hkd; split at hkd <;> omega
      refine L_val rfl rfl rfl (OpP.v (P_assign rfl rfl)) ?_
      refine L_nil ?_
      refine St.env (.cons (t := 4) rfl (.cons (t := 5) rfl (.cons (t := 7) rfl (.cons (t := 10) rfl (.cons (t := 13) rfl (.cons (t := 14) rfl (.cons (t := 15) rfl (.cons (t := 17) rfl (.cons (t := 66) rfl (.cons (t := 109) rfl .nil)))))))))) ?_
      refine Q_then ?_
      refine R_condT rfl ?_
      refine R_seq ?_
      refine R_open [(0, 0), (1, 0), (2, 0), (3, 1), (4, 0), (5, 1), (6, 0), (7, 0), (8, 0), (9, 3)] mixed (by kernel_rfl) (QOk.then (QOk.block (QOk.then QOk.body))) ?_
      refine O_pure rfl rfl rfl rfl (P_move rfl rfl) ?_
      refine O_pure rfl rfl rfl rfl (P_nil rfl rfl) ?_
      refine O_pure rfl rfl rfl rfl (P_fld rfl ty_fl_38_2 rfl) ?_
      refine O_val rfl rfl rfl rfl (V_load rfl rfl ty_sc_24 (rd_rc (rds_own .h1) hP rfl)) ?_
      refine O_pure rfl rfl rfl rfl (P_fld0 rfl ty_fl_88_3 rfl) ?_
      refine O_val rfl rfl rfl rfl (V_load rfl rfl ty_sc_24 (Rd.blk .h4 rfl)) ?_
      refine O_pure rfl rfl rfl rfl (P_subN rfl rfl rfl (by have := hx.amt.1; show fits .u64 ((senderA (⟨l, r, bu, su⟩ : Led) x).bond - x.amt); simp only [fits]; omega)) ?_
      refine O_pure rfl rfl rfl rfl (P_nil rfl rfl) ?_
      refine O_pure rfl rfl rfl rfl (P_fld rfl ty_fl_38_2 rfl) ?_
      refine O_new rfl rfl (W_setRec (sz := 5) (j := 2) (z := subBond x.amt (payer x (senderA (⟨l, r, bu, su⟩ : Led) x))) rfl rfl rfl rfl ty_sc_24 rfl (hP) rfl (by decide) rfl .h1 (K_new ?_))
      refine O_nil ?_
      refine St.env (.cons (t := 4) rfl (.cons (t := 5) rfl (.cons (t := 7) rfl (.cons (t := 10) rfl (.cons (t := 13) rfl (.cons (t := 14) rfl (.cons (t := 15) rfl .nil))))))) ?_
      refine Q_then ?_
      refine R_seq ?_
      refine St.res (rs' := [REG q sg rc, ownS 38 5 (.slice (some ⟨fb, 0, none⟩) l.length fc) (l.length) (Go.Proofs.YtfhjhaogmdaepaaGreatDoor.rc (l.set (spotI l x.frm) (subBond x.amt (payer x (senderA (⟨l, r, bu, su⟩ : Led) x))))), ownS 135 4 (.slice vb r.length vc) (r.length) (Go.Proofs.YtfhjhaogmdaepaaGreatDoor.rc (r)), blk b14 (ledV (.slice none 0 0) (.slice none 0 0) 0 0) 26, blk b13 x.cells 88, blk b10 p.cells 62, blk b7 (ledV (.slice (some ⟨fb, 0, none⟩) l.length fc) (.slice vb r.length vc) (bu) su) 26]) (Weak.keep (ownS.to1 rfl (congrArg _ (List.set_set ..)))) ?_
      refine R_region ?_
      refine L_val rfl rfl rfl (V_loadAgg rfl rfl ty_ag_26 (Rds.blk .h6) (rfl)) ?_
      refine L_val rfl rfl rfl (OpP.v (P_move rfl rfl)) ?_
      refine L_val rfl rfl rfl (OpP.v (P_fld0 rfl ty_fl_62_3 rfl)) ?_
      refine L_val rfl rfl rfl (V_load rfl rfl ty_sc_24 (Rd.blk .h5 rfl)) ?_
      refine L_val rfl rfl rfl (OpP.v (P_addN rfl rfl rfl (by have := hp3.1; simp only [fits]; omega))) ?_
      refine L_val rfl rfl rfl (OpP.v (P_fld0 rfl ty_fl_88_1 rfl)) ?_
      refine L_val rfl rfl rfl (V_load rfl rfl ty_sc_27 (Rd.blk .h4 rfl)) ?_
      refine L_op rfl (W_callV rfl rfl rfl rfl fn_ca_105 (row_ok (.slice (some ⟨fb, 0, none⟩) l.length fc) rfl vb vc r hvc (by omega) bu su (h + p.p3) x.frm) ((Sn.own .h2 rfl).rw_) ?_)
      refine L_val rfl rfl rfl (OpP.v (P_move rfl rfl)) ?_
      refine L_val rfl rfl rfl (OpP.v (P_extract rfl rfl rfl)) ?_
      refine L_val rfl rfl rfl (OpP.v (P_extract rfl rfl rfl)) ?_
      refine L_val rfl rfl rfl (OpP.v (P_assign rfl rfl)) ?_
      refine L_val rfl rfl rfl (OpP.v (P_assign rfl rfl)) ?_
      refine L_nil ?_
      refine St.env (.cons (t := 4) rfl (.cons (t := 5) rfl (.cons (t := 7) rfl (.cons (t := 10) rfl (.cons (t := 13) rfl (.cons (t := 14) rfl (.cons (t := 15) rfl (.cons (t := 20) rfl (.cons (t := 21) rfl .nil))))))))) ?_
      refine Q_then ?_
      refine R_joinE (G := Option Addr × Nat × Nat) (.cons (t := 5) rfl (.cons (t := 7) rfl (.cons (t := 13) rfl (.cons (t := 14) rfl (.cons (t := 15) rfl (.cons (t := 20) rfl .nil)))))) (fun g => []) (fun g => [REG q sg rc, ownS 38 5 (.slice (some ⟨fb, 0, none⟩) l.length fc) (l.length) (Go.Proofs.YtfhjhaogmdaepaaGreatDoor.rc (l.set (spotI l x.frm) (subBond x.amt (payer x (senderA (⟨l, r, bu, su⟩ : Led) x))))), ownS 135 4 (.slice g.1 g.2.1 g.2.2) (g.2.1) (Go.Proofs.YtfhjhaogmdaepaaGreatDoor.rc ((midR r (h + p.p3) x.frm h))), blk b14 (ledV (.slice none 0 0) (.slice none 0 0) 0 0) 26, blk b13 x.cells 88, blk b10 p.cells 62, blk b7 (ledV (.slice (some ⟨fb, 0, none⟩) l.length fc) (.slice g.1 g.2.1 g.2.2) (bu) su) 26]) (fun g => g.2.1 = (midR r (h + p.p3) x.frm h).length ∧ g.2.1 ≤ g.2.2) ?_ ?_
      ·skip
       refine R_seq ?_
       refine R_region ?_
       refine L_val rfl rfl rfl (OpP.v (P_move rfl rfl)) ?_
       refine L_val rfl rfl rfl (OpP.v (P_not rfl rfl)) ?_
       refine L_nil ?_
       refine St.env (.cons (t := 4) rfl (.cons (t := 5) rfl (.cons (t := 7) rfl (.cons (t := 10) rfl (.cons (t := 13) rfl (.cons (t := 14) rfl (.cons (t := 15) rfl (.cons (t := 20) rfl (.cons (t := 132) rfl .nil))))))))) ?_
       refine Q_then ?_
       refine R_cond rfl (fun hro => ?_) (fun hro => ?_)
       ·skip
        have hro : rowB r (h + p.p3) x.frm = false := by simpa using hro
        have hmid := midR_no (b := h) hro
        have hil := insL_length (rowI_le r (h + p.p3) x.frm) (⟨h + p.p3, x.frm, h, 0⟩ : Rel)
        refine R_region ?_
        refine L_val rfl rfl rfl (OpP.v (P_fld0 rfl ty_fl_26_1 rfl)) ?_
        refine L_val rfl rfl rfl (V_load rfl rfl ty_sc_23 (Rd.blk .h6 rfl)) ?_
        refine L_val rfl rfl rfl (OpP.v (P_move rfl rfl)) ?_
        refine L_val rfl rfl rfl (OpP.v (P_move rfl rfl)) ?_
        refine L_val rfl rfl rfl (OpP.v (P_fld0 rfl ty_fl_62_3 rfl)) ?_
        refine L_val rfl rfl rfl (V_load rfl rfl ty_sc_24 (Rd.blk .h5 rfl)) ?_
        refine L_val rfl rfl rfl (OpP.v (P_addN rfl rfl rfl (by have := hp3.1; simp only [fits]; omega))) ?_
        refine L_val rfl rfl rfl (OpP.v (P_fld0 rfl ty_fl_88_1 rfl)) ?_
        refine L_val rfl rfl rfl (V_load rfl rfl ty_sc_27 (Rd.blk .h4 rfl)) ?_
        refine L_val rfl rfl rfl (OpP.v (P_move rfl rfl)) ?_
        refine L_val rfl rfl rfl (OpP.v (P_buildStruct rfl ty_pl_135 ty_ze_135 rfl rfl (rfl))) ?_
        refine E_as (t := 143) (v' := .agg (⟨h + p.p3, x.frm, h, 0⟩ : Rel).cells.toArray) rfl (rfl) ?_
        refine L_op rfl (W_litZ (z := .nilIface) (Rec.cells (⟨h + p.p3, x.frm, h, 0⟩ : Rel)) rfl rfl rfl ty_sl_23 ty_lz_23 rfl rfl rfl (by decide) (by decide) (by intro v hv; simp only [List.mem_cons, List.not_mem_nil, or_false] at hv; subst hv; rfl) (by rfl) fun b144 => ?_)
        refine L_op rfl (W_call rfl rfl rfl rfl fn_ca_106 (insR_ok vb vc r (rowI r (h + p.p3) x.frm) (⟨h + p.p3, x.frm, h, 0⟩ : Rel) b144 (rowI_le _ _ _) hvc (by omega)) (Weak.pick (p := [_, _, _]) (Weak.keep (Weak.keep (Weak.keep (Weak.keep (Weak.keep (Weak.keep (Weak.keep (Weak.nil _))))))))) (fun _ _ _ _ _ _ _ => trivial) fun v1 rs1 (e1 : rs1 = _) => ?_)
        subst e1
        refine St.ownForm (p := []) fun ub uc huv huc => ?_
        subst huv
        refine L_val rfl rfl rfl (OpP.v (P_fld0 rfl ty_fl_26_1 rfl)) ?_
        refine L_op rfl (W_store rfl rfl rfl rfl ty_sc_23 rfl .h6 (by simp [ledV]) ?_)
        refine L_nil ?_
        refine St.env (.cons (t := 5) rfl (.cons (t := 7) rfl (.cons (t := 13) rfl (.cons (t := 14) rfl (.cons (t := 15) rfl (.cons (t := 20) rfl .nil)))))) ?_
        exact Q_meet (ub, r.length + 1, uc) (by show (r.length + 1) = (midR r (h + p.p3) x.frm h).length ∧ (r.length + 1) ≤ (uc); exact ⟨by rw [hmid, hil], huc⟩) (by repeat (first | exact .nil | refine .cons rfl ?_ | refine .consE rfl (by first | rfl | (congr 1; omega) | (congr 1; push_cast; omega)) ?_)) (Weak.trans (Weak.pick (p := [_]) (Weak.pick (p := [_]) (Weak.keep (Weak.keep (Weak.keep (Weak.keep (Weak.keep (Weak.nil _)))))))) (Weak.keep (Weak.keep (ownS.to1 rfl (by rw [hmid])))))
       ·skip
        have hro : rowB r (h + p.p3) x.frm = true := by simpa using hro
        have hmid := midR_yes (b := h) hro
        refine R_skip ?_
        exact Q_meet (vb, r.length, vc) (by show (r.length) = (midR r (h + p.p3) x.frm h).length ∧ (r.length) ≤ (vc); exact ⟨by rw [hmid], hvc⟩) (by repeat (first | exact .nil | refine .cons rfl ?_ | refine .consE rfl (by first | rfl | (congr 1; omega) | (congr 1; push_cast; omega)) ?_)) (Weak.keep (Weak.keep (ownS.to1 rfl (by rw [hmid]))))
      ·rintro ⟨hb, hn_, hc_⟩ hinv
       replace hinv : hn_ = (midR r (h + p.p3) x.frm h).length ∧ hn_ ≤ hc_ := hinv
       show St (cx gl) _ _ [REG q sg rc, ownS 38 5 (.slice (some ⟨fb, 0, none⟩) l.length fc) (l.length) (Go.Proofs.YtfhjhaogmdaepaaGreatDoor.rc (l.set (spotI l x.frm) (subBond x.amt (payer x (senderA (⟨l, r, bu, su⟩ : Led) x))))), ownS 135 4 (.slice hb hn_ hc_) (hn_) (Go.Proofs.YtfhjhaogmdaepaaGreatDoor.rc ((midR r (h + p.p3) x.frm h))), blk b14 (ledV (.slice none 0 0) (.slice none 0 0) 0 0) 26, blk b13 x.cells 88, blk b10 p.cells 62, blk b7 (ledV (.slice (some ⟨fb, 0, none⟩) l.length fc) (.slice hb hn_ hc_) (bu) su) 26] _
       obtain ⟨hhn, hhc⟩ := hinv
       have hMl := midR_lt r (h + p.p3) x.frm h
       have hM : (midR r (h + p.p3) x.frm h)[(rowI r (h + p.p3) x.frm)]? = some (relAt (midR r (h + p.p3) x.frm h) (rowI r (h + p.p3) x.frm)) := relAt_get hMl
       refine St.ownSome (p := [_, _]) (by omega) fun rbb rcc hrv hrc => ?_
       simp only [Value.slice.injEq, true_and] at hrv
       obtain ⟨rfl, rfl⟩ := hrv
       refine R_open [(0, 0), (1, 1), (2, 0), (3, 0), (4, 0), (5, 1), (6, 0), (7, 1), (8, 0), (9, 0), (10, 0), (11, 3)] mixed (by kernel_rfl) (QOk.block (QOk.then QOk.body)) ?_
       refine O_pure rfl rfl rfl rfl (P_fld0 rfl ty_fl_26_1 rfl) ?_
       refine O_val rfl rfl rfl rfl (V_load rfl rfl ty_sc_23 (Rd.blk .h6 rfl)) ?_
       refine O_pure rfl rfl rfl rfl (P_move rfl rfl) ?_
       refine O_pure rfl rfl rfl rfl (P_ixs ((rowI r (h + p.p3) x.frm)) rfl ty_sl_23 rfl rfl (by first | rfl | omega) (by omega)) ?_
       refine O_pure rfl rfl rfl rfl (P_fld rfl ty_fl_135_3 rfl) ?_
       refine O_val rfl rfl rfl rfl (V_load rfl rfl ty_sc_24 (rd_rc (rds_own .h2) hM rfl)) ?_
       refine O_pure rfl rfl rfl rfl (P_fld0 rfl ty_fl_88_3 rfl) ?_
       refine O_val rfl rfl rfl rfl (V_load rfl rfl ty_sc_24 (Rd.blk .h4 rfl)) ?_
       refine O_pure rfl rfl rfl rfl (P_add rfl rfl rfl) ?_
       refine O_pure rfl rfl rfl rfl (P_ixs ((rowI r (h + p.p3) x.frm)) rfl ty_sl_23 rfl rfl (by first | rfl | omega) (by omega)) ?_
       refine O_pure rfl rfl rfl rfl (P_fld rfl ty_fl_135_3 rfl) ?_
       refine O_new rfl rfl (W_setRec (sz := 4) (j := 3) (z := addAmt x.amt (relAt (midR r (h + p.p3) x.frm h) (rowI r (h + p.p3) x.frm))) rfl rfl rfl rfl ty_sc_24 rfl (hM) rfl (by decide) rfl .h2 (K_new ?_))
       refine O_nil ?_
       refine St.env (.cons (t := 5) rfl (.cons (t := 7) rfl (.cons (t := 13) rfl (.cons (t := 14) rfl (.cons (t := 15) rfl .nil))))) ?_
       refine Q_block ?_
       exact Q_meet (fb, l.length, fc, some ⟨rbb, 0, none⟩, hn_, hc_) (by show (l.length) = (accK (⟨l, r, bu, su⟩ : Led) x).length ∧ (l.length) ≤ (fc) ∧ (hn_) = (relK (⟨l, r, bu, su⟩ : Led) p h x).length ∧ (hn_) ≤ (hc_); exact ⟨by rw [haK, List.length_set], hfc, by rw [hrK]; unfold relP; rw [List.length_set]; exact hhn, hhc⟩) (by repeat (first | exact .nil | refine .cons rfl ?_ | refine .consE rfl (by first | rfl | (congr 1; omega) | (congr 1; push_cast; omega)) ?_)) (Weak.keep (Weak.trans (ownS.to1 rfl (by rw [haK])) (Weak.keep (ownS.to1 rfl (by rw [hrK]; rfl)))))
     ·skip
      have k3 := of_decide_eq_false k3
      refine L_val rfl rfl rfl (OpP.v (P_assign rfl rfl)) ?_
      refine L_nil ?_
      refine St.env (.cons (t := 4) rfl (.cons (t := 5) rfl (.cons (t := 7) rfl (.cons (t := 10) rfl (.cons (t := 13) rfl (.cons (t := 14) rfl (.cons (t := 15) rfl (.cons (t := 17) rfl (.cons (t := 66) rfl (.cons (t := 109) rfl .nil)))))))))) ?_
      refine Q_then ?_
      refine R_condF rfl ?_
      refine R_seq ?_
      refine R_region ?_
      refine L_val rfl rfl rfl (OpP.v (P_eql rfl rfl rfl)) ?_
      refine E_true (t := 159) rfl (decide_eq_true (by have := hF.k1; have := hF.k2; omega)) ?_
      refine L_val rfl rfl rfl (OpP.v (P_assign rfl rfl)) ?_
      refine L_nil ?_
      refine St.env (.cons (t := 5) rfl (.cons (t := 7) rfl (.cons (t := 13) rfl (.cons (t := 14) rfl (.cons (t := 15) rfl (.cons (t := 17) rfl (.cons (t := 158) rfl .nil))))))) ?_
      refine Q_then ?_
      refine R_condT rfl ?_
      have k4 : x.kind = 4 := by have := hF.k1; have := hF.k2; omega
      have haK : accK (⟨l, r, bu, su⟩ : Led) x = l.set (spotI l x.frm) (unjail (payer x (senderA (⟨l, r, bu, su⟩ : Led) x))) := by unfold accK; rw [if_neg k1, if_neg k2, if_neg k3, if_pos k4]
      have hrK : relK (⟨l, r, bu, su⟩ : Led) p h x = r := by unfold relK; rw [if_neg (by omega)]
      refine R_region ?_
      refine L_val rfl rfl rfl (OpP.v (P_move rfl rfl)) ?_
      refine L_val rfl rfl rfl (OpP.v (P_nil rfl rfl)) ?_
      refine L_val rfl rfl rfl (OpP.v (P_fld rfl ty_fl_38_4 rfl)) ?_
      refine L_op rfl (W_setRec (sz := 5) (j := 4) (z := unjail (payer x (senderA (⟨l, r, bu, su⟩ : Led) x))) rfl rfl rfl rfl ty_sc_4 rfl (hP) rfl (by decide) rfl .h1 ?_)
      refine L_nil ?_
      refine St.env (.cons (t := 5) rfl (.cons (t := 7) rfl (.cons (t := 13) rfl (.cons (t := 14) rfl (.cons (t := 15) rfl .nil))))) ?_
      refine Q_block ?_
      exact Q_meet (fb, l.length, fc, vb, r.length, vc) (by show (l.length) = (accK (⟨l, r, bu, su⟩ : Led) x).length ∧ (l.length) ≤ (fc) ∧ (r.length) = (relK (⟨l, r, bu, su⟩ : Led) p h x).length ∧ (r.length) ≤ (vc); exact ⟨by rw [haK, List.length_set], hfc, by rw [hrK], hvc⟩) (by repeat (first | exact .nil | refine .cons rfl ?_ | refine .consE rfl (by first | rfl | (congr 1; omega) | (congr 1; push_cast; omega)) ?_)) (Weak.keep (Weak.trans (ownS.to1 rfl (by rw [haK]; exact congrArg _ (List.set_set ..))) (Weak.keep (ownS.to1 rfl (by rw [hrK])))))
  ·rintro ⟨ab, an, ac, rb, rn, rcap⟩ hinv
   replace hinv : an = (accK (⟨l, r, bu, su⟩ : Led) x).length ∧ an ≤ ac ∧ rn = (relK (⟨l, r, bu, su⟩ : Led) p h x).length ∧ rn ≤ rcap := hinv
   show St (cx gl) _ _ [REG q sg rc, ownS 38 5 (.slice (some ⟨ab, 0, none⟩) an ac) (an) (Go.Proofs.YtfhjhaogmdaepaaGreatDoor.rc ((accK (⟨l, r, bu, su⟩ : Led) x))), ownS 135 4 (.slice rb rn rcap) (rn) (Go.Proofs.YtfhjhaogmdaepaaGreatDoor.rc ((relK (⟨l, r, bu, su⟩ : Led) p h x))), blk b14 (ledV (.slice none 0 0) (.slice none 0 0) 0 0) 26, blk b13 x.cells 88, blk b10 p.cells 62, blk b7 (ledV (.slice (some ⟨ab, 0, none⟩) an ac) (.slice rb rn rcap) (bu) su) 26] _
   obtain ⟨han, hac, hrn, hrc⟩ := hinv
   have hAle := accK_le (⟨l, r, bu, su⟩ : Led) x
   have hAle' : (accK (⟨l, r, bu, su⟩ : Led) x).length ≤ l.length + 1 := hAle
   refine R_seq ?_
   refine R_seq ?_
   refine R_region ?_
   refine L_val rfl rfl rfl (V_loadAgg rfl rfl ty_ag_26 (Rds.blk .h6) (rfl)) ?_
   refine L_val rfl rfl rfl (OpP.v (P_move rfl rfl)) ?_
   refine L_op rfl (W_callV rfl rfl rfl rfl fn_ca_76 ((by have h9 := place_ok (gl := gl) (some ⟨ab, 0, none⟩) ac (accK (⟨l, r, bu, su⟩ : Led) x) (by rw [← han]; exact hac) (by omega) (.slice rb rn rcap) rfl bu su by_; rw [← han] at h9; exact h9)) ((Sn.own .h1 rfl).rw_) ?_)
   refine L_val rfl rfl rfl (OpP.v (P_assign rfl rfl)) ?_
   refine L_nil ?_
   refine St.env (.cons (t := 7) rfl (.cons (t := 13) rfl (.cons (t := 14) rfl (.cons (t := 15) rfl (.cons (t := 22) rfl .nil))))) ?_
   refine Q_then ?_
   refine R_seq ?_
   refine R_region ?_
   refine L_val rfl rfl rfl (OpP.v (P_move rfl rfl)) ?_
   refine L_val rfl rfl rfl (OpP.v (P_geq rfl rfl rfl)) ?_
   refine L_nil ?_
   refine St.env (.cons (t := 7) rfl (.cons (t := 13) rfl (.cons (t := 14) rfl (.cons (t := 15) rfl (.cons (t := 22) rfl (.cons (t := 167) rfl .nil)))))) ?_
   refine Q_then ?_
   refine R_condP rfl (fun hq => ?_) (fun hq => ?_)
   ·skip
    have hB : spotB (accK (⟨l, r, bu, su⟩ : Led) x) by_ = true := by cases h9 : spotB (accK (⟨l, r, bu, su⟩ : Led) x) by_ with | true => rfl | false => exfalso; rw [show placeI (accK (⟨l, r, bu, su⟩ : Led) x) by_ = -1 by unfold placeI; rw [if_neg (by rw [h9]; decide)]] at hq; omega
    have hS := accAt_get (spotB_lt hB)
    have hBl : spotI (accK (⟨l, r, bu, su⟩ : Led) x) by_ < an := by rw [han]; exact spotB_lt hB
    have hAp : (appL rc ch (⟨l, r, bu, su⟩ : Led) p h by_ x) = ⟨(accK (⟨l, r, bu, su⟩ : Led) x).set (spotI (accK (⟨l, r, bu, su⟩ : Led) x) by_) (addBal x.fee (accAt (accK (⟨l, r, bu, su⟩ : Led) x) (spotI (accK (⟨l, r, bu, su⟩ : Led) x) by_))), (relK (⟨l, r, bu, su⟩ : Led) p h x), bu, su⟩ := by unfold appL; rw [if_pos he]; unfold appP; rw [if_pos hB]
    have hlen : an = (appL rc ch (⟨l, r, bu, su⟩ : Led) p h by_ x).acc.length := by rw [hAp]; show an = (List.set _ _ _).length; rw [List.length_set]; exact han
    have hlen2 : rn = (appL rc ch (⟨l, r, bu, su⟩ : Led) p h by_ x).rel.length := by rw [hAp]; exact hrn
    refine E_as (t := 22) (v' := .int .i64 ((spotI (accK (⟨l, r, bu, su⟩ : Led) x) by_ : Nat) : Int)) rfl (by unfold placeI; rw [if_pos hB]) ?_
    refine R_open [(0, 0), (1, 1), (2, 0), (3, 0), (4, 0), (5, 1), (6, 0), (7, 1), (8, 0), (9, 0), (10, 0), (11, 3)] mixed (by kernel_rfl) (QOk.then QOk.body) ?_
    refine O_pure rfl rfl rfl rfl (P_fld0 rfl ty_fl_26_0 rfl) ?_
    refine O_val rfl rfl rfl rfl (V_load rfl rfl ty_sc_22 (Rd.blk .h6 rfl)) ?_
    refine O_pure rfl rfl rfl rfl (P_move rfl rfl) ?_
    refine O_pure rfl rfl rfl rfl (P_ixs (spotI (accK (⟨l, r, bu, su⟩ : Led) x) by_) rfl ty_sl_22 rfl rfl (by first | rfl | omega) (by omega)) ?_
    refine O_pure rfl rfl rfl rfl (P_fld rfl ty_fl_38_1 rfl) ?_
    refine O_val rfl rfl rfl rfl (V_load rfl rfl ty_sc_24 (rd_rc (rds_own .h1) hS rfl)) ?_
    refine O_pure rfl rfl rfl rfl (P_fld0 rfl ty_fl_88_4 rfl) ?_
    refine O_val rfl rfl rfl rfl (V_load rfl rfl ty_sc_24 (Rd.blk .h4 rfl)) ?_
    refine O_pure rfl rfl rfl rfl (P_add rfl rfl rfl) ?_
    refine O_pure rfl rfl rfl rfl (P_ixs (spotI (accK (⟨l, r, bu, su⟩ : Led) x) by_) rfl ty_sl_22 rfl rfl (by first | rfl | omega) (by omega)) ?_
    refine O_pure rfl rfl rfl rfl (P_fld rfl ty_fl_38_1 rfl) ?_
    refine O_new rfl rfl (W_setRec (sz := 5) (j := 1) (z := addBal x.fee (accAt (accK (⟨l, r, bu, su⟩ : Led) x) (spotI (accK (⟨l, r, bu, su⟩ : Led) x) by_))) rfl rfl rfl rfl ty_sc_24 rfl (hS) rfl (by decide) rfl .h1 (K_new ?_))
    refine O_nil ?_
    refine St.env (.cons (t := 7) rfl (.cons (t := 14) rfl (.cons (t := 15) rfl .nil))) ?_
    refine Q_then ?_
    refine R_seq ?_
    refine R_region ?_
    refine L_val rfl rfl rfl (V_loadAgg rfl rfl ty_ag_26 (Rds.blk .h6) (rfl)) ?_
    refine L_op rfl (W_storeAll rfl rfl rfl rfl ty_ag_26 (rfl) (ledV_one _ _ _ _ rfl rfl) .h3 (rfl) ?_)
    refine L_val rfl rfl rfl (OpP.v (P_assign rfl rfl)) ?_
    refine L_nil ?_
    refine St.env (.cons (t := 14) rfl (.cons (t := 15) rfl .nil)) ?_
    refine Q_then ?_
    refine R_ret ?_
    exact R_end (rs2 := _) rfl rfl (.cell rfl (Rds.loadVar ty_ag_26 (Rds.blk .h3) rfl) (.tmp rfl .nil)) (⟨.slice (some ⟨ab, 0, none⟩) an ac, .slice rb rn rcap, by rw [hAp, he]; rfl, rfl⟩) (Weak.trans (Weak.pick (p := [_]) (Weak.pick (p := [_]) (Weak.keep (Weak.nil _)))) (Weak.trans (ownS.to1 hlen (by rw [hAp])) (Weak.keep (ownS.to1 hlen2 (by rw [hAp])))))
   ·skip
    have hB : spotB (accK (⟨l, r, bu, su⟩ : Led) x) by_ = false := by cases h9 : spotB (accK (⟨l, r, bu, su⟩ : Led) x) by_ with | false => rfl | true => exfalso; rw [show placeI (accK (⟨l, r, bu, su⟩ : Led) x) by_ = (spotI (accK (⟨l, r, bu, su⟩ : Led) x) by_ : Int) by unfold placeI; rw [if_pos h9]] at hq; omega
    have hAp : (appL rc ch (⟨l, r, bu, su⟩ : Led) p h by_ x) = ⟨(accK (⟨l, r, bu, su⟩ : Led) x), (relK (⟨l, r, bu, su⟩ : Led) p h x), w64 (bu + x.fee), su⟩ := by unfold appL; rw [if_pos he]; unfold appP; rw [if_neg (by rw [hB]; decide)]
    have hlen : an = (appL rc ch (⟨l, r, bu, su⟩ : Led) p h by_ x).acc.length := by rw [hAp]; exact han
    have hlen2 : rn = (appL rc ch (⟨l, r, bu, su⟩ : Led) p h by_ x).rel.length := by rw [hAp]; exact hrn
    refine R_region ?_
    refine L_val rfl rfl rfl (OpP.v (P_fld0 rfl ty_fl_26_2 rfl)) ?_
    refine L_val rfl rfl rfl (V_load rfl rfl ty_sc_24 (Rd.blk .h6 rfl)) ?_
    refine L_val rfl rfl rfl (OpP.v (P_fld0 rfl ty_fl_88_4 rfl)) ?_
    refine L_val rfl rfl rfl (V_load rfl rfl ty_sc_24 (Rd.blk .h4 rfl)) ?_
    refine L_val rfl rfl rfl (OpP.v (P_add rfl rfl rfl)) ?_
    refine L_val rfl rfl rfl (OpP.v (P_fld0 rfl ty_fl_26_2 rfl)) ?_
    refine L_op rfl (W_store rfl rfl rfl rfl ty_sc_24 rfl .h6 (by simp [ledV]) ?_)
    refine L_nil ?_
    refine St.env (.cons (t := 7) rfl (.cons (t := 14) rfl (.cons (t := 15) rfl .nil))) ?_
    refine Q_then ?_
    refine R_seq ?_
    refine R_region ?_
    refine L_val rfl rfl rfl (V_loadAgg rfl rfl ty_ag_26 (Rds.blk .h6) (rfl)) ?_
    refine L_op rfl (W_storeAll rfl rfl rfl rfl ty_ag_26 (rfl) (ledV_one _ _ _ _ rfl rfl) .h3 (rfl) ?_)
    refine L_val rfl rfl rfl (OpP.v (P_assign rfl rfl)) ?_
    refine L_nil ?_
    refine St.env (.cons (t := 14) rfl (.cons (t := 15) rfl .nil)) ?_
    refine Q_then ?_
    refine R_ret ?_
    exact R_end (rs2 := _) rfl rfl (.cell rfl (Rds.loadVar ty_ag_26 (Rds.blk .h3) rfl) (.tmp rfl .nil)) (⟨.slice (some ⟨ab, 0, none⟩) an ac, .slice rb rn rcap, by rw [hAp, he]; rfl, rfl⟩) (Weak.trans (Weak.pick (p := [_]) (Weak.pick (p := [_]) (Weak.keep (Weak.nil _)))) (Weak.trans (ownS.to1 hlen (by rw [hAp])) (Weak.keep (ownS.to1 hlen2 (by rw [hAp])))))
end Go.Proofs.YtfhjhaogmdaepaaGreatDoor

/- A signer: Sign. Printed by gen.py. -/
set_option linter.unusedVariables false
set_option linter.unusedSimpArgs false
set_option maxRecDepth 100000
namespace Go.Proofs.YtfhjhaogmdaepaaGreatDoor
open Go Go.RowKit Go.Proofs
theorem sd_at (a : Int) : ∀ (sd : List Sgd) (i j : Nat) (v : Value), findK a (sdM sd) i = some (j, v) → ∃ s, i ≤ j ∧ sd[j - i]? = some s ∧ s.v = v ∧ sd.find? (fun s => decide (s.a = a)) = some s ∧
  ∀ s' : Sgd, s'.a = a → (sd.set (j - i) s').find? (fun s => decide (s.a = a)) = some s' ∧ ∀ b, b ≠ a → (sd.set (j - i) s').find? (fun s => decide (s.a = b)) = sd.find? (fun s => decide (s.a = b))
 | [], _, _, _, h => by cases h
 | x :: sd, i, j, v, h => by
  unfold sdM at h
  rw [List.map_cons, findK] at h
  split at h
  ·rename_i e
   simp only [Option.some.injEq, Prod.mk.injEq] at h
   obtain ⟨rfl, rfl⟩ := h
   have e : a = x.a := e
   refine ⟨x, Nat.le_refl _, by simp, rfl, by simp [e], fun s' hs => ?_⟩
   rw [Nat.sub_self, List.set_cons_zero]
   refine ⟨by simp [hs], fun b hb => ?_⟩
   have h1 : decide (s'.a = b) = false := by simp [hs, Ne.symm hb]
   have h2 : decide (x.a = b) = false := by simp [← e, Ne.symm hb]
   rw [List.find?_cons, List.find?_cons, h1, h2]
  ·rename_i e
   have e : ¬ a = x.a := e
   obtain ⟨s, h1, h2, h3, h4, h5⟩ := sd_at a sd (i + 1) j v h
   have hj : j - i = (j - (i + 1)) + 1 := by omega
   have hx : decide (x.a = a) = false := by simp [Ne.symm e]
   refine ⟨s, by omega, by rw [hj, List.getElem?_cons_succ]; exact h2, h3, by rw [List.find?_cons, hx]; exact h4, fun s' hs => ?_⟩
   rw [hj, List.set_cons_succ]
   obtain ⟨h6, h7⟩ := h5 s' hs
   refine ⟨by rw [List.find?_cons, hx]; exact h6, fun b hb => ?_⟩
   rw [List.find?_cons, List.find?_cons, h7 b hb]
theorem msgsOf_snoc (rc : List Rcd) (a b : Int) (m : List Int) : msgsOf (rc ++ [(a, m)]) b = msgsOf rc b ++ (if a = b then [m] else []) := by
 unfold msgsOf
 rw [List.filter_append, List.map_append]
 congr 1
 by_cases h : a = b <;> simp [h]
theorem strV_snoc (ms : List (List Int)) (m : List Int) : strV ms ++ [.string (strOfNums m)] = strV (ms ++ [m]) := by simp [strV]
/-- The list of one address is taken out, read, put back as it was, or with one message more. -/
theorem sd_open {rc : List Rcd} {sd : List Sgd} (h : RegOK rc sd) (a : Int) : ∃ (v0 : Value) (REST : HP), lookV false (findK a (sdM sd) 0) (.slice none 0 0) = v0 ∧
  (∀ rs, Weak (fam sdH sd :: rs) (ownS 9 1 v0 (msgsOf rc a).length (strV (msgsOf rc a)) :: REST :: rs)) ∧ (∀ rs, Weak (ownS 9 1 v0 (msgsOf rc a).length (strV (msgsOf rc a)) :: REST :: rs) (fam sdH sd :: rs)) ∧
  (∀ (m : List Int) (v' : Value), IsB m → m.length ≤ 1048576 → ∃ sd', setK a v' (sdM sd) = sdM sd' ∧ RegOK (rc ++ [(a, m)]) sd' ∧ ∀ rs, Weak (ownS 9 1 v' ((msgsOf rc a).length + 1) (strV (msgsOf rc a) ++ [.string (strOfNums m)]) :: REST :: rs) (fam sdH sd' :: rs)) := by
 have hrc : ∀ m : List Int, IsB m → m.length ≤ 1048576 → ∀ x ∈ rc ++ [(a, m)], IsB x.2 ∧ x.2.length ≤ 1048576 := fun m h1 h2 x hx => by
  rcases List.mem_append.1 hx with hx | hx
  ·exact h.1 x hx
  ·simp only [List.mem_singleton] at hx; subst hx; exact ⟨h1, h2⟩
 cases hk : findK a (sdM sd) 0 with
 | none =>
  have hf := findK_map (fun s : Sgd => s.a) (fun s => s.v) a sd 0
  have hk' : findK a (sd.map fun x => (x.a, x.v)) 0 = none := hk
  rw [hk'] at hf
  have hn : sd.find? (fun s => decide (s.a = a)) = none := by
   cases e : sd.find? (fun s => decide (s.a = a)) with
   | none => rfl
   | some y => rw [e] at hf; cases hf
  have hm : msgsOf rc a = [] := by rw [← h.2 a, hn]; rfl
  rw [hm]
  refine ⟨.slice none 0 0, fam sdH sd, rfl, fun rs => Weak.newNil, fun rs => Weak.drop (Weak.refl _), fun m v' h1 h2 => ⟨sd ++ [⟨a, v', [m]⟩], ?_, ⟨hrc m h1 h2, fun b => ?_⟩, fun rs => ?_⟩⟩
  ·unfold setK; rw [hk]; simp [sdM]
  ·rw [msgsOf_snoc, List.find?_append]
   by_cases hb : a = b
   ·subst hb; rw [hn, hm]; simp
   ·have := h.2 b
    have hd : decide (a = b) = false := by simp [hb]
    simp only [List.find?_cons, hd, List.find?_nil, if_neg hb, List.append_nil, Option.or_none]
    exact this
  ·exact Weak.famAdd (f := sdH) (x := ⟨a, v', [m]⟩)
 | some p =>
  obtain ⟨j, v⟩ := p
  obtain ⟨s, _, hi, hv, hfd, hset⟩ := sd_at a sd 0 j v hk
  rw [Nat.sub_zero] at hi hset
  have hlt := (List.getElem?_eq_some_iff.1 hi).1
  have hm : s.ms = msgsOf rc a := by rw [← h.2 a, hfd]; rfl
  refine ⟨v, bundle [fam sdH (sd.take j), fam sdH (sd.drop (j + 1))], rfl, fun rs => ?_, fun rs => ?_, fun m v' h1 h2 => ⟨sd.set j ⟨a, v', s.ms ++ [m]⟩, ?_, ⟨hrc m h1 h2, fun b => ?_⟩, fun rs => ?_⟩⟩
  ·rw [← hm, ← hv]; exact (Weak.famOpen (f := sdH) hi).trans (Weak.keep (Weak.bundle (L := [_, _])))
  ·rw [← hm, ← hv]; exact (Weak.keep (Weak.unbundle (L := [_, _]))).trans (Weak.famShut (f := sdH) hi)
  ·unfold setK; rw [hk]
   show (sdM sd).set j (a, v') = _
   simp [sdM, List.map_set]
  ·rw [msgsOf_snoc]
   obtain ⟨g1, g2⟩ := hset ⟨a, v', s.ms ++ [m]⟩ rfl
   by_cases hb : a = b
   ·subst hb; rw [g1, if_pos rfl, ← hm]; rfl
   ·rw [g2 b (Ne.symm hb), if_neg hb, List.append_nil]; exact h.2 b
  ·have e : ownS 9 1 v' ((msgsOf rc a).length + 1) (strV (msgsOf rc a) ++ [.string (strOfNums m)]) = sdH ⟨a, v', s.ms ++ [m]⟩ := by
    unfold sdH; rw [hm, strV_snoc, List.length_append]; rfl
   rw [e]
   exact (Weak.keep (Weak.unbundle (L := [_, _]))).trans (Weak.famClose (f := sdH) hlt)
theorem set_rc {rc : List Rcd} {x : Rcd} (h : x ∉ rc) : setK x (.agg #[]) (rcM rc) = rcM (rc ++ [x]) := by
 have hk : findK x (rcM rc) 0 = none := findK_none.2 fun y hy e => by
  obtain ⟨z, hz, rfl⟩ := List.mem_map.1 hy
  exact h (by rw [← e]; exact hz)
 unfold setK; rw [hk]; simp [rcM]
theorem msgsOf_le (rc : List Rcd) (a : Int) : (msgsOf rc a).length ≤ rc.length := by
 unfold msgsOf; rw [List.length_map]; exact List.length_filter_le _ _
theorem sign_old {gl : Nat → Obj} (hG : Globs gl) (p : Nat) (sg : List (Int × Nat)) (rc : List Rcd) (i : Nat) (a : Int) (s : Nat) (hi : sg[i]? = some (a, s)) (base : Option Addr) (c : Nat) (xs : List Int) (hb : IsB xs) (hmax : xs.length ≤ 1048576) (hm : (a, xs) ∈ rc) : SpecR (cx gl) 101 [.pointer (some ⟨s, 0, none⟩), .slice base xs.length c] (fun w h => Seen w h base (ints .u8 xs)) [REG p sg rc] (.tuple #[.agg (ints .u8 (sealH a xs)).toArray, .int .i64 0]) [REG p sg rc] := by
 refine Spec.enterX (C := cx gl) Tryz.func101 rfl 86 rfl rfl fun w0 h0 hsep hsub hpre => ?_
 show St (cx gl) _ [(0, .pointer (some ⟨s, 0, none⟩)), (1, .slice base xs.length c)] _ _
 refine St.openP (p := []) (fun ⟨m1, m2, m3, sd⟩ hreg => ?_)
 refine St.unbundle [] ?_
 refine R_seq ?_
 refine R_region ?_
 refine L_op rfl (W_alloc rfl rfl rfl ty_ze_86 fun b4 => ?_)
 refine L_val rfl rfl rfl (OpP.v (P_assign rfl rfl)) ?_
 refine L_nil ?_
 refine Q_then ?_
 refine R_seq ?_
 refine R_seq ?_
 refine St.res (rs' := [blk p [.int .i32 0, .int .u32 0, .map (some m1), .map (some m2), .map (some m3)] 117, mapK kU64 m1 (sgM sg), mapK recK m2 (rcM rc), mapK kU64 m3 (sdM sd), fam (sgH p) sg, fam sdH sd, blk b4 (List.replicate 16 (.int .u8 0)) 86]) (Weak.p1 (Weak.p1 (Weak.p1 (Weak.p1 (Weak.p1 (Weak.p1 (Weak.refl _))))))) ?_
 refine R_region ?_
 refine L_val rfl rfl rfl (OpP.v (P_move rfl rfl)) ?_
 refine L_val rfl rfl rfl (OpP.v (P_eqNil rfl ty_ptr_169 rfl rfl)) ?_
 refine L_val rfl rfl rfl (OpP.v (P_move rfl rfl)) ?_
 refine L_val rfl rfl rfl (OpP.v (P_move rfl rfl)) ?_
 refine L_val rfl rfl rfl (OpP.v (P_nil rfl rfl)) ?_
 refine L_val rfl rfl rfl (OpP.v (P_fld0 rfl ty_fl_230_0 rfl)) ?_
 refine L_val rfl rfl rfl (V_load rfl rfl ty_sc_96 (by first | exact (rd_sg .h4 hi).1 | exact (rd_sg .h5 hi).1 | exact (rd_sg .h6 hi).1 | exact (rd_sg .h7 hi).1)) ?_
 refine L_val rfl rfl rfl (OpP.v (P_eqNil rfl ty_ptr_96 rfl rfl)) ?_
 refine L_val rfl rfl rfl (OpP.v (P_pick rfl rfl rfl)) ?_
 refine L_nil ?_
 refine St.env (.cons (t := 0) rfl (.cons (t := 1) rfl (.cons (t := 4) rfl (.cons (t := 5) rfl (.cons (t := 18) rfl .nil))))) ?_
 refine Q_then ?_
 refine R_condF rfl ?_
 refine R_skip ?_
 refine Q_then ?_
 refine R_seq ?_
 refine R_seq ?_
 refine R_region ?_
 refine L_val rfl rfl rfl (OpP.v (P_move rfl rfl)) ?_
 refine L_val rfl rfl rfl (OpP.v (P_len rfl ty_sl_48 rfl)) ?_
 refine L_val rfl rfl rfl (OpP.v (P_gtr rfl rfl rfl)) ?_
 refine E_false (t := 22) rfl (decide_eq_false (by omega)) ?_
 refine L_nil ?_
 refine St.env (.cons (t := 0) rfl (.cons (t := 1) rfl (.cons (t := 4) rfl (.cons (t := 5) rfl (.cons (t := 22) rfl .nil))))) ?_
 refine Q_then ?_
 refine R_condF rfl ?_
 refine R_skip ?_
 refine Q_then ?_
 refine R_seq ?_
 refine R_region ?_
 refine L_val rfl rfl rfl (OpP.v (P_move rfl rfl)) ?_
 refine L_val rfl rfl rfl (OpP.v (P_nil rfl rfl)) ?_
 refine L_val rfl rfl rfl (OpP.v (P_fld0 rfl ty_fl_230_0 rfl)) ?_
 refine L_val rfl rfl rfl (V_load rfl rfl ty_sc_96 (by first | exact (rd_sg .h4 hi).1 | exact (rd_sg .h5 hi).1 | exact (rd_sg .h6 hi).1 | exact (rd_sg .h7 hi).1)) ?_
 refine L_val rfl rfl rfl (OpP.v (P_assign rfl rfl)) ?_
 refine L_nil ?_
 refine St.env (.cons (t := 0) rfl (.cons (t := 1) rfl (.cons (t := 4) rfl (.cons (t := 5) rfl (.cons (t := 6) rfl .nil))))) ?_
 refine Q_then ?_
 refine R_seq ?_
 refine R_region ?_
 refine L_val rfl rfl rfl (OpP.v (P_move rfl rfl)) ?_
 refine L_val rfl rfl rfl (OpP.v (P_nil rfl rfl)) ?_
 refine L_val rfl rfl rfl (OpP.v (P_fld0 rfl ty_fl_117_0 rfl)) ?_
 refine L_op rfl (W_callR rfl rfl rfl rfl fn_ca_149 (lock_ok p 117 [.int .u32 0, .map (some m1), .map (some m2), .map (some m3)]) (Split.one (p := [])) (fun _ _ _ _ _ _ _ => trivial) ?_)
 refine St.res (rs' := [blk p [.int .i32 1, .int .u32 0, .map (some m1), .map (some m2), .map (some m3)] 117, mapK kU64 m1 (sgM sg), mapK recK m2 (rcM rc), mapK kU64 m3 (sdM sd), fam (sgH p) sg, fam sdH sd, blk b4 (List.replicate 16 (.int .u8 0)) 86]) (Weak.refl _) ?_
 refine L_nil ?_
 refine St.env (.cons (t := 0) rfl (.cons (t := 1) rfl (.cons (t := 4) rfl (.cons (t := 5) rfl (.cons (t := 6) rfl .nil))))) ?_
 refine Q_then ?_
 refine R_seq ?_
 refine R_region ?_
 refine L_val rfl rfl rfl (OpP.v (P_move rfl rfl)) ?_
 refine L_val rfl rfl rfl (OpP.v (P_nil rfl rfl)) ?_
 refine L_val rfl rfl rfl (OpP.v (P_fld0 rfl ty_fl_117_0 rfl)) ?_
 refine L_op rfl (W_defer rfl rfl rfl ?_)
 refine L_nil ?_
 refine St.env (.cons (t := 0) rfl (.cons (t := 1) rfl (.cons (t := 4) rfl (.cons (t := 5) rfl (.cons (t := 6) rfl .nil))))) ?_
 refine Q_then ?_
 refine R_seq ?_
 refine R_open [(0, 0), (1, 0), (2, 0), (3, 1), (4, 0), (5, 1), (6, 0), (7, 2), (8, 3)] mixed (by kernel_rfl) (QOk.then QOk.bodyX) ?_
 refine O_pure rfl rfl rfl rfl (P_move rfl rfl) ?_
 refine O_pure rfl rfl rfl rfl (P_nil rfl rfl) ?_
 refine O_pure rfl rfl rfl rfl (P_fld0 rfl ty_fl_230_1 rfl) ?_
 refine O_val rfl rfl rfl rfl (V_load rfl rfl ty_sc_27 (by first | exact (rd_sg .h4 hi).2 | exact (rd_sg .h5 hi).2 | exact (rd_sg .h6 hi).2 | exact (rd_sg .h7 hi).2)) ?_
 refine O_pure rfl rfl rfl rfl (P_move rfl rfl) ?_
 refine O_val rfl rfl rfl rfl (V_str rfl (slB_spec ty_sl_48).1 ty_int_5 ty_str_9 rfl ((Sn.old hpre).rw_)) ?_
 refine O_pure rfl rfl rfl rfl (P_buildStruct rfl ty_pl_238 ty_ze_238 rfl rfl (rfl)) ?_
 refine E_as (t := 41) (v' := .agg [.int .u64 a, .string (strOfNums xs)].toArray) rfl (rfl) ?_
 refine O_keep rfl rfl (W_alloc rfl rfl rfl ty_ze_238 fun b7 => (K_keep (Weak.drop (Weak.refl _)) ?_))
 refine O_new rfl rfl (W_storeAll rfl rfl rfl rfl ty_ag_238 (rfl) (by intro v hv; simp only [List.mem_cons, List.not_mem_nil, or_false] at hv; rcases hv with rfl | rfl <;> rfl) .h0 (rfl) (K_new ?_))
 refine O_nil ?_
 refine St.env (.cons (t := 0) rfl (.cons (t := 1) rfl (.cons (t := 4) rfl (.cons (t := 5) rfl (.cons (t := 6) rfl (.cons (t := 7) rfl .nil)))))) ?_
 refine Q_then ?_
 refine R_seq ?_
 refine R_seq ?_
 refine St.res (rs' := [blk p [.int .i32 1, .int .u32 0, .map (some m1), .map (some m2), .map (some m3)] 117, mapK kU64 m1 (sgM sg), mapK recK m2 (rcM rc), mapK kU64 m3 (sdM sd), fam (sgH p) sg, fam sdH sd, blk b4 (List.replicate 16 (.int .u8 0)) 86, blk b7 [.int .u64 a, .string (strOfNums xs)] 238]) (Weak.p1 (Weak.p1 (Weak.p1 (Weak.p1 (Weak.p1 (Weak.p1 (Weak.p1 (Weak.refl _)))))))) ?_
 refine R_open [(0, 0), (1, 0), (2, 0), (3, 1), (4, 1), (5, 1), (6, 0), (7, 0), (8, 0), (9, 2), (10, 3), (11, 0)] mixed (by kernel_rfl) (QOk.then (QOk.then QOk.bodyX)) ?_
 refine O_pure rfl rfl rfl rfl (P_move rfl rfl) ?_
 refine O_pure rfl rfl rfl rfl (P_nil rfl rfl) ?_
 refine O_pure rfl rfl rfl rfl (P_fld0 rfl ty_fl_117_2 rfl) ?_
 refine O_val rfl rfl rfl rfl (V_load rfl rfl ty_sc_114 (by first | exact Rd.blk .h0 rfl | exact Rd.blk .h1 rfl | exact Rd.blk .h2 rfl | exact Rd.blk .h3 rfl | exact Rd.blk .h4 rfl | exact Rd.blk .h5 rfl | exact Rd.blk .h6 rfl | exact Rd.blk .h7 rfl)) ?_
 refine O_val rfl rfl rfl rfl (V_loadAgg rfl rfl ty_ag_238 (Rds.blk .h7) (rfl)) ?_
 refine O_val rfl rfl rfl rfl (V_lookupK (k := (a, xs)) rfl ty_map_114 (keyRec rec_238) rfl rfl (hb) (rcM_ok hreg.1) .h2 (run_zeroValue_of ty_zv_106)) ?_
 refine E_as (t := 48) (v' := .tuple #[.agg #[], .bool (decide ((a, xs) ∈ rc))]) rfl (look_rc rc (a, xs)) ?_
 refine O_pure rfl rfl rfl rfl (P_move rfl rfl) ?_
 refine O_pure rfl rfl rfl rfl (P_extract rfl rfl rfl) ?_
 refine O_pure rfl rfl rfl rfl (P_extract rfl rfl rfl) ?_
 refine O_keep rfl rfl (W_alloc rfl rfl rfl ty_ze_106 fun b8 => (K_keep (Weak.drop (Weak.refl _)) ?_))
 refine O_new rfl rfl (W_storeAll rfl rfl rfl rfl ty_ag_106 (rfl) (fun _ h => by cases h) .h0 (rfl) (K_new ?_))
 refine O_pure rfl rfl rfl rfl (P_assign rfl rfl) ?_
 refine O_nil ?_
 refine St.env (.cons (t := 0) rfl (.cons (t := 1) rfl (.cons (t := 4) rfl (.cons (t := 5) rfl (.cons (t := 6) rfl (.cons (t := 7) rfl (.cons (t := 9) rfl .nil))))))) ?_
 refine Q_then ?_
 refine R_seq ?_
 refine St.res (rs' := [blk p [.int .i32 1, .int .u32 0, .map (some m1), .map (some m2), .map (some m3)] 117, mapK kU64 m1 (sgM sg), mapK recK m2 (rcM rc), mapK kU64 m3 (sdM sd), fam (sgH p) sg, fam sdH sd, blk b4 (List.replicate 16 (.int .u8 0)) 86, blk b7 [.int .u64 a, .string (strOfNums xs)] 238]) (Weak.drop (Weak.refl _)) ?_
 refine R_region ?_
 refine L_val rfl rfl rfl (OpP.v (P_move rfl rfl)) ?_
 refine L_val rfl rfl rfl (OpP.v (P_not rfl rfl)) ?_
 refine E_false (t := 52) rfl (by simp [hm]) ?_
 refine L_nil ?_
 refine St.env (.cons (t := 0) rfl (.cons (t := 1) rfl (.cons (t := 4) rfl (.cons (t := 5) rfl (.cons (t := 6) rfl (.cons (t := 7) rfl (.cons (t := 52) rfl .nil))))))) ?_
 refine Q_then ?_
 refine R_condF rfl ?_
 refine R_skip ?_
 refine Q_then ?_
 refine R_seq ?_
 refine R_region ?_
 refine L_val rfl rfl rfl (OpP.v (P_move rfl rfl)) ?_
 refine L_val rfl rfl rfl (OpP.v (P_nil rfl rfl)) ?_
 refine L_val rfl rfl rfl (OpP.v (P_fld0 rfl ty_fl_230_1 rfl)) ?_
 refine L_val rfl rfl rfl (V_load rfl rfl ty_sc_27 (by first | exact (rd_sg .h4 hi).2 | exact (rd_sg .h5 hi).2 | exact (rd_sg .h6 hi).2 | exact (rd_sg .h7 hi).2)) ?_
 refine L_val rfl rfl rfl (OpP.v (P_move rfl rfl)) ?_
 refine L_op rfl (W_callV rfl rfl rfl rfl fn_ca_155 (seal_ok hG a base c xs (by omega)) ((Sn.old hpre).rw_) ?_)
 refine L_op rfl (W_storeAll rfl rfl rfl rfl ty_ag_86 (by rw [ints_length, sealH_length]) (ints_one) .h6 (by rw [ints_length, sealH_length]; rfl) ?_)
 refine L_val rfl rfl rfl (OpP.v (P_assign rfl rfl)) ?_
 refine L_nil ?_
 refine St.env (.cons (t := 4) rfl (.cons (t := 5) rfl .nil)) ?_
 refine Q_then ?_
 refine R_ret ?_
 exact R_endX (rs2 := [REG p sg (rc)]) rfl fn_ca_150 (unlockD_ok p 117 [.int .u32 0, .map (some m1), .map (some m2), .map (some m3)]) (Split.one (p := [])) (fun _ _ _ _ _ _ _ => trivial) rfl (.cell rfl (Rds.loadVar ty_ag_86 (Rds.blk .h6) (by rw [ints_length, sealH_length])) (.tmp rfl .nil)) (⟨rfl, rfl⟩) ((reg_close (rs := [_, _]) hreg).trans (Weak.keep (Weak.nil _)))
theorem sign_new {gl : Nat → Obj} (hG : Globs gl) (p : Nat) (sg : List (Int × Nat)) (rc : List Rcd) (i : Nat) (a : Int) (s : Nat) (hi : sg[i]? = some (a, s)) (base : Option Addr) (c : Nat) (xs : List Int) (hb : IsB xs) (hmax : xs.length ≤ 1048576) (hrc : rc.length ≤ 4398046511104) (hm : (a, xs) ∉ rc) : SpecR (cx gl) 101 [.pointer (some ⟨s, 0, none⟩), .slice base xs.length c] (fun w h => Seen w h base (ints .u8 xs)) [REG p sg rc] (.tuple #[.agg (ints .u8 (sealH a xs)).toArray, .int .i64 0]) [REG p sg (rc ++ [(a, xs)])] := by
 refine Spec.enterX (C := cx gl) Tryz.func101 rfl 86 rfl rfl fun w0 h0 hsep hsub hpre => ?_
 show St (cx gl) _ [(0, .pointer (some ⟨s, 0, none⟩)), (1, .slice base xs.length c)] _ _
 refine St.openP (p := []) (fun ⟨m1, m2, m3, sd⟩ hreg => ?_)
 refine St.unbundle [] ?_
 refine R_seq ?_
 refine R_region ?_
 refine L_op rfl (W_alloc rfl rfl rfl ty_ze_86 fun b4 => ?_)
 refine L_val rfl rfl rfl (OpP.v (P_assign rfl rfl)) ?_
 refine L_nil ?_
 refine Q_then ?_
 refine R_seq ?_
 refine R_seq ?_
 refine St.res (rs' := [blk p [.int .i32 0, .int .u32 0, .map (some m1), .map (some m2), .map (some m3)] 117, mapK kU64 m1 (sgM sg), mapK recK m2 (rcM rc), mapK kU64 m3 (sdM sd), fam (sgH p) sg, fam sdH sd, blk b4 (List.replicate 16 (.int .u8 0)) 86]) (Weak.p1 (Weak.p1 (Weak.p1 (Weak.p1 (Weak.p1 (Weak.p1 (Weak.refl _))))))) ?_
 refine R_region ?_
 refine L_val rfl rfl rfl (OpP.v (P_move rfl rfl)) ?_
 refine L_val rfl rfl rfl (OpP.v (P_eqNil rfl ty_ptr_169 rfl rfl)) ?_
 refine L_val rfl rfl rfl (OpP.v (P_move rfl rfl)) ?_
 refine L_val rfl rfl rfl (OpP.v (P_move rfl rfl)) ?_
 refine L_val rfl rfl rfl (OpP.v (P_nil rfl rfl)) ?_
 refine L_val rfl rfl rfl (OpP.v (P_fld0 rfl ty_fl_230_0 rfl)) ?_
 refine L_val rfl rfl rfl (V_load rfl rfl ty_sc_96 (by first | exact (rd_sg .h4 hi).1 | exact (rd_sg .h5 hi).1 | exact (rd_sg .h6 hi).1 | exact (rd_sg .h7 hi).1)) ?_
 refine L_val rfl rfl rfl (OpP.v (P_eqNil rfl ty_ptr_96 rfl rfl)) ?_
 refine L_val rfl rfl rfl (OpP.v (P_pick rfl rfl rfl)) ?_
 refine L_nil ?_
 refine St.env (.cons (t := 0) rfl (.cons (t := 1) rfl (.cons (t := 4) rfl (.cons (t := 5) rfl (.cons (t := 18) rfl .nil))))) ?_
 refine Q_then ?_
 refine R_condF rfl ?_
 refine R_skip ?_
 refine Q_then ?_
 refine R_seq ?_
 refine R_seq ?_
 refine R_region ?_
 refine L_val rfl rfl rfl (OpP.v (P_move rfl rfl)) ?_
 refine L_val rfl rfl rfl (OpP.v (P_len rfl ty_sl_48 rfl)) ?_
 refine L_val rfl rfl rfl (OpP.v (P_gtr rfl rfl rfl)) ?_
 refine E_false (t := 22) rfl (decide_eq_false (by omega)) ?_
 refine L_nil ?_
 refine St.env (.cons (t := 0) rfl (.cons (t := 1) rfl (.cons (t := 4) rfl (.cons (t := 5) rfl (.cons (t := 22) rfl .nil))))) ?_
 refine Q_then ?_
 refine R_condF rfl ?_
 refine R_skip ?_
 refine Q_then ?_
 refine R_seq ?_
 refine R_region ?_
 refine L_val rfl rfl rfl (OpP.v (P_move rfl rfl)) ?_
 refine L_val rfl rfl rfl (OpP.v (P_nil rfl rfl)) ?_
 refine L_val rfl rfl rfl (OpP.v (P_fld0 rfl ty_fl_230_0 rfl)) ?_
 refine L_val rfl rfl rfl (V_load rfl rfl ty_sc_96 (by first | exact (rd_sg .h4 hi).1 | exact (rd_sg .h5 hi).1 | exact (rd_sg .h6 hi).1 | exact (rd_sg .h7 hi).1)) ?_
 refine L_val rfl rfl rfl (OpP.v (P_assign rfl rfl)) ?_
 refine L_nil ?_
 refine St.env (.cons (t := 0) rfl (.cons (t := 1) rfl (.cons (t := 4) rfl (.cons (t := 5) rfl (.cons (t := 6) rfl .nil))))) ?_
 refine Q_then ?_
 refine R_seq ?_
 refine R_region ?_
 refine L_val rfl rfl rfl (OpP.v (P_move rfl rfl)) ?_
 refine L_val rfl rfl rfl (OpP.v (P_nil rfl rfl)) ?_
 refine L_val rfl rfl rfl (OpP.v (P_fld0 rfl ty_fl_117_0 rfl)) ?_
 refine L_op rfl (W_callR rfl rfl rfl rfl fn_ca_149 (lock_ok p 117 [.int .u32 0, .map (some m1), .map (some m2), .map (some m3)]) (Split.one (p := [])) (fun _ _ _ _ _ _ _ => trivial) ?_)
 refine St.res (rs' := [blk p [.int .i32 1, .int .u32 0, .map (some m1), .map (some m2), .map (some m3)] 117, mapK kU64 m1 (sgM sg), mapK recK m2 (rcM rc), mapK kU64 m3 (sdM sd), fam (sgH p) sg, fam sdH sd, blk b4 (List.replicate 16 (.int .u8 0)) 86]) (Weak.refl _) ?_
 refine L_nil ?_
 refine St.env (.cons (t := 0) rfl (.cons (t := 1) rfl (.cons (t := 4) rfl (.cons (t := 5) rfl (.cons (t := 6) rfl .nil))))) ?_
 refine Q_then ?_
 refine R_seq ?_
 refine R_region ?_
 refine L_val rfl rfl rfl (OpP.v (P_move rfl rfl)) ?_
 refine L_val rfl rfl rfl (OpP.v (P_nil rfl rfl)) ?_
 refine L_val rfl rfl rfl (OpP.v (P_fld0 rfl ty_fl_117_0 rfl)) ?_
 refine L_op rfl (W_defer rfl rfl rfl ?_)
 refine L_nil ?_
 refine St.env (.cons (t := 0) rfl (.cons (t := 1) rfl (.cons (t := 4) rfl (.cons (t := 5) rfl (.cons (t := 6) rfl .nil))))) ?_
 refine Q_then ?_
 refine R_seq ?_
 refine R_open [(0, 0), (1, 0), (2, 0), (3, 1), (4, 0), (5, 1), (6, 0), (7, 2), (8, 3)] mixed (by kernel_rfl) (QOk.then QOk.bodyX) ?_
 refine O_pure rfl rfl rfl rfl (P_move rfl rfl) ?_
 refine O_pure rfl rfl rfl rfl (P_nil rfl rfl) ?_
 refine O_pure rfl rfl rfl rfl (P_fld0 rfl ty_fl_230_1 rfl) ?_
 refine O_val rfl rfl rfl rfl (V_load rfl rfl ty_sc_27 (by first | exact (rd_sg .h4 hi).2 | exact (rd_sg .h5 hi).2 | exact (rd_sg .h6 hi).2 | exact (rd_sg .h7 hi).2)) ?_
 refine O_pure rfl rfl rfl rfl (P_move rfl rfl) ?_
 refine O_val rfl rfl rfl rfl (V_str rfl (slB_spec ty_sl_48).1 ty_int_5 ty_str_9 rfl ((Sn.old hpre).rw_)) ?_
 refine O_pure rfl rfl rfl rfl (P_buildStruct rfl ty_pl_238 ty_ze_238 rfl rfl (rfl)) ?_
 refine E_as (t := 41) (v' := .agg [.int .u64 a, .string (strOfNums xs)].toArray) rfl (rfl) ?_
 refine O_keep rfl rfl (W_alloc rfl rfl rfl ty_ze_238 fun b7 => (K_keep (Weak.drop (Weak.refl _)) ?_))
 refine O_new rfl rfl (W_storeAll rfl rfl rfl rfl ty_ag_238 (rfl) (by intro v hv; simp only [List.mem_cons, List.not_mem_nil, or_false] at hv; rcases hv with rfl | rfl <;> rfl) .h0 (rfl) (K_new ?_))
 refine O_nil ?_
 refine St.env (.cons (t := 0) rfl (.cons (t := 1) rfl (.cons (t := 4) rfl (.cons (t := 5) rfl (.cons (t := 6) rfl (.cons (t := 7) rfl .nil)))))) ?_
 refine Q_then ?_
 refine R_seq ?_
 refine R_seq ?_
 refine St.res (rs' := [blk p [.int .i32 1, .int .u32 0, .map (some m1), .map (some m2), .map (some m3)] 117, mapK kU64 m1 (sgM sg), mapK recK m2 (rcM rc), mapK kU64 m3 (sdM sd), fam (sgH p) sg, fam sdH sd, blk b4 (List.replicate 16 (.int .u8 0)) 86, blk b7 [.int .u64 a, .string (strOfNums xs)] 238]) (Weak.p1 (Weak.p1 (Weak.p1 (Weak.p1 (Weak.p1 (Weak.p1 (Weak.p1 (Weak.refl _)))))))) ?_
 refine R_open [(0, 0), (1, 0), (2, 0), (3, 1), (4, 1), (5, 1), (6, 0), (7, 0), (8, 0), (9, 2), (10, 3), (11, 0)] mixed (by kernel_rfl) (QOk.then (QOk.then QOk.bodyX)) ?_
 refine O_pure rfl rfl rfl rfl (P_move rfl rfl) ?_
 refine O_pure rfl rfl rfl rfl (P_nil rfl rfl) ?_
 refine O_pure rfl rfl rfl rfl (P_fld0 rfl ty_fl_117_2 rfl) ?_
 refine O_val rfl rfl rfl rfl (V_load rfl rfl ty_sc_114 (by first | exact Rd.blk .h0 rfl | exact Rd.blk .h1 rfl | exact Rd.blk .h2 rfl | exact Rd.blk .h3 rfl | exact Rd.blk .h4 rfl | exact Rd.blk .h5 rfl | exact Rd.blk .h6 rfl | exact Rd.blk .h7 rfl)) ?_
 refine O_val rfl rfl rfl rfl (V_loadAgg rfl rfl ty_ag_238 (Rds.blk .h7) (rfl)) ?_
 refine O_val rfl rfl rfl rfl (V_lookupK (k := (a, xs)) rfl ty_map_114 (keyRec rec_238) rfl rfl (hb) (rcM_ok hreg.1) .h2 (run_zeroValue_of ty_zv_106)) ?_
 refine E_as (t := 48) (v' := .tuple #[.agg #[], .bool (decide ((a, xs) ∈ rc))]) rfl (look_rc rc (a, xs)) ?_
 refine O_pure rfl rfl rfl rfl (P_move rfl rfl) ?_
 refine O_pure rfl rfl rfl rfl (P_extract rfl rfl rfl) ?_
 refine O_pure rfl rfl rfl rfl (P_extract rfl rfl rfl) ?_
 refine O_keep rfl rfl (W_alloc rfl rfl rfl ty_ze_106 fun b8 => (K_keep (Weak.drop (Weak.refl _)) ?_))
 refine O_new rfl rfl (W_storeAll rfl rfl rfl rfl ty_ag_106 (rfl) (fun _ h => by cases h) .h0 (rfl) (K_new ?_))
 refine O_pure rfl rfl rfl rfl (P_assign rfl rfl) ?_
 refine O_nil ?_
 refine St.env (.cons (t := 0) rfl (.cons (t := 1) rfl (.cons (t := 4) rfl (.cons (t := 5) rfl (.cons (t := 6) rfl (.cons (t := 7) rfl (.cons (t := 9) rfl .nil))))))) ?_
 refine Q_then ?_
 refine R_seq ?_
 refine St.res (rs' := [blk p [.int .i32 1, .int .u32 0, .map (some m1), .map (some m2), .map (some m3)] 117, mapK kU64 m1 (sgM sg), mapK recK m2 (rcM rc), mapK kU64 m3 (sdM sd), fam (sgH p) sg, fam sdH sd, blk b4 (List.replicate 16 (.int .u8 0)) 86, blk b7 [.int .u64 a, .string (strOfNums xs)] 238]) (Weak.drop (Weak.refl _)) ?_
 refine R_region ?_
 refine L_val rfl rfl rfl (OpP.v (P_move rfl rfl)) ?_
 refine L_val rfl rfl rfl (OpP.v (P_not rfl rfl)) ?_
 refine E_true (t := 52) rfl (by simp [hm]) ?_
 refine L_nil ?_
 refine St.env (.cons (t := 0) rfl (.cons (t := 1) rfl (.cons (t := 4) rfl (.cons (t := 5) rfl (.cons (t := 6) rfl (.cons (t := 7) rfl (.cons (t := 52) rfl .nil))))))) ?_
 refine Q_then ?_
 refine R_condT rfl ?_
 refine R_seq ?_
 refine R_open [(0, 0), (1, 0), (2, 0), (3, 1), (4, 1), (5, 0), (6, 3)] mixed (by kernel_rfl) (QOk.then (QOk.then QOk.bodyX)) ?_
 refine O_pure rfl rfl rfl rfl (P_move rfl rfl) ?_
 refine O_pure rfl rfl rfl rfl (P_nil rfl rfl) ?_
 refine O_pure rfl rfl rfl rfl (P_fld0 rfl ty_fl_117_2 rfl) ?_
 refine O_val rfl rfl rfl rfl (V_load rfl rfl ty_sc_114 (by first | exact Rd.blk .h0 rfl | exact Rd.blk .h1 rfl | exact Rd.blk .h2 rfl | exact Rd.blk .h3 rfl | exact Rd.blk .h4 rfl | exact Rd.blk .h5 rfl | exact Rd.blk .h6 rfl | exact Rd.blk .h7 rfl)) ?_
 refine O_val rfl rfl rfl rfl (V_loadAgg rfl rfl ty_ag_238 (Rds.blk .h7) (rfl)) ?_
 refine O_pure rfl rfl rfl rfl (P_buildStruct rfl ty_pl_106 ty_ze_106 rfl rfl (rfl)) ?_
 refine O_new rfl rfl (W_mapSet (k := (a, xs)) rfl rfl ty_map_114 (keyRec rec_238) rfl rfl rfl (hb) (rcM_ok hreg.1) .h2 .h2 (K_new ?_))
 rw [set_rc hm]
 refine O_nil ?_
 refine St.env (.cons (t := 0) rfl (.cons (t := 1) rfl (.cons (t := 4) rfl (.cons (t := 5) rfl (.cons (t := 6) rfl (.cons (t := 7) rfl .nil)))))) ?_
 refine Q_then ?_
 obtain ⟨v0, REST, hlk, hw1, hw2, hw3⟩ := sd_open hreg a
 have hml := msgsOf_le rc a
 refine St.res (rs' := [ownS 9 1 v0 (msgsOf rc a).length (strV (msgsOf rc a)), REST, blk p [.int .i32 1, .int .u32 0, .map (some m1), .map (some m2), .map (some m3)] 117, mapK kU64 m1 (sgM sg), mapK recK m2 (rcM (rc ++ [(a, xs)])), mapK kU64 m3 (sdM sd), fam (sgH p) sg, blk b4 (List.replicate 16 (.int .u8 0)) 86, blk b7 [.int .u64 a, .string (strOfNums xs)] 238]) ((Weak.p5 (Weak.refl _)).trans (hw1 _)) ?_
 refine R_openQ [(0, 0), (1, 0), (2, 0), (3, 1), (4, 0), (5, 0), (6, 0), (7, 1), (8, 0), (9, 0), (10, 0), (11, 1), (12, 0), (13, 0), (14, 0), (15, 1), (16, 1), (17, 0), (18, 1), (19, 2), (20, 2), (21, 3)] [REST, blk p [.int .i32 1, .int .u32 0, .map (some m1), .map (some m2), .map (some m3)] 117, mapK kU64 m1 (sgM sg), mapK recK m2 (rcM (rc ++ [(a, xs)])), mapK kU64 m3 (sdM sd), fam (sgH p) sg, blk b4 (List.replicate 16 (.int .u8 0)) 86, blk b7 [.int .u64 a, .string (strOfNums xs)] 238] (Weak.drop (Weak.refl _)) mixed (by kernel_rfl) (QOk.then QOk.bodyX) ?_
 refine O_pureQ rfl rfl rfl rfl (P_move rfl rfl) ?_
 refine O_pureQ rfl rfl rfl rfl (P_nil rfl rfl) ?_
 refine O_pureQ rfl rfl rfl rfl (P_fld0 rfl ty_fl_117_3 rfl) ?_
 refine O_valQ rfl rfl rfl rfl (V_load rfl rfl ty_sc_115 (by first | exact Rd.blk .h0 rfl | exact Rd.blk .h1 rfl | exact Rd.blk .h2 rfl | exact Rd.blk .h3 rfl | exact Rd.blk .h4 rfl | exact Rd.blk .h5 rfl | exact Rd.blk .h6 rfl | exact Rd.blk .h7 rfl)) ?_
 refine O_pureQ rfl rfl rfl rfl (P_move rfl rfl) ?_
 refine O_pureQ rfl rfl rfl rfl (P_nil rfl rfl) ?_
 refine O_pureQ rfl rfl rfl rfl (P_fld0 rfl ty_fl_230_1 rfl) ?_
 refine O_valQ rfl rfl rfl rfl (V_load rfl rfl ty_sc_27 (by first | exact (rd_sg .h4 hi).2 | exact (rd_sg .h5 hi).2 | exact (rd_sg .h6 hi).2 | exact (rd_sg .h7 hi).2)) ?_
 refine O_pureQ rfl rfl rfl rfl (P_move rfl rfl) ?_
 refine O_pureQ rfl rfl rfl rfl (P_nil rfl rfl) ?_
 refine O_pureQ rfl rfl rfl rfl (P_fld0 rfl ty_fl_117_3 rfl) ?_
 refine O_valQ rfl rfl rfl rfl (V_load rfl rfl ty_sc_115 (by first | exact Rd.blk .h0 rfl | exact Rd.blk .h1 rfl | exact Rd.blk .h2 rfl | exact Rd.blk .h3 rfl | exact Rd.blk .h4 rfl | exact Rd.blk .h5 rfl | exact Rd.blk .h6 rfl | exact Rd.blk .h7 rfl)) ?_
 refine O_pureQ rfl rfl rfl rfl (P_move rfl rfl) ?_
 refine O_pureQ rfl rfl rfl rfl (P_nil rfl rfl) ?_
 refine O_pureQ rfl rfl rfl rfl (P_fld0 rfl ty_fl_230_1 rfl) ?_
 refine O_valQ rfl rfl rfl rfl (V_load rfl rfl ty_sc_27 (by first | exact (rd_sg .h4 hi).2 | exact (rd_sg .h5 hi).2 | exact (rd_sg .h6 hi).2 | exact (rd_sg .h7 hi).2)) ?_
 refine O_valQ rfl rfl rfl rfl (V_lookupK rfl ty_map_115 (keyU64 ty_int_27) rfl rfl (trivial) (fun _ _ => trivial) .h4 (run_zeroValue_of ty_zv_240)) ?_
 refine E_as (t := 75) (v' := v0) rfl (hlk) ?_
 refine O_pureQ rfl rfl rfl rfl (P_fld0 rfl ty_fl_238_1 rfl) ?_
 refine O_valQ rfl rfl rfl rfl (V_load rfl rfl ty_sc_9 (Rd.blk .h7 rfl)) ?_
 refine O_keepQ rfl rfl (W_lit (z := .nilIface) ([.string (strOfNums xs)]) rfl rfl rfl ty_sl_240 ty_lz_240 rfl rfl rfl (by decide) (by decide) (by simp [Value.cells]) (rfl) fun b78 => (K_keepQ (Weak.drop (Weak.drop (Weak.refl _))) ?_))
 refine O_keepQ rfl rfl (W_append (p := [_]) rfl rfl rfl ty_sl_240 ty_ap_240 ty_src_240 rfl rfl rfl (Src.slice (sz := 1) (news := [.string (strOfNums xs)]) (Rds.blk .h0) rfl (by intro v hv; simp only [List.mem_singleton] at hv; subst hv; rfl)) (by omega) (by simp only [maxLen]; omega) fun v79 => (K_keepQ (Weak.drop (Weak.drop (Weak.refl _))) ?_))
 refine O_newQ rfl rfl (W_mapSet rfl rfl ty_map_115 (keyU64 ty_int_27) rfl rfl rfl (trivial) (fun _ _ => trivial) .h6 .h6 (K_newQ _ (Weak.refl _) ?_))
 obtain ⟨sd', he, hreg', hw⟩ := hw3 xs v79 hb hmax
 rw [he]
 refine O_nilQ ?_
 refine St.env (.cons (t := 0) rfl (.cons (t := 1) rfl (.cons (t := 4) rfl (.cons (t := 5) rfl .nil)))) ?_
 refine Q_then ?_
 refine R_seq ?_
 refine St.res (rs' := [blk p [.int .i32 1, .int .u32 0, .map (some m1), .map (some m2), .map (some m3)] 117, mapK kU64 m1 (sgM sg), mapK recK m2 (rcM (rc ++ [(a, xs)])), mapK kU64 m3 (sdM sd'), fam (sgH p) sg, fam sdH sd', blk b4 (List.replicate 16 (.int .u8 0)) 86, blk b7 [.int .u64 a, .string (strOfNums xs)] 238]) ((Weak.drop (hw _)).trans (Weak.p1 (Weak.p1 (Weak.p1 (Weak.p1 (Weak.p1 (Weak.refl _))))))) ?_
 refine R_region ?_
 refine L_val rfl rfl rfl (OpP.v (P_move rfl rfl)) ?_
 refine L_val rfl rfl rfl (OpP.v (P_nil rfl rfl)) ?_
 refine L_val rfl rfl rfl (OpP.v (P_fld0 rfl ty_fl_230_1 rfl)) ?_
 refine L_val rfl rfl rfl (V_load rfl rfl ty_sc_27 (by first | exact (rd_sg .h4 hi).2 | exact (rd_sg .h5 hi).2 | exact (rd_sg .h6 hi).2 | exact (rd_sg .h7 hi).2)) ?_
 refine L_val rfl rfl rfl (OpP.v (P_move rfl rfl)) ?_
 refine L_op rfl (W_callV rfl rfl rfl rfl fn_ca_155 (seal_ok hG a base c xs (by omega)) ((Sn.old hpre).rw_) ?_)
 refine L_op rfl (W_storeAll rfl rfl rfl rfl ty_ag_86 (by rw [ints_length, sealH_length]) (ints_one) .h6 (by rw [ints_length, sealH_length]; rfl) ?_)
 refine L_val rfl rfl rfl (OpP.v (P_assign rfl rfl)) ?_
 refine L_nil ?_
 refine St.env (.cons (t := 4) rfl (.cons (t := 5) rfl .nil)) ?_
 refine Q_then ?_
 refine R_ret ?_
 exact R_endX (rs2 := [REG p sg (rc ++ [(a, xs)])]) rfl fn_ca_150 (unlockD_ok p 117 [.int .u32 0, .map (some m1), .map (some m2), .map (some m3)]) (Split.one (p := [])) (fun _ _ _ _ _ _ _ => trivial) rfl (.cell rfl (Rds.loadVar ty_ag_86 (Rds.blk .h6) (by rw [ints_length, sealH_length])) (.tmp rfl .nil)) (⟨rfl, rfl⟩) ((reg_close (rs := [_, _]) hreg').trans (Weak.keep (Weak.nil _)))
end Go.Proofs.YtfhjhaogmdaepaaGreatDoor

/- Registries that no New made; signing once more. Printed by gen.py. -/
set_option linter.unusedVariables false
set_option linter.unusedSimpArgs false
set_option maxRecDepth 100000
namespace Go.Proofs.YtfhjhaogmdaepaaGreatDoor
open Go Go.RowKit Go.Proofs
/-- One record more, if it isn't there yet. -/
def addR (rc : List Rcd) (x : Rcd) : List Rcd := if x ∈ rc then rc else rc ++ [x]
theorem addR_length (rc : List Rcd) (x : Rcd) : (addR rc x).length ≤ rc.length + 1 := by
 unfold addR; split <;> simp
theorem sign_any {gl : Nat → Obj} (hG : Globs gl) (p : Nat) (sg : List (Int × Nat)) (rc : List Rcd) (i : Nat) (a : Int) (s : Nat) (hi : sg[i]? = some (a, s)) (base : Option Addr) (c : Nat) (xs : List Int) (hb : IsB xs) (hmax : xs.length ≤ 1048576) (hrc : rc.length ≤ 4398046511104) : SpecR (cx gl) 101 [.pointer (some ⟨s, 0, none⟩), .slice base xs.length c] (fun w h => Seen w h base (ints .u8 xs)) [REG p sg rc] (.tuple #[.agg (ints .u8 (sealH a xs)).toArray, .int .i64 0]) [REG p sg (addR rc (a, xs))] := by
 unfold addR
 split
 ·exact sign_old hG p sg rc i a s hi base c xs hb hmax ‹_›
 ·exact sign_new hG p sg rc i a s hi base c xs hb hmax hrc ‹_›
end Go.Proofs.YtfhjhaogmdaepaaGreatDoor

/- The document's registry. Printed by gen.py. -/
set_option linter.unusedVariables false
set_option linter.unusedSimpArgs false
set_option maxRecDepth 100000
namespace Go.Proofs.YtfhjhaogmdaepaaGreatDoor
open Go Go.RowKit Go.Proofs
def recC (rc : List Rcd) : List Value := rc.flatMap fun x => [.int .u64 x.1, .string (strOfNums x.2)]
theorem recC_snoc (rc : List Rcd) (x : Rcd) : recC rc ++ [.int .u64 x.1, .string (strOfNums x.2)] = recC (rc ++ [x]) := by simp [recC]
def tgH (q : Nat) (x : Int × Nat) : HP := blk x.2 [.pointer (some ⟨q, 0, none⟩), .int .u64 x.1] 232
def enOf (tg : List (Int × Nat)) : List Int := tg.map (·.1)
theorem enOf_length (tg : List (Int × Nat)) : (enOf tg).length = tg.length := by simp [enOf]
def RecOK (rc : List Rcd) : Prop := ∀ x ∈ rc, IsB x.2 ∧ x.2.length ≤ 1048576
def refL (q : Nat) (ve vr : Value) (tg : List (Int × Nat)) (rc : List Rcd) : List HP :=
 [blk q [.bool true, ve, vr] 227, ownS 27 1 ve tg.length (ints .u64 (enOf tg)), ownS 244 2 vr rc.length (recC rc), fam (tgH q) tg]
/-- The document's registry. -/
def REF (q : Nat) (tg : List (Int × Nat)) (rc : List Rcd) : HP := ExP (fun x : Value × Value => RecOK rc) fun x => bundle (refL q x.1 x.2 tg rc)
theorem ref_close {q : Nat} {ve vr : Value} {tg : List (Int × Nat)} {rc : List Rcd} {rs : List HP} (h : RecOK rc) : Weak (refL q ve vr tg rc ++ rs) (REF q tg rc :: rs) :=
 Weak.bundle.trans (Weak.toEx (p := fun x : Value × Value => RecOK rc) (s := fun x => bundle (refL q x.1 x.2 tg rc)) (ve, vr) h)
theorem RecOK.snoc {rc : List Rcd} {x : Rcd} (h : RecOK rc) (h1 : IsB x.2) (h2 : x.2.length ≤ 1048576) : RecOK (rc ++ [x]) := fun y hy => by
 rcases List.mem_append.1 hy with hy | hy
 ·exact h y hy
 ·simp only [List.mem_singleton] at hy; subst hy; exact ⟨h1, h2⟩
section
variable {C : Cx} {F : Fx} {rs : List HP}
theorem rd_rec {T b cap n i : Nat} {rc : List Rcd} {x : Rcd} (m : Has rs (ownS T 2 (.slice (some ⟨b, 0, none⟩) n cap) n (recC rc)) (ownS T 2 (.slice (some ⟨b, 0, none⟩) n cap) n (recC rc)) rs) (hi : rc[i]? = some x) : Rd C F rs ⟨b, 0 + i * 2, none⟩ (.int .u64 x.1) ∧ Rd C F rs ⟨b, 0 + i * 2 + 1, none⟩ (.string (strOfNums x.2)) := by
 have h := rows_at (g := fun x : Rcd => [Value.int .u64 x.1, .string (strOfNums x.2)]) (n := 2) (fun _ _ => rfl) hi
 have h0 := h 0 _ rfl
 have h1 := h 1 _ rfl
 rw [Nat.zero_add]
 exact ⟨Rd.own m h0, Rd.own m h1⟩
theorem rd_tg {q i : Nat} {a : Int} {s : Nat} {tg : List (Int × Nat)} (m : Has rs (fam (tgH q) tg) (fam (tgH q) tg) rs) (hi : tg[i]? = some (a, s)) : Rd C F rs ⟨s, 0, none⟩ (.pointer (some ⟨q, 0, none⟩)) ∧ Rd C F rs ⟨s, 1, none⟩ (.int .u64 a) := by
 have h : Sn C F rs (some ⟨s, 0, none⟩) [.pointer (some ⟨q, 0, none⟩), .int .u64 a] := Sn.fam m hi fun rs m => Sn.ofBlk m
 have key : ∀ (j : Nat) (u : Value), [Value.pointer (some ⟨q, 0, none⟩), .int .u64 a][j]? = some u → Rd C F rs ⟨s, j, none⟩ u := fun j u hu w nw => by
  obtain ⟨ad, e, hc⟩ := h.rw_ w nw j u hu
  rw [Option.some.injEq] at e
  subst e
  rwa [add_zero_off, Nat.zero_add] at hc
 exact ⟨key 0 _ rfl, key 1 _ rfl⟩
end
theorem not_mem_of_all {α : Type} {l : List α} {x : α} (h : ∀ j, j < l.length → ∀ y, l[j]? = some y → y ≠ x) : x ∉ l := fun hm => by
 obtain ⟨i, hi, e⟩ := List.mem_iff_getElem.1 hm
 exact h i hi x (by rw [List.getElem?_eq_getElem hi, e]) rfl
theorem rgood_ok {gl : Nat → Obj} (q : Nat) (v1 v2 : Value) (b : Bool) : SpecR (cx gl) 147 [.pointer (some ⟨q, 0, none⟩)] (fun _ _ => True) [blk q [.bool b, v1, v2] 227] (.bool b) [blk q [.bool b, v1, v2] 227] := by
 refine Spec.enter (C := cx gl) Tryz.func147 rfl 11 rfl rfl fun w0 h0 hsep hsub hpre => ?_
 show St (cx gl) _ [(0, .pointer (some ⟨q, 0, none⟩))] _ _
 refine R_seq ?_
 refine R_region ?_
 refine L_val rfl rfl rfl (OpP.v (P_assign rfl rfl)) ?_
 refine L_nil ?_
 refine Q_then ?_
 refine R_seq ?_
 refine R_region ?_
 refine L_val rfl rfl rfl (OpP.v (P_move rfl rfl)) ?_
 refine L_val rfl rfl rfl (OpP.v (P_neNil rfl ty_ptr_97 rfl rfl)) ?_
 refine L_val rfl rfl rfl (OpP.v (P_move rfl rfl)) ?_
 refine L_val rfl rfl rfl (OpP.v (P_move rfl rfl)) ?_
 refine L_val rfl rfl rfl (OpP.v (P_nil rfl rfl)) ?_
 refine L_val rfl rfl rfl (OpP.v (P_fld0 rfl ty_fl_227_0 rfl)) ?_
 refine L_val rfl rfl rfl (V_load rfl rfl ty_sc_4 (by first | exact Rd.blk .h0 rfl | exact Rd.blk .h1 rfl | exact Rd.blk .h2 rfl | exact Rd.blk .h3 rfl | exact Rd.blk .h4 rfl | exact Rd.blk .h5 rfl | exact Rd.blk .h6 rfl | exact Rd.blk .h7 rfl)) ?_
 refine L_val rfl rfl rfl (OpP.v (P_pick rfl rfl rfl)) ?_
 refine L_val rfl rfl rfl (OpP.v (P_assign rfl rfl)) ?_
 refine L_nil ?_
 refine St.env (.cons (t := 2) rfl .nil) ?_
 refine Q_then ?_
 refine R_ret ?_
 exact R_end (rs2 := _) rfl rfl (.tmp rfl .nil) (⟨rfl, rfl⟩) (Weak.refl _)
theorem rnew_ok {gl : Nat → Obj} : Spec (cx gl) 95 [] (fun _ _ => True) [] (fun v rs => ∃ q, v = .pointer (some ⟨q, 0, none⟩) ∧ rs = [REF q [] []]) := by
 refine Spec.enter (C := cx gl) Tryz.func95 rfl 3 rfl rfl fun w0 h0 hsep hsub hpre => ?_
 obtain rfl : h0 = Heap.none := hsep
 show St (cx gl) _ [] _ _
 refine R_seq ?_
 refine R_region ?_
 refine L_val rfl rfl rfl (OpP.v (P_assign rfl rfl)) ?_
 refine L_nil ?_
 refine Q_then ?_
 refine R_seq ?_
 refine R_region ?_
 refine L_val rfl rfl rfl (OpP.v (P_buildStruct rfl ty_pl_227 ty_ze_227 rfl rfl (rfl))) ?_
 refine E_as (t := 1) (v' := .agg [.bool true, .slice none 0 0, .slice none 0 0].toArray) rfl (rfl) ?_
 refine L_op rfl (W_box ([.bool true, .slice none 0 0, .slice none 0 0]) rfl rfl rfl rfl rfl fun b2 => ?_)
 refine L_val rfl rfl rfl (OpP.v (P_assign rfl rfl)) ?_
 refine L_nil ?_
 refine St.env (.cons (t := 0) rfl .nil) ?_
 refine Q_then ?_
 refine R_ret ?_
 refine St.res (rs' := [blk b2 [.bool true, .slice none 0 0, .slice none 0 0] 227, ownS 27 1 (.slice none 0 0) 0 (ints .u64 (enOf [])), ownS 244 2 (.slice none 0 0) 0 (recC []), fam (tgH b2) []]) (Weak.keep (Weak.newNil.trans (Weak.keep (Weak.newNil.trans (Weak.keep Weak.famNil))))) ?_
 exact R_end (rs2 := _) rfl rfl (.tmp rfl .nil) (⟨b2, rfl, rfl⟩) (ref_close (rs := []) (fun _ h => by cases h))
theorem raddr_ok {gl : Nat → Obj} (q : Nat) (tg : List (Int × Nat)) (rc : List Rcd) (i : Nat) (a : Int) (s : Nat) (hi : tg[i]? = some (a, s)) : SpecR (cx gl) 100 [.pointer (some ⟨s, 0, none⟩)] (fun _ _ => True) [REF q tg rc] (.int .u64 a) [REF q tg rc] := by
 refine Spec.enter (C := cx gl) Tryz.func100 rfl 9 rfl rfl fun w0 h0 hsep hsub hpre => ?_
 show St (cx gl) _ [(0, .pointer (some ⟨s, 0, none⟩))] _ _
 refine St.openP (p := []) (fun ⟨ve, vr⟩ hok => ?_)
 refine St.unbundle [] ?_
 refine St.ownForm (p := [_]) fun eb ec heb hec => ?_
 dsimp only at heb; subst heb
 refine St.ownForm (p := [_, _]) fun rb rcap hrb hrc_ => ?_
 dsimp only at hrb; subst hrb
 refine St.res (rs' := [blk q [.bool true, .slice eb tg.length ec, .slice rb rc.length rcap] 227, ownS 27 1 (.slice eb tg.length ec) (tg).length (ints .u64 (enOf (tg))), ownS 244 2 (.slice rb rc.length rcap) (rc).length (recC (rc)), fam (tgH q) (tg)]) (Weak.refl _) ?_
 refine R_seq ?_
 refine R_region ?_
 refine L_val rfl rfl rfl (OpP.v (P_assign rfl rfl)) ?_
 refine L_nil ?_
 refine Q_then ?_
 refine R_seq ?_
 refine R_seq ?_
 refine R_region ?_
 refine L_val rfl rfl rfl (OpP.v (P_move rfl rfl)) ?_
 refine L_val rfl rfl rfl (OpP.v (P_eqNil rfl ty_ptr_172 rfl rfl)) ?_
 refine L_nil ?_
 refine St.env (.cons (t := 0) rfl (.cons (t := 2) rfl (.cons (t := 4) rfl .nil))) ?_
 refine Q_then ?_
 refine R_condF rfl ?_
 refine R_skip ?_
 refine Q_then ?_
 refine R_seq ?_
 refine R_region ?_
 refine L_val rfl rfl rfl (OpP.v (P_move rfl rfl)) ?_
 refine L_val rfl rfl rfl (OpP.v (P_nil rfl rfl)) ?_
 refine L_val rfl rfl rfl (OpP.v (P_fld0 rfl ty_fl_232_1 rfl)) ?_
 refine L_val rfl rfl rfl (V_load rfl rfl ty_sc_27 ((rd_tg .h3 hi).2)) ?_
 refine L_val rfl rfl rfl (OpP.v (P_assign rfl rfl)) ?_
 refine L_nil ?_
 refine St.env (.cons (t := 2) rfl .nil) ?_
 refine Q_then ?_
 refine R_ret ?_
 exact R_end (rs2 := [REF q (tg) (rc)]) rfl rfl (.tmp rfl .nil) (⟨rfl, rfl⟩) (ref_close (rs := []) hok)
theorem rknown_ok {gl : Nat → Obj} (q : Nat) (tg : List (Int × Nat)) (rc : List Rcd) (a : Int) (hT : tg.length ≤ 4398046511104) : SpecR (cx gl) 96 [.pointer (some ⟨q, 0, none⟩), .int .u64 a] (fun _ _ => True) [REF q tg rc] (.bool (decide (a ∈ enOf tg))) [REF q tg rc] := by
 refine Spec.enter (C := cx gl) Tryz.func96 rfl 27 rfl rfl fun w0 h0 hsep hsub hpre => ?_
 show St (cx gl) _ [(0, .pointer (some ⟨q, 0, none⟩)), (1, .int .u64 a)] _ _
 refine St.openP (p := []) (fun ⟨ve, vr⟩ hok => ?_)
 refine St.unbundle [] ?_
 refine St.ownForm (p := [_]) fun eb ec heb hec => ?_
 dsimp only at heb; subst heb
 refine St.ownForm (p := [_, _]) fun rb rcap hrb hrc_ => ?_
 dsimp only at hrb; subst hrb
 refine St.res (rs' := [blk q [.bool true, .slice eb tg.length ec, .slice rb rc.length rcap] 227, ownS 27 1 (.slice eb tg.length ec) (tg).length (ints .u64 (enOf (tg))), ownS 244 2 (.slice rb rc.length rcap) (rc).length (recC (rc)), fam (tgH q) (tg)]) (Weak.refl _) ?_
 refine R_seq ?_
 refine R_region ?_
 refine L_val rfl rfl rfl (OpP.v (P_assign rfl rfl)) ?_
 refine L_nil ?_
 refine Q_then ?_
 refine R_seq ?_
 refine R_seq ?_
 refine R_region ?_
 refine L_val rfl rfl rfl (OpP.v (P_move rfl rfl)) ?_
 refine L_op rfl (W_callR rfl rfl rfl rfl fn_ca_147 (rgood_ok q (.slice eb tg.length ec) (.slice rb rc.length rcap) true) (Split.one (p := [])) (fun _ _ _ _ _ _ _ => trivial) ?_)
 refine St.res (rs' := [blk q [.bool true, .slice eb tg.length ec, .slice rb rc.length rcap] 227, ownS 27 1 (.slice eb tg.length ec) (tg).length (ints .u64 (enOf (tg))), ownS 244 2 (.slice rb rc.length rcap) (rc).length (recC (rc)), fam (tgH q) (tg)]) (Weak.refl _) ?_
 refine L_val rfl rfl rfl (OpP.v (P_not rfl rfl)) ?_
 refine E_false (t := 8) rfl (rfl) ?_
 refine L_nil ?_
 refine St.env (.cons (t := 0) rfl (.cons (t := 1) rfl (.cons (t := 4) rfl (.cons (t := 8) rfl .nil)))) ?_
 refine Q_then ?_
 refine R_condF rfl ?_
 refine R_skip ?_
 refine Q_then ?_
 refine R_seq ?_
 refine R_seq ?_
 refine R_region ?_
 refine L_val rfl rfl rfl (OpP.v (P_assign rfl rfl)) ?_
 refine L_nil ?_
 refine St.env (.cons (t := 0) rfl (.cons (t := 1) rfl (.cons (t := 4) rfl (.cons (t := 5) rfl .nil)))) ?_
 refine Q_then ?_
 refine R_block ?_
 refine R_loopE (G := Nat) (.cons (t := 0) rfl (.cons (t := 1) rfl (.cons (t := 4) rfl .nil))) (fun g => [(5, .int .i64 (g : Int))]) (fun _ => _) (fun g => g ≤ tg.length ∧ ∀ j, j < g → ∀ y, (enOf tg)[j]? = some y → y ≠ a) (fun g => tg.length - g) (0) (by show (0) ≤ tg.length ∧ ∀ j, j < (0) → ∀ y, (enOf tg)[j]? = some y → y ≠ a; exact ⟨Nat.zero_le _, fun j hj => by omega⟩) (by repeat (first | exact .nil | refine .cons rfl ?_ | refine .consE rfl (by first | rfl | (congr 1; omega) | (congr 1; push_cast; omega)) ?_)) (Weak.refl _) ?_
 intro i hinv
 replace hinv : i ≤ tg.length ∧ ∀ j, j < i → ∀ y, (enOf tg)[j]? = some y → y ≠ a := hinv
 show St (cx gl) _ ((5, .int .i64 (i : Int)) :: _) _ _
 obtain ⟨hi, hall⟩ := hinv
 refine R_seq ?_
 refine R_seq ?_
 refine R_region ?_
 refine L_val rfl rfl rfl (OpP.v (P_move rfl rfl)) ?_
 refine L_val rfl rfl rfl (OpP.v (P_move rfl rfl)) ?_
 refine L_val rfl rfl rfl (OpP.v (P_nil rfl rfl)) ?_
 refine L_val rfl rfl rfl (OpP.v (P_fld0 rfl ty_fl_227_1 rfl)) ?_
 refine L_val rfl rfl rfl (V_load rfl rfl ty_sc_224 (by first | exact Rd.blk .h0 rfl | exact Rd.blk .h1 rfl | exact Rd.blk .h2 rfl | exact Rd.blk .h3 rfl | exact Rd.blk .h4 rfl | exact Rd.blk .h5 rfl | exact Rd.blk .h6 rfl | exact Rd.blk .h7 rfl)) ?_
 refine L_val rfl rfl rfl (OpP.v (P_len rfl ty_sl_224 rfl)) ?_
 refine L_val rfl rfl rfl (OpP.v (P_lss rfl rfl rfl)) ?_
 refine L_nil ?_
 refine Q_then ?_
 refine R_condP rfl (fun hlt0 => ?_) (fun hlt0 => ?_)
 ·skip
  have hlt : i < tg.length := by omega
  have hlt2 : i < (enOf tg).length := by rw [enOf_length]; exact hlt
  refine St.ownSome (p := [_]) (by omega) fun ebb ebc heb2 _ => ?_
  simp only [Value.slice.injEq] at heb2
  obtain ⟨rfl, _, rfl⟩ := heb2
  refine R_skip ?_
  refine Q_then ?_
  refine R_seq ?_
  refine R_block ?_
  refine R_seq ?_
  refine R_region ?_
  refine L_val rfl rfl rfl (OpP.v (P_move rfl rfl)) ?_
  refine L_val rfl rfl rfl (OpP.v (P_nil rfl rfl)) ?_
  refine L_val rfl rfl rfl (OpP.v (P_fld0 rfl ty_fl_227_1 rfl)) ?_
  refine L_val rfl rfl rfl (V_load rfl rfl ty_sc_224 (by first | exact Rd.blk .h0 rfl | exact Rd.blk .h1 rfl | exact Rd.blk .h2 rfl | exact Rd.blk .h3 rfl | exact Rd.blk .h4 rfl | exact Rd.blk .h5 rfl | exact Rd.blk .h6 rfl | exact Rd.blk .h7 rfl)) ?_
  refine L_val rfl rfl rfl (OpP.v (P_move rfl rfl)) ?_
  refine L_val rfl rfl rfl (OpP.v (P_ixs (i) rfl ty_sl_224 rfl rfl (by first | rfl | omega) (by omega))) ?_
  refine L_val rfl rfl rfl (V_load rfl rfl ty_sc_27 (rd_own1 .h1 (by unfold ints; rw [List.getElem?_map, List.getElem?_eq_getElem hlt2]; rfl))) ?_
  refine L_val rfl rfl rfl (OpP.v (P_move rfl rfl)) ?_
  refine L_val rfl rfl rfl (OpP.v (P_eql rfl rfl rfl)) ?_
  refine L_nil ?_
  refine Q_then ?_
  refine R_condP rfl (fun hne => ?_) (fun hne => ?_)
  ·skip
   refine R_seq ?_
   refine R_region ?_
   refine L_val rfl rfl rfl (OpP.v (P_assign rfl rfl)) ?_
   refine L_nil ?_
   refine Q_then ?_
   refine R_ret ?_
   refine Q_block_ret ?_
   refine Q_then_ret ?_
   refine Q_then_ret ?_
   refine Q_block_ret ?_
   refine Q_then_ret ?_
   exact R_end (rs2 := [REF q (tg) (rc)]) rfl rfl (.tmp rfl .nil) (⟨by show Value.bool _ = Value.bool _; rw [decide_eq_true (show a ∈ enOf tg by rw [← hne]; exact List.getElem_mem hlt2)], rfl⟩) (ref_close (rs := []) hok)
  ·skip
   refine R_skip ?_
   refine Q_block ?_
   refine Q_then ?_
   refine R_region ?_
   refine L_val rfl rfl rfl (OpP.v (P_move rfl rfl)) ?_
   first | (refine L_val rfl rfl rfl (OpP.v (P_addN rfl rfl rfl (by simp only [fits]; omega))) ?_) | (refine L_val rfl rfl rfl (OpP.v (P_add rfl rfl rfl)) ?_)
   refine L_val rfl rfl rfl (OpP.v (P_assign rfl rfl)) ?_
   refine L_nil ?_
   exact Q_round (i + 1) (by show (i + 1) ≤ tg.length ∧ ∀ j, j < (i + 1) → ∀ y, (enOf tg)[j]? = some y → y ≠ a; exact ⟨by show i + 1 ≤ _; omega, fun j hj y hy => by
     by_cases h : j < i
     ·exact hall j h y hy
     ·obtain rfl : j = i := by (have hj : j < i + 1 := hj); omega
      rw [List.getElem?_eq_getElem (by rw [enOf_length]; omega), Option.some.injEq] at hy
      rw [← hy]; exact hne⟩) (by show tg.length - (i + 1) < tg.length - i; omega) (by repeat (first | exact .nil | refine .cons rfl ?_ | refine .consE rfl (by first | rfl | (congr 1; omega) | (congr 1; push_cast; omega)) ?_)) (Weak.refl _)
 ·skip
  obtain rfl : i = tg.length := by omega
  refine R_exit ?_
  refine Q_then_exit ?_
  refine Q_then_exit ?_
  refine Q_block_eq ?_
  refine St.env (.cons (t := 4) rfl .nil) ?_
  refine Q_then ?_
  refine R_seq ?_
  refine R_region ?_
  refine L_val rfl rfl rfl (OpP.v (P_assign rfl rfl)) ?_
  refine L_nil ?_
  refine Q_then ?_
  refine R_ret ?_
  exact R_end (rs2 := [REF q (tg) (rc)]) rfl rfl (.tmp rfl .nil) (⟨by show Value.bool _ = Value.bool _; rw [decide_eq_false (not_mem_of_all fun j hj y hy => hall j (by rw [← enOf_length]; exact hj) y hy)], rfl⟩) (ref_close (rs := []) hok)
theorem rhas_ok {gl : Nat → Obj} (q : Nat) (tg : List (Int × Nat)) (rc : List Rcd) (eb rb : Option Addr) (ec rcap : Nat) (hok : RecOK rc) (a : Int) (base : Option Addr) (c : Nat) (xs : List Int) (hb : IsB xs) (hC : rc.length ≤ 4398046511104) : SpecR (cx gl) 156 [.pointer (some ⟨q, 0, none⟩), .int .u64 a, .slice base xs.length c] (fun w h => Seen w h base (ints .u8 xs)) [blk q [.bool true, .slice eb tg.length ec, .slice rb rc.length rcap] 227, ownS 27 1 (.slice eb tg.length ec) (tg).length (ints .u64 (enOf (tg))), ownS 244 2 (.slice rb rc.length rcap) (rc).length (recC (rc)), fam (tgH q) (tg)] (.bool (decide ((a, xs) ∈ rc))) [blk q [.bool true, .slice eb tg.length ec, .slice rb rc.length rcap] 227, ownS 27 1 (.slice eb tg.length ec) (tg).length (ints .u64 (enOf (tg))), ownS 244 2 (.slice rb rc.length rcap) (rc).length (recC (rc)), fam (tgH q) (tg)] := by
 refine Spec.enter (C := cx gl) Tryz.func156 rfl 40 rfl rfl fun w0 h0 hsep hsub hpre => ?_
 show St (cx gl) _ [(0, .pointer (some ⟨q, 0, none⟩)), (1, .int .u64 a), (2, .slice base xs.length c)] _ _
 refine R_seq ?_
 refine R_region ?_
 refine L_val rfl rfl rfl (OpP.v (P_assign rfl rfl)) ?_
 refine L_nil ?_
 refine Q_then ?_
 refine R_seq ?_
 refine R_seq ?_
 refine R_region ?_
 refine L_val rfl rfl rfl (OpP.v (P_assign rfl rfl)) ?_
 refine L_nil ?_
 refine Q_then ?_
 refine R_block ?_
 refine R_loopE (G := Nat) (.cons (t := 0) rfl (.cons (t := 1) rfl (.cons (t := 2) rfl (.cons (t := 6) rfl .nil)))) (fun g => [(7, .int .i64 (g : Int))]) (fun _ => _) (fun g => g ≤ rc.length ∧ ∀ j, j < g → ∀ y, rc[j]? = some y → y ≠ (a, xs)) (fun g => rc.length - g) (0) (by show (0) ≤ rc.length ∧ ∀ j, j < (0) → ∀ y, rc[j]? = some y → y ≠ (a, xs); exact ⟨Nat.zero_le _, fun j hj => by omega⟩) (by repeat (first | exact .nil | refine .cons rfl ?_ | refine .consE rfl (by first | rfl | (congr 1; omega) | (congr 1; push_cast; omega)) ?_)) (Weak.refl _) ?_
 intro i hinv
 replace hinv : i ≤ rc.length ∧ ∀ j, j < i → ∀ y, rc[j]? = some y → y ≠ (a, xs) := hinv
 show St (cx gl) _ ((7, .int .i64 (i : Int)) :: _) _ _
 obtain ⟨hi, hall⟩ := hinv
 refine R_seq ?_
 refine R_seq ?_
 refine R_region ?_
 refine L_val rfl rfl rfl (OpP.v (P_move rfl rfl)) ?_
 refine L_val rfl rfl rfl (OpP.v (P_move rfl rfl)) ?_
 refine L_val rfl rfl rfl (OpP.v (P_nil rfl rfl)) ?_
 refine L_val rfl rfl rfl (OpP.v (P_fld0 rfl ty_fl_227_2 rfl)) ?_
 refine L_val rfl rfl rfl (V_load rfl rfl ty_sc_225 (by first | exact Rd.blk .h0 rfl | exact Rd.blk .h1 rfl | exact Rd.blk .h2 rfl | exact Rd.blk .h3 rfl | exact Rd.blk .h4 rfl | exact Rd.blk .h5 rfl | exact Rd.blk .h6 rfl | exact Rd.blk .h7 rfl)) ?_
 refine L_val rfl rfl rfl (OpP.v (P_len rfl ty_sl_225 rfl)) ?_
 refine L_val rfl rfl rfl (OpP.v (P_lss rfl rfl rfl)) ?_
 refine L_nil ?_
 refine Q_then ?_
 refine R_condP rfl (fun hlt0 => ?_) (fun hlt0 => ?_)
 ·skip
  have hlt : i < rc.length := by omega
  refine St.ownSome (p := [_, _]) (by omega) fun rbb rbc hrb2 _ => ?_
  simp only [Value.slice.injEq] at hrb2
  obtain ⟨rfl, _, rfl⟩ := hrb2
  refine R_skip ?_
  refine Q_then ?_
  refine R_seq ?_
  refine R_block ?_
  refine R_seq ?_
  refine R_open [(0, 0), (1, 0), (2, 0), (3, 1), (4, 0), (5, 0), (6, 0), (7, 1), (8, 0), (9, 0), (10, 0), (11, 0), (12, 0), (13, 0), (14, 1), (15, 0), (16, 0), (17, 0), (18, 1), (19, 0), (20, 1), (21, 0), (22, 0)] mixed (by kernel_rfl) (QOk.then (QOk.block (QOk.then (QOk.then (QOk.block (QOk.then QOk.body)))))) ?_
  refine O_pure rfl rfl rfl rfl (P_move rfl rfl) ?_
  refine O_pure rfl rfl rfl rfl (P_nil rfl rfl) ?_
  refine O_pure rfl rfl rfl rfl (P_fld0 rfl ty_fl_227_2 rfl) ?_
  refine O_val rfl rfl rfl rfl (V_load rfl rfl ty_sc_225 (by first | exact Rd.blk .h0 rfl | exact Rd.blk .h1 rfl | exact Rd.blk .h2 rfl | exact Rd.blk .h3 rfl | exact Rd.blk .h4 rfl | exact Rd.blk .h5 rfl | exact Rd.blk .h6 rfl | exact Rd.blk .h7 rfl)) ?_
  refine O_pure rfl rfl rfl rfl (P_move rfl rfl) ?_
  refine O_pure rfl rfl rfl rfl (P_ixs (i) rfl ty_sl_225 rfl rfl (by first | rfl | omega) (by omega)) ?_
  refine O_pure rfl rfl rfl rfl (P_fld rfl ty_fl_244_0 rfl) ?_
  refine O_val rfl rfl rfl rfl (V_load rfl rfl ty_sc_27 ((rd_rec .h2 (List.getElem?_eq_getElem hlt)).1)) ?_
  refine O_pure rfl rfl rfl rfl (P_move rfl rfl) ?_
  refine O_pure rfl rfl rfl rfl (P_eql rfl rfl rfl) ?_
  refine O_pure rfl rfl rfl rfl (P_move rfl rfl) ?_
  refine E_bool (t := 27) rfl (fun hg => ?_) (fun hg => ?_)
  ·skip
   refine O_pure rfl rfl rfl rfl (P_move rfl rfl) ?_
   refine O_pure rfl rfl rfl rfl (P_nil rfl rfl) ?_
   refine O_pure rfl rfl rfl rfl (P_fld0 rfl ty_fl_227_2 rfl) ?_
   refine O_val rfl rfl rfl rfl (V_load rfl rfl ty_sc_225 (by first | exact Rd.blk .h0 rfl | exact Rd.blk .h1 rfl | exact Rd.blk .h2 rfl | exact Rd.blk .h3 rfl | exact Rd.blk .h4 rfl | exact Rd.blk .h5 rfl | exact Rd.blk .h6 rfl | exact Rd.blk .h7 rfl)) ?_
   refine O_pure rfl rfl rfl rfl (P_move rfl rfl) ?_
   refine O_pure rfl rfl rfl rfl (P_ixs (i) rfl ty_sl_225 rfl rfl (by first | rfl | omega) (by omega)) ?_
   refine O_pure rfl rfl rfl rfl (P_fld rfl ty_fl_244_1 rfl) ?_
   refine O_val rfl rfl rfl rfl (V_load rfl rfl ty_sc_9 ((rd_rec .h2 (List.getElem?_eq_getElem hlt)).2)) ?_
   refine O_pure rfl rfl rfl rfl (P_move rfl rfl) ?_
   refine O_val rfl rfl rfl rfl (V_str rfl (slB_spec ty_sl_48).1 ty_int_5 ty_str_9 rfl ((Sn.old hpre).rw_)) ?_
   refine O_pure rfl rfl rfl rfl (P_eqStr rfl rfl rfl (hok _ (List.getElem_mem hlt)).1 hb) ?_
   refine O_pure rfl rfl rfl rfl (P_pick rfl rfl rfl) ?_
   refine O_nil ?_
   refine Q_then ?_
   refine R_condP rfl (fun hm => ?_) (fun hm => ?_)
   ·skip
    refine R_seq ?_
    refine R_region ?_
    refine L_val rfl rfl rfl (OpP.v (P_assign rfl rfl)) ?_
    refine L_nil ?_
    refine Q_then ?_
    refine R_ret ?_
    refine Q_block_ret ?_
    refine Q_then_ret ?_
    refine Q_then_ret ?_
    refine Q_block_ret ?_
    refine Q_then_ret ?_
    exact R_end (rs2 := _) rfl rfl (.tmp rfl .nil) (⟨by show Value.bool _ = Value.bool _; rw [decide_eq_true (show (a, xs) ∈ rc by rw [show (a, xs) = rc[i] from (Prod.ext (of_decide_eq_true hg) hm).symm]; exact List.getElem_mem hlt)], rfl⟩) (Weak.refl _)
   ·skip
    refine R_skip ?_
    refine Q_block ?_
    refine Q_then ?_
    refine R_region ?_
    refine L_val rfl rfl rfl (OpP.v (P_move rfl rfl)) ?_
    first | (refine L_val rfl rfl rfl (OpP.v (P_addN rfl rfl rfl (by simp only [fits]; omega))) ?_) | (refine L_val rfl rfl rfl (OpP.v (P_add rfl rfl rfl)) ?_)
    refine L_val rfl rfl rfl (OpP.v (P_assign rfl rfl)) ?_
    refine L_nil ?_
    exact Q_round (i + 1) (by show (i + 1) ≤ rc.length ∧ ∀ j, j < (i + 1) → ∀ y, rc[j]? = some y → y ≠ (a, xs); exact ⟨by show i + 1 ≤ _; omega, fun j hj y hy => by
      by_cases h : j < i
      ·exact hall j h y hy
      ·obtain rfl : j = i := by (have hj : j < i + 1 := hj); omega
       rw [List.getElem?_eq_getElem hlt, Option.some.injEq] at hy
       rw [← hy]; exact fun e => hm (congrArg Prod.snd e)⟩) (by show rc.length - (i + 1) < rc.length - i; omega) (by repeat (first | exact .nil | refine .cons rfl ?_ | refine .consE rfl (by first | rfl | (congr 1; omega) | (congr 1; push_cast; omega)) ?_)) (Weak.refl _)
  ·skip
   refine O_no rfl rfl rfl rfl ?_
   refine O_no rfl rfl rfl rfl ?_
   refine O_no rfl rfl rfl rfl ?_
   refine O_noX rfl rfl rfl rfl ?_
   refine O_no rfl rfl rfl rfl ?_
   refine O_no rfl rfl rfl rfl ?_
   refine O_no rfl rfl rfl rfl ?_
   refine O_noX rfl rfl rfl rfl ?_
   refine O_no rfl rfl rfl rfl ?_
   refine O_noX rfl rfl rfl rfl ?_
   refine O_no rfl rfl rfl rfl ?_
   refine O_pure rfl rfl rfl rfl (P_pick rfl rfl rfl) ?_
   refine O_nil ?_
   refine Q_then ?_
   refine R_condF rfl ?_
   refine R_skip ?_
   refine Q_block ?_
   refine Q_then ?_
   refine R_region ?_
   refine L_val rfl rfl rfl (OpP.v (P_move rfl rfl)) ?_
   first | (refine L_val rfl rfl rfl (OpP.v (P_addN rfl rfl rfl (by simp only [fits]; omega))) ?_) | (refine L_val rfl rfl rfl (OpP.v (P_add rfl rfl rfl)) ?_)
   refine L_val rfl rfl rfl (OpP.v (P_assign rfl rfl)) ?_
   refine L_nil ?_
   exact Q_round (i + 1) (by show (i + 1) ≤ rc.length ∧ ∀ j, j < (i + 1) → ∀ y, rc[j]? = some y → y ≠ (a, xs); exact ⟨by show i + 1 ≤ _; omega, fun j hj y hy => by
     by_cases h : j < i
     ·exact hall j h y hy
     ·obtain rfl : j = i := by (have hj : j < i + 1 := hj); omega
      rw [List.getElem?_eq_getElem hlt, Option.some.injEq] at hy
      rw [← hy]; exact fun e => of_decide_eq_false hg (congrArg Prod.fst e)⟩) (by show rc.length - (i + 1) < rc.length - i; omega) (by repeat (first | exact .nil | refine .cons rfl ?_ | refine .consE rfl (by first | rfl | (congr 1; omega) | (congr 1; push_cast; omega)) ?_)) (Weak.refl _)
 ·skip
  obtain rfl : i = rc.length := by omega
  refine R_exit ?_
  refine Q_then_exit ?_
  refine Q_then_exit ?_
  refine Q_block_eq ?_
  refine St.env (.cons (t := 6) rfl .nil) ?_
  refine Q_then ?_
  refine R_seq ?_
  refine R_region ?_
  refine L_val rfl rfl rfl (OpP.v (P_assign rfl rfl)) ?_
  refine L_nil ?_
  refine Q_then ?_
  refine R_ret ?_
  exact R_end (rs2 := _) rfl rfl (.tmp rfl .nil) (⟨by show Value.bool _ = Value.bool _; rw [decide_eq_false (not_mem_of_all fun j hj y hy => hall j hj y hy)], rfl⟩) (Weak.refl _)
end Go.Proofs.YtfhjhaogmdaepaaGreatDoor

/- The document's registry: Enter, Sign, Check, Signed. Printed by gen.py. -/
set_option linter.unusedVariables false
set_option linter.unusedSimpArgs false
set_option maxRecDepth 100000
namespace Go.Proofs.YtfhjhaogmdaepaaGreatDoor
open Go Go.RowKit Go.Proofs
theorem renter_new {gl : Nat → Obj} (q : Nat) (tg : List (Int × Nat)) (rc : List Rcd) (a : Int) (ha : a ≠ 0) (hin : a ∉ enOf tg) (hmax : tg.length ≤ 4398046511104) : Spec (cx gl) 98 [.pointer (some ⟨q, 0, none⟩), .int .u64 a] (fun _ _ => True) [REF q tg rc] (fun v rs => ∃ s, v = .tuple #[.pointer (some ⟨s, 0, none⟩), .int .i64 0] ∧ rs = [REF q (tg ++ [(a, s)]) rc]) := by
 refine Spec.enter (C := cx gl) Tryz.func98 rfl 28 rfl rfl fun w0 h0 hsep hsub hpre => ?_
 show St (cx gl) _ [(0, .pointer (some ⟨q, 0, none⟩)), (1, .int .u64 a)] _ _
 refine St.openP (p := []) (fun ⟨ve, vr⟩ hok => ?_)
 refine St.unbundle [] ?_
 refine St.ownForm (p := [_]) fun eb ec heb hec => ?_
 dsimp only at heb; subst heb
 refine St.ownForm (p := [_, _]) fun rb rcap hrb hrc_ => ?_
 dsimp only at hrb; subst hrb
 refine St.res (rs' := [blk q [.bool true, .slice eb tg.length ec, .slice rb rc.length rcap] 227, ownS 27 1 (.slice eb tg.length ec) (tg).length (ints .u64 (enOf (tg))), ownS 244 2 (.slice rb rc.length rcap) (rc).length (recC (rc)), fam (tgH q) (tg)]) (Weak.refl _) ?_
 refine R_seq ?_
 refine R_region ?_
 refine L_val rfl rfl rfl (OpP.v (P_assign rfl rfl)) ?_
 refine L_val rfl rfl rfl (OpP.v (P_assign rfl rfl)) ?_
 refine L_nil ?_
 refine Q_then ?_
 refine R_seq ?_
 refine R_seq ?_
 refine R_region ?_
 refine L_val rfl rfl rfl (OpP.v (P_move rfl rfl)) ?_
 refine L_op rfl (W_callR rfl rfl rfl rfl fn_ca_147 (rgood_ok q (.slice eb tg.length ec) (.slice rb rc.length rcap) true) (Split.one (p := [])) (fun _ _ _ _ _ _ _ => trivial) ?_)
 refine St.res (rs' := [blk q [.bool true, .slice eb tg.length ec, .slice rb rc.length rcap] 227, ownS 27 1 (.slice eb tg.length ec) (tg).length (ints .u64 (enOf (tg))), ownS 244 2 (.slice rb rc.length rcap) (rc).length (recC (rc)), fam (tgH q) (tg)]) (Weak.refl _) ?_
 refine L_val rfl rfl rfl (OpP.v (P_not rfl rfl)) ?_
 refine E_false (t := 8) rfl (rfl) ?_
 refine L_nil ?_
 refine St.env (.cons (t := 0) rfl (.cons (t := 1) rfl (.cons (t := 4) rfl (.cons (t := 5) rfl (.cons (t := 8) rfl .nil))))) ?_
 refine Q_then ?_
 refine R_condF rfl ?_
 refine R_skip ?_
 refine Q_then ?_
 refine R_seq ?_
 refine R_seq ?_
 refine R_region ?_
 refine L_val rfl rfl rfl (OpP.v (P_move rfl rfl)) ?_
 refine L_val rfl rfl rfl (OpP.v (P_eql rfl rfl rfl)) ?_
 refine E_false (t := 10) rfl (decide_eq_false ha) ?_
 refine L_nil ?_
 refine St.env (.cons (t := 0) rfl (.cons (t := 1) rfl (.cons (t := 4) rfl (.cons (t := 5) rfl (.cons (t := 10) rfl .nil))))) ?_
 refine Q_then ?_
 refine R_condF rfl ?_
 refine R_skip ?_
 refine Q_then ?_
 refine R_seq ?_
 refine R_seq ?_
 refine St.res (rs' := [REF q tg rc]) (ref_close (rs := []) hok) ?_
 refine R_region ?_
 refine L_val rfl rfl rfl (OpP.v (P_move rfl rfl)) ?_
 refine L_val rfl rfl rfl (OpP.v (P_move rfl rfl)) ?_
 refine L_op rfl (W_callR rfl rfl rfl rfl fn_ca_96 (rknown_ok q tg rc a hmax) (Split.one (p := [])) (fun _ _ _ _ _ _ _ => trivial) ?_)
 refine St.res (rs' := [REF q tg rc]) (Weak.refl _) ?_
 refine E_false (t := 13) rfl (decide_eq_false hin) ?_
 refine L_nil ?_
 refine St.env (.cons (t := 0) rfl (.cons (t := 1) rfl (.cons (t := 4) rfl (.cons (t := 5) rfl (.cons (t := 13) rfl .nil))))) ?_
 refine Q_then ?_
 refine R_condF rfl ?_
 refine R_skip ?_
 refine Q_then ?_
 refine R_seq ?_
 refine St.openP (p := []) (fun ⟨ve, vr⟩ hok => ?_)
 refine St.unbundle [] ?_
 refine St.ownForm (p := [_]) fun eb ec heb hec => ?_
 dsimp only at heb; subst heb
 refine St.ownForm (p := [_, _]) fun rb rcap hrb hrc_ => ?_
 dsimp only at hrb; subst hrb
 refine St.res (rs' := [blk q [.bool true, .slice eb tg.length ec, .slice rb rc.length rcap] 227, ownS 27 1 (.slice eb tg.length ec) (tg).length (ints .u64 (enOf (tg))), ownS 244 2 (.slice rb rc.length rcap) (rc).length (recC (rc)), fam (tgH q) (tg)]) (Weak.refl _) ?_
 refine R_region ?_
 refine L_val rfl rfl rfl (OpP.v (P_move rfl rfl)) ?_
 refine L_val rfl rfl rfl (OpP.v (P_move rfl rfl)) ?_
 refine L_val rfl rfl rfl (OpP.v (P_nil rfl rfl)) ?_
 refine L_val rfl rfl rfl (OpP.v (P_fld0 rfl ty_fl_227_1 rfl)) ?_
 refine L_val rfl rfl rfl (V_load rfl rfl ty_sc_224 (by first | exact Rd.blk .h0 rfl | exact Rd.blk .h1 rfl | exact Rd.blk .h2 rfl | exact Rd.blk .h3 rfl | exact Rd.blk .h4 rfl | exact Rd.blk .h5 rfl | exact Rd.blk .h6 rfl | exact Rd.blk .h7 rfl)) ?_
 refine L_val rfl rfl rfl (OpP.v (P_move rfl rfl)) ?_
 refine L_op rfl (W_lit (z := .nilIface) (ints .u64 [a]) rfl rfl rfl ty_sl_224 ty_lz_224 rfl rfl rfl (by decide) (by decide) (by simp [Value.cells]) (rfl) fun b20 => ?_)
 refine L_op rfl (W_append (p := [_, _]) rfl rfl rfl ty_sl_224 ty_ap_224 ty_src_224 rfl rfl rfl (Src.slice (sz := 1) (news := ints .u64 [a]) (Rds.blk .h0) rfl ints_one) (by omega) (by simp only [maxLen]; omega) fun v21 => ?_)
 refine St.ownForm (p := [_, _]) fun nb nc hnv hnc => ?_
 subst hnv
 refine L_val rfl rfl rfl (OpP.v (P_nil rfl rfl)) ?_
 refine L_val rfl rfl rfl (OpP.v (P_fld0 rfl ty_fl_227_1 rfl)) ?_
 refine L_op rfl (W_store rfl rfl rfl rfl ty_sc_224 rfl .h1 (by first | decide | (simp [ints]; done) | (simp [ints]; omega)) ?_)
 refine L_nil ?_
 refine St.env (.cons (t := 0) rfl (.cons (t := 1) rfl (.cons (t := 4) rfl (.cons (t := 5) rfl .nil)))) ?_
 refine Q_then ?_
 refine R_seq ?_
 refine R_region ?_
 refine L_val rfl rfl rfl (OpP.v (P_move rfl rfl)) ?_
 refine L_val rfl rfl rfl (OpP.v (P_move rfl rfl)) ?_
 refine L_val rfl rfl rfl (OpP.v (P_buildStruct rfl ty_pl_232 ty_ze_232 rfl rfl (rfl))) ?_
 refine E_as (t := 26) (v' := .agg [.pointer (some ⟨q, 0, none⟩), .int .u64 a].toArray) rfl (rfl) ?_
 refine L_op rfl (W_box ([.pointer (some ⟨q, 0, none⟩), .int .u64 a]) rfl rfl rfl rfl rfl fun b27 => ?_)
 refine L_val rfl rfl rfl (OpP.v (P_assign rfl rfl)) ?_
 refine L_val rfl rfl rfl (OpP.v (P_assign rfl rfl)) ?_
 refine L_nil ?_
 refine St.env (.cons (t := 4) rfl (.cons (t := 5) rfl .nil)) ?_
 refine Q_then ?_
 refine R_ret ?_
 exact R_end (rs2 := _) rfl rfl (.tmp rfl (.tmp rfl .nil)) (⟨b27, rfl, rfl⟩) (by have e : tg.length + 1 = (tg ++ [(a, b27)]).length := (by simp); rw [ints_append, show enOf tg ++ [a] = enOf (tg ++ [(a, b27)]) by simp [enOf], e]; exact Weak.trans (Weak.p2 (Weak.p2 (Weak.p2 ((Weak.keep (Weak.drop (Weak.refl _))).trans (Weak.famAdd (f := tgH q) (x := (a, b27))))))) (ref_close (rs := []) hok))
theorem rsign_old {gl : Nat → Obj} (hG : GlobsR gl) (q : Nat) (tg : List (Int × Nat)) (rc : List Rcd) (i : Nat) (a : Int) (s : Nat) (hi : tg[i]? = some (a, s)) (base : Option Addr) (c : Nat) (xs : List Int) (hb : IsB xs) (hmax : xs.length ≤ 1048576) (hC : rc.length ≤ 4398046511104) (hm : (a, xs) ∈ rc) : SpecR (cx gl) 102 [.pointer (some ⟨s, 0, none⟩), .slice base xs.length c] (fun w h => Seen w h base (ints .u8 xs)) [REF q tg rc] (.tuple #[.agg (ints .u8 (sealH a xs)).toArray, .int .i64 0]) [REF q tg rc] := by
 refine Spec.enter (C := cx gl) Tryz.func102 rfl 59 rfl rfl fun w0 h0 hsep hsub hpre => ?_
 show St (cx gl) _ [(0, .pointer (some ⟨s, 0, none⟩)), (1, .slice base xs.length c)] _ _
 refine St.openP (p := []) (fun ⟨ve, vr⟩ hok => ?_)
 refine St.unbundle [] ?_
 refine St.ownForm (p := [_]) fun eb ec heb hec => ?_
 dsimp only at heb; subst heb
 refine St.ownForm (p := [_, _]) fun rb rcap hrb hrc_ => ?_
 dsimp only at hrb; subst hrb
 refine St.res (rs' := [blk q [.bool true, .slice eb tg.length ec, .slice rb rc.length rcap] 227, ownS 27 1 (.slice eb tg.length ec) (tg).length (ints .u64 (enOf (tg))), ownS 244 2 (.slice rb rc.length rcap) (rc).length (recC (rc)), fam (tgH q) (tg)]) (Weak.refl _) ?_
 refine R_seq ?_
 refine R_region ?_
 refine L_op rfl (W_alloc rfl rfl rfl ty_ze_86 fun b4 => ?_)
 refine L_val rfl rfl rfl (OpP.v (P_assign rfl rfl)) ?_
 refine L_nil ?_
 refine Q_then ?_
 refine R_seq ?_
 refine R_seq ?_
 refine St.res (rs' := [blk q [.bool true, .slice eb tg.length ec, .slice rb rc.length rcap] 227, ownS 27 1 (.slice eb tg.length ec) (tg).length (ints .u64 (enOf (tg))), ownS 244 2 (.slice rb rc.length rcap) (rc).length (recC (rc)), fam (tgH q) (tg), blk b4 (List.replicate 16 (.int .u8 0)) 86]) (Weak.p1 (Weak.p1 (Weak.p1 (Weak.p1 (Weak.refl _))))) ?_
 refine R_region ?_
 refine L_val rfl rfl rfl (OpP.v (P_move rfl rfl)) ?_
 refine L_val rfl rfl rfl (OpP.v (P_eqNil rfl ty_ptr_172 rfl rfl)) ?_
 refine L_val rfl rfl rfl (OpP.v (P_move rfl rfl)) ?_
 refine L_val rfl rfl rfl (OpP.v (P_move rfl rfl)) ?_
 refine L_val rfl rfl rfl (OpP.v (P_nil rfl rfl)) ?_
 refine L_val rfl rfl rfl (OpP.v (P_fld0 rfl ty_fl_232_0 rfl)) ?_
 refine L_val rfl rfl rfl (V_load rfl rfl ty_sc_97 (by first | exact (rd_tg .h3 hi).1 | exact (rd_tg .h4 hi).1)) ?_
 refine L_val rfl rfl rfl (OpP.v (P_eqNil rfl ty_ptr_97 rfl rfl)) ?_
 refine L_val rfl rfl rfl (OpP.v (P_pick rfl rfl rfl)) ?_
 refine L_nil ?_
 refine St.env (.cons (t := 0) rfl (.cons (t := 1) rfl (.cons (t := 4) rfl (.cons (t := 5) rfl (.cons (t := 14) rfl .nil))))) ?_
 refine Q_then ?_
 refine R_condF rfl ?_
 refine R_skip ?_
 refine Q_then ?_
 refine R_seq ?_
 refine R_seq ?_
 refine R_region ?_
 refine L_val rfl rfl rfl (OpP.v (P_move rfl rfl)) ?_
 refine L_val rfl rfl rfl (OpP.v (P_len rfl ty_sl_48 rfl)) ?_
 refine L_val rfl rfl rfl (OpP.v (P_gtr rfl rfl rfl)) ?_
 refine E_false (t := 18) rfl (decide_eq_false (by omega)) ?_
 refine L_nil ?_
 refine St.env (.cons (t := 0) rfl (.cons (t := 1) rfl (.cons (t := 4) rfl (.cons (t := 5) rfl (.cons (t := 18) rfl .nil))))) ?_
 refine Q_then ?_
 refine R_condF rfl ?_
 refine R_skip ?_
 refine Q_then ?_
 refine R_seq ?_
 refine R_seq ?_
 refine R_open [(0, 0), (1, 0), (2, 0), (3, 1), (4, 0), (5, 0), (6, 0), (7, 1), (8, 0), (9, 2), (10, 0)] mixed (by kernel_rfl) (QOk.then (QOk.then QOk.body)) ?_
 refine O_pure rfl rfl rfl rfl (P_move rfl rfl) ?_
 refine O_pure rfl rfl rfl rfl (P_nil rfl rfl) ?_
 refine O_pure rfl rfl rfl rfl (P_fld0 rfl ty_fl_232_0 rfl) ?_
 refine O_val rfl rfl rfl rfl (V_load rfl rfl ty_sc_97 (by first | exact (rd_tg .h3 hi).1 | exact (rd_tg .h4 hi).1)) ?_
 refine O_pure rfl rfl rfl rfl (P_move rfl rfl) ?_
 refine O_pure rfl rfl rfl rfl (P_nil rfl rfl) ?_
 refine O_pure rfl rfl rfl rfl (P_fld0 rfl ty_fl_232_1 rfl) ?_
 refine O_val rfl rfl rfl rfl (V_load rfl rfl ty_sc_27 (by first | exact (rd_tg .h3 hi).2 | exact (rd_tg .h4 hi).2)) ?_
 refine O_pure rfl rfl rfl rfl (P_move rfl rfl) ?_
 refine O_keep rfl rfl (W_callR rfl rfl rfl rfl fn_ca_156 (rhas_ok q tg rc eb rb ec rcap hok a base c xs hb hC) (Weak.refl _) (Sn.pre (Sn.old hpre)) (K_keep (Weak.refl _) ?_))
 refine O_pure rfl rfl rfl rfl (P_not rfl rfl) ?_
 refine E_false (t := 30) rfl (by simp [hm]) ?_
 refine O_nil ?_
 refine St.env (.cons (t := 0) rfl (.cons (t := 1) rfl (.cons (t := 4) rfl (.cons (t := 5) rfl (.cons (t := 30) rfl .nil))))) ?_
 refine Q_then ?_
 refine R_condF rfl ?_
 refine R_skip ?_
 refine Q_then ?_
 refine R_seq ?_
 refine St.res (rs' := [blk q [.bool true, .slice eb tg.length ec, .slice rb rc.length rcap] 227, ownS 27 1 (.slice eb tg.length ec) (tg).length (ints .u64 (enOf (tg))), ownS 244 2 (.slice rb rc.length rcap) (rc).length (recC (rc)), fam (tgH q) (tg), blk b4 (List.replicate 16 (.int .u8 0)) 86]) (Weak.refl _) ?_
 refine R_region ?_
 refine L_val rfl rfl rfl (OpP.v (P_move rfl rfl)) ?_
 refine L_val rfl rfl rfl (OpP.v (P_nil rfl rfl)) ?_
 refine L_val rfl rfl rfl (OpP.v (P_fld0 rfl ty_fl_232_1 rfl)) ?_
 refine L_val rfl rfl rfl (V_load rfl rfl ty_sc_27 (by first | exact (rd_tg .h3 hi).2 | exact (rd_tg .h4 hi).2)) ?_
 refine L_val rfl rfl rfl (OpP.v (P_move rfl rfl)) ?_
 refine L_op rfl (W_callV rfl rfl rfl rfl fn_ca_157 (of_ok hG a base c xs (by omega)) ((Sn.old hpre).rw_) ?_)
 refine L_op rfl (W_storeAll rfl rfl rfl rfl ty_ag_86 (by rw [ints_length, sealH_length]) (ints_one) .h4 (by rw [ints_length, sealH_length]; rfl) ?_)
 refine L_val rfl rfl rfl (OpP.v (P_assign rfl rfl)) ?_
 refine L_nil ?_
 refine St.env (.cons (t := 4) rfl (.cons (t := 5) rfl .nil)) ?_
 refine Q_then ?_
 refine R_ret ?_
 exact R_end (rs2 := [REF q tg rc]) rfl rfl (.cell rfl (Rds.loadVar ty_ag_86 (Rds.blk .h4) (by rw [ints_length, sealH_length])) (.tmp rfl .nil)) (⟨rfl, rfl⟩) ((ref_close (rs := [_]) hok).trans (Weak.keep (Weak.nil _)))
theorem rsign_new {gl : Nat → Obj} (hG : GlobsR gl) (q : Nat) (tg : List (Int × Nat)) (rc : List Rcd) (i : Nat) (a : Int) (s : Nat) (hi : tg[i]? = some (a, s)) (base : Option Addr) (c : Nat) (xs : List Int) (hb : IsB xs) (hmax : xs.length ≤ 1048576) (hC : rc.length ≤ 4398046511104) (hm : (a, xs) ∉ rc) : SpecR (cx gl) 102 [.pointer (some ⟨s, 0, none⟩), .slice base xs.length c] (fun w h => Seen w h base (ints .u8 xs)) [REF q tg rc] (.tuple #[.agg (ints .u8 (sealH a xs)).toArray, .int .i64 0]) [REF q tg (rc ++ [(a, xs)])] := by
 refine Spec.enter (C := cx gl) Tryz.func102 rfl 59 rfl rfl fun w0 h0 hsep hsub hpre => ?_
 show St (cx gl) _ [(0, .pointer (some ⟨s, 0, none⟩)), (1, .slice base xs.length c)] _ _
 refine St.openP (p := []) (fun ⟨ve, vr⟩ hok => ?_)
 refine St.unbundle [] ?_
 refine St.ownForm (p := [_]) fun eb ec heb hec => ?_
 dsimp only at heb; subst heb
 refine St.ownForm (p := [_, _]) fun rb rcap hrb hrc_ => ?_
 dsimp only at hrb; subst hrb
 refine St.res (rs' := [blk q [.bool true, .slice eb tg.length ec, .slice rb rc.length rcap] 227, ownS 27 1 (.slice eb tg.length ec) (tg).length (ints .u64 (enOf (tg))), ownS 244 2 (.slice rb rc.length rcap) (rc).length (recC (rc)), fam (tgH q) (tg)]) (Weak.refl _) ?_
 refine R_seq ?_
 refine R_region ?_
 refine L_op rfl (W_alloc rfl rfl rfl ty_ze_86 fun b4 => ?_)
 refine L_val rfl rfl rfl (OpP.v (P_assign rfl rfl)) ?_
 refine L_nil ?_
 refine Q_then ?_
 refine R_seq ?_
 refine R_seq ?_
 refine St.res (rs' := [blk q [.bool true, .slice eb tg.length ec, .slice rb rc.length rcap] 227, ownS 27 1 (.slice eb tg.length ec) (tg).length (ints .u64 (enOf (tg))), ownS 244 2 (.slice rb rc.length rcap) (rc).length (recC (rc)), fam (tgH q) (tg), blk b4 (List.replicate 16 (.int .u8 0)) 86]) (Weak.p1 (Weak.p1 (Weak.p1 (Weak.p1 (Weak.refl _))))) ?_
 refine R_region ?_
 refine L_val rfl rfl rfl (OpP.v (P_move rfl rfl)) ?_
 refine L_val rfl rfl rfl (OpP.v (P_eqNil rfl ty_ptr_172 rfl rfl)) ?_
 refine L_val rfl rfl rfl (OpP.v (P_move rfl rfl)) ?_
 refine L_val rfl rfl rfl (OpP.v (P_move rfl rfl)) ?_
 refine L_val rfl rfl rfl (OpP.v (P_nil rfl rfl)) ?_
 refine L_val rfl rfl rfl (OpP.v (P_fld0 rfl ty_fl_232_0 rfl)) ?_
 refine L_val rfl rfl rfl (V_load rfl rfl ty_sc_97 (by first | exact (rd_tg .h3 hi).1 | exact (rd_tg .h4 hi).1)) ?_
 refine L_val rfl rfl rfl (OpP.v (P_eqNil rfl ty_ptr_97 rfl rfl)) ?_
 refine L_val rfl rfl rfl (OpP.v (P_pick rfl rfl rfl)) ?_
 refine L_nil ?_
 refine St.env (.cons (t := 0) rfl (.cons (t := 1) rfl (.cons (t := 4) rfl (.cons (t := 5) rfl (.cons (t := 14) rfl .nil))))) ?_
 refine Q_then ?_
 refine R_condF rfl ?_
 refine R_skip ?_
 refine Q_then ?_
 refine R_seq ?_
 refine R_seq ?_
 refine R_region ?_
 refine L_val rfl rfl rfl (OpP.v (P_move rfl rfl)) ?_
 refine L_val rfl rfl rfl (OpP.v (P_len rfl ty_sl_48 rfl)) ?_
 refine L_val rfl rfl rfl (OpP.v (P_gtr rfl rfl rfl)) ?_
 refine E_false (t := 18) rfl (decide_eq_false (by omega)) ?_
 refine L_nil ?_
 refine St.env (.cons (t := 0) rfl (.cons (t := 1) rfl (.cons (t := 4) rfl (.cons (t := 5) rfl (.cons (t := 18) rfl .nil))))) ?_
 refine Q_then ?_
 refine R_condF rfl ?_
 refine R_skip ?_
 refine Q_then ?_
 refine R_seq ?_
 refine R_seq ?_
 refine R_open [(0, 0), (1, 0), (2, 0), (3, 1), (4, 0), (5, 0), (6, 0), (7, 1), (8, 0), (9, 2), (10, 0)] mixed (by kernel_rfl) (QOk.then (QOk.then QOk.body)) ?_
 refine O_pure rfl rfl rfl rfl (P_move rfl rfl) ?_
 refine O_pure rfl rfl rfl rfl (P_nil rfl rfl) ?_
 refine O_pure rfl rfl rfl rfl (P_fld0 rfl ty_fl_232_0 rfl) ?_
 refine O_val rfl rfl rfl rfl (V_load rfl rfl ty_sc_97 (by first | exact (rd_tg .h3 hi).1 | exact (rd_tg .h4 hi).1)) ?_
 refine O_pure rfl rfl rfl rfl (P_move rfl rfl) ?_
 refine O_pure rfl rfl rfl rfl (P_nil rfl rfl) ?_
 refine O_pure rfl rfl rfl rfl (P_fld0 rfl ty_fl_232_1 rfl) ?_
 refine O_val rfl rfl rfl rfl (V_load rfl rfl ty_sc_27 (by first | exact (rd_tg .h3 hi).2 | exact (rd_tg .h4 hi).2)) ?_
 refine O_pure rfl rfl rfl rfl (P_move rfl rfl) ?_
 refine O_keep rfl rfl (W_callR rfl rfl rfl rfl fn_ca_156 (rhas_ok q tg rc eb rb ec rcap hok a base c xs hb hC) (Weak.refl _) (Sn.pre (Sn.old hpre)) (K_keep (Weak.refl _) ?_))
 refine O_pure rfl rfl rfl rfl (P_not rfl rfl) ?_
 refine E_true (t := 30) rfl (by simp [hm]) ?_
 refine O_nil ?_
 refine St.env (.cons (t := 0) rfl (.cons (t := 1) rfl (.cons (t := 4) rfl (.cons (t := 5) rfl (.cons (t := 30) rfl .nil))))) ?_
 refine Q_then ?_
 refine R_condT rfl ?_
 refine St.res (rs' := [blk q [.bool true, .slice eb tg.length ec, .slice rb rc.length rcap] 227, ownS 27 1 (.slice eb tg.length ec) (tg).length (ints .u64 (enOf (tg))), ownS 244 2 (.slice rb rc.length rcap) (rc).length (recC (rc)), fam (tgH q) (tg), blk b4 (List.replicate 16 (.int .u8 0)) 86]) (Weak.refl _) ?_
 refine R_openQ [(0, 0), (1, 0), (2, 0), (3, 1), (4, 0), (5, 0), (6, 0), (7, 1), (8, 0), (9, 0), (10, 1), (11, 0), (12, 0), (13, 0), (14, 1), (15, 0), (16, 1), (17, 0), (18, 2), (19, 2), (20, 0), (21, 0), (22, 3)] [blk q [.bool true, .slice eb tg.length ec, .slice rb rc.length rcap] 227, fam (tgH q) (tg), blk b4 (List.replicate 16 (.int .u8 0)) 86] (Weak.keep (Weak.drop (Weak.drop (Weak.refl _)))) mixed (by kernel_rfl) (QOk.then QOk.body) ?_
 refine O_pureQ rfl rfl rfl rfl (P_move rfl rfl) ?_
 refine O_pureQ rfl rfl rfl rfl (P_nil rfl rfl) ?_
 refine O_pureQ rfl rfl rfl rfl (P_fld0 rfl ty_fl_232_0 rfl) ?_
 refine O_valQ rfl rfl rfl rfl (V_load rfl rfl ty_sc_97 (by first | exact (rd_tg .h1 hi).1)) ?_
 refine O_pureQ rfl rfl rfl rfl (P_move rfl rfl) ?_
 refine O_pureQ rfl rfl rfl rfl (P_nil rfl rfl) ?_
 refine O_pureQ rfl rfl rfl rfl (P_fld0 rfl ty_fl_232_0 rfl) ?_
 refine O_valQ rfl rfl rfl rfl (V_load rfl rfl ty_sc_97 (by first | exact (rd_tg .h1 hi).1)) ?_
 refine O_pureQ rfl rfl rfl rfl (P_nil rfl rfl) ?_
 refine O_pureQ rfl rfl rfl rfl (P_fld0 rfl ty_fl_227_2 rfl) ?_
 refine O_valQ rfl rfl rfl rfl (V_load rfl rfl ty_sc_225 (by first | exact Rd.blk .h0 rfl | exact Rd.blk .h1 rfl | exact Rd.blk .h2 rfl | exact Rd.blk .h3 rfl | exact Rd.blk .h4 rfl | exact Rd.blk .h5 rfl | exact Rd.blk .h6 rfl | exact Rd.blk .h7 rfl)) ?_
 refine O_pureQ rfl rfl rfl rfl (P_move rfl rfl) ?_
 refine O_pureQ rfl rfl rfl rfl (P_nil rfl rfl) ?_
 refine O_pureQ rfl rfl rfl rfl (P_fld0 rfl ty_fl_232_1 rfl) ?_
 refine O_valQ rfl rfl rfl rfl (V_load rfl rfl ty_sc_27 (by first | exact (rd_tg .h1 hi).2)) ?_
 refine O_pureQ rfl rfl rfl rfl (P_move rfl rfl) ?_
 refine O_valQ rfl rfl rfl rfl (V_str rfl (slB_spec ty_sl_48).1 ty_int_5 ty_str_9 rfl ((Sn.old hpre).rw_)) ?_
 refine O_pureQ rfl rfl rfl rfl (P_buildStruct rfl ty_pl_244 ty_ze_244 rfl rfl (rfl)) ?_
 refine E_as (t := 48) (v' := .agg [.int .u64 a, .string (strOfNums xs)].toArray) rfl (rfl) ?_
 refine O_keepQ rfl rfl (W_lit (z := .nilIface) ([.int .u64 a, .string (strOfNums xs)]) rfl rfl rfl ty_sl_225 ty_lz_225 rfl rfl rfl (by decide) (by decide) (by simp [Value.cells]) (rfl) fun b49 => (K_keepQ (Weak.drop (Weak.keep (Weak.drop (Weak.drop (Weak.refl _))))) ?_))
 refine O_keepQ rfl rfl (W_append (p := [_, _, _]) rfl rfl rfl ty_sl_225 ty_ap_225 ty_src_225 rfl rfl rfl (Src.slice (sz := 2) (news := [.int .u64 a, .string (strOfNums xs)]) (Rds.blk .h0) rfl (by intro v hv; simp only [List.mem_cons, List.not_mem_nil, or_false] at hv; rcases hv with rfl | rfl <;> rfl)) (by omega) (by simp only [maxLen]; omega) fun v50 => (K_keepQ (Weak.drop (Weak.keep (Weak.drop (Weak.drop (Weak.refl _))))) ?_))
 refine St.ownForm (p := [_, _, _]) fun nb nc hnv hnc => ?_
 subst hnv
 refine O_pureQ rfl rfl rfl rfl (P_nil rfl rfl) ?_
 refine O_pureQ rfl rfl rfl rfl (P_fld0 rfl ty_fl_227_2 rfl) ?_
 refine O_newQ rfl rfl (W_store rfl rfl rfl rfl ty_sc_225 rfl .h1 (by first | decide | (simp [ints]; done) | (simp [ints]; omega)) (K_newQ _ (Weak.refl _) ?_))
 refine O_nilQ ?_
 refine St.env (.cons (t := 0) rfl (.cons (t := 1) rfl (.cons (t := 4) rfl (.cons (t := 5) rfl .nil)))) ?_
 refine Q_then ?_
 refine R_seq ?_
 have hok2 : RecOK (rc ++ [(a, xs)]) := hok.snoc hb hmax
 refine St.res (rs' := [blk q [.bool true, .slice eb tg.length ec, .slice nb (rc.length + 1) nc] 227, ownS 27 1 (.slice eb tg.length ec) (tg).length (ints .u64 (enOf (tg))), ownS 244 2 (.slice nb (rc.length + 1) nc) (rc ++ [(a, xs)]).length (recC (rc ++ [(a, xs)])), fam (tgH q) (tg), blk b4 (List.replicate 16 (.int .u8 0)) 86]) (by rw [← recC_snoc, List.length_append]; exact Weak.drop (Weak.refl _)) ?_
 refine R_region ?_
 refine L_val rfl rfl rfl (OpP.v (P_move rfl rfl)) ?_
 refine L_val rfl rfl rfl (OpP.v (P_nil rfl rfl)) ?_
 refine L_val rfl rfl rfl (OpP.v (P_fld0 rfl ty_fl_232_1 rfl)) ?_
 refine L_val rfl rfl rfl (V_load rfl rfl ty_sc_27 (by first | exact (rd_tg .h3 hi).2 | exact (rd_tg .h4 hi).2)) ?_
 refine L_val rfl rfl rfl (OpP.v (P_move rfl rfl)) ?_
 refine L_op rfl (W_callV rfl rfl rfl rfl fn_ca_157 (of_ok hG a base c xs (by omega)) ((Sn.old hpre).rw_) ?_)
 refine L_op rfl (W_storeAll rfl rfl rfl rfl ty_ag_86 (by rw [ints_length, sealH_length]) (ints_one) .h4 (by rw [ints_length, sealH_length]; rfl) ?_)
 refine L_val rfl rfl rfl (OpP.v (P_assign rfl rfl)) ?_
 refine L_nil ?_
 refine St.env (.cons (t := 4) rfl (.cons (t := 5) rfl .nil)) ?_
 refine Q_then ?_
 refine R_ret ?_
 exact R_end (rs2 := [REF q tg (rc ++ [(a, xs)])]) rfl rfl (.cell rfl (Rds.loadVar ty_ag_86 (Rds.blk .h4) (by rw [ints_length, sealH_length])) (.tmp rfl .nil)) (⟨rfl, rfl⟩) ((ref_close (rs := [_]) hok2).trans (Weak.keep (Weak.nil _)))
theorem rsign_any {gl : Nat → Obj} (hG : GlobsR gl) (q : Nat) (tg : List (Int × Nat)) (rc : List Rcd) (i : Nat) (a : Int) (s : Nat) (hi : tg[i]? = some (a, s)) (base : Option Addr) (c : Nat) (xs : List Int) (hb : IsB xs) (hmax : xs.length ≤ 1048576) (hC : rc.length ≤ 4398046511104) : SpecR (cx gl) 102 [.pointer (some ⟨s, 0, none⟩), .slice base xs.length c] (fun w h => Seen w h base (ints .u8 xs)) [REF q tg rc] (.tuple #[.agg (ints .u8 (sealH a xs)).toArray, .int .i64 0]) [REF q tg (addR rc (a, xs))] := by
 unfold addR
 split
 ·exact rsign_old hG q tg rc i a s hi base c xs hb hmax hC ‹_›
 ·exact rsign_new hG q tg rc i a s hi base c xs hb hmax hC ‹_›
end Go.Proofs.YtfhjhaogmdaepaaGreatDoor

/- The world of the statements: enters, signed. Printed by gen.py. -/
set_option linter.unusedVariables false
set_option linter.unusedSimpArgs false
set_option maxRecDepth 100000
namespace Go.Proofs.YtfhjhaogmdaepaaGreatDoor
open Go Go.RowKit Go.Proofs
/-- A step of a script. -/
structure Stp where
 kind : Int
 tx : Tx
 wrong : Bool
 h : Int
 b : Int
 a : Int
 n : Int
def Stp.cells (x : Stp) : List Value := [.int .i64 x.kind] ++ x.tx.cells ++ [.bool x.wrong, .int .u64 x.h, .int .u64 x.b, .int .u64 x.a, .int .u64 x.n]
structure Stp.ok (x : Stp) : Prop where
 tx : x.tx.ok
 h : u64 x.h
 b : u64 x.b
 a : u64 x.a
 n : u64 x.n
/-- A step whose transaction's cells are as many as they are. -/
structure StpR where
 s : Stp
 ok : s.ok
theorem Stp.len {x : Stp} (h : x.ok) : x.cells.length = 28 := by unfold Stp.cells; rw [List.length_append, List.length_append, h.tx.cellsLen]; rfl
theorem Stp.one (x : Stp) : ∀ v ∈ x.cells, v.oneCell' = true := by
 intro v hv; unfold Stp.cells at hv
 rcases List.mem_append.1 hv with hv | hv
 ·rcases List.mem_append.1 hv with hv | hv
  ·simp only [List.mem_cons, List.not_mem_nil, or_false] at hv; subst hv; rfl
  ·exact x.tx.one v hv
 ·simp only [List.mem_cons, List.not_mem_nil, or_false] at hv; rcases hv with rfl | rfl | rfl | rfl | rfl <;> rfl
instance : Rec StpR := ⟨fun x => x.s.cells, 28, fun x => Stp.len x.ok, fun x => x.s.one⟩
theorem stp_tx (x : Stp) (i : Nat) (v : Value) (h : x.tx.cells[i]? = some v) : x.cells[1 + i]? = some v := by
 unfold Stp.cells
 rw [List.getElem?_append_left (by rw [List.length_append]; have := (List.getElem?_eq_some_iff.1 h).1; simp; omega), List.getElem?_append_right (by simp)]
 simpa using h
theorem stp_end {x : Stp} (hx : x.ok) (i : Nat) (v : Value) (h : [Value.bool x.wrong, .int .u64 x.h, .int .u64 x.b, .int .u64 x.a, .int .u64 x.n][i]? = some v) : x.cells[23 + i]? = some v := by
 unfold Stp.cells
 have hl : ([Value.int .i64 x.kind] ++ x.tx.cells).length = 23 := by rw [List.length_append, hx.tx.cellsLen]; rfl
 rw [List.getElem?_append_right (by omega), hl, show 23 + i - 23 = i by omega]; exact h
/-- Who is entered by a script. -/
def entL : List Int → List Int → List Int
 | es, [] => es
 | es, a :: l => entL (if a = 0 ∨ a ∈ es then es else es ++ [a]) l
def entS (l : List StpR) : List Int := entL [] (l.map fun x => x.s.tx.frm)
theorem entL_app (es l k : List Int) : entL es (l ++ k) = entL (entL es l) k := by
 induction l generalizing es with
 | nil => rfl
 | cons a l ih => exact ih _
theorem entS_next {l : List StpR} {i : Nat} {x : StpR} (h : l[i]? = some x) : entS (l.take (i + 1)) = if x.s.tx.frm = 0 ∨ x.s.tx.frm ∈ entS (l.take i) then entS (l.take i) else entS (l.take i) ++ [x.s.tx.frm] := by
 unfold entS
 rw [List.take_add_one, h, List.map_append, entL_app]; rfl
def ptrs (l : List (Int × Nat)) : List Value := l.map fun x => .pointer (some ⟨x.2, 0, none⟩)
theorem ptrs_at {l : List (Int × Nat)} {i : Nat} {x : Int × Nat} (h : l[i]? = some x) : (ptrs l)[i]? = some (.pointer (some ⟨x.2, 0, none⟩)) := by unfold ptrs; rw [List.getElem?_map, h]; rfl
/-- The two registries know the same. -/
structure WOk (es : List Int) (sg tg : List (Int × Nat)) : Prop where
 sg : sg.map (·.1) = es
 tg : tg.map (·.1) = es
 nd : es.Nodup
theorem WOk.nil : WOk [] [] [] := ⟨rfl, rfl, List.nodup_nil⟩
theorem WOk.snoc {es : List Int} {sg tg : List (Int × Nat)} (h : WOk es sg tg) {a : Int} (ha : a ∉ es) (s t : Nat) : WOk (es ++ [a]) (sg ++ [(a, s)]) (tg ++ [(a, t)]) :=
 ⟨by rw [List.map_append, h.sg]; rfl, by rw [List.map_append, h.tg]; rfl, List.nodup_append.2 ⟨h.nd, List.nodup_cons.2 ⟨List.not_mem_nil, List.nodup_nil⟩, fun x hx y hy e => by rw [List.mem_singleton.1 hy] at e; exact ha (e ▸ hx)⟩⟩
theorem WOk.isIn {es : List Int} {sg tg : List (Int × Nat)} (h : WOk es sg tg) {a : Int} (ha : a ∉ es) : isIn sg a = false := by
 unfold Go.Proofs.YtfhjhaogmdaepaaGreatDoor.isIn sgP
 have : sg.find? (fun x => decide (x.1 = a)) = none := List.find?_eq_none.2 fun x hx => by
  simp only [decide_eq_true_eq]; intro e; subst e; exact ha (h.sg ▸ List.mem_map_of_mem hx)
 rw [this]; rfl
theorem WOk.enOf {es : List Int} {sg tg : List (Int × Nat)} (h : WOk es sg tg) : enOf tg = es := h.tg
theorem WOk.lens {es : List Int} {sg tg : List (Int × Nat)} (h : WOk es sg tg) : sg.length = es.length ∧ tg.length = es.length := by
 have h1 := congrArg List.length h.sg; have h2 := congrArg List.length h.tg
 rw [List.length_map] at h1 h2; exact ⟨h1, h2⟩
theorem entL_len : ∀ (l es : List Int), (entL es l).length ≤ es.length + l.length
 | [], es => by simp [entL]
 | a :: l, es => by
  rw [entL, List.length_cons]
  split
  ·have := entL_len l es; omega
  ·have := entL_len l (es ++ [a]); rw [List.length_append, List.length_singleton] at this; omega
theorem entS_len (l : List StpR) : (entS l).length ≤ l.length := by have := entL_len (l.map fun x => x.s.tx.frm) []; rw [List.length_map] at this; unfold entS; simpa using this
theorem enters_ok {gl : Nat → Obj} (sb : Option Addr) (sc : Nat) (st : List StpR) (hsc : st.length ≤ sc) (hms : st.length ≤ 1000000000) (ch : List Int) : Spec (cx gl) 39 [.slice sb st.length sc, .string (strOfNums ch)] (fun w _ => Row w sb (rc st)) [] (fun v rs => ∃ wb p q mv ov sg tg, v = .tuple #[.pointer (some ⟨wb, 0, none⟩), .bool true] ∧ WOk (entS st) sg tg ∧ rs = [blk wb [.pointer (some ⟨p, 0, none⟩), .pointer (some ⟨q, 0, none⟩), mv, ov, .string (strOfNums ch)] 101, REG p (sg) ([]), REF q (tg) ([]), ownS 169 1 (mv) (sg.length) (ptrs (sg)), ownS 172 1 (ov) (tg.length) (ptrs (tg))]) := by
 refine Spec.enter (C := cx gl) Tryz.func39 rfl 94 rfl rfl fun w0 h0 hsep hsub hpre => ?_
 obtain rfl : h0 = Heap.none := hsep
 show St (cx gl) _ [(0, .slice sb st.length sc), (1, .string (strOfNums ch))] _ _
 refine R_seq ?_
 refine R_region ?_
 refine L_val rfl rfl rfl (OpP.v (P_assign rfl rfl)) ?_
 refine L_val rfl rfl rfl (OpP.v (P_assign rfl rfl)) ?_
 refine L_nil ?_
 refine Q_then ?_
 refine R_seq ?_
 refine R_region ?_
 refine L_op rfl (W_call rfl rfl rfl rfl fn_ca_94 (snew_ok) (Split.nil _) (fun _ _ _ _ _ _ _ => trivial) fun v1 rs1 ⟨p, e1, e2⟩ => ?_)
 subst e1; subst e2
 refine L_op rfl (W_call rfl rfl rfl rfl fn_ca_95 (rnew_ok) (Split.nil _) (fun _ _ _ _ _ _ _ => trivial) fun v2 rs2 ⟨q, e1, e2⟩ => ?_)
 subst e1; subst e2
 refine L_val rfl rfl rfl (OpP.v (P_move rfl rfl)) ?_
 refine L_val rfl rfl rfl (OpP.v (P_buildStruct rfl ty_pl_101 ty_ze_101 rfl rfl (rfl))) ?_
 refine E_as (t := 16) (v' := .agg [.pointer (some ⟨p, 0, none⟩), .pointer (some ⟨q, 0, none⟩), .slice none 0 0, .slice none 0 0, .string (strOfNums ch)].toArray) rfl (rfl) ?_
 refine L_op rfl (W_box ([.pointer (some ⟨p, 0, none⟩), .pointer (some ⟨q, 0, none⟩), .slice none 0 0, .slice none 0 0, .string (strOfNums ch)]) rfl rfl rfl rfl rfl fun b17 => ?_)
 refine L_val rfl rfl rfl (OpP.v (P_assign rfl rfl)) ?_
 refine L_nil ?_
 refine St.env (.cons (t := 0) rfl (.cons (t := 4) rfl (.cons (t := 5) rfl (.cons (t := 6) rfl .nil)))) ?_
 refine Q_then ?_
 refine R_seq ?_
 refine R_seq ?_
 refine R_region ?_
 refine L_val rfl rfl rfl (OpP.v (P_move rfl rfl)) ?_
 refine L_val rfl rfl rfl (OpP.v (P_nil rfl rfl)) ?_
 refine L_val rfl rfl rfl (OpP.v (P_fld0 rfl ty_fl_101_0 rfl)) ?_
 refine L_val rfl rfl rfl (V_load rfl rfl ty_sc_96 (Rd.blk .h0 rfl)) ?_
 refine L_val rfl rfl rfl (OpP.v (P_eqNil rfl ty_ptr_96 rfl rfl)) ?_
 refine L_nil ?_
 refine St.env (.cons (t := 0) rfl (.cons (t := 4) rfl (.cons (t := 5) rfl (.cons (t := 6) rfl (.cons (t := 22) rfl .nil))))) ?_
 refine Q_then ?_
 refine R_condF rfl ?_
 refine R_skip ?_
 refine Q_then ?_
 refine R_seq ?_
 refine R_seq ?_
 refine R_region ?_
 refine L_val rfl rfl rfl (OpP.v (P_assign rfl rfl)) ?_
 refine L_nil ?_
 refine St.env (.cons (t := 0) rfl (.cons (t := 4) rfl (.cons (t := 5) rfl (.cons (t := 6) rfl (.cons (t := 7) rfl .nil))))) ?_
 refine Q_then ?_
 refine R_block ?_
 refine R_loopE (G := Nat × Value × Value × List (Int × Nat) × List (Int × Nat)) (.cons (t := 0) rfl (.cons (t := 4) rfl (.cons (t := 5) rfl (.cons (t := 6) rfl .nil)))) (fun g => [(7, .int .i64 ((g.1 : Int)))]) (fun g => [blk b17 [.pointer (some ⟨p, 0, none⟩), .pointer (some ⟨q, 0, none⟩), g.2.1, g.2.2.1, .string (strOfNums ch)] 101, REG p (g.2.2.2.1) ([]), REF q (g.2.2.2.2) ([]), ownS 169 1 (g.2.1) (g.2.2.2.1.length) (ptrs (g.2.2.2.1)), ownS 172 1 (g.2.2.1) (g.2.2.2.2.length) (ptrs (g.2.2.2.2))]) (fun g => g.1 ≤ st.length ∧ WOk (entS (st.take g.1)) g.2.2.2.1 g.2.2.2.2) (fun g => st.length - g.1) (0, .slice none 0 0, .slice none 0 0, [], []) (by show (0) ≤ st.length ∧ WOk (entS (st.take (0))) ([]) ([]); exact ⟨Nat.zero_le _, WOk.nil⟩) (by repeat (first | exact .nil | refine .cons rfl ?_ | refine .consE rfl (by first | rfl | (congr 1; omega) | (congr 1; push_cast; omega)) ?_)) (Weak.trans (Weak.newNil (T := 169) (sz := 1)) (Weak.trans (Weak.newNil (T := 172) (sz := 1)) (Weak.pick (p := [_, _]) (Weak.pick (p := [_, _, _]) (Weak.pick (p := [_, _]) (Weak.pick (p := [_]) (Weak.keep (Weak.nil _)))))))) ?_
 rintro ⟨i, mv, ov, sg, tg⟩ hinv
 replace hinv : i ≤ st.length ∧ WOk (entS (st.take i)) sg tg := hinv
 show St (cx gl) _ ((7, .int .i64 ((i : Int))) :: _) [blk b17 [.pointer (some ⟨p, 0, none⟩), .pointer (some ⟨q, 0, none⟩), mv, ov, .string (strOfNums ch)] 101, REG p (sg) ([]), REF q (tg) ([]), ownS 169 1 (mv) (sg.length) (ptrs (sg)), ownS 172 1 (ov) (tg.length) (ptrs (tg))] _
 obtain ⟨hi, hw⟩ := hinv
 refine R_seq ?_
 refine R_seq ?_
 refine R_region ?_
 refine L_val rfl rfl rfl (OpP.v (P_move rfl rfl)) ?_
 refine L_val rfl rfl rfl (OpP.v (P_move rfl rfl)) ?_
 refine L_val rfl rfl rfl (OpP.v (P_len rfl ty_sl_79 rfl)) ?_
 refine L_val rfl rfl rfl (OpP.v (P_lss rfl rfl rfl)) ?_
 refine L_nil ?_
 refine Q_then ?_
 refine R_condP rfl (fun hlt => ?_) (fun hlt => ?_)
 ·skip
  have hil : i < st.length := by omega
  obtain ⟨x, hx⟩ : ∃ x, st[i]? = some x := ⟨_, List.getElem?_eq_getElem hil⟩
  obtain ⟨pb, pj, rfl, hrow⟩ := hpre.some_ (by rw [rc_length]; show 0 < _ * 28; omega)
  have hlens := hw.lens
  have hel := entS_len (st.take i)
  rw [List.length_take] at hel
  refine R_skip ?_
  refine Q_then ?_
  refine R_seq ?_
  refine R_block ?_
  refine R_seq ?_
  refine R_region ?_
  refine L_val rfl rfl rfl (OpP.v (P_move rfl rfl)) ?_
  refine L_val rfl rfl rfl (OpP.v (P_move rfl rfl)) ?_
  refine L_val rfl rfl rfl (OpP.v (P_ixs (i) rfl ty_sl_79 rfl rfl (by first | rfl | omega) (by omega))) ?_
  refine L_val rfl rfl rfl (OpP.v (P_fld rfl ty_fl_90_1 rfl)) ?_
  refine L_val rfl rfl rfl (OpP.v (P_fld rfl ty_fl_88_1 rfl)) ?_
  refine L_val rfl rfl rfl (V_load rfl rfl ty_sc_27 (rd_rc (k := 2) (Rds.row hrow rfl) hx (stp_tx x.s 1 _ rfl))) ?_
  refine L_val rfl rfl rfl (OpP.v (P_assign rfl rfl)) ?_
  refine L_nil ?_
  refine Q_then ?_
  refine R_seq ?_
  refine R_seq ?_
  refine R_region ?_
  refine L_val rfl rfl rfl (OpP.v (P_move rfl rfl)) ?_
  refine L_val rfl rfl rfl (OpP.v (P_eql rfl rfl rfl)) ?_
  refine E_bool (t := 36) rfl (fun hz => ?_) (fun hz => ?_)
  ·skip
   have hz := of_decide_eq_true hz
   refine L_val rfl rfl rfl (OpP.v (P_move rfl rfl)) ?_
   refine L_no rfl rfl rfl ?_
   refine L_no rfl rfl rfl ?_
   refine L_no rfl rfl rfl ?_
   refine L_no rfl rfl rfl ?_
   refine L_no rfl rfl rfl ?_
   refine L_no rfl rfl rfl ?_
   refine L_val rfl rfl rfl (OpP.v (P_pick rfl rfl rfl)) ?_
   refine L_nil ?_
   refine Q_then ?_
   refine R_condT rfl ?_
   refine R_exit ?_
   refine Q_then_exit ?_
   refine Q_block_eq ?_
   refine Q_then ?_
   refine R_region ?_
   refine L_val rfl rfl rfl (OpP.v (P_move rfl rfl)) ?_
   first | (refine L_val rfl rfl rfl (OpP.v (P_addN rfl rfl rfl (by simp only [fits]; omega))) ?_) | (refine L_val rfl rfl rfl (OpP.v (P_add rfl rfl rfl)) ?_)
   refine L_val rfl rfl rfl (OpP.v (P_assign rfl rfl)) ?_
   refine L_nil ?_
   exact Q_round (i + 1, mv, ov, sg, tg) (by show (i + 1) ≤ st.length ∧ WOk (entS (st.take (i + 1))) (sg) (tg); exact ⟨by omega, by rw [entS_next hx, if_pos (.inl hz)]; exact hw⟩) (by show st.length - (i + 1) < st.length - i; omega) (by repeat (first | exact .nil | refine .cons rfl ?_ | refine .consE rfl (by first | rfl | (congr 1; omega) | (congr 1; push_cast; omega)) ?_)) (Weak.refl _)
  ·skip
   have hz := of_decide_eq_false hz
   refine L_val rfl rfl rfl (OpP.v (P_move rfl rfl)) ?_
   refine L_val rfl rfl rfl (OpP.v (P_move rfl rfl)) ?_
   refine L_val rfl rfl rfl (OpP.v (P_nil rfl rfl)) ?_
   refine L_val rfl rfl rfl (OpP.v (P_fld0 rfl ty_fl_101_1 rfl)) ?_
   refine L_val rfl rfl rfl (V_load rfl rfl ty_sc_97 (Rd.blk .h0 rfl)) ?_
   refine L_val rfl rfl rfl (OpP.v (P_move rfl rfl)) ?_
   refine L_op rfl (W_callR rfl rfl rfl rfl fn_ca_96 (rknown_ok q tg [] (x.s.tx.frm) (by omega)) (Weak.pick (p := [_, _]) (Weak.keep (Weak.keep (Weak.keep (Weak.keep (Weak.nil _)))))) (fun _ _ _ _ _ _ _ => trivial) ?_)
   refine St.res (rs' := [blk b17 [.pointer (some ⟨p, 0, none⟩), .pointer (some ⟨q, 0, none⟩), mv, ov, .string (strOfNums ch)] 101, REG p (sg) ([]), REF q (tg) ([]), ownS 169 1 (mv) (sg.length) (ptrs (sg)), ownS 172 1 (ov) (tg.length) (ptrs (tg))]) (Weak.pick (p := [_]) (Weak.pick (p := [_]) (Weak.keep (Weak.keep (Weak.keep (Weak.nil _)))))) ?_
   refine E_bool (t := 43) rfl (fun hk => ?_) (fun hk => ?_)
   ·skip
    have hk : x.s.tx.frm ∈ entS (st.take i) := by rw [← hw.enOf]; exact of_decide_eq_true hk
    refine L_val rfl rfl rfl (OpP.v (P_pick rfl rfl rfl)) ?_
    refine L_nil ?_
    refine Q_then ?_
    refine R_condT rfl ?_
    refine R_exit ?_
    refine Q_then_exit ?_
    refine Q_block_eq ?_
    refine Q_then ?_
    refine R_region ?_
    refine L_val rfl rfl rfl (OpP.v (P_move rfl rfl)) ?_
    first | (refine L_val rfl rfl rfl (OpP.v (P_addN rfl rfl rfl (by simp only [fits]; omega))) ?_) | (refine L_val rfl rfl rfl (OpP.v (P_add rfl rfl rfl)) ?_)
    refine L_val rfl rfl rfl (OpP.v (P_assign rfl rfl)) ?_
    refine L_nil ?_
    exact Q_round (i + 1, mv, ov, sg, tg) (by show (i + 1) ≤ st.length ∧ WOk (entS (st.take (i + 1))) (sg) (tg); exact ⟨by omega, by rw [entS_next hx, if_pos (.inr hk)]; exact hw⟩) (by show st.length - (i + 1) < st.length - i; omega) (by repeat (first | exact .nil | refine .cons rfl ?_ | refine .consE rfl (by first | rfl | (congr 1; omega) | (congr 1; push_cast; omega)) ?_)) (Weak.refl _)
   ·skip
    have hk : x.s.tx.frm ∉ entS (st.take i) := by rw [← hw.enOf]; exact of_decide_eq_false hk
    refine L_val rfl rfl rfl (OpP.v (P_pick rfl rfl rfl)) ?_
    refine L_nil ?_
    refine Q_then ?_
    refine R_condF rfl ?_
    refine R_skip ?_
    refine Q_then ?_
    refine R_seq ?_
    refine R_region ?_
    refine L_val rfl rfl rfl (OpP.v (P_move rfl rfl)) ?_
    refine L_val rfl rfl rfl (OpP.v (P_nil rfl rfl)) ?_
    refine L_val rfl rfl rfl (OpP.v (P_fld0 rfl ty_fl_101_0 rfl)) ?_
    refine L_val rfl rfl rfl (V_load rfl rfl ty_sc_96 (Rd.blk .h0 rfl)) ?_
    refine L_val rfl rfl rfl (OpP.v (P_move rfl rfl)) ?_
    refine L_op rfl (W_call rfl rfl rfl rfl fn_ca_97 (enter_new p sg [] (x.s.tx.frm) hz (hw.isIn hk)) (Weak.pick (p := [_]) (Weak.keep (Weak.keep (Weak.keep (Weak.keep (Weak.nil _)))))) (fun _ _ _ _ _ _ _ => trivial) fun v3 rs3 ⟨s, e3, e4⟩ => ?_)
    subst e3; subst e4
    refine St.res (rs' := [blk b17 [.pointer (some ⟨p, 0, none⟩), .pointer (some ⟨q, 0, none⟩), mv, ov, .string (strOfNums ch)] 101, REG p (sg ++ [(x.s.tx.frm, s)]) [], REF q tg [], ownS 169 1 (mv) (sg.length) (ptrs (sg)), ownS 172 1 (ov) (tg.length) (ptrs (tg))]) (Weak.pick (p := [_]) (Weak.keep (Weak.keep (Weak.keep (Weak.keep (Weak.nil _)))))) ?_
    refine L_val rfl rfl rfl (OpP.v (P_move rfl rfl)) ?_
    refine L_val rfl rfl rfl (OpP.v (P_extract rfl rfl rfl)) ?_
    refine L_val rfl rfl rfl (OpP.v (P_extract rfl rfl rfl)) ?_
    refine L_val rfl rfl rfl (OpP.v (P_assign rfl rfl)) ?_
    refine L_val rfl rfl rfl (OpP.v (P_assign rfl rfl)) ?_
    refine L_nil ?_
    refine Q_then ?_
    refine R_seq ?_
    refine R_region ?_
    refine L_val rfl rfl rfl (OpP.v (P_move rfl rfl)) ?_
    refine L_val rfl rfl rfl (OpP.v (P_nil rfl rfl)) ?_
    refine L_val rfl rfl rfl (OpP.v (P_fld0 rfl ty_fl_101_1 rfl)) ?_
    refine L_val rfl rfl rfl (V_load rfl rfl ty_sc_97 (Rd.blk .h0 rfl)) ?_
    refine L_val rfl rfl rfl (OpP.v (P_move rfl rfl)) ?_
    refine L_op rfl (W_call rfl rfl rfl rfl fn_ca_98 (renter_new q tg [] (x.s.tx.frm) hz (by rw [hw.enOf]; exact hk) (by omega)) (Weak.pick (p := [_, _]) (Weak.keep (Weak.keep (Weak.keep (Weak.keep (Weak.nil _)))))) (fun _ _ _ _ _ _ _ => trivial) fun v4 rs4 ⟨s', e3, e4⟩ => ?_)
    subst e3; subst e4
    refine St.res (rs' := [blk b17 [.pointer (some ⟨p, 0, none⟩), .pointer (some ⟨q, 0, none⟩), mv, ov, .string (strOfNums ch)] 101, REG p (sg ++ [(x.s.tx.frm, s)]) [], REF q (tg ++ [(x.s.tx.frm, s')]) [], ownS 169 1 (mv) (sg.length) (ptrs (sg)), ownS 172 1 (ov) (tg.length) (ptrs (tg))]) (Weak.pick (p := [_]) (Weak.pick (p := [_]) (Weak.keep (Weak.keep (Weak.keep (Weak.nil _)))))) ?_
    refine L_val rfl rfl rfl (OpP.v (P_move rfl rfl)) ?_
    refine L_val rfl rfl rfl (OpP.v (P_extract rfl rfl rfl)) ?_
    refine L_val rfl rfl rfl (OpP.v (P_extract rfl rfl rfl)) ?_
    refine L_val rfl rfl rfl (OpP.v (P_assign rfl rfl)) ?_
    refine L_val rfl rfl rfl (OpP.v (P_assign rfl rfl)) ?_
    refine L_nil ?_
    refine Q_then ?_
    refine R_seq ?_
    refine R_seq ?_
    refine R_region ?_
    refine L_val rfl rfl rfl (OpP.v (P_move rfl rfl)) ?_
    refine L_val rfl rfl rfl (OpP.v (P_neq rfl rfl rfl)) ?_
    refine E_false (t := 64) rfl (rfl) ?_
    refine L_val rfl rfl rfl (OpP.v (P_move rfl rfl)) ?_
    refine L_val rfl rfl rfl (OpP.v (P_move rfl rfl)) ?_
    refine L_val rfl rfl rfl (OpP.v (P_neq rfl rfl rfl)) ?_
    refine E_false (t := 67) rfl (rfl) ?_
    refine L_val rfl rfl rfl (OpP.v (P_pick rfl rfl rfl)) ?_
    refine L_val rfl rfl rfl (OpP.v (P_move rfl rfl)) ?_
    refine L_val rfl rfl rfl (OpP.v (P_move rfl rfl)) ?_
    refine L_val rfl rfl rfl (OpP.v (P_eqNil rfl ty_ptr_169 rfl rfl)) ?_
    refine L_val rfl rfl rfl (OpP.v (P_pick rfl rfl rfl)) ?_
    refine L_nil ?_
    refine Q_then ?_
    refine R_condF rfl ?_
    refine R_skip ?_
    refine Q_then ?_
    refine R_seq ?_
    refine R_region ?_
    refine L_val rfl rfl rfl (OpP.v (P_move rfl rfl)) ?_
    refine L_val rfl rfl rfl (OpP.v (P_move rfl rfl)) ?_
    refine L_val rfl rfl rfl (OpP.v (P_nil rfl rfl)) ?_
    refine L_val rfl rfl rfl (OpP.v (P_fld0 rfl ty_fl_101_2 rfl)) ?_
    refine L_val rfl rfl rfl (V_load rfl rfl ty_sc_98 (Rd.blk .h0 rfl)) ?_
    refine L_val rfl rfl rfl (OpP.v (P_move rfl rfl)) ?_
    refine L_op rfl (W_lit (z := .nilIface) ([.pointer (some ⟨s, 0, none⟩)]) rfl rfl rfl ty_sl_98 ty_lz_98 rfl rfl rfl (by decide) (by decide) (by simp [Value.cells]) (rfl) fun b79 => ?_)
    refine L_op rfl (W_append (p := [_, _, _, _]) rfl rfl rfl ty_sl_98 ty_ap_98 ty_src_98 rfl rfl rfl (Src.slice (sz := 1) (m := 1) (news := [.pointer (some ⟨s, 0, none⟩)]) (Rds.blk .h0) rfl (by intro v hv; rw [List.mem_singleton] at hv; subst hv; rfl)) (by omega) (by simp only [maxLen]; omega) fun v80 => ?_)
    refine St.ownForm (p := [_, _, _, _]) fun mb mc hmv hmc => ?_
    subst hmv
    refine L_val rfl rfl rfl (OpP.v (P_nil rfl rfl)) ?_
    refine L_val rfl rfl rfl (OpP.v (P_fld0 rfl ty_fl_101_2 rfl)) ?_
    refine L_op rfl (W_store rfl rfl rfl rfl ty_sc_98 rfl .h1 (by first | decide | (simp [ints]; done) | (simp [ints]; omega)) ?_)
    refine L_nil ?_
    refine Q_then ?_
    refine St.res (rs' := [blk b17 [.pointer (some ⟨p, 0, none⟩), .pointer (some ⟨q, 0, none⟩), .slice mb (sg.length + 1) mc, ov, .string (strOfNums ch)] 101, REG p (sg ++ [(x.s.tx.frm, s)]) [], REF q (tg ++ [(x.s.tx.frm, s')]) [], ownS 169 1 (.slice mb (sg.length + 1) mc) (sg.length + 1) (ptrs sg ++ [.pointer (some ⟨s, 0, none⟩)]), ownS 172 1 (ov) (tg.length) (ptrs (tg))]) (Weak.drop (Weak.refl _)) ?_
    refine R_region ?_
    refine L_val rfl rfl rfl (OpP.v (P_move rfl rfl)) ?_
    refine L_val rfl rfl rfl (OpP.v (P_move rfl rfl)) ?_
    refine L_val rfl rfl rfl (OpP.v (P_nil rfl rfl)) ?_
    refine L_val rfl rfl rfl (OpP.v (P_fld0 rfl ty_fl_101_3 rfl)) ?_
    refine L_val rfl rfl rfl (V_load rfl rfl ty_sc_99 (Rd.blk .h0 rfl)) ?_
    refine L_val rfl rfl rfl (OpP.v (P_move rfl rfl)) ?_
    refine L_op rfl (W_lit (z := .nilIface) ([.pointer (some ⟨s', 0, none⟩)]) rfl rfl rfl ty_sl_99 ty_lz_99 rfl rfl rfl (by decide) (by decide) (by simp [Value.cells]) (rfl) fun b89 => ?_)
    refine L_op rfl (W_append (p := [_, _, _, _, _]) rfl rfl rfl ty_sl_99 ty_ap_99 ty_src_99 rfl rfl rfl (Src.slice (sz := 1) (m := 1) (news := [.pointer (some ⟨s', 0, none⟩)]) (Rds.blk .h0) rfl (by intro v hv; rw [List.mem_singleton] at hv; subst hv; rfl)) (by omega) (by simp only [maxLen]; omega) fun v90 => ?_)
    refine St.ownForm (p := [_, _, _, _, _]) fun ob oc hov hoc => ?_
    subst hov
    refine L_val rfl rfl rfl (OpP.v (P_nil rfl rfl)) ?_
    refine L_val rfl rfl rfl (OpP.v (P_fld0 rfl ty_fl_101_3 rfl)) ?_
    refine L_op rfl (W_store rfl rfl rfl rfl ty_sc_99 rfl .h1 (by first | decide | (simp [ints]; done) | (simp [ints]; omega)) ?_)
    refine L_nil ?_
    refine Q_block ?_
    refine Q_then ?_
    refine R_region ?_
    refine L_val rfl rfl rfl (OpP.v (P_move rfl rfl)) ?_
    first | (refine L_val rfl rfl rfl (OpP.v (P_addN rfl rfl rfl (by simp only [fits]; omega))) ?_) | (refine L_val rfl rfl rfl (OpP.v (P_add rfl rfl rfl)) ?_)
    refine L_val rfl rfl rfl (OpP.v (P_assign rfl rfl)) ?_
    refine L_nil ?_
    exact Q_round (i + 1, .slice mb (sg.length + 1) mc, .slice ob (tg.length + 1) oc, sg ++ [(x.s.tx.frm, s)], tg ++ [(x.s.tx.frm, s')]) (by show (i + 1) ≤ st.length ∧ WOk (entS (st.take (i + 1))) (sg ++ [(x.s.tx.frm, s)]) (tg ++ [(x.s.tx.frm, s')]); exact ⟨by omega, by rw [entS_next hx, if_neg (fun h9 => h9.elim hz hk)]; exact hw.snoc hk s s'⟩) (by show st.length - (i + 1) < st.length - i; omega) (by repeat (first | exact .nil | refine .cons rfl ?_ | refine .consE rfl (by first | rfl | (congr 1; omega) | (congr 1; push_cast; omega)) ?_)) (Weak.drop (Weak.keep (Weak.keep (Weak.keep (Weak.trans (ownS.to1 (by rw [List.length_append]; rfl) (by unfold ptrs; rw [List.map_append]; rfl)) (Weak.keep (ownS.to1 (by rw [List.length_append]; rfl) (by unfold ptrs; rw [List.map_append]; rfl))))))))
 ·skip
  have hin : i = st.length := by omega
  subst hin
  rw [List.take_length] at hw
  refine R_exit ?_
  refine Q_then_exit ?_
  refine Q_then_exit ?_
  refine Q_block_eq ?_
  refine St.env (.cons (t := 4) rfl (.cons (t := 5) rfl (.cons (t := 6) rfl .nil))) ?_
  refine Q_then ?_
  refine R_seq ?_
  refine R_region ?_
  refine L_val rfl rfl rfl (OpP.v (P_move rfl rfl)) ?_
  refine L_val rfl rfl rfl (OpP.v (P_assign rfl rfl)) ?_
  refine L_val rfl rfl rfl (OpP.v (P_assign rfl rfl)) ?_
  refine L_nil ?_
  refine St.env (.cons (t := 4) rfl (.cons (t := 5) rfl .nil)) ?_
  refine Q_then ?_
  refine R_ret ?_
  exact R_end (rs2 := _) rfl rfl (.tmp rfl (.tmp rfl .nil)) (⟨b17, p, q, mv, ov, sg, tg, rfl, hw, rfl⟩) (Weak.refl _)
end Go.Proofs.YtfhjhaogmdaepaaGreatDoor
