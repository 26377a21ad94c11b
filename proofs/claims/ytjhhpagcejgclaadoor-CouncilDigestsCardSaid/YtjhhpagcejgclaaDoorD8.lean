/- Walks: the texts under a digest, by the reference. Printed by gen.py. -/
import Derived.Test.YtjhhpagcejgclaaDoorD7
import Derived.Test.YtjhhpagcejgclaaDoorEngH
set_option linter.unusedVariables false
set_option linter.unusedSimpArgs false
set_option maxRecDepth 100000
namespace Go.Proofs.YtjhhpagcejgclaaDoor
open Go Go.RowKit Go.Proofs
theorem app_at {us junk : List Value} (i : Nat) (v : Value) (h : us[i]? = some v) : (us ++ junk)[0 + i]? = some v := by
  rw [Nat.zero_add, List.getElem?_append_left (List.getElem?_eq_some_iff.1 h).1]; exact h
theorem ints_pre (k : IntKind) (xs ys : List Int) (junk : List Value) (i : Nat) (v : Value) (h : (ints k xs)[i]? = some v) : (ints k (xs ++ ys) ++ junk)[0 + i]? = some v := by
  rw [← ints_append, List.append_assoc]; exact app_at i v h
theorem kept_at (k : IntKind) (xs : List Int) (a b : Int) : (ints k (xs ++ [a, b]))[xs.length]? = some (.int k a) ∧ (ints k (xs ++ [a, b]))[xs.length + 1]? = some (.int k b) := by
  constructor <;> simp [ints]
theorem leafText_ok {gl : Nat → Obj} (base : Option Addr) (c : Nat) (xs : List Int) (hmax : xs.length ≤ 140737488355000) : Spec (cx gl) 61 [.slice base xs.length c] (fun w _ => Row w base (ints .u8 xs)) [] (fun v rs => rs = [ownS 5 1 v (xs.length + 1) (ints .u8 (0 :: xs))]) := by
  refine Spec.enter (C := cx gl) Tryd.func61 rfl 8 rfl rfl fun w0 h0 hsep hsub hpre => ?_
  obtain rfl : h0 = Heap.none := hsep
  show St (cx gl) _ [(0, .slice base xs.length c)] _ _
  refine R_seq ?_
  refine R_region ?_
  refine L_val rfl rfl rfl (OpP.v (P_assign rfl rfl)) ?_
  refine L_nil ?_
  refine Q_then ?_
  refine R_seq ?_
  refine R_region ?_
  refine L_op rfl (W_lit (z := .nilIface) (ints .u8 [0]) rfl rfl rfl ty_sl_46 ty_lz_46 rfl rfl rfl (by decide) (by decide) (by simp [Value.cells]) (rfl) fun b4 => ?_)
  refine St.res (rs' := [ownS 5 1 (.slice (some ⟨b4, 0, none⟩) 1 1) (1) (ints .u8 [0])]) (Weak.turn .h0 (ownS.of_blk rfl (by decide))) ?_
  refine L_val rfl rfl rfl (OpP.v (P_assign rfl rfl)) ?_
  refine L_nil ?_
  refine St.env (.cons (t := 0) rfl (.cons (t := 2) rfl (.cons (t := 3) rfl .nil))) ?_
  refine Q_then ?_
  refine R_seq ?_
  refine R_region ?_
  refine L_val rfl rfl rfl (OpP.v (P_move rfl rfl)) ?_
  refine L_val rfl rfl rfl (OpP.v (P_move rfl rfl)) ?_
  refine L_op rfl (W_append (p := []) rfl rfl rfl ty_sl_46 ty_ap_46 ty_src_46 rfl rfl rfl (Src.row (Sn.row hpre rfl).rw_ (by rw [ints_length]; omega) ints_one) (by omega) (by simp only [maxLen]; omega) fun v7 => ?_)
  refine L_val rfl rfl rfl (OpP.v (P_assign rfl rfl)) ?_
  refine L_nil ?_
  refine St.env (.cons (t := 2) rfl .nil) ?_
  refine Q_then ?_
  refine R_ret ?_
  exact R_end (rs2 := _) rfl rfl (.tmp rfl .nil) (rfl) (ownS.to (by omega) (by simp [ints]))
theorem innerText_ok {gl : Nat → Obj} (l r : List Int) (hl : l.length = 32) (hr : r.length = 32) : Spec (cx gl) 62 [.agg (ints .u8 l).toArray, .agg (ints .u8 r).toArray] (fun _ _ => True) [] (fun v rs => rs = [ownS 5 1 v 65 (ints .u8 (1 :: (l ++ r)))]) := by
  refine Spec.enter (C := cx gl) Tryd.func62 rfl 13 rfl rfl fun w0 h0 hsep hsub hpre => ?_
  obtain rfl : h0 = Heap.none := hsep
  show St (cx gl) _ [(0, .agg (ints .u8 l).toArray), (1, .agg (ints .u8 r).toArray)] _ _
  refine R_seq ?_
  refine R_region ?_
  refine L_op rfl (W_box (ints .u8 l) rfl rfl rfl rfl rfl fun b2 => ?_)
  refine L_op rfl (W_box (ints .u8 r) rfl rfl rfl rfl rfl fun b3 => ?_)
  refine L_val rfl rfl rfl (OpP.v (P_assign rfl rfl)) ?_
  refine L_nil ?_
  refine St.env (.cons (t := 2) rfl (.cons (t := 3) rfl (.cons (t := 4) rfl .nil))) ?_
  refine Q_then ?_
  refine R_seq ?_
  refine R_region ?_
  refine L_op rfl (W_lit (z := .nilIface) (ints .u8 [1]) rfl rfl rfl ty_sl_46 ty_lz_46 rfl rfl rfl (by decide) (by decide) (by simp [Value.cells]) (rfl) fun b6 => ?_)
  refine St.res (rs' := [ownS 5 1 (.slice (some ⟨b6, 0, none⟩) 1 1) (1) (ints .u8 [1]), blk b3 (ints .u8 r) 27, blk b2 (ints .u8 l) 27]) (Weak.turn .h0 (ownS.of_blk rfl (by decide))) ?_
  refine L_val rfl rfl rfl (OpP.v (P_assign rfl rfl)) ?_
  refine L_nil ?_
  refine St.env (.cons (t := 2) rfl (.cons (t := 3) rfl (.cons (t := 4) rfl (.cons (t := 5) rfl .nil)))) ?_
  refine Q_then ?_
  refine R_seq ?_
  refine R_region ?_
  refine L_val rfl rfl rfl (OpP.v (P_move rfl rfl)) ?_
  refine L_val rfl rfl rfl (OpP.v (P_sliceAll rfl ty_ar_27 rfl)) ?_
  refine L_op rfl (W_append (p := []) rfl rfl rfl ty_sl_46 ty_ap_46 ty_src_46 rfl rfl rfl (Src.slice (sz := 1) (news := ints .u8 l) (Rds.blk .h2) (by rw [ints_length, hl]) ints_one) (by omega) (by simp only [maxLen]; omega) fun v9 => ?_)
  refine L_val rfl rfl rfl (OpP.v (P_assign rfl rfl)) ?_
  refine L_nil ?_
  refine St.env (.cons (t := 3) rfl (.cons (t := 4) rfl (.cons (t := 5) rfl .nil))) ?_
  refine Q_then ?_
  refine R_seq ?_
  refine R_region ?_
  refine L_val rfl rfl rfl (OpP.v (P_move rfl rfl)) ?_
  refine L_val rfl rfl rfl (OpP.v (P_sliceAll rfl ty_ar_27 rfl)) ?_
  refine L_op rfl (W_append (p := []) rfl rfl rfl ty_sl_46 ty_ap_46 ty_src_46 rfl rfl rfl (Src.slice (sz := 1) (news := ints .u8 r) (Rds.blk .h1) (by rw [ints_length, hr]) ints_one) (by omega) (by simp only [maxLen]; omega) fun v12 => ?_)
  refine L_val rfl rfl rfl (OpP.v (P_assign rfl rfl)) ?_
  refine L_nil ?_
  refine St.env (.cons (t := 4) rfl .nil) ?_
  refine Q_then ?_
  refine R_ret ?_
  exact R_end (rs2 := _) rfl rfl (.tmp rfl .nil) (rfl) (Weak.trans (ownS.to (by omega) (by simp [ints])) (Weak.keep (Weak.nil _)))
theorem rootText_ok {gl : Nat → Obj} (n : Int) (r : List Int) (hr : r.length = 32) : Spec (cx gl) 31 [.int .i64 n, .agg (ints .u8 r).toArray] (fun _ _ => True) [] (fun v rs => rs = [ownS 5 1 v 41 (ints .u8 (2 :: (numB n ++ r)))]) := by
  refine Spec.enter (C := cx gl) Tryd.func31 rfl 25 rfl rfl fun w0 h0 hsep hsub hpre => ?_
  obtain rfl : h0 = Heap.none := hsep
  show St (cx gl) _ [(0, .int .i64 n), (1, .agg (ints .u8 r).toArray)] _ _
  refine R_seq ?_
  refine R_region ?_
  refine L_op rfl (W_box (ints .u8 r) rfl rfl rfl rfl rfl fun b3 => ?_)
  refine L_val rfl rfl rfl (OpP.v (P_assign rfl rfl)) ?_
  refine L_nil ?_
  refine St.env (.cons (t := 0) rfl (.cons (t := 3) rfl (.cons (t := 4) rfl .nil))) ?_
  refine Q_then ?_
  refine R_seq ?_
  refine R_region ?_
  refine L_op rfl (W_lit (z := .nilIface) (ints .u8 [2]) rfl rfl rfl ty_sl_46 ty_lz_46 rfl rfl rfl (by decide) (by decide) (by simp [Value.cells]) (rfl) fun b7 => ?_)
  refine St.res (rs' := [ownS 5 1 (.slice (some ⟨b7, 0, none⟩) 1 1) (1) (ints .u8 [2]), blk b3 (ints .u8 r) 27]) (Weak.turn .h0 (ownS.of_blk rfl (by decide))) ?_
  refine L_val rfl rfl rfl (OpP.v (P_assign rfl rfl)) ?_
  refine L_nil ?_
  refine St.env (.cons (t := 0) rfl (.cons (t := 3) rfl (.cons (t := 4) rfl (.cons (t := 5) rfl .nil)))) ?_
  refine Q_then ?_
  refine R_seq ?_
  refine R_seq ?_
  refine R_region ?_
  refine L_val rfl rfl rfl (OpP.v (P_assign rfl rfl)) ?_
  refine L_nil ?_
  refine Q_then ?_
  refine R_block ?_
  refine R_loop (G := Value × Nat) (fun g => [(0, .int .i64 n), (3, .pointer (some ⟨b3, 0, none⟩)), (4, .slice none 0 0), (5, g.1), (6, .int .i64 (g.2 : Int))]) (fun g => [ownS 5 1 g.1 (1 + g.2) (ints .u8 (2 :: (numB n).take g.2)), blk b3 (ints .u8 r) 27]) (fun g => g.2 ≤ 8) (fun g => 8 - g.2) ((.slice (some ⟨b7, 0, none⟩) 1 1, 0)) (Nat.zero_le _) (by repeat (first | exact .nil | refine .cons rfl ?_)) (ownS.to rfl rfl) ?_
  rintro ⟨v, i⟩ hinv
  replace hinv : i ≤ 8 := hinv
  show St (cx gl) _ [(0, .int .i64 n), (3, .pointer (some ⟨b3, 0, none⟩)), (4, .slice none 0 0), (5, v), (6, .int .i64 (i : Int))] [ownS 5 1 v (1 + i) (ints .u8 (2 :: (numB n).take i)), blk b3 (ints .u8 r) 27] _
  refine R_seq ?_
  refine R_seq ?_
  refine R_region ?_
  refine L_val rfl rfl rfl (OpP.v (P_move rfl rfl)) ?_
  refine L_val rfl rfl rfl (OpP.v (P_lss rfl rfl rfl)) ?_
  refine L_nil ?_
  refine Q_then ?_
  refine R_condP rfl (fun hlt => ?_) (fun hlt => ?_)
  · skip
    refine R_skip ?_
    refine Q_then ?_
    refine R_seq ?_
    refine R_block ?_
    refine R_region ?_
    refine L_val rfl rfl rfl (OpP.v (P_move rfl rfl)) ?_
    refine L_val rfl rfl rfl (OpP.v (P_move rfl rfl)) ?_
    refine L_val rfl rfl rfl (OpP.v (P_conv rfl ty_int_3 ty_int_34 rfl)) ?_
    refine L_val rfl rfl rfl (OpP.v (P_move rfl rfl)) ?_
    first | (refine L_val rfl rfl rfl (OpP.v (P_mulN rfl rfl rfl (by simp only [fits]; omega))) ?_) | (refine L_val rfl rfl rfl (OpP.v (P_mul rfl rfl rfl)) ?_)
    refine L_val rfl rfl rfl (OpP.v (P_convN rfl ty_int_3 ty_int_91 rfl (by simp only [fits]; omega))) ?_
    refine L_val rfl rfl rfl (OpP.v (P_shr rfl rfl rfl (by omega))) ?_
    refine L_val rfl rfl rfl (OpP.v (P_conv rfl ty_int_34 ty_int_5 rfl)) ?_
    refine L_op rfl (W_lit (z := .nilIface) (ints .u8 [numF n i]) rfl rfl rfl ty_sl_46 ty_lz_46 rfl rfl rfl (by decide) (by decide) (by simp [Value.cells]) (rfl) fun b20 => ?_)
    refine L_op rfl (W_append (p := [_]) rfl rfl rfl ty_sl_46 ty_ap_46 ty_src_46 rfl rfl rfl (Src.slice (sz := 1) (news := ints .u8 [numF n i]) (Rds.blk .h0) rfl ints_one) (by omega) (by simp only [maxLen]; omega) fun v21 => ?_)
    refine L_val rfl rfl rfl (OpP.v (P_assign rfl rfl)) ?_
    refine L_nil ?_
    refine Q_block ?_
    refine Q_then ?_
    refine R_region ?_
    refine L_val rfl rfl rfl (OpP.v (P_move rfl rfl)) ?_
    first | (refine L_val rfl rfl rfl (OpP.v (P_addN rfl rfl rfl (by simp only [fits]; omega))) ?_) | (refine L_val rfl rfl rfl (OpP.v (P_add rfl rfl rfl)) ?_)
    refine L_val rfl rfl rfl (OpP.v (P_assign rfl rfl)) ?_
    refine L_nil ?_
    refine E_nat (t := 6) (n := i + 1) rfl (by omega) ?_
    exact Q_round ((v21, i + 1)) (by show (i + 1) ≤ 8; omega) (by show 8 - (i + 1) < 8 - i; omega) (by repeat (first | exact .nil | refine .cons rfl ?_)) (Weak.drop (ownS.to (by omega) (by rw [ints_append, numB_next _ _ (by omega)]; rfl)))
  · skip
    obtain rfl : i = 8 := by omega
    refine R_exit ?_
    refine Q_then_exit ?_
    refine Q_then_exit ?_
    refine Q_block_eq ?_
    refine St.env (.cons (t := 3) rfl (.cons (t := 4) rfl (.cons (t := 5) rfl .nil))) ?_
    refine Q_then ?_
    refine R_seq ?_
    refine R_region ?_
    refine L_val rfl rfl rfl (OpP.v (P_move rfl rfl)) ?_
    refine L_val rfl rfl rfl (OpP.v (P_sliceAll rfl ty_ar_27 rfl)) ?_
    refine L_op rfl (W_append (p := []) rfl rfl rfl ty_sl_46 ty_ap_46 ty_src_46 rfl rfl rfl (Src.slice (sz := 1) (news := ints .u8 r) (Rds.blk .h1) (by rw [ints_length, hr]) ints_one) (by omega) (by simp only [maxLen]; omega) fun v24 => ?_)
    refine L_val rfl rfl rfl (OpP.v (P_assign rfl rfl)) ?_
    refine L_nil ?_
    refine St.env (.cons (t := 4) rfl .nil) ?_
    refine Q_then ?_
    refine R_ret ?_
    exact R_end (rs2 := _) rfl rfl (.tmp rfl .nil) (rfl) (Weak.trans (ownS.to (by omega) (by rw [List.take_of_length_le (by rw [numB_length]; omega)]; simp [ints])) (Weak.keep (Weak.nil _)))
theorem rleaf_ok {gl : Nat → Obj} (hG : GlobsR gl) (base : Option Addr) (c : Nat) (xs : List Int) (hmax : xs.length ≤ 140737488355000) : SpecV (cx gl) 49 [.slice base xs.length c] (fun w => Row w base (ints .u8 xs)) (.agg (ints .u8 (sha (0 :: xs))).toArray) := by
  refine Spec.enter (C := cx gl) Tryd.func49 rfl 6 rfl rfl fun w0 h0 hsep hsub hpre => ?_
  obtain rfl : h0 = Heap.none := hsep
  show St (cx gl) _ [(0, .slice base xs.length c)] _ _
  refine R_seq ?_
  refine R_region ?_
  refine L_op rfl (W_alloc rfl rfl rfl ty_ze_27 fun b2 => ?_)
  refine L_nil ?_
  refine Q_then ?_
  refine R_seq ?_
  refine R_region ?_
  refine L_val rfl rfl rfl (OpP.v (P_move rfl rfl)) ?_
  refine L_op rfl (W_call rfl rfl rfl rfl fn_ca_61 (leafText_ok base c xs hmax) (Split.nil _) (fun w a b _ _ _ m => (Sn.row hpre rfl).rw_ w ⟨_, ‹_›, m.le (Heap.le_join_right ‹_›)⟩) fun v4 rs1 (e1 : rs1 = _) => ?_)
  subst e1
  refine St.openOwn (p := []) (by omega) fun tb tcap junk htc htl htv => ?_
  subst htv
  refine St.res (rs' := [blk tb (ints .u8 (0 :: xs) ++ junk) 5, blk b2 (List.replicate 32 (.int .u8 0)) 27]) (Weak.refl _) ?_
  refine L_op rfl (W_callV rfl rfl rfl rfl fn_ca_30 (rsum_ok hG (some ⟨tb, 0, none⟩) tcap (0 :: xs) (by rw [List.length_cons]; exact htc) (by rw [List.length_cons]; omega)) (fun w nw => (Sn.ofBlkAt .h0 fun i v h => app_at i v h).rw_ w nw) ?_)
  refine L_op rfl (W_storeAll rfl rfl rfl rfl ty_ag_27 (by rw [ints_length, sha_length]) (ints_one) .h1 (by rw [ints_length, sha_length]; rfl) ?_)
  refine L_nil ?_
  refine St.env (.cons (t := 2) rfl .nil) ?_
  refine Q_then ?_
  refine R_ret ?_
  exact R_endV rfl rfl (.cell rfl (Rds.loadVar ty_ag_27 (Rds.blk .h1) (by rw [ints_length, sha_length])) .nil) (rfl)
theorem rinner_ok {gl : Nat → Obj} (hG : GlobsR gl) (l r : List Int) (hl : l.length = 32) (hr : r.length = 32) : SpecV (cx gl) 51 [.agg (ints .u8 l).toArray, .agg (ints .u8 r).toArray] noPre (.agg (ints .u8 (sha (1 :: (l ++ r)))).toArray) := by
  refine Spec.enter (C := cx gl) Tryd.func51 rfl 9 rfl rfl fun w0 h0 hsep hsub hpre => ?_
  obtain rfl : h0 = Heap.none := hsep
  show St (cx gl) _ [(0, .agg (ints .u8 l).toArray), (1, .agg (ints .u8 r).toArray)] _ _
  have hlr : (1 :: (l ++ r)).length = 65 := by rw [List.length_cons, List.length_append, hl, hr]
  refine R_seq ?_
  refine R_region ?_
  refine L_op rfl (W_box (ints .u8 l) rfl rfl rfl rfl rfl fun b2 => ?_)
  refine L_op rfl (W_box (ints .u8 r) rfl rfl rfl rfl rfl fun b3 => ?_)
  refine L_op rfl (W_alloc rfl rfl rfl ty_ze_27 fun b4 => ?_)
  refine L_nil ?_
  refine St.env (.cons (t := 2) rfl (.cons (t := 3) rfl (.cons (t := 4) rfl .nil))) ?_
  refine Q_then ?_
  refine R_seq ?_
  refine R_region ?_
  refine L_val rfl rfl rfl (V_loadAgg rfl rfl ty_ag_27 (Rds.blk .h2) (by rw [ints_length, hl])) ?_
  refine L_val rfl rfl rfl (V_loadAgg rfl rfl ty_ag_27 (Rds.blk .h1) (by rw [ints_length, hr])) ?_
  refine L_op rfl (W_call rfl rfl rfl rfl fn_ca_62 (innerText_ok l r hl hr) (Split.nil _) (fun _ _ _ _ _ _ _ => trivial) fun v7 rs1 (e1 : rs1 = _) => ?_)
  subst e1
  refine St.openOwn (p := []) (by omega) fun tb tcap junk htc htl htv => ?_
  subst htv
  refine St.res (rs' := [blk tb (ints .u8 (1 :: (l ++ r)) ++ junk) 5, blk b4 (List.replicate 32 (.int .u8 0)) 27, blk b3 (ints .u8 r) 27, blk b2 (ints .u8 l) 27]) (Weak.refl _) ?_
  refine L_op rfl (W_callV rfl rfl rfl rfl fn_ca_30 (by have h := rsum_ok hG (some ⟨tb, 0, none⟩) tcap (1 :: (l ++ r)) (by omega) (by omega); rw [hlr] at h; exact h) (fun w nw => (Sn.ofBlkAt .h0 fun i v h => app_at i v h).rw_ w nw) ?_)
  refine L_op rfl (W_storeAll rfl rfl rfl rfl ty_ag_27 (by rw [ints_length, sha_length]) (ints_one) .h1 (by rw [ints_length, sha_length]; rfl) ?_)
  refine L_nil ?_
  refine St.env (.cons (t := 4) rfl .nil) ?_
  refine Q_then ?_
  refine R_ret ?_
  exact R_endV rfl rfl (.cell rfl (Rds.loadVar ty_ag_27 (Rds.blk .h1) (by rw [ints_length, sha_length])) .nil) (rfl)
end Go.Proofs.YtjhhpagcejgclaaDoor
