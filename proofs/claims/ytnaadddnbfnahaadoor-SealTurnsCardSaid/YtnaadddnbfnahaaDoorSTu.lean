/- SealTurns: the walk. Printed by gen.py. -/
import Derived.Test.YtnaadddnbfnahaaDoorU1
set_option linter.unusedVariables false
set_option linter.unusedSimpArgs false
set_option maxRecDepth 100000
namespace Go.Proofs.YtnaadddnbfnahaaDoor
open Go Go.RowKit Go.Proofs
section
variable {C : Cx} {F : Fx} {l : Env} {rs : List HP} {o : Oper}
theorem V_strN {t t' e c n : Nat} {x : Operand} {base : Option Addr} {xs : List Int} (hn : xs.length = n) (ho : o.op = .convert t t' x) (hs : C.P.underlying t = some (.slice e)) (he : C.P.underlying e = some (.int .u8)) (ht : C.P.underlying t' = some .string) (hx : ev l x = some (.slice base n c)) (hr : Rw C F rs base (ints .u8 xs)) : OpV C F l rs o (.string (strOfNums xs)) := by
  subst hn; exact V_str ho hs he ht hx hr
end
theorem turns_zero {gl : Nat → Obj} (hG : GlobsR gl) (bx by_ : Option Addr) (cx_ cy : Nat) (xs ys : List Int) : SpecV (cx gl) 3 [.int .u64 0, .slice bx xs.length cx_, .slice by_ ys.length cy] (fun w => Row w bx (ints .u8 xs) ∧ Row w by_ (ints .u8 ys)) (.bool true) := by
  refine Spec.enter (C := cx gl) Tryd.func3 rfl 164 rfl rfl fun w0 h0 hsep hsub hpre => ?_
  obtain rfl : h0 = Heap.none := hsep
  show St (cx gl) _ [(0, .int .u64 0), (1, .slice bx xs.length cx_), (2, .slice by_ ys.length cy)] _ _
  refine R_seq ?_
  refine R_region ?_
  refine L_val rfl rfl rfl (OpP.v (P_assign rfl rfl)) ?_
  refine L_nil ?_
  refine Q_then ?_
  refine R_seq ?_
  refine R_seq ?_
  refine R_region ?_
  refine L_val rfl rfl rfl (OpP.v (P_move rfl rfl)) ?_
  refine L_val rfl rfl rfl (OpP.v (P_eql rfl rfl rfl)) ?_
  refine E_true (t := 21) rfl (rfl) ?_
  refine L_val rfl rfl rfl (OpP.v (P_move rfl rfl)) ?_
  refine L_no rfl rfl rfl ?_
  refine L_no rfl rfl rfl ?_
  refine L_no rfl rfl rfl ?_
  refine L_val rfl rfl rfl (OpP.v (P_pick rfl rfl rfl)) ?_
  refine L_val rfl rfl rfl (OpP.v (P_move rfl rfl)) ?_
  refine L_no rfl rfl rfl ?_
  refine L_no rfl rfl rfl ?_
  refine L_no rfl rfl rfl ?_
  refine L_val rfl rfl rfl (OpP.v (P_pick rfl rfl rfl)) ?_
  refine L_nil ?_
  refine St.env (.cons (t := 0) rfl (.cons (t := 1) rfl (.cons (t := 2) rfl (.cons (t := 6) rfl (.cons (t := 31) rfl .nil))))) ?_
  refine Q_then ?_
  refine R_condT rfl ?_
  refine R_seq ?_
  refine R_region ?_
  refine L_val rfl rfl rfl (OpP.v (P_assign rfl rfl)) ?_
  refine L_nil ?_
  refine St.env (.cons (t := 0) rfl (.cons (t := 1) rfl (.cons (t := 2) rfl (.cons (t := 6) rfl .nil)))) ?_
  refine Q_then ?_
  refine R_ret ?_
  refine Q_then_ret ?_
  exact R_endV rfl rfl (.tmp rfl .nil) (rfl)
theorem turns_x {gl : Nat → Obj} (hG : GlobsR gl) (a : Int) (ha : a ≠ 0) (bx by_ : Option Addr) (cx_ cy : Nat) (xs ys : List Int) (hx : 1000 < xs.length) : SpecV (cx gl) 3 [.int .u64 a, .slice bx xs.length cx_, .slice by_ ys.length cy] (fun w => Row w bx (ints .u8 xs) ∧ Row w by_ (ints .u8 ys)) (.bool true) := by
  refine Spec.enter (C := cx gl) Tryd.func3 rfl 164 rfl rfl fun w0 h0 hsep hsub hpre => ?_
  obtain rfl : h0 = Heap.none := hsep
  show St (cx gl) _ [(0, .int .u64 a), (1, .slice bx xs.length cx_), (2, .slice by_ ys.length cy)] _ _
  refine R_seq ?_
  refine R_region ?_
  refine L_val rfl rfl rfl (OpP.v (P_assign rfl rfl)) ?_
  refine L_nil ?_
  refine Q_then ?_
  refine R_seq ?_
  refine R_seq ?_
  refine R_region ?_
  refine L_val rfl rfl rfl (OpP.v (P_move rfl rfl)) ?_
  refine L_val rfl rfl rfl (OpP.v (P_eql rfl rfl rfl)) ?_
  refine E_false (t := 21) rfl (decide_eq_false ha) ?_
  refine L_val rfl rfl rfl (OpP.v (P_move rfl rfl)) ?_
  refine L_val rfl rfl rfl (OpP.v (P_move rfl rfl)) ?_
  refine L_val rfl rfl rfl (OpP.v (P_len rfl ty_sl_24 rfl)) ?_
  refine L_val rfl rfl rfl (OpP.v (P_gtr rfl rfl rfl)) ?_
  refine E_true (t := 25) rfl (decide_eq_true (by omega)) ?_
  refine L_val rfl rfl rfl (OpP.v (P_pick rfl rfl rfl)) ?_
  refine L_val rfl rfl rfl (OpP.v (P_move rfl rfl)) ?_
  refine L_no rfl rfl rfl ?_
  refine L_no rfl rfl rfl ?_
  refine L_no rfl rfl rfl ?_
  refine L_val rfl rfl rfl (OpP.v (P_pick rfl rfl rfl)) ?_
  refine L_nil ?_
  refine St.env (.cons (t := 0) rfl (.cons (t := 1) rfl (.cons (t := 2) rfl (.cons (t := 6) rfl (.cons (t := 31) rfl .nil))))) ?_
  refine Q_then ?_
  refine R_condT rfl ?_
  refine R_seq ?_
  refine R_region ?_
  refine L_val rfl rfl rfl (OpP.v (P_assign rfl rfl)) ?_
  refine L_nil ?_
  refine St.env (.cons (t := 0) rfl (.cons (t := 1) rfl (.cons (t := 2) rfl (.cons (t := 6) rfl .nil)))) ?_
  refine Q_then ?_
  refine R_ret ?_
  refine Q_then_ret ?_
  exact R_endV rfl rfl (.tmp rfl .nil) (rfl)
theorem turns_y {gl : Nat → Obj} (hG : GlobsR gl) (a : Int) (ha : a ≠ 0) (bx by_ : Option Addr) (cx_ cy : Nat) (xs ys : List Int) (hx : xs.length ≤ 1000) (hy : 1000 < ys.length) : SpecV (cx gl) 3 [.int .u64 a, .slice bx xs.length cx_, .slice by_ ys.length cy] (fun w => Row w bx (ints .u8 xs) ∧ Row w by_ (ints .u8 ys)) (.bool true) := by
  refine Spec.enter (C := cx gl) Tryd.func3 rfl 164 rfl rfl fun w0 h0 hsep hsub hpre => ?_
  obtain rfl : h0 = Heap.none := hsep
  show St (cx gl) _ [(0, .int .u64 a), (1, .slice bx xs.length cx_), (2, .slice by_ ys.length cy)] _ _
  refine R_seq ?_
  refine R_region ?_
  refine L_val rfl rfl rfl (OpP.v (P_assign rfl rfl)) ?_
  refine L_nil ?_
  refine Q_then ?_
  refine R_seq ?_
  refine R_seq ?_
  refine R_region ?_
  refine L_val rfl rfl rfl (OpP.v (P_move rfl rfl)) ?_
  refine L_val rfl rfl rfl (OpP.v (P_eql rfl rfl rfl)) ?_
  refine E_false (t := 21) rfl (decide_eq_false ha) ?_
  refine L_val rfl rfl rfl (OpP.v (P_move rfl rfl)) ?_
  refine L_val rfl rfl rfl (OpP.v (P_move rfl rfl)) ?_
  refine L_val rfl rfl rfl (OpP.v (P_len rfl ty_sl_24 rfl)) ?_
  refine L_val rfl rfl rfl (OpP.v (P_gtr rfl rfl rfl)) ?_
  refine E_false (t := 25) rfl (decide_eq_false (by omega)) ?_
  refine L_val rfl rfl rfl (OpP.v (P_pick rfl rfl rfl)) ?_
  refine L_val rfl rfl rfl (OpP.v (P_move rfl rfl)) ?_
  refine L_val rfl rfl rfl (OpP.v (P_move rfl rfl)) ?_
  refine L_val rfl rfl rfl (OpP.v (P_len rfl ty_sl_24 rfl)) ?_
  refine L_val rfl rfl rfl (OpP.v (P_gtr rfl rfl rfl)) ?_
  refine E_true (t := 30) rfl (decide_eq_true (by omega)) ?_
  refine L_val rfl rfl rfl (OpP.v (P_pick rfl rfl rfl)) ?_
  refine L_nil ?_
  refine St.env (.cons (t := 0) rfl (.cons (t := 1) rfl (.cons (t := 2) rfl (.cons (t := 6) rfl (.cons (t := 31) rfl .nil))))) ?_
  refine Q_then ?_
  refine R_condT rfl ?_
  refine R_seq ?_
  refine R_region ?_
  refine L_val rfl rfl rfl (OpP.v (P_assign rfl rfl)) ?_
  refine L_nil ?_
  refine St.env (.cons (t := 0) rfl (.cons (t := 1) rfl (.cons (t := 2) rfl (.cons (t := 6) rfl .nil)))) ?_
  refine Q_then ?_
  refine R_ret ?_
  refine Q_then_ret ?_
  exact R_endV rfl rfl (.tmp rfl .nil) (rfl)
theorem turns_ok {gl : Nat → Obj} (hG : GlobsR gl) (a : Int) (ha : a ≠ 0) (bx by_ : Option Addr) (cx_ cy : Nat) (xs ys : List Int) (hx : xs.length ≤ 1000) (hy : ys.length ≤ 1000) (hbx : IsB xs) (hby : IsB ys) : SpecV (cx gl) 3 [.int .u64 a, .slice bx xs.length cx_, .slice by_ ys.length cy] (fun w => Row w bx (ints .u8 xs) ∧ Row w by_ (ints .u8 ys)) (.bool true) := by
  refine Spec.enter (C := cx gl) Tryd.func3 rfl 164 rfl rfl fun w0 h0 hsep hsub hpre => ?_
  obtain rfl : h0 = Heap.none := hsep
  show St (cx gl) _ [(0, .int .u64 a), (1, .slice bx xs.length cx_), (2, .slice by_ ys.length cy)] _ _
  obtain ⟨N, hN⟩ : ∃ N, N = max xs.length ys.length := ⟨_, rfl⟩
  have hNx : xs.length ≤ N := by omega
  have hNy : ys.length ≤ N := by omega
  have hN1 : N ≤ 1000 := by omega
  obtain ⟨m1, hm1⟩ : ∃ m, m = padT xs N := ⟨_, rfl⟩
  obtain ⟨m2, hm2⟩ : ∃ m, m = overT ys (xorP 51 m1 N) := ⟨_, rfl⟩
  have hl1 : m1.length = N := by rw [hm1]; exact padT_length hNx
  have hl2 : m2.length = N := by rw [hm2, overT_length (by rw [xorP_length, hl1]; exact hNy), xorP_length, hl1]
  have hb1 : IsB m1 := by rw [hm1]; exact isB_pad hbx _
  have hb2 : IsB m2 := by rw [hm2]; exact isB_over hby (isB_xorP _ hb1 _)
  refine R_seq ?_
  refine R_region ?_
  refine L_val rfl rfl rfl (OpP.v (P_assign rfl rfl)) ?_
  refine L_nil ?_
  refine Q_then ?_
  refine R_seq ?_
  refine R_seq ?_
  refine R_region ?_
  refine L_val rfl rfl rfl (OpP.v (P_move rfl rfl)) ?_
  refine L_val rfl rfl rfl (OpP.v (P_eql rfl rfl rfl)) ?_
  refine E_false (t := 21) rfl (decide_eq_false ha) ?_
  refine L_val rfl rfl rfl (OpP.v (P_move rfl rfl)) ?_
  refine L_val rfl rfl rfl (OpP.v (P_move rfl rfl)) ?_
  refine L_val rfl rfl rfl (OpP.v (P_len rfl ty_sl_24 rfl)) ?_
  refine L_val rfl rfl rfl (OpP.v (P_gtr rfl rfl rfl)) ?_
  refine E_false (t := 25) rfl (decide_eq_false (by omega)) ?_
  refine L_val rfl rfl rfl (OpP.v (P_pick rfl rfl rfl)) ?_
  refine L_val rfl rfl rfl (OpP.v (P_move rfl rfl)) ?_
  refine L_val rfl rfl rfl (OpP.v (P_move rfl rfl)) ?_
  refine L_val rfl rfl rfl (OpP.v (P_len rfl ty_sl_24 rfl)) ?_
  refine L_val rfl rfl rfl (OpP.v (P_gtr rfl rfl rfl)) ?_
  refine E_false (t := 30) rfl (decide_eq_false (by omega)) ?_
  refine L_val rfl rfl rfl (OpP.v (P_pick rfl rfl rfl)) ?_
  refine L_nil ?_
  refine St.env (.cons (t := 0) rfl (.cons (t := 1) rfl (.cons (t := 2) rfl (.cons (t := 6) rfl (.cons (t := 31) rfl .nil))))) ?_
  refine Q_then ?_
  refine R_condF rfl ?_
  refine R_skip ?_
  refine Q_then ?_
  refine R_seq ?_
  refine R_region ?_
  refine L_op rfl (W_call rfl rfl rfl rfl fn_ca_15 (snew_ok) (Split.nil _) (fun _ _ _ _ _ _ _ => trivial) fun v32 rs1 ⟨p, e1, e2⟩ => ?_)
  subst e1; subst e2
  refine St.res (rs' := [REG p [] []]) (Weak.refl _) ?_
  refine L_val rfl rfl rfl (OpP.v (P_assign rfl rfl)) ?_
  refine L_nil ?_
  refine St.env (.cons (t := 0) rfl (.cons (t := 1) rfl (.cons (t := 2) rfl (.cons (t := 6) rfl (.cons (t := 7) rfl .nil))))) ?_
  refine Q_then ?_
  refine R_seq ?_
  refine R_region ?_
  refine L_val rfl rfl rfl (OpP.v (P_move rfl rfl)) ?_
  refine L_val rfl rfl rfl (OpP.v (P_move rfl rfl)) ?_
  refine L_op rfl (W_call rfl rfl rfl rfl fn_ca_16 (enter_new p [] [] a ha rfl) (Split.one (p := [])) (fun _ _ _ _ _ _ _ => trivial) fun v36 rs1 ⟨s, e1, e2⟩ => ?_)
  subst e1; subst e2
  refine St.res (rs' := [REG p [(a, s)] []]) (Weak.refl _) ?_
  refine L_val rfl rfl rfl (OpP.v (P_move rfl rfl)) ?_
  refine L_val rfl rfl rfl (OpP.v (P_extract rfl rfl rfl)) ?_
  refine L_val rfl rfl rfl (OpP.v (P_extract rfl rfl rfl)) ?_
  refine L_val rfl rfl rfl (OpP.v (P_assign rfl rfl)) ?_
  refine L_val rfl rfl rfl (OpP.v (P_assign rfl rfl)) ?_
  refine L_nil ?_
  refine St.env (.cons (t := 0) rfl (.cons (t := 1) rfl (.cons (t := 2) rfl (.cons (t := 6) rfl (.cons (t := 7) rfl (.cons (t := 8) rfl (.cons (t := 9) rfl .nil))))))) ?_
  refine Q_then ?_
  refine R_seq ?_
  refine R_seq ?_
  refine R_region ?_
  refine L_val rfl rfl rfl (OpP.v (P_move rfl rfl)) ?_
  refine L_val rfl rfl rfl (OpP.v (P_eqNil rfl ty_ptr_25 rfl rfl)) ?_
  refine L_val rfl rfl rfl (OpP.v (P_move rfl rfl)) ?_
  refine L_val rfl rfl rfl (OpP.v (P_move rfl rfl)) ?_
  refine L_val rfl rfl rfl (OpP.v (P_eqNil rfl ty_ptr_27 rfl rfl)) ?_
  refine L_val rfl rfl rfl (OpP.v (P_pick rfl rfl rfl)) ?_
  refine L_val rfl rfl rfl (OpP.v (P_move rfl rfl)) ?_
  refine L_val rfl rfl rfl (OpP.v (P_move rfl rfl)) ?_
  refine L_op rfl (W_callV rfl rfl rfl rfl fn_ca_17 (num_ok 0) (fun _ _ => trivial) ?_)
  refine L_val rfl rfl rfl (OpP.v (P_neq rfl rfl rfl)) ?_
  refine E_false (t := 48) rfl (rfl) ?_
  refine L_val rfl rfl rfl (OpP.v (P_pick rfl rfl rfl)) ?_
  refine L_nil ?_
  refine St.env (.cons (t := 0) rfl (.cons (t := 1) rfl (.cons (t := 2) rfl (.cons (t := 6) rfl (.cons (t := 7) rfl (.cons (t := 8) rfl (.cons (t := 9) rfl (.cons (t := 49) rfl .nil)))))))) ?_
  refine Q_then ?_
  refine R_condF rfl ?_
  refine R_skip ?_
  refine Q_then ?_
  refine R_seq ?_
  refine R_region ?_
  refine L_val rfl rfl rfl (OpP.v (P_move rfl rfl)) ?_
  refine L_val rfl rfl rfl (OpP.v (P_len rfl ty_sl_24 rfl)) ?_
  refine L_val rfl rfl rfl (OpP.v (P_move rfl rfl)) ?_
  refine L_val rfl rfl rfl (OpP.v (P_len rfl ty_sl_24 rfl)) ?_
  refine L_val rfl rfl rfl (OpP.v (P_max2 rfl rfl rfl)) ?_
  refine E_nat (t := 54) (n := N) rfl (by split <;> omega) ?_
  refine L_val rfl rfl rfl (OpP.v (P_assign rfl rfl)) ?_
  refine L_nil ?_
  refine St.env (.cons (t := 0) rfl (.cons (t := 1) rfl (.cons (t := 2) rfl (.cons (t := 6) rfl (.cons (t := 7) rfl (.cons (t := 8) rfl (.cons (t := 9) rfl (.cons (t := 10) rfl .nil)))))))) ?_
  refine Q_then ?_
  refine R_seq ?_
  refine R_region ?_
  refine L_val rfl rfl rfl (OpP.v (P_move rfl rfl)) ?_
  refine L_op rfl (W_make (n := N) rfl rfl rfl ty_sl_24 ty_ze_5 rfl rfl (by omega) (by omega) fun b56 => ?_)
  rw [made_zeros]
  refine L_val rfl rfl rfl (OpP.v (P_assign rfl rfl)) ?_
  refine L_nil ?_
  refine St.env (.cons (t := 0) rfl (.cons (t := 1) rfl (.cons (t := 2) rfl (.cons (t := 6) rfl (.cons (t := 7) rfl (.cons (t := 8) rfl (.cons (t := 9) rfl (.cons (t := 10) rfl (.cons (t := 11) rfl .nil))))))))) ?_
  refine Q_then ?_
  refine R_seq ?_
  refine St.res (rs' := [REG p [(a, s)] [], blk b56 (ints .u8 (List.replicate N 0)) 5]) (Weak.p1 (Weak.refl _)) ?_
  refine R_region ?_
  refine L_val rfl rfl rfl (OpP.v (P_move rfl rfl)) ?_
  refine L_val rfl rfl rfl (OpP.v (P_move rfl rfl)) ?_
  refine L_op rfl (W_copy (k := xs.length) (news := ints .u8 xs) rfl rfl rfl ty_sl_24 rfl rfl rfl ((Nat.min_eq_left hNx).symm) (fun w nw => by have := Src.part (C := cx gl) (sz := 1) (k := xs.length) (m := xs.length) (c := cx_) (Sn.row hpre.1 rfl).rw_ (by rw [ints_length]; omega) w nw; rwa [Nat.mul_one, ints_take, List.take_length] at this) (ints_one) .h1 (by rw [ints_length, ints_length, List.length_replicate]; omega) ?_)
  rw [splice_pad hNx, ← hm1]
  refine L_nil ?_
  refine St.env (.cons (t := 0) rfl (.cons (t := 2) rfl (.cons (t := 6) rfl (.cons (t := 7) rfl (.cons (t := 8) rfl (.cons (t := 9) rfl (.cons (t := 10) rfl (.cons (t := 11) rfl .nil)))))))) ?_
  refine Q_then ?_
  refine R_seq ?_
  refine R_region ?_
  refine L_val rfl rfl rfl (OpP.v (P_assign rfl rfl)) ?_
  refine L_nil ?_
  refine Q_then ?_
  refine R_seq ?_
  refine St.res (rs' := [ownS 5 1 (.slice none 0 0) 0 [], REG p [(a, s)] [], blk b56 (ints .u8 (m1)) 5]) (Weak.newNil) ?_
  refine R_region ?_
  refine L_val rfl rfl rfl (OpP.v (P_move rfl rfl)) ?_
  refine L_val rfl rfl rfl (OpP.v (P_move rfl rfl)) ?_
  refine L_op rfl (W_append (p := []) rfl rfl rfl ty_sl_24 ty_ap_24 ty_src_24 rfl rfl rfl (Src.slice (sz := 1) (news := ints .u8 m1) (Rds.blk .h2) (by rw [ints_length, hl1]; omega) ints_one) (by omega) (by simp only [maxLen]; omega) fun v62 => ?_)
  refine St.ownForm (p := []) fun ub uc huvub huc => ?_
  subst huvub
  refine E_as (t := 62) (v' := .slice ub N uc) rfl (by rw [Nat.zero_add]) ?_
  rw [Nat.zero_add] at huc
  refine St.res (rs' := [REG p [(a, s)] [], blk b56 (ints .u8 (m1)) 5, ownS 5 1 (.slice ub N uc) N (ints .u8 (m1))]) (by rw [Nat.zero_add, List.nil_append]; exact Weak.p1 (Weak.p1 (Weak.refl _))) ?_
  refine L_val rfl rfl rfl (OpP.v (P_assign rfl rfl)) ?_
  refine L_nil ?_
  refine St.env (.cons (t := 0) rfl (.cons (t := 2) rfl (.cons (t := 6) rfl (.cons (t := 7) rfl (.cons (t := 8) rfl (.cons (t := 9) rfl (.cons (t := 10) rfl (.cons (t := 11) rfl (.cons (t := 12) rfl .nil))))))))) ?_
  refine Q_then ?_
  refine R_seq ?_
  refine R_region ?_
  refine L_val rfl rfl rfl (OpP.v (P_move rfl rfl)) ?_
  refine L_val rfl rfl rfl (OpP.v (P_move rfl rfl)) ?_
  refine L_op rfl (W_callR rfl rfl rfl rfl fn_ca_18 (by have h := sign_new (gl := gl) hG.toGlobs p [(a, s)] [] 0 a s rfl (some ⟨b56, 0, none⟩) N m1 hb1 (by omega) (Nat.zero_le _) (by simp); rw [hl1] at h; exact h) (Split.one (p := [])) (Sn.pre (Sn.ofBlk .h0)) ?_)
  refine St.res (rs' := [REG p [(a, s)] [(a, m1)], blk b56 (ints .u8 (m1)) 5, ownS 5 1 (.slice ub N uc) N (ints .u8 (m1))]) (Weak.refl _) ?_
  refine L_val rfl rfl rfl (OpP.v (P_move rfl rfl)) ?_
  refine L_val rfl rfl rfl (OpP.v (P_extract rfl rfl rfl)) ?_
  refine L_val rfl rfl rfl (OpP.v (P_extract rfl rfl rfl)) ?_
  refine L_op rfl (W_alloc rfl rfl rfl ty_ze_33 fun b13 => ?_)
  refine L_op rfl (W_storeAll rfl rfl rfl rfl ty_ag_33 (by rw [ints_length, sealH_length]) (ints_one) .h0 (by rw [ints_length, sealH_length]; rfl) ?_)
  refine L_val rfl rfl rfl (OpP.v (P_assign rfl rfl)) ?_
  refine L_nil ?_
  refine St.env (.cons (t := 0) rfl (.cons (t := 2) rfl (.cons (t := 6) rfl (.cons (t := 7) rfl (.cons (t := 8) rfl (.cons (t := 9) rfl (.cons (t := 10) rfl (.cons (t := 11) rfl (.cons (t := 12) rfl (.cons (t := 13) rfl .nil)))))))))) ?_
  refine Q_then ?_
  refine R_seq ?_
  refine St.res (rs' := [REG p [(a, s)] [(a, m1)], blk b56 (ints .u8 (m1)) 5, ownS 5 1 (.slice ub N uc) N (ints .u8 (m1)), blk b13 (ints .u8 (sealH a m1)) 33]) (Weak.pick (p := [_]) (Weak.pick (p := [_]) (Weak.pick (p := [_]) (Weak.keep (Weak.nil _))))) ?_
  refine R_region ?_
  refine L_val rfl rfl rfl (OpP.v (P_move rfl rfl)) ?_
  refine L_val rfl rfl rfl (OpP.v (P_move rfl rfl)) ?_
  refine L_val rfl rfl rfl (OpP.v (P_move rfl rfl)) ?_
  refine L_val rfl rfl rfl (V_loadAgg rfl rfl ty_ag_33 (Rds.blk .h3) (by rw [ints_length, sealH_length])) ?_
  refine L_op rfl (W_callR rfl rfl rfl rfl fn_ca_19 (by have h := check_ok (gl := gl) hG.toGlobs p [(a, s)] [(a, m1)] a (some ⟨b56, 0, none⟩) N m1 (sealH a m1) hb1 (by omega) (sealH_length _ _); rw [hl1] at h; exact h) (Split.one (p := [])) (Sn.pre (Sn.ofBlk .h0)) ?_)
  refine St.res (rs' := [REG p [(a, s)] [(a, m1)], blk b56 (ints .u8 (m1)) 5, ownS 5 1 (.slice ub N uc) N (ints .u8 (m1)), blk b13 (ints .u8 (sealH a m1)) 33]) (Weak.refl _) ?_
  refine E_true (t := 73) rfl (by simp) ?_
  refine L_val rfl rfl rfl (OpP.v (P_assign rfl rfl)) ?_
  refine L_nil ?_
  refine St.env (.cons (t := 0) rfl (.cons (t := 2) rfl (.cons (t := 6) rfl (.cons (t := 7) rfl (.cons (t := 8) rfl (.cons (t := 9) rfl (.cons (t := 10) rfl (.cons (t := 11) rfl (.cons (t := 12) rfl (.cons (t := 13) rfl (.cons (t := 14) rfl .nil))))))))))) ?_
  refine Q_then ?_
  refine R_seq ?_
  refine R_seq ?_
  refine R_open [(0, 0), (1, 2), (2, 0), (3, 0), (4, 1), (5, 0), (6, 0), (7, 2), (8, 0), (9, 0), (10, 0), (11, 0), (12, 0), (13, 0)] mixed (by kernel_rfl) (QOk.then (QOk.then QOk.body)) ?_
  refine O_pure rfl rfl rfl rfl (P_move rfl rfl) ?_
  refine O_keep rfl rfl (W_callV rfl rfl rfl rfl fn_ca_17 (num_ok 0) (fun _ _ => trivial) (K_keep (Weak.refl _) ?_))
  refine O_pure rfl rfl rfl rfl (P_neq rfl rfl rfl) ?_
  refine E_false (t := 76) rfl (rfl) ?_
  refine O_pure rfl rfl rfl rfl (P_move rfl rfl) ?_
  refine O_val rfl rfl rfl rfl (V_loadAgg rfl rfl ty_ag_33 (Rds.blk .h3) (by rw [ints_length, sealH_length])) ?_
  refine O_pure rfl rfl rfl rfl (P_move rfl rfl) ?_
  refine O_pure rfl rfl rfl rfl (P_move rfl rfl) ?_
  refine O_keep rfl rfl (W_callV rfl rfl rfl rfl fn_ca_20 (by have h := of_ok (gl := gl) hG a ub uc m1 (by omega); rw [hl1] at h; exact h) ((Sn.own .h2 rfl).rw_) (K_keep (Weak.refl _) ?_))
  refine O_pure rfl rfl rfl rfl (P_neArr rfl rfl rfl ty_un_33 ty_int_5 ty_sc_5 ty_eg_33 (sealH_length _ _) (sealH_length _ _)) ?_
  refine E_false (t := 82) rfl (decide_eq_false (fun h => h rfl)) ?_
  refine O_pure rfl rfl rfl rfl (P_pick rfl rfl rfl) ?_
  refine O_pure rfl rfl rfl rfl (P_move rfl rfl) ?_
  refine O_pure rfl rfl rfl rfl (P_move rfl rfl) ?_
  refine O_pure rfl rfl rfl rfl (P_not rfl rfl) ?_
  refine O_pure rfl rfl rfl rfl (P_pick rfl rfl rfl) ?_
  refine O_nil ?_
  refine St.env (.cons (t := 0) rfl (.cons (t := 2) rfl (.cons (t := 6) rfl (.cons (t := 7) rfl (.cons (t := 8) rfl (.cons (t := 9) rfl (.cons (t := 10) rfl (.cons (t := 11) rfl (.cons (t := 12) rfl (.cons (t := 13) rfl (.cons (t := 14) rfl (.cons (t := 87) rfl .nil)))))))))))) ?_
  refine Q_then ?_
  refine R_condF rfl ?_
  refine R_skip ?_
  refine Q_then ?_
  refine R_seq ?_
  refine R_seq ?_
  refine R_region ?_
  refine L_val rfl rfl rfl (OpP.v (P_assign rfl rfl)) ?_
  refine L_nil ?_
  refine St.env (.cons (t := 0) rfl (.cons (t := 2) rfl (.cons (t := 6) rfl (.cons (t := 7) rfl (.cons (t := 8) rfl (.cons (t := 9) rfl (.cons (t := 10) rfl (.cons (t := 11) rfl (.cons (t := 12) rfl (.cons (t := 13) rfl (.cons (t := 14) rfl (.cons (t := 15) rfl .nil)))))))))))) ?_
  refine Q_then ?_
  refine R_block ?_
  refine R_loopE (G := Nat) (.cons (t := 0) rfl (.cons (t := 2) rfl (.cons (t := 6) rfl (.cons (t := 7) rfl (.cons (t := 8) rfl (.cons (t := 9) rfl (.cons (t := 10) rfl (.cons (t := 11) rfl (.cons (t := 12) rfl (.cons (t := 13) rfl (.cons (t := 14) rfl .nil))))))))))) (fun g => [(15, .int .i64 (g : Int))]) (fun g => [REG p [(a, s)] [(a, m1)], blk b56 (ints .u8 (xorP 51 m1 g)) 5, ownS 5 1 (.slice ub N uc) N (ints .u8 (m1)), blk b13 (ints .u8 (sealH a m1)) 33]) (fun g => g ≤ N) (fun g => N - g) (0) (Nat.zero_le _) (by repeat (first | exact .nil | refine .cons rfl ?_ | refine .consE rfl (by first | rfl | (congr 1; omega) | (congr 1; push_cast; omega)) ?_)) (by rw [xorP_zero]; exact Weak.refl _) ?_
  intro i hinv
  replace hinv : i ≤ N := hinv
  show St (cx gl) _ ((15, .int .i64 (i : Int)) :: _) [REG p [(a, s)] [(a, m1)], blk b56 (ints .u8 (xorP 51 m1 i)) 5, ownS 5 1 (.slice ub N uc) N (ints .u8 (m1)), blk b13 (ints .u8 (sealH a m1)) 33] _
  have hi := hinv
  refine R_seq ?_
  refine R_seq ?_
  refine R_region ?_
  refine L_val rfl rfl rfl (OpP.v (P_move rfl rfl)) ?_
  refine L_val rfl rfl rfl (OpP.v (P_move rfl rfl)) ?_
  refine L_val rfl rfl rfl (OpP.v (P_lss rfl rfl rfl)) ?_
  refine L_nil ?_
  refine Q_then ?_
  refine R_condP rfl (fun hlt0 => ?_) (fun hlt0 => ?_)
  · skip
    have hlt : i < N := by omega
    refine R_skip ?_
    refine Q_then ?_
    refine R_seq ?_
    refine R_block ?_
    refine R_region ?_
    refine L_val rfl rfl rfl (OpP.v (P_move rfl rfl)) ?_
    refine L_val rfl rfl rfl (OpP.v (P_move rfl rfl)) ?_
    refine L_val rfl rfl rfl (OpP.v (P_move rfl rfl)) ?_
    refine L_val rfl rfl rfl (OpP.v (P_move rfl rfl)) ?_
    refine L_val rfl rfl rfl (OpP.v (P_ixs (i) rfl ty_sl_24 rfl rfl (by first | rfl | omega) (by omega))) ?_
    refine L_val rfl rfl rfl (V_load rfl rfl ty_sc_5 (rd_blk1 .h1 (xorP_get hlt hl1))) ?_
    refine L_val rfl rfl rfl (OpP.v (P_bit (op := .xor) rfl rfl rfl rfl)) ?_
    refine L_val rfl rfl rfl (OpP.v (P_ixs (i) rfl ty_sl_24 rfl rfl (by first | rfl | omega) (by omega))) ?_
    refine L_op rfl (W_store rfl rfl rfl rfl ty_sc_5 rfl .h1 (by rw [ints_length, xorP_length, hl1]; omega) ?_)
    refine L_nil ?_
    refine Q_block ?_
    refine Q_then ?_
    refine R_region ?_
    refine L_val rfl rfl rfl (OpP.v (P_move rfl rfl)) ?_
    first | (refine L_val rfl rfl rfl (OpP.v (P_addN rfl rfl rfl (by simp only [fits]; omega))) ?_) | (refine L_val rfl rfl rfl (OpP.v (P_add rfl rfl rfl)) ?_)
    refine L_val rfl rfl rfl (OpP.v (P_assign rfl rfl)) ?_
    refine L_nil ?_
    exact Q_round (i + 1) (by show (i + 1) ≤ N; omega) (by show N - (i + 1) < N - i; omega) (by repeat (first | exact .nil | refine .cons rfl ?_ | refine .consE rfl (by first | rfl | (congr 1; omega) | (congr 1; push_cast; omega)) ?_)) (by rw [Nat.zero_add, Nat.mul_one, show bitI .xor .u8 (m1.getD i 0) 51 = xorB 51 (m1.getD i 0) from rfl, xorP_set hlt hl1]; exact Weak.refl _)
  · skip
    obtain rfl : N = i := by omega
    refine R_exit ?_
    refine Q_then_exit ?_
    refine Q_then_exit ?_
    refine Q_block_eq ?_
    refine St.env (.cons (t := 0) rfl (.cons (t := 2) rfl (.cons (t := 6) rfl (.cons (t := 7) rfl (.cons (t := 8) rfl (.cons (t := 9) rfl (.cons (t := 11) rfl (.cons (t := 12) rfl (.cons (t := 13) rfl (.cons (t := 14) rfl .nil)))))))))) ?_
    refine Q_then ?_
    refine R_seq ?_
    refine R_region ?_
    refine L_val rfl rfl rfl (OpP.v (P_move rfl rfl)) ?_
    refine L_val rfl rfl rfl (OpP.v (P_move rfl rfl)) ?_
    refine L_op rfl (W_copy (k := ys.length) (news := ints .u8 ys) rfl rfl rfl ty_sl_24 rfl rfl rfl ((Nat.min_eq_left hNy).symm) (fun w nw => by have := Src.part (C := cx gl) (sz := 1) (k := ys.length) (m := ys.length) (c := cy) (Sn.row hpre.2 rfl).rw_ (by rw [ints_length]; omega) w nw; rwa [Nat.mul_one, ints_take, List.take_length] at this) (ints_one) .h1 (by rw [ints_length, ints_length, xorP_length, hl1]; omega) ?_)
    rw [splice_over (by rw [xorP_length, hl1]; exact hNy), ← hm2]
    refine L_nil ?_
    refine St.env (.cons (t := 0) rfl (.cons (t := 6) rfl (.cons (t := 7) rfl (.cons (t := 8) rfl (.cons (t := 9) rfl (.cons (t := 11) rfl (.cons (t := 12) rfl (.cons (t := 13) rfl (.cons (t := 14) rfl .nil))))))))) ?_
    refine Q_then ?_
    refine R_seq ?_
    refine R_region ?_
    refine L_val rfl rfl rfl (OpP.v (P_assign rfl rfl)) ?_
    refine L_nil ?_
    refine Q_then ?_
    refine R_seq ?_
    refine St.res (rs' := [ownS 5 1 (.slice none 0 0) 0 [], REG p [(a, s)] [(a, m1)], blk b56 (ints .u8 (m2)) 5, ownS 5 1 (.slice ub N uc) N (ints .u8 (m1)), blk b13 (ints .u8 (sealH a m1)) 33]) (Weak.newNil) ?_
    refine R_region ?_
    refine L_val rfl rfl rfl (OpP.v (P_move rfl rfl)) ?_
    refine L_val rfl rfl rfl (OpP.v (P_move rfl rfl)) ?_
    refine L_op rfl (W_append (p := []) rfl rfl rfl ty_sl_24 ty_ap_24 ty_src_24 rfl rfl rfl (Src.slice (sz := 1) (news := ints .u8 m2) (Rds.blk .h2) (by rw [ints_length, hl2]; omega) ints_one) (by omega) (by simp only [maxLen]; omega) fun v106 => ?_)
    refine St.ownForm (p := []) fun vb vc huvvb hvc => ?_
    subst huvvb
    refine E_as (t := 106) (v' := .slice vb N vc) rfl (by rw [Nat.zero_add]) ?_
    rw [Nat.zero_add] at hvc
    refine St.res (rs' := [REG p [(a, s)] [(a, m1)], blk b56 (ints .u8 (m2)) 5, ownS 5 1 (.slice ub N uc) N (ints .u8 (m1)), blk b13 (ints .u8 (sealH a m1)) 33, ownS 5 1 (.slice vb N vc) N (ints .u8 (m2))]) (by rw [Nat.zero_add, List.nil_append]; exact Weak.pick (p := [_]) (Weak.pick (p := [_]) (Weak.pick (p := [_]) (Weak.pick (p := [_]) (Weak.keep (Weak.nil _)))))) ?_
    refine L_val rfl rfl rfl (OpP.v (P_assign rfl rfl)) ?_
    refine L_nil ?_
    refine St.env (.cons (t := 0) rfl (.cons (t := 6) rfl (.cons (t := 7) rfl (.cons (t := 8) rfl (.cons (t := 9) rfl (.cons (t := 11) rfl (.cons (t := 12) rfl (.cons (t := 13) rfl (.cons (t := 14) rfl (.cons (t := 16) rfl .nil)))))))))) ?_
    refine Q_then ?_
    refine R_seq ?_
    refine R_region ?_
    refine L_val rfl rfl rfl (OpP.v (P_move rfl rfl)) ?_
    refine L_val rfl rfl rfl (V_strN (hl1) rfl (slB_spec ty_sl_24).1 ty_int_5 ty_str_9 rfl ((Sn.own .h2 rfl).rw_)) ?_
    refine L_val rfl rfl rfl (OpP.v (P_move rfl rfl)) ?_
    refine L_val rfl rfl rfl (V_strN (hl2) rfl (slB_spec ty_sl_24).1 ty_int_5 ty_str_9 rfl ((Sn.own .h4 rfl).rw_)) ?_
    refine L_val rfl rfl rfl (OpP.v (P_eqStr rfl rfl rfl hb1 hb2)) ?_
    refine L_val rfl rfl rfl (OpP.v (P_assign rfl rfl)) ?_
    refine L_nil ?_
    refine St.env (.cons (t := 0) rfl (.cons (t := 6) rfl (.cons (t := 7) rfl (.cons (t := 8) rfl (.cons (t := 9) rfl (.cons (t := 11) rfl (.cons (t := 12) rfl (.cons (t := 13) rfl (.cons (t := 14) rfl (.cons (t := 16) rfl (.cons (t := 17) rfl .nil))))))))))) ?_
    refine Q_then ?_
    refine R_seq ?_
    refine R_region ?_
    refine L_val rfl rfl rfl (OpP.v (P_move rfl rfl)) ?_
    refine L_val rfl rfl rfl (OpP.v (P_move rfl rfl)) ?_
    refine L_val rfl rfl rfl (OpP.v (P_move rfl rfl)) ?_
    refine L_val rfl rfl rfl (OpP.v (P_move rfl rfl)) ?_
    refine L_val rfl rfl rfl (OpP.v (P_move rfl rfl)) ?_
    refine L_op rfl (W_callV rfl rfl rfl rfl fn_ca_20 (by have h := of_ok (gl := gl) hG a vb vc m2 (by omega); rw [hl2] at h; exact h) ((Sn.own .h4 rfl).rw_) ?_)
    refine L_op rfl (W_callR rfl rfl rfl rfl fn_ca_19 (by have h := check_ok (gl := gl) hG.toGlobs p [(a, s)] [(a, m1)] a (some ⟨b56, 0, none⟩) N m2 (sealH a m2) hb2 (by omega) (sealH_length _ _); rw [hl2] at h; exact h) (Split.one (p := [])) (Sn.pre (Sn.ofBlk .h0)) ?_)
    refine St.res (rs' := [REG p [(a, s)] [(a, m1)], blk b56 (ints .u8 (m2)) 5, ownS 5 1 (.slice ub N uc) N (ints .u8 (m1)), blk b13 (ints .u8 (sealH a m1)) 33, ownS 5 1 (.slice vb N vc) N (ints .u8 (m2))]) (Weak.refl _) ?_
    refine L_val rfl rfl rfl (OpP.v (P_assign rfl rfl)) ?_
    refine L_nil ?_
    refine St.env (.cons (t := 0) rfl (.cons (t := 6) rfl (.cons (t := 7) rfl (.cons (t := 8) rfl (.cons (t := 9) rfl (.cons (t := 11) rfl (.cons (t := 12) rfl (.cons (t := 13) rfl (.cons (t := 14) rfl (.cons (t := 16) rfl (.cons (t := 17) rfl .nil))))))))))) ?_
    refine Q_then ?_
    refine R_seq ?_
    refine R_region ?_
    refine L_val rfl rfl rfl (OpP.v (P_move rfl rfl)) ?_
    refine L_val rfl rfl rfl (OpP.v (P_move rfl rfl)) ?_
    refine L_val rfl rfl rfl (OpP.v (P_move rfl rfl)) ?_
    refine L_val rfl rfl rfl (V_loadAgg rfl rfl ty_ag_33 (Rds.blk .h3) (by rw [ints_length, sealH_length])) ?_
    refine L_op rfl (W_callR rfl rfl rfl rfl fn_ca_19 (by have h := check_ok (gl := gl) hG.toGlobs p [(a, s)] [(a, m1)] a (some ⟨b56, 0, none⟩) N m2 (sealH a m1) hb2 (by omega) (sealH_length _ _); rw [hl2] at h; exact h) (Split.one (p := [])) (Sn.pre (Sn.ofBlk .h0)) ?_)
    refine St.res (rs' := [REG p [(a, s)] [(a, m1)], blk b56 (ints .u8 (m2)) 5, ownS 5 1 (.slice ub N uc) N (ints .u8 (m1)), blk b13 (ints .u8 (sealH a m1)) 33, ownS 5 1 (.slice vb N vc) N (ints .u8 (m2))]) (Weak.refl _) ?_
    refine L_val rfl rfl rfl (OpP.v (P_assign rfl rfl)) ?_
    refine L_nil ?_
    refine St.env (.cons (t := 0) rfl (.cons (t := 6) rfl (.cons (t := 7) rfl (.cons (t := 8) rfl (.cons (t := 9) rfl (.cons (t := 11) rfl (.cons (t := 12) rfl (.cons (t := 13) rfl (.cons (t := 14) rfl (.cons (t := 16) rfl (.cons (t := 17) rfl (.cons (t := 18) rfl .nil)))))))))))) ?_
    refine Q_then ?_
    refine R_seq ?_
    refine R_seq ?_
    refine R_region ?_
    refine L_val rfl rfl rfl (OpP.v (P_move rfl rfl)) ?_
    refine L_val rfl rfl rfl (OpP.v (P_move rfl rfl)) ?_
    refine L_val rfl rfl rfl (OpP.v (P_neq_bool rfl ty_bool_4 rfl rfl)) ?_
    refine E_false (t := 126) rfl (by by_cases h : m1 = m2 <;> simp [h, eq_comm]) ?_
    refine L_val rfl rfl rfl (OpP.v (P_move rfl rfl)) ?_
    refine L_val rfl rfl rfl (OpP.v (P_move rfl rfl)) ?_
    refine L_val rfl rfl rfl (OpP.v (P_move rfl rfl)) ?_
    refine L_val rfl rfl rfl (OpP.v (P_neq_bool rfl ty_bool_4 rfl rfl)) ?_
    refine E_false (t := 130) rfl (by by_cases h : m1 = m2 <;> simp [h, eq_comm]) ?_
    refine L_val rfl rfl rfl (OpP.v (P_pick rfl rfl rfl)) ?_
    refine L_nil ?_
    refine St.env (.cons (t := 0) rfl (.cons (t := 6) rfl (.cons (t := 7) rfl (.cons (t := 8) rfl (.cons (t := 9) rfl (.cons (t := 11) rfl (.cons (t := 12) rfl (.cons (t := 13) rfl (.cons (t := 14) rfl (.cons (t := 16) rfl (.cons (t := 18) rfl (.cons (t := 131) rfl .nil)))))))))))) ?_
    refine Q_then ?_
    refine R_condF rfl ?_
    refine R_skip ?_
    refine Q_then ?_
    refine R_seq ?_
    refine R_region ?_
    refine L_val rfl rfl rfl (OpP.v (P_move rfl rfl)) ?_
    refine L_val rfl rfl rfl (OpP.v (P_move rfl rfl)) ?_
    refine L_op rfl (W_callR rfl rfl rfl rfl fn_ca_18 (by have h := sign_any (gl := gl) hG.toGlobs p [(a, s)] [(a, m1)] 0 a s rfl (some ⟨b56, 0, none⟩) N m2 hb2 (by omega) (show 1 ≤ 4398046511104 by decide); rw [hl2] at h; exact h) (Split.one (p := [])) (Sn.pre (Sn.ofBlk .h0)) ?_)
    refine St.res (rs' := [REG p [(a, s)] (addR [(a, m1)] (a, m2)), blk b56 (ints .u8 (m2)) 5, ownS 5 1 (.slice ub N uc) N (ints .u8 (m1)), blk b13 (ints .u8 (sealH a m1)) 33, ownS 5 1 (.slice vb N vc) N (ints .u8 (m2))]) (Weak.refl _) ?_
    refine L_val rfl rfl rfl (OpP.v (P_move rfl rfl)) ?_
    refine L_val rfl rfl rfl (OpP.v (P_extract rfl rfl rfl)) ?_
    refine L_val rfl rfl rfl (OpP.v (P_extract rfl rfl rfl)) ?_
    refine L_op rfl (W_alloc rfl rfl rfl ty_ze_33 fun b19 => ?_)
    refine L_op rfl (W_storeAll rfl rfl rfl rfl ty_ag_33 (by rw [ints_length, sealH_length]) (ints_one) .h0 (by rw [ints_length, sealH_length]; rfl) ?_)
    refine L_val rfl rfl rfl (OpP.v (P_assign rfl rfl)) ?_
    refine L_nil ?_
    refine St.env (.cons (t := 0) rfl (.cons (t := 6) rfl (.cons (t := 7) rfl (.cons (t := 9) rfl (.cons (t := 11) rfl (.cons (t := 12) rfl (.cons (t := 13) rfl (.cons (t := 14) rfl (.cons (t := 16) rfl (.cons (t := 18) rfl (.cons (t := 19) rfl .nil))))))))))) ?_
    refine Q_then ?_
    refine R_seq ?_
    refine St.res (rs' := [REG p [(a, s)] (addR [(a, m1)] (a, m2)), blk b56 (ints .u8 (m2)) 5, ownS 5 1 (.slice ub N uc) N (ints .u8 (m1)), blk b13 (ints .u8 (sealH a m1)) 33, ownS 5 1 (.slice vb N vc) N (ints .u8 (m2)), blk b19 (ints .u8 (sealH a m2)) 33]) (Weak.pick (p := [_]) (Weak.pick (p := [_]) (Weak.pick (p := [_]) (Weak.pick (p := [_]) (Weak.pick (p := [_]) (Weak.keep (Weak.nil _))))))) ?_
    refine R_region ?_
    refine L_val rfl rfl rfl (OpP.v (P_move rfl rfl)) ?_
    refine L_val rfl rfl rfl (OpP.v (P_move rfl rfl)) ?_
    refine L_val rfl rfl rfl (OpP.v (P_move rfl rfl)) ?_
    refine L_val rfl rfl rfl (V_loadAgg rfl rfl ty_ag_33 (Rds.blk .h5) (by rw [ints_length, sealH_length])) ?_
    refine L_op rfl (W_callR rfl rfl rfl rfl fn_ca_19 (by have h := check_ok (gl := gl) hG.toGlobs p [(a, s)] (addR [(a, m1)] (a, m2)) a (some ⟨b56, 0, none⟩) N m2 (sealH a m2) hb2 (by omega) (sealH_length _ _); rw [hl2] at h; exact h) (Split.one (p := [])) (Sn.pre (Sn.ofBlk .h0)) ?_)
    refine St.res (rs' := [REG p [(a, s)] (addR [(a, m1)] (a, m2)), blk b56 (ints .u8 (m2)) 5, ownS 5 1 (.slice ub N uc) N (ints .u8 (m1)), blk b13 (ints .u8 (sealH a m1)) 33, ownS 5 1 (.slice vb N vc) N (ints .u8 (m2)), blk b19 (ints .u8 (sealH a m2)) 33]) (Weak.refl _) ?_
    refine E_true (t := 142) rfl (by simp [mem_addR]) ?_
    refine L_val rfl rfl rfl (OpP.v (P_assign rfl rfl)) ?_
    refine L_nil ?_
    refine St.env (.cons (t := 0) rfl (.cons (t := 6) rfl (.cons (t := 7) rfl (.cons (t := 9) rfl (.cons (t := 12) rfl (.cons (t := 13) rfl (.cons (t := 14) rfl (.cons (t := 16) rfl (.cons (t := 18) rfl (.cons (t := 19) rfl .nil)))))))))) ?_
    refine Q_then ?_
    refine R_seq ?_
    refine R_region ?_
    refine L_val rfl rfl rfl (OpP.v (P_move rfl rfl)) ?_
    refine L_val rfl rfl rfl (OpP.v (P_move rfl rfl)) ?_
    refine L_val rfl rfl rfl (OpP.v (P_move rfl rfl)) ?_
    refine L_val rfl rfl rfl (V_loadAgg rfl rfl ty_ag_33 (Rds.blk .h3) (by rw [ints_length, sealH_length])) ?_
    refine L_op rfl (W_callR rfl rfl rfl rfl fn_ca_19 (by have h := check_ok (gl := gl) hG.toGlobs p [(a, s)] (addR [(a, m1)] (a, m2)) a (ub) uc m1 (sealH a m1) hb1 (by omega) (sealH_length _ _); rw [hl1] at h; exact h) (Split.one (p := [])) (Sn.pre (Sn.own .h1 rfl)) ?_)
    refine St.res (rs' := [REG p [(a, s)] (addR [(a, m1)] (a, m2)), blk b56 (ints .u8 (m2)) 5, ownS 5 1 (.slice ub N uc) N (ints .u8 (m1)), blk b13 (ints .u8 (sealH a m1)) 33, ownS 5 1 (.slice vb N vc) N (ints .u8 (m2)), blk b19 (ints .u8 (sealH a m2)) 33]) (Weak.refl _) ?_
    refine E_true (t := 147) rfl (by simp [mem_addR]) ?_
    refine L_val rfl rfl rfl (OpP.v (P_assign rfl rfl)) ?_
    refine L_nil ?_
    refine St.env (.cons (t := 0) rfl (.cons (t := 6) rfl (.cons (t := 9) rfl (.cons (t := 14) rfl (.cons (t := 16) rfl (.cons (t := 18) rfl (.cons (t := 19) rfl .nil))))))) ?_
    refine Q_then ?_
    refine R_seq ?_
    refine R_open [(0, 0), (1, 2), (2, 0), (3, 0), (4, 1), (5, 0), (6, 0), (7, 2), (8, 0), (9, 0), (10, 0), (11, 0), (12, 0), (13, 0), (14, 0), (15, 0), (16, 0)] mixed (by kernel_rfl) (QOk.then QOk.body) ?_
    refine O_pure rfl rfl rfl rfl (P_move rfl rfl) ?_
    refine O_keep rfl rfl (W_callV rfl rfl rfl rfl fn_ca_17 (num_ok 0) (fun _ _ => trivial) (K_keep (Weak.refl _) ?_))
    refine O_pure rfl rfl rfl rfl (P_eql rfl rfl rfl) ?_
    refine E_true (t := 150) rfl (rfl) ?_
    refine O_pure rfl rfl rfl rfl (P_move rfl rfl) ?_
    refine O_val rfl rfl rfl rfl (V_loadAgg rfl rfl ty_ag_33 (Rds.blk .h5) (by rw [ints_length, sealH_length])) ?_
    refine O_pure rfl rfl rfl rfl (P_move rfl rfl) ?_
    refine O_pure rfl rfl rfl rfl (P_move rfl rfl) ?_
    refine O_keep rfl rfl (W_callV rfl rfl rfl rfl fn_ca_20 (by have h := of_ok (gl := gl) hG a vb vc m2 (by omega); rw [hl2] at h; exact h) ((Sn.own .h4 rfl).rw_) (K_keep (Weak.refl _) ?_))
    refine O_pure rfl rfl rfl rfl (P_eqArr rfl rfl rfl ty_un_33 ty_int_5 ty_sc_5 ty_eg_33 (sealH_length _ _) (sealH_length _ _)) ?_
    refine E_true (t := 156) rfl (decide_eq_true rfl) ?_
    refine O_pure rfl rfl rfl rfl (P_pick rfl rfl rfl) ?_
    refine O_pure rfl rfl rfl rfl (P_move rfl rfl) ?_
    refine O_pure rfl rfl rfl rfl (P_move rfl rfl) ?_
    refine O_pure rfl rfl rfl rfl (P_pick rfl rfl rfl) ?_
    refine O_pure rfl rfl rfl rfl (P_move rfl rfl) ?_
    refine O_pure rfl rfl rfl rfl (P_move rfl rfl) ?_
    refine O_pure rfl rfl rfl rfl (P_pick rfl rfl rfl) ?_
    refine O_pure rfl rfl rfl rfl (P_assign rfl rfl) ?_
    refine O_nil ?_
    refine St.env (.cons (t := 6) rfl .nil) ?_
    refine Q_then ?_
    refine R_ret ?_
    exact R_endV rfl rfl (.tmp rfl .nil) (rfl)
theorem sealTurns_walk {gl : Nat → Obj} (hG : GlobsR gl) (a : Int) (bx by_ : Option Addr) (cx_ cy : Nat) (xs ys : List Int) (hbx : IsB xs) (hby : IsB ys) : SpecV (cx gl) 3 [.int .u64 a, .slice bx xs.length cx_, .slice by_ ys.length cy] (fun w => Row w bx (ints .u8 xs) ∧ Row w by_ (ints .u8 ys)) (.bool true) := by
  by_cases ha : a = 0
  · subst ha; exact turns_zero hG bx by_ cx_ cy xs ys
  · by_cases hx : xs.length ≤ 1000
    · by_cases hy : ys.length ≤ 1000
      · exact turns_ok hG a ha bx by_ cx_ cy xs ys hx hy hbx hby
      · exact turns_y hG a ha bx by_ cx_ cy xs ys hx (by omega)
    · exact turns_x hG a ha bx by_ cx_ cy xs ys (by omega)
end Go.Proofs.YtnaadddnbfnahaaDoor
