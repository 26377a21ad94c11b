/- Walks: Lists, DigestLists. Printed by gen.py. -/
import Derived.Test.YtldndhekjhlbmaaDoorD14
import Derived.Test.YtldndhekjhlbmaaDoorAlive
set_option linter.unusedVariables false
set_option linter.unusedSimpArgs false
set_option maxRecDepth 100000
namespace Go.Proofs.YtldndhekjhlbmaaDoor
open Go Go.RowKit Go.Proofs
theorem V_strN {C : Cx} {F : Fx} {l : Env} {rs : List HP} {o : Oper} {t t' e c n : Nat} {x : Operand} {base : Option Addr} {xs : List Int} (hl : xs.length = n) (ho : o.op = .convert t t' x) (hs : C.P.underlying t = some (.slice e)) (he : C.P.underlying e = some (.int .u8)) (ht : C.P.underlying t' = some .string) (hx : ev l x = some (.slice base n c)) (hr : Rw C F rs base (ints .u8 xs)) : OpV C F l rs o (.string (strOfNums xs)) := by
  subst hl; exact V_str ho hs he ht hx hr
theorem lists_ok {gl : Nat → Obj} (hG : GlobsR gl) (ba : Option Addr) (ca : Nat) (va : List Value) (xss : List (List Int)) (bb : Option Addr) (cb : Nat) (vb : List Value) (yss : List (List Int)) (hvx : va.length = xss.length) (hvy : vb.length = yss.length) (hca : va.length ≤ ca) (hcb : vb.length ≤ cb) (hB : bigL xss = false) (hB' : bigL yss = false) (h1 : ∀ x ∈ xss, IsB x) (h2 : ∀ y ∈ yss, IsB y) (hroot : rootH xss.length (topH (leaves xss)) = rootH yss.length (topH (leaves yss))) : Spec (cx gl) 27 [.slice ba va.length ca, .slice bb vb.length cb] (fun w _ => Items w ba va xss ∧ Items w bb vb yss) [] (fun v rs => (∃ s c : Bool, v = .tuple #[.bool s, .bool c] ∧ (s || c) = true) ∧ rs = []) := by
  refine Spec.enter (C := cx gl) Tryd.func27 rfl 33 rfl rfl fun w0 h0 hsep hsub hpre => ?_
  obtain rfl : h0 = Heap.none := hsep
  show St (cx gl) _ [(0, .slice ba va.length ca), (1, .slice bb vb.length cb)] _ _
  obtain ⟨g1, _, g3⟩ := bigL_false hB
  obtain ⟨k1, _, k3⟩ := bigL_false hB'
  rw [← hvx, ← hvy] at hroot
  refine R_seq ?_
  refine R_region ?_
  refine L_val rfl rfl rfl (OpP.v (P_assign rfl rfl)) ?_
  refine L_val rfl rfl rfl (OpP.v (P_assign rfl rfl)) ?_
  refine L_nil ?_
  refine Q_then ?_
  refine R_seq ?_
  refine R_region ?_
  refine L_val rfl rfl rfl (OpP.v (P_move rfl rfl)) ?_
  refine L_val rfl rfl rfl (OpP.v (P_len rfl ty_sl_36 rfl)) ?_
  refine L_val rfl rfl rfl (OpP.v (P_move rfl rfl)) ?_
  refine L_op rfl (W_callV rfl rfl rfl rfl fn_ca_49 (rtop_ok hG va.length _ _ va xss (Nat.le_refl _) (by omega) hvx (fun x hx => by have := g3 x hx; omega) hca) (Items.row hpre.1 rfl) ?_)
  refine L_op rfl (W_call rfl rfl rfl rfl fn_ca_50 (rootText_ok (va.length : Int) (topH (leaves xss)) (topH_length (leaves_len _))) (Split.nil _) (fun _ _ _ _ _ _ _ => trivial) fun v13 rs1 (e1 : rs1 = _) => ?_)
  subst e1
  refine St.openOwn (p := []) (by omega) fun tb1 tcap1 junk1 htc1 htl1 htv => ?_
  subst htv
  refine St.res (rs' := [blk tb1 (ints .u8 (2 :: (numB (va.length : Int) ++ topH (leaves xss))) ++ junk1) 5]) (Weak.refl _) ?_
  refine L_val rfl rfl rfl (OpP.v (P_assign rfl rfl)) ?_
  refine L_nil ?_
  refine St.env (.cons (t := 0) rfl (.cons (t := 1) rfl (.cons (t := 4) rfl (.cons (t := 5) rfl (.cons (t := 6) rfl .nil))))) ?_
  refine Q_then ?_
  refine R_seq ?_
  refine R_region ?_
  refine L_val rfl rfl rfl (OpP.v (P_move rfl rfl)) ?_
  refine L_val rfl rfl rfl (OpP.v (P_len rfl ty_sl_36 rfl)) ?_
  refine L_val rfl rfl rfl (OpP.v (P_move rfl rfl)) ?_
  refine L_op rfl (W_callV rfl rfl rfl rfl fn_ca_49 (rtop_ok hG vb.length _ _ vb yss (Nat.le_refl _) (by omega) hvy (fun x hx => by have := k3 x hx; omega) hcb) (Items.row hpre.2 rfl) ?_)
  refine L_op rfl (W_call rfl rfl rfl rfl fn_ca_50 (rootText_ok (vb.length : Int) (topH (leaves yss)) (topH_length (leaves_len _))) (Split.nil _) (fun _ _ _ _ _ _ _ => trivial) fun v18 rs1 (e1 : rs1 = _) => ?_)
  subst e1
  refine St.openOwn (p := []) (by omega) fun tb2 tcap2 junk2 htc2 htl2 htv => ?_
  subst htv
  refine St.res (rs' := [blk tb2 (ints .u8 (2 :: (numB (vb.length : Int) ++ topH (leaves yss))) ++ junk2) 5, blk tb1 (ints .u8 (2 :: (numB (va.length : Int) ++ topH (leaves xss))) ++ junk1) 5]) (Weak.refl _) ?_
  refine L_val rfl rfl rfl (OpP.v (P_assign rfl rfl)) ?_
  refine L_nil ?_
  refine St.env (.cons (t := 0) rfl (.cons (t := 1) rfl (.cons (t := 4) rfl (.cons (t := 5) rfl (.cons (t := 6) rfl (.cons (t := 7) rfl .nil)))))) ?_
  refine Q_then ?_
  refine R_seq ?_
  refine R_seq ?_
  refine R_region ?_
  refine L_val rfl rfl rfl (OpP.v (P_move rfl rfl)) ?_
  refine L_val rfl rfl rfl (V_strN (by rw [List.length_cons, List.length_append, numB_length, topH_length (leaves_len _)]) rfl (slB_spec ty_sl_26).1 ty_int_5 ty_str_9 rfl ((Sn.ofBlkAt .h1 fun i v h => app_at i v h).rw_)) ?_
  refine L_val rfl rfl rfl (OpP.v (P_move rfl rfl)) ?_
  refine L_val rfl rfl rfl (V_strN (by rw [List.length_cons, List.length_append, numB_length, topH_length (leaves_len _)]) rfl (slB_spec ty_sl_26).1 ty_int_5 ty_str_9 rfl ((Sn.ofBlkAt .h0 fun i v h => app_at i v h).rw_)) ?_
  refine L_val rfl rfl rfl (OpP.v (P_neStr rfl rfl rfl (IsB.cons (by decide) (by decide) (IsB.append (isB_numB _) (isB_topH (isB_leaves _)))) (IsB.cons (by decide) (by decide) (IsB.append (isB_numB _) (isB_topH (isB_leaves _)))))) ?_
  refine L_nil ?_
  refine St.env (.cons (t := 0) rfl (.cons (t := 1) rfl (.cons (t := 4) rfl (.cons (t := 5) rfl (.cons (t := 6) rfl (.cons (t := 7) rfl (.cons (t := 23) rfl .nil))))))) ?_
  refine Q_then ?_
  refine R_condP rfl (fun hne => ?_) (fun hne => ?_)
  · skip
    refine R_seq ?_
    refine R_region ?_
    refine L_val rfl rfl rfl (OpP.v (P_move rfl rfl)) ?_
    refine L_val rfl rfl rfl (OpP.v (P_move rfl rfl)) ?_
    refine L_op rfl (W_callV rfl rfl rfl rfl fn_ca_51 (clash_okN hG (some ⟨tb1, 0, none⟩) tcap1 (2 :: (numB (va.length : Int) ++ topH (leaves xss))) (some ⟨tb2, 0, none⟩) tcap2 (2 :: (numB (vb.length : Int) ++ topH (leaves yss))) (by rw [List.length_cons, List.length_append, numB_length, topH_length (leaves_len _)]) (by rw [List.length_cons, List.length_append, numB_length, topH_length (leaves_len _)]) (by omega) (by omega) (by decide) (by decide) (IsB.cons (by decide) (by decide) (IsB.append (isB_numB _) (isB_topH (isB_leaves _)))) (IsB.cons (by decide) (by decide) (IsB.append (isB_numB _) (isB_topH (isB_leaves _))))) (fun w nw => ⟨(Sn.ofBlkAt .h1 fun i v h => app_at i v h).rw_ w nw, (Sn.ofBlkAt .h0 fun i v h => app_at i v h).rw_ w nw⟩) ?_)
    refine L_val rfl rfl rfl (OpP.v (P_assign rfl rfl)) ?_
    refine L_nil ?_
    refine St.env (.cons (t := 0) rfl (.cons (t := 1) rfl (.cons (t := 4) rfl (.cons (t := 5) rfl (.cons (t := 8) rfl .nil))))) ?_
    refine Q_then ?_
    refine R_seq ?_
    refine R_region ?_
    refine L_val rfl rfl rfl (OpP.v (P_move rfl rfl)) ?_
    refine L_val rfl rfl rfl (OpP.v (P_assign rfl rfl)) ?_
    refine L_val rfl rfl rfl (OpP.v (P_assign rfl rfl)) ?_
    refine L_nil ?_
    refine St.env (.cons (t := 0) rfl (.cons (t := 1) rfl (.cons (t := 4) rfl (.cons (t := 5) rfl .nil)))) ?_
    refine Q_then ?_
    refine R_ret ?_
    refine Q_then_ret ?_
    exact R_end (rs2 := []) rfl rfl (.tmp rfl (.tmp rfl .nil)) (⟨⟨false, _, rfl, by rw [Bool.false_or]; exact clashB_of hne hroot⟩, rfl⟩) (Weak.nil _)
  · skip
    have heq := Classical.not_not.1 hne
    obtain ⟨hlen, htop⟩ := rootText_inj (by omega) (by omega) heq
    refine R_skip ?_
    refine Q_then ?_
    refine R_seq ?_
    refine R_region ?_
    refine L_val rfl rfl rfl (OpP.v (P_move rfl rfl)) ?_
    refine L_val rfl rfl rfl (OpP.v (P_move rfl rfl)) ?_
    refine L_op rfl (W_call rfl rfl rfl rfl fn_ca_52 (halves_ok hG (va.length + 1) (by omega) ba ca va xss bb cb vb yss (by omega) hlen hvx hvy hca hcb (fun x hx => ⟨by have := g3 x hx; omega, h1 x hx⟩) (fun x hx => ⟨by have := k3 x hx; omega, h2 x hx⟩) htop) (Split.nil _) (fun w a b _ hb dj m => ⟨Items.row hpre.1 rfl w ⟨_, hb, m.le (Heap.le_join_right dj)⟩, Items.row hpre.2 rfl w ⟨_, hb, m.le (Heap.le_join_right dj)⟩⟩) fun v30 rs1 ⟨⟨s1, c1, e1, hsc1⟩, e2⟩ => ?_)
    subst e1; subst e2
    refine L_val rfl rfl rfl (OpP.v (P_extract rfl rfl rfl)) ?_
    refine L_val rfl rfl rfl (OpP.v (P_extract rfl rfl rfl)) ?_
    refine L_val rfl rfl rfl (OpP.v (P_assign rfl rfl)) ?_
    refine L_val rfl rfl rfl (OpP.v (P_assign rfl rfl)) ?_
    refine L_nil ?_
    refine St.env (.cons (t := 4) rfl (.cons (t := 5) rfl .nil)) ?_
    refine Q_then ?_
    refine R_ret ?_
    exact R_end (rs2 := []) rfl rfl (.tmp rfl (.tmp rfl .nil)) (⟨⟨s1, c1, rfl, hsc1⟩, rfl⟩) (Weak.nil _)
theorem digestLists_walk {gl : Nat → Obj} (hG : GlobsR gl) (ba : Option Addr) (ca : Nat) (va : List Value) (xss : List (List Int)) (bb : Option Addr) (cb : Nat) (vb : List Value) (yss : List (List Int)) (hvx : va.length = xss.length) (hvy : vb.length = yss.length) (hca : va.length ≤ ca) (hcb : vb.length ≤ cb) (hma : va.length ≤ 70368744177664) (hmb : vb.length ≤ 70368744177664) (h1 : ∀ x ∈ xss, IsB x) (h2 : ∀ y ∈ yss, IsB y) : SpecV (cx gl) 7 [.slice ba va.length ca, .slice bb vb.length cb] (fun w => Items w ba va xss ∧ Items w bb vb yss) (.bool true) := by
  refine Spec.enter (C := cx gl) Tryd.func7 rfl 68 rfl rfl fun w0 h0 hsep hsub hpre => ?_
  obtain rfl : h0 = Heap.none := hsep
  show St (cx gl) _ [(0, .slice ba va.length ca), (1, .slice bb vb.length cb)] _ _
  refine R_seq ?_
  refine R_region ?_
  refine L_val rfl rfl rfl (OpP.v (P_assign rfl rfl)) ?_
  refine L_nil ?_
  refine Q_then ?_
  refine R_seq ?_
  refine R_region ?_
  refine L_op rfl (W_callV rfl rfl rfl rfl fn_ca_20 (alive_ok hG.toGlobs) (fun _ _ => trivial) ?_)
  refine E_true (t := 16) rfl (rfl) ?_
  refine L_val rfl rfl rfl (OpP.v (P_assign rfl rfl)) ?_
  refine L_nil ?_
  refine St.env (.cons (t := 0) rfl (.cons (t := 1) rfl (.cons (t := 4) rfl (.cons (t := 5) rfl .nil)))) ?_
  refine Q_then ?_
  refine R_seq ?_
  refine R_seq ?_
  refine R_region ?_
  refine L_val rfl rfl rfl (OpP.v (P_move rfl rfl)) ?_
  refine L_val rfl rfl rfl (OpP.v (P_not rfl rfl)) ?_
  refine L_nil ?_
  refine St.env (.cons (t := 0) rfl (.cons (t := 1) rfl (.cons (t := 4) rfl (.cons (t := 18) rfl .nil)))) ?_
  refine Q_then ?_
  refine R_condF rfl ?_
  refine R_skip ?_
  refine Q_then ?_
  refine R_seq ?_
  refine R_region ?_
  refine L_val rfl rfl rfl (OpP.v (P_move rfl rfl)) ?_
  refine L_op rfl (W_callV rfl rfl rfl rfl fn_ca_25 (root_ok hG.toGlobs ba ca va xss hvx hca (by omega)) (Items.row hpre.1 rfl) ?_)
  refine L_val rfl rfl rfl (OpP.v (P_move rfl rfl)) ?_
  refine L_val rfl rfl rfl (OpP.v (P_extract rfl rfl rfl)) ?_
  refine L_val rfl rfl rfl (OpP.v (P_extract rfl rfl rfl)) ?_
  refine L_op rfl (W_alloc rfl rfl rfl ty_ze_23 fun b6 => ?_)
  refine L_op rfl (W_storeAll rfl rfl rfl rfl ty_ag_23 (by rw [ints_length, rootD_length]) (ints_one) .h0 (by rw [ints_length, rootD_length]; rfl) ?_)
  refine L_val rfl rfl rfl (OpP.v (P_assign rfl rfl)) ?_
  refine L_nil ?_
  refine St.env (.cons (t := 0) rfl (.cons (t := 1) rfl (.cons (t := 4) rfl (.cons (t := 6) rfl (.cons (t := 7) rfl .nil))))) ?_
  refine Q_then ?_
  refine R_seq ?_
  refine R_region ?_
  refine L_val rfl rfl rfl (OpP.v (P_move rfl rfl)) ?_
  refine L_op rfl (W_callV rfl rfl rfl rfl fn_ca_25 (root_ok hG.toGlobs bb cb vb yss hvy hcb (by omega)) (Items.row hpre.2 rfl) ?_)
  refine L_val rfl rfl rfl (OpP.v (P_move rfl rfl)) ?_
  refine L_val rfl rfl rfl (OpP.v (P_extract rfl rfl rfl)) ?_
  refine L_val rfl rfl rfl (OpP.v (P_extract rfl rfl rfl)) ?_
  refine L_op rfl (W_alloc rfl rfl rfl ty_ze_23 fun b8 => ?_)
  refine L_op rfl (W_storeAll rfl rfl rfl rfl ty_ag_23 (by rw [ints_length, rootD_length]) (ints_one) .h0 (by rw [ints_length, rootD_length]; rfl) ?_)
  refine L_val rfl rfl rfl (OpP.v (P_assign rfl rfl)) ?_
  refine L_nil ?_
  refine St.env (.cons (t := 0) rfl (.cons (t := 1) rfl (.cons (t := 4) rfl (.cons (t := 6) rfl (.cons (t := 7) rfl (.cons (t := 8) rfl (.cons (t := 9) rfl .nil))))))) ?_
  refine Q_then ?_
  refine R_seq ?_
  refine R_seq ?_
  refine R_region ?_
  refine L_val rfl rfl rfl (OpP.v (P_move rfl rfl)) ?_
  refine L_val rfl rfl rfl (OpP.v (P_neq rfl rfl rfl)) ?_
  refine E_bool (t := 30) rfl (fun he => ?_) (fun he => ?_)
  · skip
    refine L_val rfl rfl rfl (OpP.v (P_move rfl rfl)) ?_
    refine L_no rfl rfl rfl ?_
    refine L_no rfl rfl rfl ?_
    refine L_val rfl rfl rfl (OpP.v (P_pick rfl rfl rfl)) ?_
    refine L_val rfl rfl rfl (OpP.v (P_move rfl rfl)) ?_
    refine L_no rfl rfl rfl ?_
    refine L_no rfl rfl rfl ?_
    refine L_no rfl rfl rfl ?_
    refine L_val rfl rfl rfl (OpP.v (P_pick rfl rfl rfl)) ?_
    refine L_nil ?_
    refine St.env (.cons (t := 0) rfl (.cons (t := 1) rfl (.cons (t := 4) rfl (.cons (t := 7) rfl (.cons (t := 9) rfl (.cons (t := 39) rfl .nil)))))) ?_
    refine Q_then ?_
    refine R_condT rfl ?_
    refine R_seq ?_
    refine R_region ?_
    refine L_val rfl rfl rfl (OpP.v (P_move rfl rfl)) ?_
    refine L_op rfl (W_callV rfl rfl rfl rfl fn_ca_26 (rroot_ok hG ba ca va xss hvx hca (by omega)) (Items.row hpre.1 rfl) ?_)
    refine L_val rfl rfl rfl (OpP.v (P_move rfl rfl)) ?_
    refine L_val rfl rfl rfl (OpP.v (P_extract rfl rfl rfl)) ?_
    refine L_val rfl rfl rfl (OpP.v (P_extract rfl rfl rfl)) ?_
    refine L_op rfl (W_alloc rfl rfl rfl ty_ze_23 fun b10 => ?_)
    refine L_op rfl (W_storeAll rfl rfl rfl rfl ty_ag_23 (by rw [ints_length, rootD_length]) (ints_one) .h0 (by rw [ints_length, rootD_length]; rfl) ?_)
    refine L_val rfl rfl rfl (OpP.v (P_assign rfl rfl)) ?_
    refine L_nil ?_
    refine St.env (.cons (t := 0) rfl (.cons (t := 1) rfl (.cons (t := 4) rfl (.cons (t := 7) rfl (.cons (t := 9) rfl (.cons (t := 11) rfl .nil)))))) ?_
    refine Q_then ?_
    refine R_seq ?_
    refine R_region ?_
    refine L_val rfl rfl rfl (OpP.v (P_move rfl rfl)) ?_
    refine L_op rfl (W_callV rfl rfl rfl rfl fn_ca_26 (rroot_ok hG bb cb vb yss hvy hcb (by omega)) (Items.row hpre.2 rfl) ?_)
    refine L_val rfl rfl rfl (OpP.v (P_move rfl rfl)) ?_
    refine L_val rfl rfl rfl (OpP.v (P_extract rfl rfl rfl)) ?_
    refine L_val rfl rfl rfl (OpP.v (P_extract rfl rfl rfl)) ?_
    refine L_op rfl (W_alloc rfl rfl rfl ty_ze_23 fun b12 => ?_)
    refine L_op rfl (W_storeAll rfl rfl rfl rfl ty_ag_23 (by rw [ints_length, rootD_length]) (ints_one) .h0 (by rw [ints_length, rootD_length]; rfl) ?_)
    refine L_val rfl rfl rfl (OpP.v (P_assign rfl rfl)) ?_
    refine L_nil ?_
    refine St.env (.cons (t := 0) rfl (.cons (t := 1) rfl (.cons (t := 4) rfl (.cons (t := 7) rfl (.cons (t := 9) rfl (.cons (t := 11) rfl (.cons (t := 13) rfl .nil))))))) ?_
    refine Q_then ?_
    refine R_seq ?_
    refine R_region ?_
    refine L_val rfl rfl rfl (OpP.v (P_move rfl rfl)) ?_
    refine L_val rfl rfl rfl (OpP.v (P_move rfl rfl)) ?_
    refine L_val rfl rfl rfl (OpP.v (P_eql rfl rfl rfl)) ?_
    refine E_true (t := 52) rfl (decide_eq_true rfl) ?_
    refine L_val rfl rfl rfl (OpP.v (P_move rfl rfl)) ?_
    refine L_val rfl rfl rfl (OpP.v (P_move rfl rfl)) ?_
    refine L_val rfl rfl rfl (OpP.v (P_move rfl rfl)) ?_
    refine L_val rfl rfl rfl (OpP.v (P_eql rfl rfl rfl)) ?_
    refine E_true (t := 56) rfl (decide_eq_true rfl) ?_
    refine L_val rfl rfl rfl (OpP.v (P_pick rfl rfl rfl)) ?_
    refine L_val rfl rfl rfl (OpP.v (P_assign rfl rfl)) ?_
    refine L_nil ?_
    refine St.env (.cons (t := 0) rfl (.cons (t := 1) rfl (.cons (t := 4) rfl .nil))) ?_
    refine Q_then ?_
    refine R_ret ?_
    refine Q_then_ret ?_
    exact R_endV rfl rfl (.tmp rfl .nil) (rfl)
  · skip
    refine L_val rfl rfl rfl (OpP.v (P_move rfl rfl)) ?_
    refine L_val rfl rfl rfl (OpP.v (P_move rfl rfl)) ?_
    refine L_val rfl rfl rfl (OpP.v (P_neq rfl rfl rfl)) ?_
    refine E_bool (t := 33) rfl (fun hf => ?_) (fun hf => ?_)
    · skip
      refine L_val rfl rfl rfl (OpP.v (P_pick rfl rfl rfl)) ?_
      refine L_val rfl rfl rfl (OpP.v (P_move rfl rfl)) ?_
      refine L_no rfl rfl rfl ?_
      refine L_no rfl rfl rfl ?_
      refine L_no rfl rfl rfl ?_
      refine L_val rfl rfl rfl (OpP.v (P_pick rfl rfl rfl)) ?_
      refine L_nil ?_
      refine St.env (.cons (t := 0) rfl (.cons (t := 1) rfl (.cons (t := 4) rfl (.cons (t := 7) rfl (.cons (t := 9) rfl (.cons (t := 39) rfl .nil)))))) ?_
      refine Q_then ?_
      refine R_condT rfl ?_
      refine R_seq ?_
      refine R_region ?_
      refine L_val rfl rfl rfl (OpP.v (P_move rfl rfl)) ?_
      refine L_op rfl (W_callV rfl rfl rfl rfl fn_ca_26 (rroot_ok hG ba ca va xss hvx hca (by omega)) (Items.row hpre.1 rfl) ?_)
      refine L_val rfl rfl rfl (OpP.v (P_move rfl rfl)) ?_
      refine L_val rfl rfl rfl (OpP.v (P_extract rfl rfl rfl)) ?_
      refine L_val rfl rfl rfl (OpP.v (P_extract rfl rfl rfl)) ?_
      refine L_op rfl (W_alloc rfl rfl rfl ty_ze_23 fun b10 => ?_)
      refine L_op rfl (W_storeAll rfl rfl rfl rfl ty_ag_23 (by rw [ints_length, rootD_length]) (ints_one) .h0 (by rw [ints_length, rootD_length]; rfl) ?_)
      refine L_val rfl rfl rfl (OpP.v (P_assign rfl rfl)) ?_
      refine L_nil ?_
      refine St.env (.cons (t := 0) rfl (.cons (t := 1) rfl (.cons (t := 4) rfl (.cons (t := 7) rfl (.cons (t := 9) rfl (.cons (t := 11) rfl .nil)))))) ?_
      refine Q_then ?_
      refine R_seq ?_
      refine R_region ?_
      refine L_val rfl rfl rfl (OpP.v (P_move rfl rfl)) ?_
      refine L_op rfl (W_callV rfl rfl rfl rfl fn_ca_26 (rroot_ok hG bb cb vb yss hvy hcb (by omega)) (Items.row hpre.2 rfl) ?_)
      refine L_val rfl rfl rfl (OpP.v (P_move rfl rfl)) ?_
      refine L_val rfl rfl rfl (OpP.v (P_extract rfl rfl rfl)) ?_
      refine L_val rfl rfl rfl (OpP.v (P_extract rfl rfl rfl)) ?_
      refine L_op rfl (W_alloc rfl rfl rfl ty_ze_23 fun b12 => ?_)
      refine L_op rfl (W_storeAll rfl rfl rfl rfl ty_ag_23 (by rw [ints_length, rootD_length]) (ints_one) .h0 (by rw [ints_length, rootD_length]; rfl) ?_)
      refine L_val rfl rfl rfl (OpP.v (P_assign rfl rfl)) ?_
      refine L_nil ?_
      refine St.env (.cons (t := 0) rfl (.cons (t := 1) rfl (.cons (t := 4) rfl (.cons (t := 7) rfl (.cons (t := 9) rfl (.cons (t := 11) rfl (.cons (t := 13) rfl .nil))))))) ?_
      refine Q_then ?_
      refine R_seq ?_
      refine R_region ?_
      refine L_val rfl rfl rfl (OpP.v (P_move rfl rfl)) ?_
      refine L_val rfl rfl rfl (OpP.v (P_move rfl rfl)) ?_
      refine L_val rfl rfl rfl (OpP.v (P_eql rfl rfl rfl)) ?_
      refine E_true (t := 52) rfl (decide_eq_true rfl) ?_
      refine L_val rfl rfl rfl (OpP.v (P_move rfl rfl)) ?_
      refine L_val rfl rfl rfl (OpP.v (P_move rfl rfl)) ?_
      refine L_val rfl rfl rfl (OpP.v (P_move rfl rfl)) ?_
      refine L_val rfl rfl rfl (OpP.v (P_eql rfl rfl rfl)) ?_
      refine E_true (t := 56) rfl (decide_eq_true rfl) ?_
      refine L_val rfl rfl rfl (OpP.v (P_pick rfl rfl rfl)) ?_
      refine L_val rfl rfl rfl (OpP.v (P_assign rfl rfl)) ?_
      refine L_nil ?_
      refine St.env (.cons (t := 0) rfl (.cons (t := 1) rfl (.cons (t := 4) rfl .nil))) ?_
      refine Q_then ?_
      refine R_ret ?_
      refine Q_then_ret ?_
      exact R_endV rfl rfl (.tmp rfl .nil) (rfl)
    · skip
      refine L_val rfl rfl rfl (OpP.v (P_pick rfl rfl rfl)) ?_
      refine L_val rfl rfl rfl (OpP.v (P_move rfl rfl)) ?_
      refine L_val rfl rfl rfl (V_loadAgg rfl rfl ty_ag_23 (Rds.blk .h1) (by rw [ints_length, rootD_length])) ?_
      refine L_val rfl rfl rfl (V_loadAgg rfl rfl ty_ag_23 (Rds.blk .h0) (by rw [ints_length, rootD_length])) ?_
      refine L_val rfl rfl rfl (OpP.v (P_neArr rfl rfl rfl ty_un_23 ty_int_5 ty_sc_5 ty_eg_23 (rootD_length _) (rootD_length _))) ?_
      refine E_bool (t := 38) rfl (fun hg => ?_) (fun hg => ?_)
      · skip
        refine L_val rfl rfl rfl (OpP.v (P_pick rfl rfl rfl)) ?_
        refine L_nil ?_
        refine St.env (.cons (t := 0) rfl (.cons (t := 1) rfl (.cons (t := 4) rfl (.cons (t := 7) rfl (.cons (t := 9) rfl (.cons (t := 39) rfl .nil)))))) ?_
        refine Q_then ?_
        refine R_condT rfl ?_
        refine R_seq ?_
        refine R_region ?_
        refine L_val rfl rfl rfl (OpP.v (P_move rfl rfl)) ?_
        refine L_op rfl (W_callV rfl rfl rfl rfl fn_ca_26 (rroot_ok hG ba ca va xss hvx hca (by omega)) (Items.row hpre.1 rfl) ?_)
        refine L_val rfl rfl rfl (OpP.v (P_move rfl rfl)) ?_
        refine L_val rfl rfl rfl (OpP.v (P_extract rfl rfl rfl)) ?_
        refine L_val rfl rfl rfl (OpP.v (P_extract rfl rfl rfl)) ?_
        refine L_op rfl (W_alloc rfl rfl rfl ty_ze_23 fun b10 => ?_)
        refine L_op rfl (W_storeAll rfl rfl rfl rfl ty_ag_23 (by rw [ints_length, rootD_length]) (ints_one) .h0 (by rw [ints_length, rootD_length]; rfl) ?_)
        refine L_val rfl rfl rfl (OpP.v (P_assign rfl rfl)) ?_
        refine L_nil ?_
        refine St.env (.cons (t := 0) rfl (.cons (t := 1) rfl (.cons (t := 4) rfl (.cons (t := 7) rfl (.cons (t := 9) rfl (.cons (t := 11) rfl .nil)))))) ?_
        refine Q_then ?_
        refine R_seq ?_
        refine R_region ?_
        refine L_val rfl rfl rfl (OpP.v (P_move rfl rfl)) ?_
        refine L_op rfl (W_callV rfl rfl rfl rfl fn_ca_26 (rroot_ok hG bb cb vb yss hvy hcb (by omega)) (Items.row hpre.2 rfl) ?_)
        refine L_val rfl rfl rfl (OpP.v (P_move rfl rfl)) ?_
        refine L_val rfl rfl rfl (OpP.v (P_extract rfl rfl rfl)) ?_
        refine L_val rfl rfl rfl (OpP.v (P_extract rfl rfl rfl)) ?_
        refine L_op rfl (W_alloc rfl rfl rfl ty_ze_23 fun b12 => ?_)
        refine L_op rfl (W_storeAll rfl rfl rfl rfl ty_ag_23 (by rw [ints_length, rootD_length]) (ints_one) .h0 (by rw [ints_length, rootD_length]; rfl) ?_)
        refine L_val rfl rfl rfl (OpP.v (P_assign rfl rfl)) ?_
        refine L_nil ?_
        refine St.env (.cons (t := 0) rfl (.cons (t := 1) rfl (.cons (t := 4) rfl (.cons (t := 7) rfl (.cons (t := 9) rfl (.cons (t := 11) rfl (.cons (t := 13) rfl .nil))))))) ?_
        refine Q_then ?_
        refine R_seq ?_
        refine R_region ?_
        refine L_val rfl rfl rfl (OpP.v (P_move rfl rfl)) ?_
        refine L_val rfl rfl rfl (OpP.v (P_move rfl rfl)) ?_
        refine L_val rfl rfl rfl (OpP.v (P_eql rfl rfl rfl)) ?_
        refine E_true (t := 52) rfl (decide_eq_true rfl) ?_
        refine L_val rfl rfl rfl (OpP.v (P_move rfl rfl)) ?_
        refine L_val rfl rfl rfl (OpP.v (P_move rfl rfl)) ?_
        refine L_val rfl rfl rfl (OpP.v (P_move rfl rfl)) ?_
        refine L_val rfl rfl rfl (OpP.v (P_eql rfl rfl rfl)) ?_
        refine E_true (t := 56) rfl (decide_eq_true rfl) ?_
        refine L_val rfl rfl rfl (OpP.v (P_pick rfl rfl rfl)) ?_
        refine L_val rfl rfl rfl (OpP.v (P_assign rfl rfl)) ?_
        refine L_nil ?_
        refine St.env (.cons (t := 0) rfl (.cons (t := 1) rfl (.cons (t := 4) rfl .nil))) ?_
        refine Q_then ?_
        refine R_ret ?_
        refine Q_then_ret ?_
        exact R_endV rfl rfl (.tmp rfl .nil) (rfl)
      · skip
        have hB : bigL xss = false := by cases hq : bigL xss with | false => rfl | true => simp [rootE, hq] at he
        have hB' : bigL yss = false := by cases hq : bigL yss with | false => rfl | true => simp [rootE, hq] at hf
        have hroot : rootH xss.length (topH (leaves xss)) = rootH yss.length (topH (leaves yss)) := by have hd : rootD xss = rootD yss := (by simpa using hg); simpa [rootD, hB, hB'] using hd
        refine L_val rfl rfl rfl (OpP.v (P_pick rfl rfl rfl)) ?_
        refine L_nil ?_
        refine St.env (.cons (t := 0) rfl (.cons (t := 1) rfl (.cons (t := 4) rfl (.cons (t := 7) rfl (.cons (t := 9) rfl (.cons (t := 39) rfl .nil)))))) ?_
        refine Q_then ?_
        refine R_condF rfl ?_
        refine R_skip ?_
        refine Q_then ?_
        refine R_seq ?_
        refine R_region ?_
        refine L_val rfl rfl rfl (OpP.v (P_move rfl rfl)) ?_
        refine L_val rfl rfl rfl (OpP.v (P_move rfl rfl)) ?_
        refine L_op rfl (W_call rfl rfl rfl rfl fn_ca_27 (lists_ok hG ba ca va xss bb cb vb yss hvx hvy hca hcb hB hB' h1 h2 hroot) (Split.nil _) (fun w a b _ hb dj m => ⟨Items.row hpre.1 rfl w ⟨_, hb, m.le (Heap.le_join_right dj)⟩, Items.row hpre.2 rfl w ⟨_, hb, m.le (Heap.le_join_right dj)⟩⟩) fun v61 rs1 ⟨⟨s1, c1, e1, hsc1⟩, e2⟩ => ?_)
        subst e1; subst e2
        refine L_val rfl rfl rfl (OpP.v (P_move rfl rfl)) ?_
        refine L_val rfl rfl rfl (OpP.v (P_extract rfl rfl rfl)) ?_
        refine L_val rfl rfl rfl (OpP.v (P_extract rfl rfl rfl)) ?_
        refine L_val rfl rfl rfl (OpP.v (P_assign rfl rfl)) ?_
        refine L_val rfl rfl rfl (OpP.v (P_assign rfl rfl)) ?_
        refine L_nil ?_
        refine St.env (.cons (t := 4) rfl (.cons (t := 14) rfl (.cons (t := 15) rfl .nil))) ?_
        refine Q_then ?_
        refine R_seq ?_
        refine R_region ?_
        refine L_val rfl rfl rfl (OpP.v (P_move rfl rfl)) ?_
        refine E_bool (t := 64) rfl (fun hs => ?_) (fun hs => ?_)
        · skip
          refine L_val rfl rfl rfl (OpP.v (P_move rfl rfl)) ?_
          refine L_no rfl rfl rfl ?_
          refine L_val rfl rfl rfl (OpP.v (P_pick rfl rfl rfl)) ?_
          refine L_val rfl rfl rfl (OpP.v (P_assign rfl rfl)) ?_
          refine L_nil ?_
          refine St.env (.cons (t := 4) rfl .nil) ?_
          refine Q_then ?_
          refine R_ret ?_
          exact R_endV rfl rfl (.tmp rfl .nil) (rfl)
        · skip
          refine L_val rfl rfl rfl (OpP.v (P_move rfl rfl)) ?_
          refine L_val rfl rfl rfl (OpP.v (P_move rfl rfl)) ?_
          refine L_val rfl rfl rfl (OpP.v (P_pick rfl rfl rfl)) ?_
          refine L_val rfl rfl rfl (OpP.v (P_assign rfl rfl)) ?_
          refine L_nil ?_
          refine St.env (.cons (t := 4) rfl .nil) ?_
          refine Q_then ?_
          refine R_ret ?_
          exact R_endV rfl rfl (.tmp rfl .nil) (congrArg Value.bool (by rw [hs, Bool.false_or] at hsc1; exact hsc1))
end Go.Proofs.YtldndhekjhlbmaaDoor
