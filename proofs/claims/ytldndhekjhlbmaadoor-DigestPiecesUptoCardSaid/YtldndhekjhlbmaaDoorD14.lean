/- Walks: what two lists bind. Printed by gen.py. -/
import Derived.Test.YtldndhekjhlbmaaDoorD13
set_option linter.unusedVariables false
set_option linter.unusedSimpArgs false
set_option maxRecDepth 100000
namespace Go.Proofs.YtldndhekjhlbmaaDoor
open Go Go.RowKit Go.Proofs
def Fine (x : List Int) : Prop := x.length ≤ 140737488355000 ∧ IsB x
theorem inner_ne {a b c d : List Int} (ha : a.length = 32) (hc : c.length = 32) (h : a ≠ c ∨ b ≠ d) : (1 : Int) :: (a ++ b) ≠ 1 :: (c ++ d) := fun e => by
  have e2 : a ++ b = c ++ d := by injection e
  obtain ⟨e3, e4⟩ := List.append_inj e2 (by rw [ha, hc])
  rcases h with h | h
  · exact h e3
  · exact h e4
/-- What halves keeps, for lists of less than n items. -/
def HalvesOk (gl : Nat → Obj) (n : Nat) : Prop := ∀ (ba : Option Addr) (ca : Nat) (va : List Value) (xss : List (List Int)) (bb : Option Addr) (cb : Nat) (vb : List Value) (yss : List (List Int)),
  va.length < n → va.length = vb.length → va.length = xss.length → vb.length = yss.length → va.length ≤ ca → vb.length ≤ cb → (∀ x ∈ xss, Fine x) → (∀ y ∈ yss, Fine y) → topH (leaves xss) = topH (leaves yss) →
  Spec (cx gl) 52 [.slice ba va.length ca, .slice bb vb.length cb] (fun w _ => Items w ba va xss ∧ Items w bb vb yss) [] (fun v rs => (∃ s c : Bool, v = .tuple #[.bool s, .bool c] ∧ (s || c) = true) ∧ rs = [])
theorem leaf_one {xss : List (List Int)} {y : List Int} (h : xss.length = 1) (hx : xss[0]? = some y) : topH (leaves xss) = sha (0 :: y) := topH_one (by rw [leaves_length, h]) (by unfold leaves; rw [List.getElem?_map, hx]; rfl)
theorem top_two {xss : List (List Int)} {n : Nat} (hn : n = xss.length) (h : 1 < n) : topH (leaves xss) = sha (1 :: (topH (leaves (xss.take (splitN n))) ++ topH (leaves (xss.drop (splitN n))))) := by
  subst hn
  rw [topH_two (l := leaves xss) (by rw [leaves_length]; exact h), leaves_length, leaves_take, leaves_drop]
theorem clash_ok {gl : Nat → Obj} (hG : GlobsR gl) (ba : Option Addr) (ca : Nat) (xs : List Int) (bb : Option Addr) (cb : Nat) (ys : List Int) (hca : xs.length ≤ ca) (hcb : ys.length ≤ cb) (hx : xs.length ≤ 9223372036854775000) (hy : ys.length ≤ 9223372036854775000) (h1 : IsB xs) (h2 : IsB ys) : SpecV (cx gl) 51 [.slice ba xs.length ca, .slice bb ys.length cb] (fun w => Row w ba (ints .u8 xs) ∧ Row w bb (ints .u8 ys)) (.bool (clashB xs ys)) := by
  refine Spec.enter (C := cx gl) Tryd.func51 rfl 21 rfl rfl fun w0 h0 hsep hsub hpre => ?_
  obtain rfl : h0 = Heap.none := hsep
  show St (cx gl) _ [(0, .slice ba xs.length ca), (1, .slice bb ys.length cb)] _ _
  refine R_seq ?_
  refine R_region ?_
  refine L_val rfl rfl rfl (OpP.v (P_assign rfl rfl)) ?_
  refine L_nil ?_
  refine Q_then ?_
  refine R_seq ?_
  refine R_region ?_
  refine L_val rfl rfl rfl (OpP.v (P_move rfl rfl)) ?_
  refine L_op rfl (W_callV rfl rfl rfl rfl fn_ca_17 (rsum_ok hG ba ca xs hca hx) ((Sn.row hpre.1 rfl).rw_) ?_)
  refine L_op rfl (W_alloc rfl rfl rfl ty_ze_23 fun b5 => ?_)
  refine L_op rfl (W_storeAll rfl rfl rfl rfl ty_ag_23 (by rw [ints_length, sha_length]) (ints_one) .h0 (by rw [ints_length, sha_length]; rfl) ?_)
  refine L_nil ?_
  refine St.env (.cons (t := 0) rfl (.cons (t := 1) rfl (.cons (t := 4) rfl (.cons (t := 5) rfl .nil)))) ?_
  refine Q_then ?_
  refine R_seq ?_
  refine R_region ?_
  refine L_val rfl rfl rfl (OpP.v (P_move rfl rfl)) ?_
  refine L_op rfl (W_callV rfl rfl rfl rfl fn_ca_17 (rsum_ok hG bb cb ys hcb hy) ((Sn.row hpre.2 rfl).rw_) ?_)
  refine L_op rfl (W_alloc rfl rfl rfl ty_ze_23 fun b6 => ?_)
  refine L_op rfl (W_storeAll rfl rfl rfl rfl ty_ag_23 (by rw [ints_length, sha_length]) (ints_one) .h0 (by rw [ints_length, sha_length]; rfl) ?_)
  refine L_nil ?_
  refine St.env (.cons (t := 0) rfl (.cons (t := 1) rfl (.cons (t := 4) rfl (.cons (t := 5) rfl (.cons (t := 6) rfl .nil))))) ?_
  refine Q_then ?_
  refine R_seq ?_
  refine R_region ?_
  refine L_val rfl rfl rfl (OpP.v (P_move rfl rfl)) ?_
  refine L_val rfl rfl rfl (V_str rfl (slB_spec ty_sl_26).1 ty_int_5 ty_str_9 rfl ((Sn.row hpre.1 rfl).rw_)) ?_
  refine L_val rfl rfl rfl (OpP.v (P_move rfl rfl)) ?_
  refine L_val rfl rfl rfl (V_str rfl (slB_spec ty_sl_26).1 ty_int_5 ty_str_9 rfl ((Sn.row hpre.2 rfl).rw_)) ?_
  refine L_val rfl rfl rfl (OpP.v (P_neStr rfl rfl rfl h1 h2)) ?_
  refine E_bool (t := 15) rfl (fun hne => ?_) (fun hne => ?_)
  · skip
    refine L_val rfl rfl rfl (OpP.v (P_move rfl rfl)) ?_
    refine L_val rfl rfl rfl (V_loadAgg rfl rfl ty_ag_23 (Rds.blk .h1) (by rw [ints_length, sha_length])) ?_
    refine L_val rfl rfl rfl (V_loadAgg rfl rfl ty_ag_23 (Rds.blk .h0) (by rw [ints_length, sha_length])) ?_
    refine L_val rfl rfl rfl (OpP.v (P_eqArr rfl rfl rfl ty_un_23 ty_int_5 ty_sc_5 ty_eg_23 (sha_length _) (sha_length _))) ?_
    refine L_val rfl rfl rfl (OpP.v (P_pick rfl rfl rfl)) ?_
    refine L_val rfl rfl rfl (OpP.v (P_assign rfl rfl)) ?_
    refine L_nil ?_
    refine St.env (.cons (t := 4) rfl .nil) ?_
    refine Q_then ?_
    refine R_ret ?_
    exact R_endV rfl rfl (.tmp rfl .nil) (by unfold clashB; rw [hne, Bool.true_and]; rfl)
  · skip
    refine L_val rfl rfl rfl (OpP.v (P_move rfl rfl)) ?_
    refine L_no rfl rfl rfl ?_
    refine L_no rfl rfl rfl ?_
    refine L_no rfl rfl rfl ?_
    refine L_val rfl rfl rfl (OpP.v (P_pick rfl rfl rfl)) ?_
    refine L_val rfl rfl rfl (OpP.v (P_assign rfl rfl)) ?_
    refine L_nil ?_
    refine St.env (.cons (t := 4) rfl .nil) ?_
    refine Q_then ?_
    refine R_ret ?_
    exact R_endV rfl rfl (.tmp rfl .nil) (by unfold clashB; rw [hne]; rfl)
theorem clash_okN {gl : Nat → Obj} (hG : GlobsR gl) (ba : Option Addr) (ca : Nat) (xs : List Int) (bb : Option Addr) (cb : Nat) (ys : List Int) {n m : Nat} (hn : xs.length = n) (hm : ys.length = m) (hca : n ≤ ca) (hcb : m ≤ cb) (hx : n ≤ 9223372036854775000) (hy : m ≤ 9223372036854775000) (h1 : IsB xs) (h2 : IsB ys) :
    SpecV (cx gl) 51 [.slice ba n ca, .slice bb m cb] (fun w => Row w ba (ints .u8 xs) ∧ Row w bb (ints .u8 ys)) (.bool (clashB xs ys)) := by
  subst hn; subst hm
  exact clash_ok hG ba ca xs bb cb ys hca hcb hx hy h1 h2
set_option maxHeartbeats 1000000 in
theorem halves_step {gl : Nat → Obj} (hG : GlobsR gl) (n : Nat) (hnM : n ≤ 70368744177664) (hih : HalvesOk gl n) : HalvesOk gl (n + 1) := by
  intro ba ca va xss bb cb vb yss hva hlen hvx hvy hca hcb ha hb htop
  refine Spec.enter (C := cx gl) Tryd.func52 rfl 97 rfl rfl fun w0 h0 hsep hsub hpre => ?_
  obtain rfl : h0 = Heap.none := hsep
  show St (cx gl) _ [(0, .slice ba va.length ca), (1, .slice bb vb.length cb)] _ _
  refine R_seq ?_
  refine R_region ?_
  refine L_val rfl rfl rfl (OpP.v (P_assign rfl rfl)) ?_
  refine L_val rfl rfl rfl (OpP.v (P_assign rfl rfl)) ?_
  refine L_nil ?_
  refine Q_then ?_
  refine R_seq ?_
  refine R_seq ?_
  refine R_region ?_
  refine L_val rfl rfl rfl (OpP.v (P_move rfl rfl)) ?_
  refine L_val rfl rfl rfl (OpP.v (P_len rfl ty_sl_36 rfl)) ?_
  refine L_val rfl rfl rfl (OpP.v (P_eql rfl rfl rfl)) ?_
  refine L_nil ?_
  refine St.env (.cons (t := 0) rfl (.cons (t := 1) rfl (.cons (t := 4) rfl (.cons (t := 5) rfl (.cons (t := 17) rfl .nil))))) ?_
  refine Q_then ?_
  refine R_condP rfl (fun h0 => ?_) (fun h0 => ?_)
  · skip
    refine R_seq ?_
    refine R_region ?_
    refine L_val rfl rfl rfl (OpP.v (P_assign rfl rfl)) ?_
    refine L_val rfl rfl rfl (OpP.v (P_assign rfl rfl)) ?_
    refine L_nil ?_
    refine St.env (.cons (t := 0) rfl (.cons (t := 1) rfl (.cons (t := 4) rfl (.cons (t := 5) rfl .nil)))) ?_
    refine Q_then ?_
    refine R_ret ?_
    refine Q_then_ret ?_
    exact R_end (rs2 := _) rfl rfl (.tmp rfl (.tmp rfl .nil)) (⟨⟨true, false, rfl, rfl⟩, rfl⟩) (Weak.refl _)
  · skip
    refine R_skip ?_
    refine Q_then ?_
    refine R_seq ?_
    refine R_seq ?_
    refine R_region ?_
    refine L_val rfl rfl rfl (OpP.v (P_move rfl rfl)) ?_
    refine L_val rfl rfl rfl (OpP.v (P_len rfl ty_sl_36 rfl)) ?_
    refine L_val rfl rfl rfl (OpP.v (P_eql rfl rfl rfl)) ?_
    refine L_nil ?_
    refine St.env (.cons (t := 0) rfl (.cons (t := 1) rfl (.cons (t := 4) rfl (.cons (t := 5) rfl (.cons (t := 20) rfl .nil))))) ?_
    refine Q_then ?_
    refine R_condP rfl (fun h1 => ?_) (fun h1 => ?_)
    · skip
      obtain ⟨b1, c1, y1, hvk1, hxk1, hbc1, hbr1⟩ := hpre.1.2.at_ (k := 0) (by omega)
      obtain ⟨b2, c2, y2, hvk2, hxk2, hbc2, hbr2⟩ := hpre.2.2.at_ (k := 0) (by omega)
      obtain ⟨pa, ja, rfl, hrowa⟩ := hpre.1.1.some_ (by omega)
      obtain ⟨pb, jb, rfl, hrowb⟩ := hpre.2.1.some_ (by omega)
      obtain ⟨g1, i1⟩ := ha y1 (List.mem_of_getElem? hxk1)
      obtain ⟨g2, i2⟩ := hb y2 (List.mem_of_getElem? hxk2)
      rw [leaf_one (by omega) hxk1, leaf_one (by omega) hxk2] at htop
      refine R_seq ?_
      refine R_seq ?_
      refine R_open [(0, 0), (1, 0), (2, 1), (3, 1), (4, 0), (5, 0), (6, 1), (7, 1), (8, 0)] mixed (by kernel_rfl) (QOk.then (QOk.then (QOk.then QOk.body))) ?_
      refine O_pure rfl rfl rfl rfl (P_move rfl rfl) ?_
      refine O_pure rfl rfl rfl rfl (P_ixs (0) rfl ty_sl_36 rfl rfl (by first | rfl | omega) (by omega)) ?_
      refine O_val rfl rfl rfl rfl (V_load rfl rfl ty_sc_26 (Rd.row hrowa rfl hvk1)) ?_
      refine O_val rfl rfl rfl rfl (V_str rfl (slB_spec ty_sl_26).1 ty_int_5 ty_str_9 rfl ((Sn.row hbr1 rfl).rw_)) ?_
      refine O_pure rfl rfl rfl rfl (P_move rfl rfl) ?_
      refine O_pure rfl rfl rfl rfl (P_ixs (0) rfl ty_sl_36 rfl rfl (by first | rfl | omega) (by omega)) ?_
      refine O_val rfl rfl rfl rfl (V_load rfl rfl ty_sc_26 (Rd.row hrowb rfl hvk2)) ?_
      refine O_val rfl rfl rfl rfl (V_str rfl (slB_spec ty_sl_26).1 ty_int_5 ty_str_9 rfl ((Sn.row hbr2 rfl).rw_)) ?_
      refine O_pure rfl rfl rfl rfl (P_eqStr rfl rfl rfl i1 i2) ?_
      refine O_nil ?_
      refine St.env (.cons (t := 0) rfl (.cons (t := 1) rfl (.cons (t := 4) rfl (.cons (t := 5) rfl (.cons (t := 29) rfl .nil))))) ?_
      refine Q_then ?_
      refine R_condP rfl (fun heq => ?_) (fun heq => ?_)
      · skip
        refine R_seq ?_
        refine R_region ?_
        refine L_val rfl rfl rfl (OpP.v (P_assign rfl rfl)) ?_
        refine L_val rfl rfl rfl (OpP.v (P_assign rfl rfl)) ?_
        refine L_nil ?_
        refine St.env (.cons (t := 0) rfl (.cons (t := 1) rfl (.cons (t := 4) rfl (.cons (t := 5) rfl .nil)))) ?_
        refine Q_then ?_
        refine R_ret ?_
        refine Q_then_ret ?_
        refine Q_then_ret ?_
        exact R_end (rs2 := _) rfl rfl (.tmp rfl (.tmp rfl .nil)) (⟨⟨true, false, rfl, rfl⟩, rfl⟩) (Weak.refl _)
      · skip
        refine R_skip ?_
        refine Q_then ?_
        refine R_seq ?_
        refine R_open [(0, 0), (1, 0), (2, 1), (4, 0), (5, 0), (6, 1), (3, 2), (7, 2), (8, 2), (9, 0)] mixed (by kernel_rfl) (QOk.then (QOk.then QOk.body)) ?_
        refine O_pure rfl rfl rfl rfl (P_move rfl rfl) ?_
        refine O_pure rfl rfl rfl rfl (P_ixs (0) rfl ty_sl_36 rfl rfl (by first | rfl | omega) (by omega)) ?_
        refine O_val rfl rfl rfl rfl (V_load rfl rfl ty_sc_26 (Rd.row hrowa rfl hvk1)) ?_
        refine O_pure rfl rfl rfl rfl (P_move rfl rfl) ?_
        refine O_pure rfl rfl rfl rfl (P_ixs (0) rfl ty_sl_36 rfl rfl (by first | rfl | omega) (by omega)) ?_
        refine O_val rfl rfl rfl rfl (V_load rfl rfl ty_sc_26 (Rd.row hrowb rfl hvk2)) ?_
        refine O_keep rfl rfl (W_call rfl rfl rfl rfl fn_ca_42 (leafText_ok b1 c1 y1 g1) (Split.nil _) (fun w a b _ hb dj m => (Sn.row hbr1 rfl).rw_ w ⟨_, hb, m.le (Heap.le_join_right dj)⟩) fun v33 rs1 (e1 : rs1 = _) => ?_)
        subst e1
        refine St.openOwn (p := []) (by omega) fun tb1 tcap1 junk1 htc1 htl1 htv => ?_
        subst htv
        refine St.res (rs' := [blk tb1 (ints .u8 (0 :: y1) ++ junk1) 5]) (Weak.refl _) ?_
        refine K_keep (Weak.drop (Weak.refl _)) ?_
        refine O_keep rfl rfl (W_call rfl rfl rfl rfl fn_ca_42 (leafText_ok b2 c2 y2 g2) (Split.nil _) (fun w a b _ hb dj m => (Sn.row hbr2 rfl).rw_ w ⟨_, hb, m.le (Heap.le_join_right dj)⟩) fun v37 rs1 (e1 : rs1 = _) => ?_)
        subst e1
        refine St.openOwn (p := []) (by omega) fun tb2 tcap2 junk2 htc2 htl2 htv => ?_
        subst htv
        refine St.res (rs' := [blk tb2 (ints .u8 (0 :: y2) ++ junk2) 5, blk tb1 (ints .u8 (0 :: y1) ++ junk1) 5]) (Weak.refl _) ?_
        refine K_keep (Weak.drop (Weak.refl _)) ?_
        refine O_keep rfl rfl (W_callV rfl rfl rfl rfl fn_ca_51 (clash_ok hG (some ⟨tb1, 0, none⟩) tcap1 (0 :: y1) (some ⟨tb2, 0, none⟩) tcap2 (0 :: y2) (by rw [List.length_cons]; omega) (by rw [List.length_cons]; omega) (by rw [List.length_cons]; omega) (by rw [List.length_cons]; omega) (IsB.cons (by decide) (by decide) i1) (IsB.cons (by decide) (by decide) i2)) (fun w nw => ⟨(Sn.ofBlkAt .h1 fun i v h => app_at i v h).rw_ w nw, (Sn.ofBlkAt .h0 fun i v h => app_at i v h).rw_ w nw⟩) (K_keep (Weak.refl _) ?_))
        refine O_pure rfl rfl rfl rfl (P_assign rfl rfl) ?_
        refine O_nil ?_
        refine St.env (.cons (t := 0) rfl (.cons (t := 1) rfl (.cons (t := 4) rfl (.cons (t := 5) rfl (.cons (t := 6) rfl .nil))))) ?_
        refine Q_then ?_
        refine R_seq ?_
        refine R_region ?_
        refine L_val rfl rfl rfl (OpP.v (P_move rfl rfl)) ?_
        refine L_val rfl rfl rfl (OpP.v (P_assign rfl rfl)) ?_
        refine L_val rfl rfl rfl (OpP.v (P_assign rfl rfl)) ?_
        refine L_nil ?_
        refine St.env (.cons (t := 0) rfl (.cons (t := 1) rfl (.cons (t := 4) rfl (.cons (t := 5) rfl .nil)))) ?_
        refine Q_then ?_
        refine R_ret ?_
        refine Q_then_ret ?_
        exact R_end (rs2 := []) rfl rfl (.tmp rfl (.tmp rfl .nil)) (⟨⟨false, _, rfl, by rw [Bool.false_or]; exact clashB_of (fun e => heq (by injection e)) htop⟩, rfl⟩) (Weak.nil _)
    · skip
      have hn : 1 < va.length := by omega
      have hk1 := splitN_lt hn
      have hk2 := splitN_pos hn
      have ea1 : (va.take (splitN va.length)).length = splitN va.length := by rw [List.length_take]; omega
      have ea2 : (va.drop (splitN va.length)).length = va.length - splitN va.length := by rw [List.length_drop] <;> omega
      have ra1 : ∀ rs w, Now (cx gl) ⟨97, [], w0, Heap.none⟩ rs w → Items w (if ca = 0 then ba else ba.map (·.add (0 * 1))) (va.take (splitN va.length)) (xss.take (splitN va.length)) := fun rs w nw => by
        have h := (Items.row (C := cx gl) (F := ⟨97, [], w0, Heap.none⟩) (rs := rs) hpre.1 rfl w nw).sliced (p := 0) (q := splitN va.length) (c := ca) (by omega) (by omega)
        rwa [List.drop_zero, List.drop_zero, Nat.sub_zero] at h
      have ra2 : ∀ rs w, Now (cx gl) ⟨97, [], w0, Heap.none⟩ rs w → Items w (if ca = (splitN va.length) then ba else ba.map (·.add ((splitN va.length) * 1))) (va.drop (splitN va.length)) (xss.drop (splitN va.length)) := fun rs w nw => by
        have h := (Items.row (C := cx gl) (F := ⟨97, [], w0, Heap.none⟩) (rs := rs) hpre.1 rfl w nw).sliced (p := splitN va.length) (q := va.length) (c := ca) (by omega) (Nat.le_refl _)
        rw [take_sub, List.take_of_length_le (l := xss.drop (splitN va.length)) (by rw [List.length_drop]; omega)] at h
        exact h
      have fa1 : ∀ x ∈ (xss.take (splitN va.length)), Fine x := fun x hm => ha x (List.mem_of_mem_take hm)
      have fa2 : ∀ x ∈ (xss.drop (splitN va.length)), Fine x := fun x hm => ha x (List.mem_of_mem_drop hm)
      have eb1 : (vb.take (splitN va.length)).length = splitN va.length := by rw [List.length_take]; omega
      have eb2 : (vb.drop (splitN va.length)).length = va.length - splitN va.length := by rw [List.length_drop] <;> omega
      have rb1 : ∀ rs w, Now (cx gl) ⟨97, [], w0, Heap.none⟩ rs w → Items w (if cb = 0 then bb else bb.map (·.add (0 * 1))) (vb.take (splitN va.length)) (yss.take (splitN va.length)) := fun rs w nw => by
        have h := (Items.row (C := cx gl) (F := ⟨97, [], w0, Heap.none⟩) (rs := rs) hpre.2 rfl w nw).sliced (p := 0) (q := splitN va.length) (c := cb) (by omega) (by omega)
        rwa [List.drop_zero, List.drop_zero, Nat.sub_zero] at h
      have rb2 : ∀ rs w, Now (cx gl) ⟨97, [], w0, Heap.none⟩ rs w → Items w (if cb = (splitN va.length) then bb else bb.map (·.add ((splitN va.length) * 1))) (vb.drop (splitN va.length)) (yss.drop (splitN va.length)) := fun rs w nw => by
        have h := (Items.row (C := cx gl) (F := ⟨97, [], w0, Heap.none⟩) (rs := rs) hpre.2 rfl w nw).sliced (p := splitN va.length) (q := vb.length) (c := cb) (by omega) (Nat.le_refl _)
        rw [take_sub, List.take_of_length_le (l := yss.drop (splitN va.length)) (by rw [List.length_drop]; omega)] at h
        exact h
      have fb1 : ∀ x ∈ (yss.take (splitN va.length)), Fine x := fun x hm => hb x (List.mem_of_mem_take hm)
      have fb2 : ∀ x ∈ (yss.drop (splitN va.length)), Fine x := fun x hm => hb x (List.mem_of_mem_drop hm)
      rw [top_two (n := va.length) hvx hn, top_two (xss := yss) (n := va.length) (by omega) hn] at htop
      refine R_skip ?_
      refine Q_then ?_
      refine R_seq ?_
      refine R_region ?_
      refine L_val rfl rfl rfl (OpP.v (P_move rfl rfl)) ?_
      refine L_val rfl rfl rfl (OpP.v (P_len rfl ty_sl_36 rfl)) ?_
      refine L_op rfl (W_callV rfl rfl rfl rfl fn_ca_65 (rsplit_ok gl va.length (by omega)) (fun _ _ => trivial) ?_)
      refine L_val rfl rfl rfl (OpP.v (P_assign rfl rfl)) ?_
      refine L_nil ?_
      refine St.env (.cons (t := 0) rfl (.cons (t := 1) rfl (.cons (t := 4) rfl (.cons (t := 5) rfl (.cons (t := 7) rfl .nil))))) ?_
      refine Q_then ?_
      refine R_seq ?_
      refine R_region ?_
      refine L_val rfl rfl rfl (OpP.v (P_move rfl rfl)) ?_
      refine L_val rfl rfl rfl (OpP.v (P_move rfl rfl)) ?_
      refine L_val rfl rfl rfl (OpP.v (P_slice 0 (splitN va.length) rfl ty_sl_36 rfl rfl ⟨_, rfl⟩ (by omega) (by omega))) ?_
      refine E_as (t := 45) (v' := .slice (if ca = 0 then ba else ba.map (·.add (0 * 1))) (va.take (splitN va.length)).length ca) rfl (by unfold sliced; rw [ea1, Nat.sub_zero, Nat.sub_zero]) ?_
      refine L_op rfl (W_callV rfl rfl rfl rfl fn_ca_49 (rtop_ok hG (va.take (splitN va.length)).length _ _ (va.take (splitN va.length)) (xss.take (splitN va.length)) (Nat.le_refl _) (by omega) (by simp only [List.length_take, List.length_drop]; omega) (fun x hx => (fa1 x hx).1) (by omega)) (ra1 _) ?_)
      refine L_op rfl (W_alloc rfl rfl rfl ty_ze_23 fun b8 => ?_)
      refine L_op rfl (W_storeAll rfl rfl rfl rfl ty_ag_23 (by rw [ints_length, topH_length (leaves_len _)]) (ints_one) .h0 (by rw [ints_length, topH_length (leaves_len _)]; rfl) ?_)
      refine L_nil ?_
      refine St.env (.cons (t := 0) rfl (.cons (t := 1) rfl (.cons (t := 4) rfl (.cons (t := 5) rfl (.cons (t := 7) rfl (.cons (t := 8) rfl .nil)))))) ?_
      refine Q_then ?_
      refine R_seq ?_
      refine R_region ?_
      refine L_val rfl rfl rfl (OpP.v (P_move rfl rfl)) ?_
      refine L_val rfl rfl rfl (OpP.v (P_move rfl rfl)) ?_
      refine L_val rfl rfl rfl (OpP.v (P_slice (splitN va.length) va.length rfl ty_sl_36 rfl ⟨_, rfl⟩ rfl (by omega) (by omega))) ?_
      refine E_as (t := 49) (v' := .slice (if ca = (splitN va.length) then ba else ba.map (·.add ((splitN va.length) * 1))) (va.drop (splitN va.length)).length (ca - splitN va.length)) rfl (by unfold sliced; rw [ea2]) ?_
      refine L_op rfl (W_callV rfl rfl rfl rfl fn_ca_49 (rtop_ok hG (va.drop (splitN va.length)).length _ _ (va.drop (splitN va.length)) (xss.drop (splitN va.length)) (Nat.le_refl _) (by omega) (by simp only [List.length_take, List.length_drop]; omega) (fun x hx => (fa2 x hx).1) (by omega)) (ra2 _) ?_)
      refine L_op rfl (W_alloc rfl rfl rfl ty_ze_23 fun b9 => ?_)
      refine L_op rfl (W_storeAll rfl rfl rfl rfl ty_ag_23 (by rw [ints_length, topH_length (leaves_len _)]) (ints_one) .h0 (by rw [ints_length, topH_length (leaves_len _)]; rfl) ?_)
      refine L_nil ?_
      refine St.env (.cons (t := 0) rfl (.cons (t := 1) rfl (.cons (t := 4) rfl (.cons (t := 5) rfl (.cons (t := 7) rfl (.cons (t := 8) rfl (.cons (t := 9) rfl .nil))))))) ?_
      refine Q_then ?_
      refine R_seq ?_
      refine R_region ?_
      refine L_val rfl rfl rfl (OpP.v (P_move rfl rfl)) ?_
      refine L_val rfl rfl rfl (OpP.v (P_move rfl rfl)) ?_
      refine L_val rfl rfl rfl (OpP.v (P_slice 0 (splitN va.length) rfl ty_sl_36 rfl rfl ⟨_, rfl⟩ (by omega) (by omega))) ?_
      refine E_as (t := 53) (v' := .slice (if cb = 0 then bb else bb.map (·.add (0 * 1))) (vb.take (splitN va.length)).length cb) rfl (by unfold sliced; rw [eb1, Nat.sub_zero, Nat.sub_zero]) ?_
      refine L_op rfl (W_callV rfl rfl rfl rfl fn_ca_49 (rtop_ok hG (vb.take (splitN va.length)).length _ _ (vb.take (splitN va.length)) (yss.take (splitN va.length)) (Nat.le_refl _) (by omega) (by simp only [List.length_take, List.length_drop]; omega) (fun x hx => (fb1 x hx).1) (by omega)) (rb1 _) ?_)
      refine L_op rfl (W_alloc rfl rfl rfl ty_ze_23 fun b10 => ?_)
      refine L_op rfl (W_storeAll rfl rfl rfl rfl ty_ag_23 (by rw [ints_length, topH_length (leaves_len _)]) (ints_one) .h0 (by rw [ints_length, topH_length (leaves_len _)]; rfl) ?_)
      refine L_nil ?_
      refine St.env (.cons (t := 0) rfl (.cons (t := 1) rfl (.cons (t := 4) rfl (.cons (t := 5) rfl (.cons (t := 7) rfl (.cons (t := 8) rfl (.cons (t := 9) rfl (.cons (t := 10) rfl .nil)))))))) ?_
      refine Q_then ?_
      refine R_seq ?_
      refine R_region ?_
      refine L_val rfl rfl rfl (OpP.v (P_move rfl rfl)) ?_
      refine L_val rfl rfl rfl (OpP.v (P_move rfl rfl)) ?_
      refine L_val rfl rfl rfl (OpP.v (P_slice (splitN va.length) vb.length rfl ty_sl_36 rfl ⟨_, rfl⟩ rfl (by omega) (by omega))) ?_
      refine E_as (t := 57) (v' := .slice (if cb = (splitN va.length) then bb else bb.map (·.add ((splitN va.length) * 1))) (vb.drop (splitN va.length)).length (cb - splitN va.length)) rfl (by unfold sliced; rw [eb2, hlen]) ?_
      refine L_op rfl (W_callV rfl rfl rfl rfl fn_ca_49 (rtop_ok hG (vb.drop (splitN va.length)).length _ _ (vb.drop (splitN va.length)) (yss.drop (splitN va.length)) (Nat.le_refl _) (by omega) (by simp only [List.length_take, List.length_drop]; omega) (fun x hx => (fb2 x hx).1) (by omega)) (rb2 _) ?_)
      refine L_op rfl (W_alloc rfl rfl rfl ty_ze_23 fun b11 => ?_)
      refine L_op rfl (W_storeAll rfl rfl rfl rfl ty_ag_23 (by rw [ints_length, topH_length (leaves_len _)]) (ints_one) .h0 (by rw [ints_length, topH_length (leaves_len _)]; rfl) ?_)
      refine L_nil ?_
      refine St.env (.cons (t := 0) rfl (.cons (t := 1) rfl (.cons (t := 4) rfl (.cons (t := 5) rfl (.cons (t := 7) rfl (.cons (t := 8) rfl (.cons (t := 9) rfl (.cons (t := 10) rfl (.cons (t := 11) rfl .nil))))))))) ?_
      refine Q_then ?_
      refine R_seq ?_
      refine R_seq ?_
      refine R_region ?_
      refine L_val rfl rfl rfl (V_loadAgg rfl rfl ty_ag_23 (Rds.blk .h3) (by rw [ints_length, topH_length (leaves_len _)])) ?_
      refine L_val rfl rfl rfl (V_loadAgg rfl rfl ty_ag_23 (Rds.blk .h1) (by rw [ints_length, topH_length (leaves_len _)])) ?_
      refine L_val rfl rfl rfl (OpP.v (P_neArr rfl rfl rfl ty_un_23 ty_int_5 ty_sc_5 ty_eg_23 (topH_length (leaves_len _)) (topH_length (leaves_len _)))) ?_
      refine E_bool (t := 61) rfl (fun hl => ?_) (fun hl => ?_)
      · skip
        refine L_val rfl rfl rfl (OpP.v (P_move rfl rfl)) ?_
        refine L_no rfl rfl rfl ?_
        refine L_no rfl rfl rfl ?_
        refine L_no rfl rfl rfl ?_
        refine L_val rfl rfl rfl (OpP.v (P_pick rfl rfl rfl)) ?_
        refine L_nil ?_
        refine St.env (.cons (t := 0) rfl (.cons (t := 1) rfl (.cons (t := 4) rfl (.cons (t := 5) rfl (.cons (t := 7) rfl (.cons (t := 8) rfl (.cons (t := 9) rfl (.cons (t := 10) rfl (.cons (t := 11) rfl (.cons (t := 66) rfl .nil)))))))))) ?_
        refine Q_then ?_
        refine R_condT rfl ?_
        refine R_seq ?_
        refine R_open [(0, 1), (1, 1), (3, 1), (4, 1), (2, 2), (5, 2), (6, 2), (7, 0)] mixed (by kernel_rfl) (QOk.then (QOk.then QOk.body)) ?_
        refine O_val rfl rfl rfl rfl (V_loadAgg rfl rfl ty_ag_23 (Rds.blk .h3) (by rw [ints_length, topH_length (leaves_len _)])) ?_
        refine O_val rfl rfl rfl rfl (V_loadAgg rfl rfl ty_ag_23 (Rds.blk .h2) (by rw [ints_length, topH_length (leaves_len _)])) ?_
        refine O_val rfl rfl rfl rfl (V_loadAgg rfl rfl ty_ag_23 (Rds.blk .h1) (by rw [ints_length, topH_length (leaves_len _)])) ?_
        refine O_val rfl rfl rfl rfl (V_loadAgg rfl rfl ty_ag_23 (Rds.blk .h0) (by rw [ints_length, topH_length (leaves_len _)])) ?_
        refine O_keep rfl rfl (W_call rfl rfl rfl rfl fn_ca_40 (innerText_ok (topH (leaves (xss.take (splitN va.length)))) (topH (leaves (xss.drop (splitN va.length)))) (topH_length (leaves_len _)) (topH_length (leaves_len _))) (Split.nil _) (fun _ _ _ _ _ _ _ => trivial) fun v69 rs1 (e1 : rs1 = _) => ?_)
        subst e1
        refine St.openOwn (p := []) (by omega) fun tb1 tcap1 junk1 htc1 htl1 htv => ?_
        subst htv
        refine St.res (rs' := [blk tb1 (ints .u8 (1 :: (topH (leaves (xss.take (splitN va.length))) ++ topH (leaves (xss.drop (splitN va.length))))) ++ junk1) 5, blk b11 (ints .u8 (topH (leaves (yss.drop (splitN va.length))))) 23, blk b10 (ints .u8 (topH (leaves (yss.take (splitN va.length))))) 23, blk b9 (ints .u8 (topH (leaves (xss.drop (splitN va.length))))) 23, blk b8 (ints .u8 (topH (leaves (xss.take (splitN va.length))))) 23]) (Weak.refl _) ?_
        refine K_keep (Weak.drop (Weak.refl _)) ?_
        refine O_keep rfl rfl (W_call rfl rfl rfl rfl fn_ca_40 (innerText_ok (topH (leaves (yss.take (splitN va.length)))) (topH (leaves (yss.drop (splitN va.length)))) (topH_length (leaves_len _)) (topH_length (leaves_len _))) (Split.nil _) (fun _ _ _ _ _ _ _ => trivial) fun v72 rs1 (e1 : rs1 = _) => ?_)
        subst e1
        refine St.openOwn (p := []) (by omega) fun tb2 tcap2 junk2 htc2 htl2 htv => ?_
        subst htv
        refine St.res (rs' := [blk tb2 (ints .u8 (1 :: (topH (leaves (yss.take (splitN va.length))) ++ topH (leaves (yss.drop (splitN va.length))))) ++ junk2) 5, blk tb1 (ints .u8 (1 :: (topH (leaves (xss.take (splitN va.length))) ++ topH (leaves (xss.drop (splitN va.length))))) ++ junk1) 5, blk b11 (ints .u8 (topH (leaves (yss.drop (splitN va.length))))) 23, blk b10 (ints .u8 (topH (leaves (yss.take (splitN va.length))))) 23, blk b9 (ints .u8 (topH (leaves (xss.drop (splitN va.length))))) 23, blk b8 (ints .u8 (topH (leaves (xss.take (splitN va.length))))) 23]) (Weak.refl _) ?_
        refine K_keep (Weak.drop (Weak.refl _)) ?_
        refine O_keep rfl rfl (W_callV rfl rfl rfl rfl fn_ca_51 (clash_okN hG (some ⟨tb1, 0, none⟩) tcap1 (1 :: (topH (leaves (xss.take (splitN va.length))) ++ topH (leaves (xss.drop (splitN va.length))))) (some ⟨tb2, 0, none⟩) tcap2 (1 :: (topH (leaves (yss.take (splitN va.length))) ++ topH (leaves (yss.drop (splitN va.length))))) (by rw [List.length_cons, List.length_append, topH_length (leaves_len _), topH_length (leaves_len _)]) (by rw [List.length_cons, List.length_append, topH_length (leaves_len _), topH_length (leaves_len _)]) (by omega) (by omega) (by decide) (by decide) (IsB.cons (by decide) (by decide) (IsB.append (isB_topH (isB_leaves _)) (isB_topH (isB_leaves _)))) (IsB.cons (by decide) (by decide) (IsB.append (isB_topH (isB_leaves _)) (isB_topH (isB_leaves _))))) (fun w nw => ⟨(Sn.ofBlkAt .h1 fun i v h => app_at i v h).rw_ w nw, (Sn.ofBlkAt .h0 fun i v h => app_at i v h).rw_ w nw⟩) (K_keep (Weak.refl _) ?_))
        refine O_pure rfl rfl rfl rfl (P_assign rfl rfl) ?_
        refine O_nil ?_
        refine St.env (.cons (t := 0) rfl (.cons (t := 1) rfl (.cons (t := 4) rfl (.cons (t := 5) rfl (.cons (t := 7) rfl (.cons (t := 12) rfl .nil)))))) ?_
        refine Q_then ?_
        refine R_seq ?_
        refine R_region ?_
        refine L_val rfl rfl rfl (OpP.v (P_move rfl rfl)) ?_
        refine L_val rfl rfl rfl (OpP.v (P_assign rfl rfl)) ?_
        refine L_val rfl rfl rfl (OpP.v (P_assign rfl rfl)) ?_
        refine L_nil ?_
        refine St.env (.cons (t := 0) rfl (.cons (t := 1) rfl (.cons (t := 4) rfl (.cons (t := 5) rfl (.cons (t := 7) rfl .nil))))) ?_
        refine Q_then ?_
        refine R_ret ?_
        refine Q_then_ret ?_
        exact R_end (rs2 := []) rfl rfl (.tmp rfl (.tmp rfl .nil)) (⟨⟨false, _, rfl, by rw [Bool.false_or]; exact clashB_of (inner_ne (topH_length (leaves_len _)) (topH_length (leaves_len _)) (Or.inl (of_decide_eq_true hl))) htop⟩, rfl⟩) (Weak.nil _)
      · skip
        refine L_val rfl rfl rfl (OpP.v (P_move rfl rfl)) ?_
        refine L_val rfl rfl rfl (V_loadAgg rfl rfl ty_ag_23 (Rds.blk .h2) (by rw [ints_length, topH_length (leaves_len _)])) ?_
        refine L_val rfl rfl rfl (V_loadAgg rfl rfl ty_ag_23 (Rds.blk .h0) (by rw [ints_length, topH_length (leaves_len _)])) ?_
        refine L_val rfl rfl rfl (OpP.v (P_neArr rfl rfl rfl ty_un_23 ty_int_5 ty_sc_5 ty_eg_23 (topH_length (leaves_len _)) (topH_length (leaves_len _)))) ?_
        refine L_val rfl rfl rfl (OpP.v (P_pick rfl rfl rfl)) ?_
        refine L_nil ?_
        refine St.env (.cons (t := 0) rfl (.cons (t := 1) rfl (.cons (t := 4) rfl (.cons (t := 5) rfl (.cons (t := 7) rfl (.cons (t := 8) rfl (.cons (t := 9) rfl (.cons (t := 10) rfl (.cons (t := 11) rfl (.cons (t := 66) rfl .nil)))))))))) ?_
        refine Q_then ?_
        refine R_condP rfl (fun hr => ?_) (fun hr => ?_)
        · skip
          refine R_seq ?_
          refine R_open [(0, 1), (1, 1), (3, 1), (4, 1), (2, 2), (5, 2), (6, 2), (7, 0)] mixed (by kernel_rfl) (QOk.then (QOk.then QOk.body)) ?_
          refine O_val rfl rfl rfl rfl (V_loadAgg rfl rfl ty_ag_23 (Rds.blk .h3) (by rw [ints_length, topH_length (leaves_len _)])) ?_
          refine O_val rfl rfl rfl rfl (V_loadAgg rfl rfl ty_ag_23 (Rds.blk .h2) (by rw [ints_length, topH_length (leaves_len _)])) ?_
          refine O_val rfl rfl rfl rfl (V_loadAgg rfl rfl ty_ag_23 (Rds.blk .h1) (by rw [ints_length, topH_length (leaves_len _)])) ?_
          refine O_val rfl rfl rfl rfl (V_loadAgg rfl rfl ty_ag_23 (Rds.blk .h0) (by rw [ints_length, topH_length (leaves_len _)])) ?_
          refine O_keep rfl rfl (W_call rfl rfl rfl rfl fn_ca_40 (innerText_ok (topH (leaves (xss.take (splitN va.length)))) (topH (leaves (xss.drop (splitN va.length)))) (topH_length (leaves_len _)) (topH_length (leaves_len _))) (Split.nil _) (fun _ _ _ _ _ _ _ => trivial) fun v69 rs1 (e1 : rs1 = _) => ?_)
          subst e1
          refine St.openOwn (p := []) (by omega) fun tb1 tcap1 junk1 htc1 htl1 htv => ?_
          subst htv
          refine St.res (rs' := [blk tb1 (ints .u8 (1 :: (topH (leaves (xss.take (splitN va.length))) ++ topH (leaves (xss.drop (splitN va.length))))) ++ junk1) 5, blk b11 (ints .u8 (topH (leaves (yss.drop (splitN va.length))))) 23, blk b10 (ints .u8 (topH (leaves (yss.take (splitN va.length))))) 23, blk b9 (ints .u8 (topH (leaves (xss.drop (splitN va.length))))) 23, blk b8 (ints .u8 (topH (leaves (xss.take (splitN va.length))))) 23]) (Weak.refl _) ?_
          refine K_keep (Weak.drop (Weak.refl _)) ?_
          refine O_keep rfl rfl (W_call rfl rfl rfl rfl fn_ca_40 (innerText_ok (topH (leaves (yss.take (splitN va.length)))) (topH (leaves (yss.drop (splitN va.length)))) (topH_length (leaves_len _)) (topH_length (leaves_len _))) (Split.nil _) (fun _ _ _ _ _ _ _ => trivial) fun v72 rs1 (e1 : rs1 = _) => ?_)
          subst e1
          refine St.openOwn (p := []) (by omega) fun tb2 tcap2 junk2 htc2 htl2 htv => ?_
          subst htv
          refine St.res (rs' := [blk tb2 (ints .u8 (1 :: (topH (leaves (yss.take (splitN va.length))) ++ topH (leaves (yss.drop (splitN va.length))))) ++ junk2) 5, blk tb1 (ints .u8 (1 :: (topH (leaves (xss.take (splitN va.length))) ++ topH (leaves (xss.drop (splitN va.length))))) ++ junk1) 5, blk b11 (ints .u8 (topH (leaves (yss.drop (splitN va.length))))) 23, blk b10 (ints .u8 (topH (leaves (yss.take (splitN va.length))))) 23, blk b9 (ints .u8 (topH (leaves (xss.drop (splitN va.length))))) 23, blk b8 (ints .u8 (topH (leaves (xss.take (splitN va.length))))) 23]) (Weak.refl _) ?_
          refine K_keep (Weak.drop (Weak.refl _)) ?_
          refine O_keep rfl rfl (W_callV rfl rfl rfl rfl fn_ca_51 (clash_okN hG (some ⟨tb1, 0, none⟩) tcap1 (1 :: (topH (leaves (xss.take (splitN va.length))) ++ topH (leaves (xss.drop (splitN va.length))))) (some ⟨tb2, 0, none⟩) tcap2 (1 :: (topH (leaves (yss.take (splitN va.length))) ++ topH (leaves (yss.drop (splitN va.length))))) (by rw [List.length_cons, List.length_append, topH_length (leaves_len _), topH_length (leaves_len _)]) (by rw [List.length_cons, List.length_append, topH_length (leaves_len _), topH_length (leaves_len _)]) (by omega) (by omega) (by decide) (by decide) (IsB.cons (by decide) (by decide) (IsB.append (isB_topH (isB_leaves _)) (isB_topH (isB_leaves _)))) (IsB.cons (by decide) (by decide) (IsB.append (isB_topH (isB_leaves _)) (isB_topH (isB_leaves _))))) (fun w nw => ⟨(Sn.ofBlkAt .h1 fun i v h => app_at i v h).rw_ w nw, (Sn.ofBlkAt .h0 fun i v h => app_at i v h).rw_ w nw⟩) (K_keep (Weak.refl _) ?_))
          refine O_pure rfl rfl rfl rfl (P_assign rfl rfl) ?_
          refine O_nil ?_
          refine St.env (.cons (t := 0) rfl (.cons (t := 1) rfl (.cons (t := 4) rfl (.cons (t := 5) rfl (.cons (t := 7) rfl (.cons (t := 12) rfl .nil)))))) ?_
          refine Q_then ?_
          refine R_seq ?_
          refine R_region ?_
          refine L_val rfl rfl rfl (OpP.v (P_move rfl rfl)) ?_
          refine L_val rfl rfl rfl (OpP.v (P_assign rfl rfl)) ?_
          refine L_val rfl rfl rfl (OpP.v (P_assign rfl rfl)) ?_
          refine L_nil ?_
          refine St.env (.cons (t := 0) rfl (.cons (t := 1) rfl (.cons (t := 4) rfl (.cons (t := 5) rfl (.cons (t := 7) rfl .nil))))) ?_
          refine Q_then ?_
          refine R_ret ?_
          refine Q_then_ret ?_
          exact R_end (rs2 := []) rfl rfl (.tmp rfl (.tmp rfl .nil)) (⟨⟨false, _, rfl, by rw [Bool.false_or]; exact clashB_of (inner_ne (topH_length (leaves_len _)) (topH_length (leaves_len _)) (Or.inr hr)) htop⟩, rfl⟩) (Weak.nil _)
        · skip
          refine R_skip ?_
          refine Q_then ?_
          refine R_seq ?_
          refine R_open [(0, 0), (1, 0), (2, 0), (3, 0), (4, 0), (5, 0), (6, 2), (7, 0), (8, 0), (9, 0), (10, 0), (11, 0)] mixed (by kernel_rfl) (QOk.then QOk.body) ?_
          refine O_pure rfl rfl rfl rfl (P_move rfl rfl) ?_
          refine O_pure rfl rfl rfl rfl (P_move rfl rfl) ?_
          refine O_pure rfl rfl rfl rfl (P_slice 0 (splitN va.length) rfl ty_sl_36 rfl rfl ⟨_, rfl⟩ (by omega) (by omega)) ?_
          refine E_as (t := 78) (v' := .slice (if ca = 0 then ba else ba.map (·.add (0 * 1))) (va.take (splitN va.length)).length ca) rfl (by unfold sliced; rw [ea1, Nat.sub_zero, Nat.sub_zero]) ?_
          refine O_pure rfl rfl rfl rfl (P_move rfl rfl) ?_
          refine O_pure rfl rfl rfl rfl (P_move rfl rfl) ?_
          refine O_pure rfl rfl rfl rfl (P_slice 0 (splitN va.length) rfl ty_sl_36 rfl rfl ⟨_, rfl⟩ (by omega) (by omega)) ?_
          refine E_as (t := 81) (v' := .slice (if cb = 0 then bb else bb.map (·.add (0 * 1))) (vb.take (splitN va.length)).length cb) rfl (by unfold sliced; rw [eb1, Nat.sub_zero, Nat.sub_zero]) ?_
          refine O_keep rfl rfl (W_call rfl rfl rfl rfl fn_ca_52 (hih _ _ (va.take (splitN va.length)) (xss.take (splitN va.length)) _ _ (vb.take (splitN va.length)) (yss.take (splitN va.length)) (by omega) (by omega) (by simp only [List.length_take, List.length_drop]; omega) (by simp only [List.length_take, List.length_drop]; omega) (by omega) (by omega) fa1 fb1 (by simpa using hl)) (Split.nil _) (fun w a b _ hb dj m => ⟨ra1 _ w ⟨_, hb, m.le (Heap.le_join_right dj)⟩, rb1 _ w ⟨_, hb, m.le (Heap.le_join_right dj)⟩⟩) fun v82 rs1 ⟨⟨s1, c1, e1, hsc1⟩, e2⟩ => ?_)
          subst e1; subst e2
          refine K_keep (Weak.refl _) ?_
          refine O_pure rfl rfl rfl rfl (P_move rfl rfl) ?_
          refine O_pure rfl rfl rfl rfl (P_extract rfl rfl rfl) ?_
          refine O_pure rfl rfl rfl rfl (P_extract rfl rfl rfl) ?_
          refine O_pure rfl rfl rfl rfl (P_assign rfl rfl) ?_
          refine O_pure rfl rfl rfl rfl (P_assign rfl rfl) ?_
          refine O_nil ?_
          refine St.env (.cons (t := 0) rfl (.cons (t := 1) rfl (.cons (t := 4) rfl (.cons (t := 5) rfl (.cons (t := 7) rfl (.cons (t := 13) rfl (.cons (t := 14) rfl .nil))))))) ?_
          refine Q_then ?_
          refine R_seq ?_
          refine R_seq ?_
          refine R_region ?_
          refine L_val rfl rfl rfl (OpP.v (P_move rfl rfl)) ?_
          refine L_val rfl rfl rfl (OpP.v (P_not rfl rfl)) ?_
          refine L_nil ?_
          refine St.env (.cons (t := 0) rfl (.cons (t := 1) rfl (.cons (t := 4) rfl (.cons (t := 5) rfl (.cons (t := 7) rfl (.cons (t := 14) rfl (.cons (t := 86) rfl .nil))))))) ?_
          refine Q_then ?_
          refine R_cond rfl (fun hns => ?_) (fun hns => ?_)
          · skip
            refine R_seq ?_
            refine R_region ?_
            refine L_val rfl rfl rfl (OpP.v (P_move rfl rfl)) ?_
            refine L_val rfl rfl rfl (OpP.v (P_assign rfl rfl)) ?_
            refine L_val rfl rfl rfl (OpP.v (P_assign rfl rfl)) ?_
            refine L_nil ?_
            refine St.env (.cons (t := 0) rfl (.cons (t := 1) rfl (.cons (t := 4) rfl (.cons (t := 5) rfl (.cons (t := 7) rfl .nil))))) ?_
            refine Q_then ?_
            refine R_ret ?_
            refine Q_then_ret ?_
            exact R_end (rs2 := []) rfl rfl (.tmp rfl (.tmp rfl .nil)) (⟨⟨false, c1, rfl, by cases s1 <;> simp_all⟩, rfl⟩) (Weak.nil _)
          · skip
            refine R_skip ?_
            refine Q_then ?_
            refine R_seq ?_
            refine R_open [(0, 0), (1, 0), (2, 0), (3, 0), (4, 0), (5, 0), (6, 2), (7, 0), (8, 0), (9, 0), (10, 0)] mixed (by kernel_rfl) (QOk.then QOk.body) ?_
            refine O_pure rfl rfl rfl rfl (P_move rfl rfl) ?_
            refine O_pure rfl rfl rfl rfl (P_move rfl rfl) ?_
            refine O_pure rfl rfl rfl rfl (P_slice (splitN va.length) va.length rfl ty_sl_36 rfl ⟨_, rfl⟩ rfl (by omega) (by omega)) ?_
            refine E_as (t := 90) (v' := .slice (if ca = (splitN va.length) then ba else ba.map (·.add ((splitN va.length) * 1))) (va.drop (splitN va.length)).length (ca - splitN va.length)) rfl (by unfold sliced; rw [ea2]) ?_
            refine O_pure rfl rfl rfl rfl (P_move rfl rfl) ?_
            refine O_pure rfl rfl rfl rfl (P_move rfl rfl) ?_
            refine O_pure rfl rfl rfl rfl (P_slice (splitN va.length) vb.length rfl ty_sl_36 rfl ⟨_, rfl⟩ rfl (by omega) (by omega)) ?_
            refine E_as (t := 93) (v' := .slice (if cb = (splitN va.length) then bb else bb.map (·.add ((splitN va.length) * 1))) (vb.drop (splitN va.length)).length (cb - splitN va.length)) rfl (by unfold sliced; rw [eb2, hlen]) ?_
            refine O_keep rfl rfl (W_call rfl rfl rfl rfl fn_ca_52 (hih _ _ (va.drop (splitN va.length)) (xss.drop (splitN va.length)) _ _ (vb.drop (splitN va.length)) (yss.drop (splitN va.length)) (by omega) (by omega) (by simp only [List.length_take, List.length_drop]; omega) (by simp only [List.length_take, List.length_drop]; omega) (by omega) (by omega) fa2 fb2 (Classical.not_not.1 hr)) (Split.nil _) (fun w a b _ hb dj m => ⟨ra2 _ w ⟨_, hb, m.le (Heap.le_join_right dj)⟩, rb2 _ w ⟨_, hb, m.le (Heap.le_join_right dj)⟩⟩) fun v94 rs1 ⟨⟨s2, c2, e1, hsc2⟩, e2⟩ => ?_)
            subst e1; subst e2
            refine K_keep (Weak.refl _) ?_
            refine O_pure rfl rfl rfl rfl (P_extract rfl rfl rfl) ?_
            refine O_pure rfl rfl rfl rfl (P_extract rfl rfl rfl) ?_
            refine O_pure rfl rfl rfl rfl (P_assign rfl rfl) ?_
            refine O_pure rfl rfl rfl rfl (P_assign rfl rfl) ?_
            refine O_nil ?_
            refine St.env (.cons (t := 4) rfl (.cons (t := 5) rfl .nil)) ?_
            refine Q_then ?_
            refine R_ret ?_
            exact R_end (rs2 := []) rfl rfl (.tmp rfl (.tmp rfl .nil)) (⟨⟨s2, c2, rfl, hsc2⟩, rfl⟩) (Weak.nil _)
theorem halves_ok {gl : Nat → Obj} (hG : GlobsR gl) : ∀ n, n ≤ 70368744177664 → HalvesOk gl n
  | 0, _ => fun _ _ _ _ _ _ _ _ h0 => absurd h0 (by omega)
  | n + 1, hn => halves_step hG n (by omega) (halves_ok hG n (by omega))
end Go.Proofs.YtldndhekjhlbmaaDoor
