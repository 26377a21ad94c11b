/- Texts that ledgerBinds_holds leans on, part 6: each says at its head what it holds; no condition beyond its theorems' own. -/
import Derived.Test.YtfhjhaogmdaepaaGreatDoorMb5
/- Walks: what a proof binds. Printed by gen.py. -/
set_option linter.unusedVariables false
set_option linter.unusedSimpArgs false
set_option maxRecDepth 100000
namespace Go.Proofs.YtfhjhaogmdaepaaGreatDoor
open Go Go.RowKit Go.Proofs
/-- What down keeps, for lists of less than b items. -/
def DownOkQ (gl : Nat → Obj) (b : Nat) : Prop := ∀ (ba : Option Addr) (ca : Nat) (va : List Value) (xss : List (List Int)) (i : Nat) (bh : Option Addr) (ch : Nat) (hs : List (List Int)) (ib : Option Addr) (ic : Nat) (item : List Int),
 va.length < b → 1 ≤ va.length → va.length ≤ 65536 → i < va.length → va.length = xss.length → va.length ≤ ca → (∀ x ∈ xss, FineB x) → hs.length = (turnsH va.length i).length → (∀ h ∈ hs, h.length = 32) → (∀ h ∈ hs, IsB h) → hs.length ≤ ch → item.length ≤ ic → FineB item →
 topH (leaves xss) = leadH va.length i hs (leafH item) →
 Spec (cx gl) 132 [.slice ba va.length ca, .int .i64 (i : Int), .slice bh hs.length ch, .slice ib item.length ic] (fun w _ => Items w ba va xss ∧ Row w bh (flat .u8 hs) ∧ Row w ib (ints .u8 item)) [] (fun v rs => (∃ s c : Bool, v = .tuple #[.bool s, .bool c] ∧ (s || c) = true ∧ (s = true → xss[i]? = some item)) ∧ rs = [])
set_option maxHeartbeats 1000000 in
theorem down_stepQ {gl : Nat → Obj} (hG : GlobsR gl) (b : Nat) (hih : DownOkQ gl b) : DownOkQ gl (b + 1) := by
 intro ba ca va xss i bh ch hs ib ic item hva h1n hnM hi hvx hca ha hlen hh hB hch hic hit htop
 refine Spec.enter (C := cx gl) Tryz.func132 rfl 135 rfl rfl fun w0 h0 hsep hsub hpre => ?_
 obtain rfl : h0 = Heap.none := hsep
 show St (cx gl) _ [(0, .slice ba va.length ca), (1, .int .i64 (i : Int)), (2, .slice bh hs.length ch), (3, .slice ib item.length ic)] _ _
 refine R_seq ?_
 refine R_region ?_
 refine L_val rfl rfl rfl (OpP.v (P_assign rfl rfl)) ?_
 refine L_val rfl rfl rfl (OpP.v (P_assign rfl rfl)) ?_
 refine L_nil ?_
 refine Q_then ?_
 refine R_seq ?_
 refine R_seq ?_
 refine R_region ?_
 refine L_val rfl rfl rfl (OpP.v (P_move rfl rfl)) ?_
 refine L_val rfl rfl rfl (OpP.v (P_len rfl ty_sl_42 rfl)) ?_
 refine L_val rfl rfl rfl (OpP.v (P_eql rfl rfl rfl)) ?_
 refine L_nil ?_
 refine St.env (.cons (t := 0) rfl (.cons (t := 1) rfl (.cons (t := 2) rfl (.cons (t := 3) rfl (.cons (t := 8) rfl (.cons (t := 9) rfl (.cons (t := 22) rfl .nil))))))) ?_
 refine Q_then ?_
 refine R_condP rfl (fun h1 => ?_) (fun h1 => ?_)
 ·skip
  obtain ⟨bb1, c1, y1, hvk1, hxk1, hbc1, hbr1⟩ := hpre.1.2.at_ (k := 0) (by omega)
  obtain ⟨pa, ja, rfl, hrowa⟩ := hpre.1.1.some_ (by omega)
  obtain ⟨g1, i1⟩ := ha y1 (List.mem_of_getElem? hxk1)
  have hv1 : va.length = 1 := by omega
  obtain rfl : hs = [] := List.eq_nil_of_length_eq_zero (by rw [hlen, turnsH_one (by omega)]; rfl)
  rw [leaf_one (by omega) hxk1, leadH_one (by omega)] at htop
  refine R_seq ?_
  refine R_seq ?_
  refine R_open [(0, 0), (1, 0), (2, 0), (3, 0), (4, 0), (5, 0), (6, 1), (7, 1), (8, 0), (9, 1), (10, 0), (11, 0)] mixed (by kernel_rfl) (QOk.then (QOk.then (QOk.then QOk.body))) ?_
  refine O_pure rfl rfl rfl rfl (P_move rfl rfl) ?_
  refine O_pure rfl rfl rfl rfl (P_len rfl ty_sl_45 rfl) ?_
  refine O_pure rfl rfl rfl rfl (P_eql rfl rfl rfl) ?_
  refine E_true (t := 25) rfl (rfl) ?_
  refine O_pure rfl rfl rfl rfl (P_move rfl rfl) ?_
  refine O_pure rfl rfl rfl rfl (P_move rfl rfl) ?_
  refine O_pure rfl rfl rfl rfl (P_ixs (0) rfl ty_sl_42 rfl rfl (by first | rfl | omega) (by omega)) ?_
  refine O_val rfl rfl rfl rfl (V_load rfl rfl ty_sc_48 (Rd.row hrowa rfl hvk1)) ?_
  refine O_val rfl rfl rfl rfl (V_str rfl (slB_spec ty_sl_48).1 ty_int_5 ty_str_9 rfl ((Sn.row hbr1 rfl).rw_)) ?_
  refine O_pure rfl rfl rfl rfl (P_move rfl rfl) ?_
  refine O_val rfl rfl rfl rfl (V_str rfl (slB_spec ty_sl_48).1 ty_int_5 ty_str_9 rfl ((Sn.row hpre.2.2 rfl).rw_)) ?_
  refine O_pure rfl rfl rfl rfl (P_eqStr rfl rfl rfl i1 hit.2) ?_
  refine O_pure rfl rfl rfl rfl (P_pick rfl rfl rfl) ?_
  refine O_nil ?_
  refine St.env (.cons (t := 0) rfl (.cons (t := 1) rfl (.cons (t := 2) rfl (.cons (t := 3) rfl (.cons (t := 8) rfl (.cons (t := 9) rfl (.cons (t := 34) rfl .nil))))))) ?_
  refine Q_then ?_
  refine R_condP rfl (fun heq => ?_) (fun heq => ?_)
  ·skip
   have hit1 : xss[i]? = some item := by rw [← heq, show i = 0 by omega]; exact hxk1
   refine R_seq ?_
   refine R_region ?_
   refine L_val rfl rfl rfl (OpP.v (P_assign rfl rfl)) ?_
   refine L_val rfl rfl rfl (OpP.v (P_assign rfl rfl)) ?_
   refine L_nil ?_
   refine St.env (.cons (t := 0) rfl (.cons (t := 1) rfl (.cons (t := 2) rfl (.cons (t := 3) rfl (.cons (t := 8) rfl (.cons (t := 9) rfl .nil)))))) ?_
   refine Q_then ?_
   refine R_ret ?_
   refine Q_then_ret ?_
   refine Q_then_ret ?_
   exact R_end (rs2 := _) rfl rfl (.tmp rfl (.tmp rfl .nil)) (⟨⟨true, false, rfl, rfl, fun _ => hit1⟩, rfl⟩) (Weak.refl _)
  ·skip
   refine R_skip ?_
   refine Q_then ?_
   refine R_seq ?_
   refine R_region ?_
   refine L_val rfl rfl rfl (OpP.v (P_move rfl rfl)) ?_
   refine L_val rfl rfl rfl (OpP.v (P_ixs (0) rfl ty_sl_42 rfl rfl (by first | rfl | omega) (by omega))) ?_
   refine L_val rfl rfl rfl (V_load rfl rfl ty_sc_48 (Rd.row hrowa rfl hvk1)) ?_
   refine L_op rfl (W_call rfl rfl rfl rfl fn_ca_128 (leafText_ok bb1 c1 y1 g1) (Split.nil _) (fun w a b _ hb dj m => (Sn.row hbr1 rfl).rw_ w ⟨_, hb, m.le (Heap.le_join_right dj)⟩) fun v38 rs1 (e1 : rs1 = _) => ?_)
   subst e1
   refine St.openOwn (p := []) (by omega) fun tb1 tcap1 junk1 htc1 htl1 htv => ?_
   subst htv
   refine St.res (rs' := [blk tb1 (ints .u8 (0 :: y1) ++ junk1) 5]) (Weak.refl _) ?_
   refine L_val rfl rfl rfl (OpP.v (P_move rfl rfl)) ?_
   refine L_op rfl (W_call rfl rfl rfl rfl fn_ca_128 (leafText_ok ib ic item hit.1) (Split.nil _) (fun w a b _ hb dj m => (Sn.row hpre.2.2 rfl).rw_ w ⟨_, hb, m.le (Heap.le_join_right dj)⟩) fun v40 rs1 (e1 : rs1 = _) => ?_)
   subst e1
   refine St.openOwn (p := []) (by omega) fun tb2 tcap2 junk2 htc2 htl2 htv => ?_
   subst htv
   refine St.res (rs' := [blk tb2 (ints .u8 (0 :: item) ++ junk2) 5, blk tb1 (ints .u8 (0 :: y1) ++ junk1) 5]) (Weak.refl _) ?_
   refine L_op rfl (W_callV rfl rfl rfl rfl fn_ca_20 (clash_okN hG (some ⟨tb1, 0, none⟩) tcap1 (0 :: y1) (some ⟨tb2, 0, none⟩) tcap2 (0 :: item) (List.length_cons) (List.length_cons) htc1 htc2 (by omega) (by have := hit.1; omega) (IsB.cons (by decide) (by decide) i1) (IsB.cons (by decide) (by decide) hit.2)) (fun w nw => ⟨(Sn.ofBlkAt .h1 fun i v h => app_at i v h).rw_ w nw, (Sn.ofBlkAt .h0 fun i v h => app_at i v h).rw_ w nw⟩) ?_)
   refine L_val rfl rfl rfl (OpP.v (P_assign rfl rfl)) ?_
   refine L_nil ?_
   refine St.env (.cons (t := 0) rfl (.cons (t := 1) rfl (.cons (t := 2) rfl (.cons (t := 3) rfl (.cons (t := 8) rfl (.cons (t := 9) rfl (.cons (t := 10) rfl .nil))))))) ?_
   refine Q_then ?_
   refine R_seq ?_
   refine R_region ?_
   refine L_val rfl rfl rfl (OpP.v (P_move rfl rfl)) ?_
   refine L_val rfl rfl rfl (OpP.v (P_assign rfl rfl)) ?_
   refine L_val rfl rfl rfl (OpP.v (P_assign rfl rfl)) ?_
   refine L_nil ?_
   refine St.env (.cons (t := 0) rfl (.cons (t := 1) rfl (.cons (t := 2) rfl (.cons (t := 3) rfl (.cons (t := 8) rfl (.cons (t := 9) rfl .nil)))))) ?_
   refine Q_then ?_
   refine R_ret ?_
   refine Q_then_ret ?_
   exact R_end (rs2 := []) rfl rfl (.tmp rfl (.tmp rfl .nil)) (⟨⟨false, _, rfl, by rw [Bool.false_or]; exact clashB_of (fun e => heq (by injection e)) htop, fun h => by cases h⟩, rfl⟩) (Weak.nil _)
 ·skip
  have hn : 1 < va.length := by omega
  have hk1 := splitN_lt hn
  have hk2 := splitN_pos hn
  have e1 : (va.take (splitN va.length)).length = splitN va.length := by rw [List.length_take]; omega
  have e2 : (va.drop (splitN va.length)).length = va.length - splitN va.length := by rw [List.length_drop] <;> omega
  have ra1 : ∀ rs w, Now (cx gl) ⟨135, [], w0, Heap.none⟩ rs w → Items w (if ca = 0 then ba else ba.map (·.add (0 * 1))) (va.take (splitN va.length)) (xss.take (splitN va.length)) := fun rs w nw => by
   have h := (Items.row (C := cx gl) (F := ⟨135, [], w0, Heap.none⟩) (rs := rs) hpre.1 rfl w nw).sliced (p := 0) (q := splitN va.length) (c := ca) (by omega) (by omega)
   rwa [List.drop_zero, List.drop_zero, Nat.sub_zero] at h
  have ra2 : ∀ rs w, Now (cx gl) ⟨135, [], w0, Heap.none⟩ rs w → Items w (if ca = (splitN va.length) then ba else ba.map (·.add ((splitN va.length) * 1))) (va.drop (splitN va.length)) (xss.drop (splitN va.length)) := fun rs w nw => by
   have h := (Items.row (C := cx gl) (F := ⟨135, [], w0, Heap.none⟩) (rs := rs) hpre.1 rfl w nw).sliced (p := splitN va.length) (q := va.length) (c := ca) (by omega) (Nat.le_refl _)
   rw [take_sub, List.take_of_length_le (l := xss.drop (splitN va.length)) (by rw [List.length_drop]; omega)] at h
   exact h
  have fa1 : ∀ x ∈ (xss.take (splitN va.length)), FineB x := fun x hm => ha x (List.mem_of_mem_take hm)
  have fa2 : ∀ x ∈ (xss.drop (splitN va.length)), FineB x := fun x hm => ha x (List.mem_of_mem_drop hm)
  have hpos : 0 < hs.length := by rw [hlen]; exact turnsH_pos hn
  obtain ⟨es, a, rfl⟩ := list_snoc hpos
  have hel : (es ++ [a]).length = es.length + 1 := by simp
  have hsm : es.length ≤ 65537 := by have := turnsH_len va.length i; omega
  have hal : a.length = 32 := hh a (by simp)
  have hab : IsB a := hB a (by simp)
  have hes : ∀ h ∈ es, h.length = 32 := fun h hm => hh h (by simp [hm])
  have hesB : ∀ h ∈ es, IsB h := fun h hm => hB h (by simp [hm])
  have hax : (es ++ [a])[es.length]? = some a := by simp
  obtain ⟨pb, pj, hbe, hrow⟩ := Row.some_ hpre.2.1 (by rw [flat_length hh]; omega)
  subst hbe
  have rq : ∀ rs, Rw (cx gl) ⟨135, [], w0, Heap.none⟩ rs (if ch = 0 then (some (⟨pb, pj, none⟩ : Addr)) else (some (⟨pb, pj, none⟩ : Addr)).map (·.add (0 * 32))) (flat .u8 es) := fun rs => by
   have h := ((Sn.row (C := cx gl) (F := ⟨135, [], w0, Heap.none⟩) (rs := rs) hpre.2.1 rfl).sliced (sz := 32) (p := 0) (q := es.length) (c := ch) (by omega) (.inr (by rw [flat_length hh, hel]; omega))).rw_
   rwa [Nat.zero_mul, List.drop_zero, Nat.sub_zero, flat_take hh, List.take_left] at h
  rw [hel]
  rw [top_two (n := va.length) hvx hn] at htop
  refine R_skip ?_
  refine Q_then ?_
  refine R_seq ?_
  refine R_region ?_
  refine L_val rfl rfl rfl (OpP.v (P_move rfl rfl)) ?_
  refine L_val rfl rfl rfl (OpP.v (P_len rfl ty_sl_42 rfl)) ?_
  refine L_op rfl (W_callV rfl rfl rfl rfl fn_ca_66 (rsplit_ok gl va.length (by omega)) (fun _ _ => trivial) ?_)
  refine L_val rfl rfl rfl (OpP.v (P_assign rfl rfl)) ?_
  refine L_nil ?_
  refine St.env (.cons (t := 0) rfl (.cons (t := 1) rfl (.cons (t := 2) rfl (.cons (t := 3) rfl (.cons (t := 8) rfl (.cons (t := 9) rfl (.cons (t := 11) rfl .nil))))))) ?_
  refine Q_then ?_
  refine R_seq ?_
  refine R_region ?_
  refine L_val rfl rfl rfl (OpP.v (P_move rfl rfl)) ?_
  refine L_val rfl rfl rfl (OpP.v (P_move rfl rfl)) ?_
  refine L_val rfl rfl rfl (OpP.v (P_slice 0 (splitN va.length) rfl ty_sl_42 rfl rfl ⟨_, rfl⟩ (by omega) (by omega))) ?_
  refine E_as (t := 48) (v' := .slice (if ca = 0 then ba else ba.map (·.add (0 * 1))) (va.take (splitN va.length)).length ca) rfl (by unfold sliced; rw [e1, Nat.sub_zero, Nat.sub_zero]) ?_
  refine L_op rfl (W_callV rfl rfl rfl rfl fn_ca_22 (rtop_ok hG (va.take (splitN va.length)).length _ _ (va.take (splitN va.length)) (xss.take (splitN va.length)) (Nat.le_refl _) (by omega) (by simp only [List.length_take]; omega) (fun x hx => (fa1 x hx).1) (by omega)) (ra1 _) ?_)
  refine L_op rfl (W_alloc rfl rfl rfl ty_ze_29 fun b12 => ?_)
  refine L_op rfl (W_storeAll rfl rfl rfl rfl ty_ag_29 (by rw [ints_length, topH_length (leaves_len _)]) (ints_one) .h0 (by rw [ints_length, topH_length (leaves_len _)]; rfl) ?_)
  refine L_nil ?_
  refine St.env (.cons (t := 0) rfl (.cons (t := 1) rfl (.cons (t := 2) rfl (.cons (t := 3) rfl (.cons (t := 8) rfl (.cons (t := 9) rfl (.cons (t := 11) rfl (.cons (t := 12) rfl .nil)))))))) ?_
  refine Q_then ?_
  refine R_seq ?_
  refine R_region ?_
  refine L_val rfl rfl rfl (OpP.v (P_move rfl rfl)) ?_
  refine L_val rfl rfl rfl (OpP.v (P_move rfl rfl)) ?_
  refine L_val rfl rfl rfl (OpP.v (P_slice (splitN va.length) va.length rfl ty_sl_42 rfl ⟨_, rfl⟩ rfl (by omega) (by omega))) ?_
  refine E_as (t := 52) (v' := .slice (if ca = (splitN va.length) then ba else ba.map (·.add ((splitN va.length) * 1))) (va.drop (splitN va.length)).length (ca - splitN va.length)) rfl (by unfold sliced; rw [e2]) ?_
  refine L_op rfl (W_callV rfl rfl rfl rfl fn_ca_22 (rtop_ok hG (va.drop (splitN va.length)).length _ _ (va.drop (splitN va.length)) (xss.drop (splitN va.length)) (Nat.le_refl _) (by omega) (by simp only [List.length_drop]; omega) (fun x hx => (fa2 x hx).1) (by omega)) (ra2 _) ?_)
  refine L_op rfl (W_alloc rfl rfl rfl ty_ze_29 fun b13 => ?_)
  refine L_op rfl (W_storeAll rfl rfl rfl rfl ty_ag_29 (by rw [ints_length, topH_length (leaves_len _)]) (ints_one) .h0 (by rw [ints_length, topH_length (leaves_len _)]; rfl) ?_)
  refine L_nil ?_
  refine St.env (.cons (t := 0) rfl (.cons (t := 1) rfl (.cons (t := 2) rfl (.cons (t := 3) rfl (.cons (t := 8) rfl (.cons (t := 9) rfl (.cons (t := 11) rfl (.cons (t := 12) rfl (.cons (t := 13) rfl .nil))))))))) ?_
  refine Q_then ?_
  refine R_seq ?_
  refine R_region ?_
  refine L_val rfl rfl rfl (OpP.v (P_move rfl rfl)) ?_
  refine L_val rfl rfl rfl (OpP.v (P_move rfl rfl)) ?_
  refine L_val rfl rfl rfl (OpP.v (P_len rfl ty_sl_45 rfl)) ?_
  first | (refine L_val rfl rfl rfl (OpP.v (P_subN rfl rfl rfl (by simp only [fits]; omega))) ?_) | (refine L_val rfl rfl rfl (OpP.v (P_sub rfl rfl rfl)) ?_)
  refine E_as (t := 57) (v' := .int .i64 ((es.length : Nat) : Int)) rfl (by congr 1; omega) ?_
  refine L_val rfl rfl rfl (OpP.v (P_ixs (es.length) rfl ty_sl_45 rfl rfl (by first | rfl | omega) (by omega))) ?_
  refine L_val rfl rfl rfl (V_loadAgg rfl rfl ty_ag_29 ((Rds.row hrow rfl).part (es.length * 32) fun j v hv => flat_at hh hax j v hv) (by rw [ints_length, hal])) ?_
  refine L_op rfl (W_alloc rfl rfl rfl ty_ze_29 fun b14 => ?_)
  refine L_op rfl (W_storeAll rfl rfl rfl rfl ty_ag_29 (by rw [ints_length, hal]) (ints_one) .h0 (by rw [ints_length, hal]; rfl) ?_)
  refine L_nil ?_
  refine St.env (.cons (t := 0) rfl (.cons (t := 1) rfl (.cons (t := 2) rfl (.cons (t := 3) rfl (.cons (t := 8) rfl (.cons (t := 9) rfl (.cons (t := 11) rfl (.cons (t := 12) rfl (.cons (t := 13) rfl (.cons (t := 14) rfl .nil)))))))))) ?_
  refine Q_then ?_
  refine R_seq ?_
  refine R_region ?_
  refine L_val rfl rfl rfl (OpP.v (P_move rfl rfl)) ?_
  refine L_val rfl rfl rfl (OpP.v (P_move rfl rfl)) ?_
  refine L_val rfl rfl rfl (OpP.v (P_len rfl ty_sl_45 rfl)) ?_
  first | (refine L_val rfl rfl rfl (OpP.v (P_subN rfl rfl rfl (by simp only [fits]; omega))) ?_) | (refine L_val rfl rfl rfl (OpP.v (P_sub rfl rfl rfl)) ?_)
  refine E_as (t := 63) (v' := .int .i64 ((es.length : Nat) : Int)) rfl (by congr 1; omega) ?_
  refine L_val rfl rfl rfl (OpP.v (P_slice 0 es.length rfl ty_sl_45 rfl rfl ⟨_, rfl⟩ (by omega) (by omega))) ?_
  refine E_as (t := 64) (v' := .slice (if ch = 0 then (some (⟨pb, pj, none⟩ : Addr)) else (some (⟨pb, pj, none⟩ : Addr)).map (·.add (0 * 32))) es.length ch) rfl (by unfold sliced; rw [Nat.sub_zero, Nat.sub_zero]) ?_
  refine L_val rfl rfl rfl (OpP.v (P_assign rfl rfl)) ?_
  refine L_nil ?_
  refine St.env (.cons (t := 0) rfl (.cons (t := 1) rfl (.cons (t := 3) rfl (.cons (t := 8) rfl (.cons (t := 9) rfl (.cons (t := 11) rfl (.cons (t := 12) rfl (.cons (t := 13) rfl (.cons (t := 14) rfl (.cons (t := 15) rfl .nil)))))))))) ?_
  refine Q_then ?_
  refine R_seq ?_
  refine R_seq ?_
  refine R_region ?_
  refine L_val rfl rfl rfl (OpP.v (P_move rfl rfl)) ?_
  refine L_val rfl rfl rfl (OpP.v (P_move rfl rfl)) ?_
  refine L_val rfl rfl rfl (OpP.v (P_lss rfl rfl rfl)) ?_
  refine L_nil ?_
  refine St.env (.cons (t := 0) rfl (.cons (t := 1) rfl (.cons (t := 3) rfl (.cons (t := 8) rfl (.cons (t := 9) rfl (.cons (t := 11) rfl (.cons (t := 12) rfl (.cons (t := 13) rfl (.cons (t := 14) rfl (.cons (t := 15) rfl (.cons (t := 67) rfl .nil))))))))))) ?_
  refine Q_then ?_
  refine R_condP rfl (fun hk => ?_) (fun hk => ?_)
  ·skip
   have hq : es.length = (turnsH (splitN va.length) i).length := by rw [hel, turnsH_left hn (by omega), List.length_cons] at hlen; omega
   rw [leadH_left hn (by omega) _ _ hq] at htop
   refine R_seq ?_
   refine R_region ?_
   refine L_val rfl rfl rfl (OpP.v (P_move rfl rfl)) ?_
   refine L_val rfl rfl rfl (OpP.v (P_move rfl rfl)) ?_
   refine L_val rfl rfl rfl (OpP.v (P_move rfl rfl)) ?_
   refine L_val rfl rfl rfl (OpP.v (P_move rfl rfl)) ?_
   refine L_op rfl (W_callV rfl rfl rfl rfl fn_ca_131 (lead_ok hG (splitN va.length) i _ _ es ib ic item (by omega) (by omega) (by omega) hq hes (by omega) hit.1) (fun w nw => ⟨rq _ w nw, (Sn.row hpre.2.2 rfl).rw_ w nw⟩) ?_)
   refine L_op rfl (W_alloc rfl rfl rfl ty_ze_29 fun b16 => ?_)
   refine L_op rfl (W_storeAll rfl rfl rfl rfl ty_ag_29 (by rw [ints_length, leadH_length (leafH_length _)]) (ints_one) .h0 (by rw [ints_length, leadH_length (leafH_length _)]; rfl) ?_)
   refine L_nil ?_
   refine St.env (.cons (t := 0) rfl (.cons (t := 1) rfl (.cons (t := 3) rfl (.cons (t := 8) rfl (.cons (t := 9) rfl (.cons (t := 11) rfl (.cons (t := 12) rfl (.cons (t := 13) rfl (.cons (t := 14) rfl (.cons (t := 15) rfl (.cons (t := 16) rfl .nil))))))))))) ?_
   refine Q_then ?_
   refine R_seq ?_
   refine R_seq ?_
   refine R_region ?_
   refine L_val rfl rfl rfl (V_loadAgg rfl rfl ty_ag_29 (Rds.blk .h0) (by rw [ints_length, leadH_length (leafH_length _)])) ?_
   refine L_val rfl rfl rfl (V_loadAgg rfl rfl ty_ag_29 (Rds.blk .h3) (by rw [ints_length, topH_length (leaves_len _)])) ?_
   refine L_val rfl rfl rfl (OpP.v (P_neArr rfl rfl rfl ty_un_29 ty_int_5 ty_sc_5 ty_eg_29 (leadH_length (leafH_length _)) (topH_length (leaves_len _)))) ?_
   refine E_bool (t := 75) rfl (fun hl => ?_) (fun hl => ?_)
   ·skip
    refine L_val rfl rfl rfl (OpP.v (P_move rfl rfl)) ?_
    refine L_no rfl rfl rfl ?_
    refine L_no rfl rfl rfl ?_
    refine L_no rfl rfl rfl ?_
    refine L_val rfl rfl rfl (OpP.v (P_pick rfl rfl rfl)) ?_
    refine L_nil ?_
    refine St.env (.cons (t := 0) rfl (.cons (t := 1) rfl (.cons (t := 3) rfl (.cons (t := 8) rfl (.cons (t := 9) rfl (.cons (t := 11) rfl (.cons (t := 12) rfl (.cons (t := 13) rfl (.cons (t := 14) rfl (.cons (t := 15) rfl (.cons (t := 16) rfl (.cons (t := 80) rfl .nil)))))))))))) ?_
    refine Q_then ?_
    refine R_condT rfl ?_
    refine R_seq ?_
    refine R_open [(0, 1), (1, 1), (3, 1), (4, 1), (2, 2), (5, 2), (6, 2), (7, 0)] mixed (by kernel_rfl) (QOk.then (QOk.then (QOk.then QOk.body))) ?_
    refine O_val rfl rfl rfl rfl (V_loadAgg rfl rfl ty_ag_29 (Rds.blk .h3) (by rw [ints_length, topH_length (leaves_len _)])) ?_
    refine O_val rfl rfl rfl rfl (V_loadAgg rfl rfl ty_ag_29 (Rds.blk .h2) (by rw [ints_length, topH_length (leaves_len _)])) ?_
    refine O_val rfl rfl rfl rfl (V_loadAgg rfl rfl ty_ag_29 (Rds.blk .h0) (by rw [ints_length, leadH_length (leafH_length _)])) ?_
    refine O_val rfl rfl rfl rfl (V_loadAgg rfl rfl ty_ag_29 (Rds.blk .h1) (by rw [ints_length, hal])) ?_
    refine O_keep rfl rfl (W_call rfl rfl rfl rfl fn_ca_19 (innerText_ok (topH (leaves (xss.take (splitN va.length)))) (topH (leaves (xss.drop (splitN va.length)))) (topH_length (leaves_len _)) (topH_length (leaves_len _))) (Split.nil _) (fun _ _ _ _ _ _ _ => trivial) fun v83 rs1 (e1 : rs1 = _) => ?_)
    subst e1
    refine St.openOwn (p := []) (by omega) fun tb1 tcap1 junk1 htc1 htl1 htv => ?_
    subst htv
    refine St.res (rs' := [blk tb1 (ints .u8 (1 :: (topH (leaves (xss.take (splitN va.length))) ++ topH (leaves (xss.drop (splitN va.length))))) ++ junk1) 5, blk b16 (ints .u8 (leadH (splitN va.length) i es (leafH item))) 29, blk b14 (ints .u8 a) 29, blk b13 (ints .u8 (topH (leaves (xss.drop (splitN va.length))))) 29, blk b12 (ints .u8 (topH (leaves (xss.take (splitN va.length))))) 29]) (Weak.refl _) ?_
    refine K_keep (Weak.drop (Weak.refl _)) ?_
    refine O_keep rfl rfl (W_call rfl rfl rfl rfl fn_ca_19 (innerText_ok (leadH (splitN va.length) i es (leafH item)) a (leadH_length (leafH_length _)) hal) (Split.nil _) (fun _ _ _ _ _ _ _ => trivial) fun v86 rs1 (e1 : rs1 = _) => ?_)
    subst e1
    refine St.openOwn (p := []) (by omega) fun tb2 tcap2 junk2 htc2 htl2 htv => ?_
    subst htv
    refine St.res (rs' := [blk tb2 (ints .u8 (1 :: (leadH (splitN va.length) i es (leafH item) ++ a)) ++ junk2) 5, blk tb1 (ints .u8 (1 :: (topH (leaves (xss.take (splitN va.length))) ++ topH (leaves (xss.drop (splitN va.length))))) ++ junk1) 5, blk b16 (ints .u8 (leadH (splitN va.length) i es (leafH item))) 29, blk b14 (ints .u8 a) 29, blk b13 (ints .u8 (topH (leaves (xss.drop (splitN va.length))))) 29, blk b12 (ints .u8 (topH (leaves (xss.take (splitN va.length))))) 29]) (Weak.refl _) ?_
    refine K_keep (Weak.drop (Weak.refl _)) ?_
    refine O_keep rfl rfl (W_callV rfl rfl rfl rfl fn_ca_20 (clash_okN hG (some ⟨tb1, 0, none⟩) tcap1 (1 :: (topH (leaves (xss.take (splitN va.length))) ++ topH (leaves (xss.drop (splitN va.length))))) (some ⟨tb2, 0, none⟩) tcap2 (1 :: (leadH (splitN va.length) i es (leafH item) ++ a)) (by rw [List.length_cons, List.length_append, topH_length (leaves_len _), topH_length (leaves_len _)]) (by rw [List.length_cons, List.length_append, leadH_length (leafH_length _), hal]) (by omega) (by omega) (by decide) (by decide) (IsB.cons (by decide) (by decide) (IsB.append (isB_topH (isB_leaves _)) (isB_topH (isB_leaves _)))) (IsB.cons (by decide) (by decide) (IsB.append (isB_lead (isB_leaf _)) hab))) (fun w nw => ⟨(Sn.ofBlkAt .h1 fun i v h => app_at i v h).rw_ w nw, (Sn.ofBlkAt .h0 fun i v h => app_at i v h).rw_ w nw⟩) (K_keep (Weak.refl _) ?_))
    refine O_pure rfl rfl rfl rfl (P_assign rfl rfl) ?_
    refine O_nil ?_
    refine St.env (.cons (t := 0) rfl (.cons (t := 1) rfl (.cons (t := 3) rfl (.cons (t := 8) rfl (.cons (t := 9) rfl (.cons (t := 11) rfl (.cons (t := 12) rfl (.cons (t := 13) rfl (.cons (t := 14) rfl (.cons (t := 15) rfl (.cons (t := 17) rfl .nil))))))))))) ?_
    refine Q_then ?_
    refine R_seq ?_
    refine R_region ?_
    refine L_val rfl rfl rfl (OpP.v (P_move rfl rfl)) ?_
    refine L_val rfl rfl rfl (OpP.v (P_assign rfl rfl)) ?_
    refine L_val rfl rfl rfl (OpP.v (P_assign rfl rfl)) ?_
    refine L_nil ?_
    refine St.env (.cons (t := 0) rfl (.cons (t := 1) rfl (.cons (t := 3) rfl (.cons (t := 8) rfl (.cons (t := 9) rfl (.cons (t := 11) rfl (.cons (t := 12) rfl (.cons (t := 13) rfl (.cons (t := 14) rfl (.cons (t := 15) rfl .nil)))))))))) ?_
    refine Q_then ?_
    refine R_ret ?_
    refine Q_then_ret ?_
    refine Q_then_ret ?_
    exact R_end (rs2 := []) rfl rfl (.tmp rfl (.tmp rfl .nil)) (⟨⟨false, _, rfl, by rw [Bool.false_or]; exact clashB_of (inner_ne (topH_length (leaves_len _)) ((leadH_length (leafH_length _))) (Or.inl (fun e => of_decide_eq_true hl e.symm))) htop, fun h => by cases h⟩, rfl⟩) (Weak.nil _)
   ·skip
    refine L_val rfl rfl rfl (OpP.v (P_move rfl rfl)) ?_
    refine L_val rfl rfl rfl (V_loadAgg rfl rfl ty_ag_29 (Rds.blk .h1) (by rw [ints_length, hal])) ?_
    refine L_val rfl rfl rfl (V_loadAgg rfl rfl ty_ag_29 (Rds.blk .h2) (by rw [ints_length, topH_length (leaves_len _)])) ?_
    refine L_val rfl rfl rfl (OpP.v (P_neArr rfl rfl rfl ty_un_29 ty_int_5 ty_sc_5 ty_eg_29 (hal) (topH_length (leaves_len _)))) ?_
    refine L_val rfl rfl rfl (OpP.v (P_pick rfl rfl rfl)) ?_
    refine L_nil ?_
    refine St.env (.cons (t := 0) rfl (.cons (t := 1) rfl (.cons (t := 3) rfl (.cons (t := 8) rfl (.cons (t := 9) rfl (.cons (t := 11) rfl (.cons (t := 12) rfl (.cons (t := 13) rfl (.cons (t := 14) rfl (.cons (t := 15) rfl (.cons (t := 16) rfl (.cons (t := 80) rfl .nil)))))))))))) ?_
    refine Q_then ?_
    refine R_condP rfl (fun hr => ?_) (fun hr => ?_)
    ·skip
     refine R_seq ?_
     refine R_open [(0, 1), (1, 1), (3, 1), (4, 1), (2, 2), (5, 2), (6, 2), (7, 0)] mixed (by kernel_rfl) (QOk.then (QOk.then (QOk.then QOk.body))) ?_
     refine O_val rfl rfl rfl rfl (V_loadAgg rfl rfl ty_ag_29 (Rds.blk .h3) (by rw [ints_length, topH_length (leaves_len _)])) ?_
     refine O_val rfl rfl rfl rfl (V_loadAgg rfl rfl ty_ag_29 (Rds.blk .h2) (by rw [ints_length, topH_length (leaves_len _)])) ?_
     refine O_val rfl rfl rfl rfl (V_loadAgg rfl rfl ty_ag_29 (Rds.blk .h0) (by rw [ints_length, leadH_length (leafH_length _)])) ?_
     refine O_val rfl rfl rfl rfl (V_loadAgg rfl rfl ty_ag_29 (Rds.blk .h1) (by rw [ints_length, hal])) ?_
     refine O_keep rfl rfl (W_call rfl rfl rfl rfl fn_ca_19 (innerText_ok (topH (leaves (xss.take (splitN va.length)))) (topH (leaves (xss.drop (splitN va.length)))) (topH_length (leaves_len _)) (topH_length (leaves_len _))) (Split.nil _) (fun _ _ _ _ _ _ _ => trivial) fun v83 rs1 (e1 : rs1 = _) => ?_)
     subst e1
     refine St.openOwn (p := []) (by omega) fun tb1 tcap1 junk1 htc1 htl1 htv => ?_
     subst htv
     refine St.res (rs' := [blk tb1 (ints .u8 (1 :: (topH (leaves (xss.take (splitN va.length))) ++ topH (leaves (xss.drop (splitN va.length))))) ++ junk1) 5, blk b16 (ints .u8 (leadH (splitN va.length) i es (leafH item))) 29, blk b14 (ints .u8 a) 29, blk b13 (ints .u8 (topH (leaves (xss.drop (splitN va.length))))) 29, blk b12 (ints .u8 (topH (leaves (xss.take (splitN va.length))))) 29]) (Weak.refl _) ?_
     refine K_keep (Weak.drop (Weak.refl _)) ?_
     refine O_keep rfl rfl (W_call rfl rfl rfl rfl fn_ca_19 (innerText_ok (leadH (splitN va.length) i es (leafH item)) a (leadH_length (leafH_length _)) hal) (Split.nil _) (fun _ _ _ _ _ _ _ => trivial) fun v86 rs1 (e1 : rs1 = _) => ?_)
     subst e1
     refine St.openOwn (p := []) (by omega) fun tb2 tcap2 junk2 htc2 htl2 htv => ?_
     subst htv
     refine St.res (rs' := [blk tb2 (ints .u8 (1 :: (leadH (splitN va.length) i es (leafH item) ++ a)) ++ junk2) 5, blk tb1 (ints .u8 (1 :: (topH (leaves (xss.take (splitN va.length))) ++ topH (leaves (xss.drop (splitN va.length))))) ++ junk1) 5, blk b16 (ints .u8 (leadH (splitN va.length) i es (leafH item))) 29, blk b14 (ints .u8 a) 29, blk b13 (ints .u8 (topH (leaves (xss.drop (splitN va.length))))) 29, blk b12 (ints .u8 (topH (leaves (xss.take (splitN va.length))))) 29]) (Weak.refl _) ?_
     refine K_keep (Weak.drop (Weak.refl _)) ?_
     refine O_keep rfl rfl (W_callV rfl rfl rfl rfl fn_ca_20 (clash_okN hG (some ⟨tb1, 0, none⟩) tcap1 (1 :: (topH (leaves (xss.take (splitN va.length))) ++ topH (leaves (xss.drop (splitN va.length))))) (some ⟨tb2, 0, none⟩) tcap2 (1 :: (leadH (splitN va.length) i es (leafH item) ++ a)) (by rw [List.length_cons, List.length_append, topH_length (leaves_len _), topH_length (leaves_len _)]) (by rw [List.length_cons, List.length_append, leadH_length (leafH_length _), hal]) (by omega) (by omega) (by decide) (by decide) (IsB.cons (by decide) (by decide) (IsB.append (isB_topH (isB_leaves _)) (isB_topH (isB_leaves _)))) (IsB.cons (by decide) (by decide) (IsB.append (isB_lead (isB_leaf _)) hab))) (fun w nw => ⟨(Sn.ofBlkAt .h1 fun i v h => app_at i v h).rw_ w nw, (Sn.ofBlkAt .h0 fun i v h => app_at i v h).rw_ w nw⟩) (K_keep (Weak.refl _) ?_))
     refine O_pure rfl rfl rfl rfl (P_assign rfl rfl) ?_
     refine O_nil ?_
     refine St.env (.cons (t := 0) rfl (.cons (t := 1) rfl (.cons (t := 3) rfl (.cons (t := 8) rfl (.cons (t := 9) rfl (.cons (t := 11) rfl (.cons (t := 12) rfl (.cons (t := 13) rfl (.cons (t := 14) rfl (.cons (t := 15) rfl (.cons (t := 17) rfl .nil))))))))))) ?_
     refine Q_then ?_
     refine R_seq ?_
     refine R_region ?_
     refine L_val rfl rfl rfl (OpP.v (P_move rfl rfl)) ?_
     refine L_val rfl rfl rfl (OpP.v (P_assign rfl rfl)) ?_
     refine L_val rfl rfl rfl (OpP.v (P_assign rfl rfl)) ?_
     refine L_nil ?_
     refine St.env (.cons (t := 0) rfl (.cons (t := 1) rfl (.cons (t := 3) rfl (.cons (t := 8) rfl (.cons (t := 9) rfl (.cons (t := 11) rfl (.cons (t := 12) rfl (.cons (t := 13) rfl (.cons (t := 14) rfl (.cons (t := 15) rfl .nil)))))))))) ?_
     refine Q_then ?_
     refine R_ret ?_
     refine Q_then_ret ?_
     refine Q_then_ret ?_
     exact R_end (rs2 := []) rfl rfl (.tmp rfl (.tmp rfl .nil)) (⟨⟨false, _, rfl, by rw [Bool.false_or]; exact clashB_of (inner_ne (topH_length (leaves_len _)) ((leadH_length (leafH_length _))) (Or.inr (fun e => hr e.symm))) htop, fun h => by cases h⟩, rfl⟩) (Weak.nil _)
    ·skip
     refine R_skip ?_
     refine Q_then ?_
     refine R_seq ?_
     refine R_region ?_
     refine L_val rfl rfl rfl (OpP.v (P_move rfl rfl)) ?_
     refine L_val rfl rfl rfl (OpP.v (P_move rfl rfl)) ?_
     refine L_val rfl rfl rfl (OpP.v (P_slice 0 (splitN va.length) rfl ty_sl_42 rfl rfl ⟨_, rfl⟩ (by omega) (by omega))) ?_
     refine E_as (t := 91) (v' := .slice (if ca = 0 then ba else ba.map (·.add (0 * 1))) (va.take (splitN va.length)).length ca) rfl (by unfold sliced; rw [e1, Nat.sub_zero, Nat.sub_zero]) ?_
     refine L_val rfl rfl rfl (OpP.v (P_move rfl rfl)) ?_
     refine L_val rfl rfl rfl (OpP.v (P_move rfl rfl)) ?_
     refine L_val rfl rfl rfl (OpP.v (P_move rfl rfl)) ?_
     refine L_op rfl (W_call rfl rfl rfl rfl fn_ca_132 (hih _ _ (va.take (splitN va.length)) (xss.take (splitN va.length)) i _ _ es ib ic item (by omega) (by omega) (by omega) (by omega) (by simp only [List.length_take]; omega) (by omega) fa1 (by rw [e1]; exact hq) hes hesB (by omega) hic hit (by rw [e1]; have h : leadH (splitN va.length) i es (leafH item) = topH (leaves (xss.take (splitN va.length))) := (by simpa using hl); exact h.symm)) (Split.nil _) (fun w a b _ hb dj m => ⟨ra1 _ w ⟨_, hb, m.le (Heap.le_join_right dj)⟩, rq _ w ⟨_, hb, m.le (Heap.le_join_right dj)⟩, (Sn.row hpre.2.2 rfl).rw_ w ⟨_, hb, m.le (Heap.le_join_right dj)⟩⟩) fun v95 rs1 ⟨⟨s1, c1, e3, hsc1⟩, e4⟩ => ?_)
     subst e3; subst e4
     refine L_val rfl rfl rfl (OpP.v (P_extract rfl rfl rfl)) ?_
     refine L_val rfl rfl rfl (OpP.v (P_extract rfl rfl rfl)) ?_
     refine L_val rfl rfl rfl (OpP.v (P_assign rfl rfl)) ?_
     refine L_val rfl rfl rfl (OpP.v (P_assign rfl rfl)) ?_
     refine L_nil ?_
     refine St.env (.cons (t := 0) rfl (.cons (t := 1) rfl (.cons (t := 3) rfl (.cons (t := 8) rfl (.cons (t := 9) rfl (.cons (t := 11) rfl (.cons (t := 12) rfl (.cons (t := 13) rfl (.cons (t := 14) rfl (.cons (t := 15) rfl .nil)))))))))) ?_
     refine Q_then ?_
     refine R_ret ?_
     refine Q_then_ret ?_
     exact R_end (rs2 := []) rfl rfl (.tmp rfl (.tmp rfl .nil)) (⟨⟨s1, c1, rfl, hsc1.1, fun hs => by have := hsc1.2 hs; rw [List.getElem?_take] at this; split at this; exact this; cases this⟩, rfl⟩) (Weak.nil _)
  ·skip
   have hq : es.length = (turnsH (va.length - splitN va.length) (i - splitN va.length)).length := by rw [hel, turnsH_right hn (by omega), List.length_cons] at hlen; omega
   rw [leadH_right hn (by omega) _ _ hq] at htop
   refine R_skip ?_
   refine Q_then ?_
   refine R_seq ?_
   refine R_region ?_
   refine L_val rfl rfl rfl (OpP.v (P_move rfl rfl)) ?_
   refine L_val rfl rfl rfl (OpP.v (P_len rfl ty_sl_42 rfl)) ?_
   refine L_val rfl rfl rfl (OpP.v (P_move rfl rfl)) ?_
   first | (refine L_val rfl rfl rfl (OpP.v (P_subN rfl rfl rfl (by simp only [fits]; omega))) ?_) | (refine L_val rfl rfl rfl (OpP.v (P_sub rfl rfl rfl)) ?_)
   refine E_as (t := 101) (v' := .int .i64 ((va.length - splitN va.length : Nat) : Int)) rfl (by congr 1; omega) ?_
   refine L_val rfl rfl rfl (OpP.v (P_move rfl rfl)) ?_
   refine L_val rfl rfl rfl (OpP.v (P_move rfl rfl)) ?_
   first | (refine L_val rfl rfl rfl (OpP.v (P_subN rfl rfl rfl (by simp only [fits]; omega))) ?_) | (refine L_val rfl rfl rfl (OpP.v (P_sub rfl rfl rfl)) ?_)
   refine E_as (t := 104) (v' := .int .i64 ((i - splitN va.length : Nat) : Int)) rfl (by congr 1; omega) ?_
   refine L_val rfl rfl rfl (OpP.v (P_move rfl rfl)) ?_
   refine L_val rfl rfl rfl (OpP.v (P_move rfl rfl)) ?_
   refine L_op rfl (W_callV rfl rfl rfl rfl fn_ca_131 (lead_ok hG (va.length - splitN va.length) (i - splitN va.length) _ _ es ib ic item (by omega) (by omega) (by omega) hq hes (by omega) hit.1) (fun w nw => ⟨rq _ w nw, (Sn.row hpre.2.2 rfl).rw_ w nw⟩) ?_)
   refine L_op rfl (W_alloc rfl rfl rfl ty_ze_29 fun b18 => ?_)
   refine L_op rfl (W_storeAll rfl rfl rfl rfl ty_ag_29 (by rw [ints_length, leadH_length (leafH_length _)]) (ints_one) .h0 (by rw [ints_length, leadH_length (leafH_length _)]; rfl) ?_)
   refine L_nil ?_
   refine St.env (.cons (t := 0) rfl (.cons (t := 1) rfl (.cons (t := 3) rfl (.cons (t := 8) rfl (.cons (t := 9) rfl (.cons (t := 11) rfl (.cons (t := 12) rfl (.cons (t := 13) rfl (.cons (t := 14) rfl (.cons (t := 15) rfl (.cons (t := 18) rfl .nil))))))))))) ?_
   refine Q_then ?_
   refine R_seq ?_
   refine R_seq ?_
   refine R_region ?_
   refine L_val rfl rfl rfl (V_loadAgg rfl rfl ty_ag_29 (Rds.blk .h1) (by rw [ints_length, hal])) ?_
   refine L_val rfl rfl rfl (V_loadAgg rfl rfl ty_ag_29 (Rds.blk .h3) (by rw [ints_length, topH_length (leaves_len _)])) ?_
   refine L_val rfl rfl rfl (OpP.v (P_neArr rfl rfl rfl ty_un_29 ty_int_5 ty_sc_5 ty_eg_29 (hal) (topH_length (leaves_len _)))) ?_
   refine E_bool (t := 110) rfl (fun hl => ?_) (fun hl => ?_)
   ·skip
    refine L_val rfl rfl rfl (OpP.v (P_move rfl rfl)) ?_
    refine L_no rfl rfl rfl ?_
    refine L_no rfl rfl rfl ?_
    refine L_no rfl rfl rfl ?_
    refine L_val rfl rfl rfl (OpP.v (P_pick rfl rfl rfl)) ?_
    refine L_nil ?_
    refine St.env (.cons (t := 0) rfl (.cons (t := 1) rfl (.cons (t := 3) rfl (.cons (t := 8) rfl (.cons (t := 9) rfl (.cons (t := 11) rfl (.cons (t := 12) rfl (.cons (t := 13) rfl (.cons (t := 14) rfl (.cons (t := 15) rfl (.cons (t := 18) rfl (.cons (t := 115) rfl .nil)))))))))))) ?_
    refine Q_then ?_
    refine R_condT rfl ?_
    refine R_seq ?_
    refine R_open [(0, 1), (1, 1), (3, 1), (4, 1), (2, 2), (5, 2), (6, 2), (7, 0)] mixed (by kernel_rfl) (QOk.then (QOk.then QOk.body)) ?_
    refine O_val rfl rfl rfl rfl (V_loadAgg rfl rfl ty_ag_29 (Rds.blk .h3) (by rw [ints_length, topH_length (leaves_len _)])) ?_
    refine O_val rfl rfl rfl rfl (V_loadAgg rfl rfl ty_ag_29 (Rds.blk .h2) (by rw [ints_length, topH_length (leaves_len _)])) ?_
    refine O_val rfl rfl rfl rfl (V_loadAgg rfl rfl ty_ag_29 (Rds.blk .h1) (by rw [ints_length, hal])) ?_
    refine O_val rfl rfl rfl rfl (V_loadAgg rfl rfl ty_ag_29 (Rds.blk .h0) (by rw [ints_length, leadH_length (leafH_length _)])) ?_
    refine O_keep rfl rfl (W_call rfl rfl rfl rfl fn_ca_19 (innerText_ok (topH (leaves (xss.take (splitN va.length)))) (topH (leaves (xss.drop (splitN va.length)))) (topH_length (leaves_len _)) (topH_length (leaves_len _))) (Split.nil _) (fun _ _ _ _ _ _ _ => trivial) fun v118 rs1 (e1 : rs1 = _) => ?_)
    subst e1
    refine St.openOwn (p := []) (by omega) fun tb1 tcap1 junk1 htc1 htl1 htv => ?_
    subst htv
    refine St.res (rs' := [blk tb1 (ints .u8 (1 :: (topH (leaves (xss.take (splitN va.length))) ++ topH (leaves (xss.drop (splitN va.length))))) ++ junk1) 5, blk b18 (ints .u8 (leadH (va.length - splitN va.length) (i - splitN va.length) es (leafH item))) 29, blk b14 (ints .u8 a) 29, blk b13 (ints .u8 (topH (leaves (xss.drop (splitN va.length))))) 29, blk b12 (ints .u8 (topH (leaves (xss.take (splitN va.length))))) 29]) (Weak.refl _) ?_
    refine K_keep (Weak.drop (Weak.refl _)) ?_
    refine O_keep rfl rfl (W_call rfl rfl rfl rfl fn_ca_19 (innerText_ok a (leadH (va.length - splitN va.length) (i - splitN va.length) es (leafH item)) hal (leadH_length (leafH_length _))) (Split.nil _) (fun _ _ _ _ _ _ _ => trivial) fun v121 rs1 (e1 : rs1 = _) => ?_)
    subst e1
    refine St.openOwn (p := []) (by omega) fun tb2 tcap2 junk2 htc2 htl2 htv => ?_
    subst htv
    refine St.res (rs' := [blk tb2 (ints .u8 (1 :: (a ++ leadH (va.length - splitN va.length) (i - splitN va.length) es (leafH item))) ++ junk2) 5, blk tb1 (ints .u8 (1 :: (topH (leaves (xss.take (splitN va.length))) ++ topH (leaves (xss.drop (splitN va.length))))) ++ junk1) 5, blk b18 (ints .u8 (leadH (va.length - splitN va.length) (i - splitN va.length) es (leafH item))) 29, blk b14 (ints .u8 a) 29, blk b13 (ints .u8 (topH (leaves (xss.drop (splitN va.length))))) 29, blk b12 (ints .u8 (topH (leaves (xss.take (splitN va.length))))) 29]) (Weak.refl _) ?_
    refine K_keep (Weak.drop (Weak.refl _)) ?_
    refine O_keep rfl rfl (W_callV rfl rfl rfl rfl fn_ca_20 (clash_okN hG (some ⟨tb1, 0, none⟩) tcap1 (1 :: (topH (leaves (xss.take (splitN va.length))) ++ topH (leaves (xss.drop (splitN va.length))))) (some ⟨tb2, 0, none⟩) tcap2 (1 :: (a ++ leadH (va.length - splitN va.length) (i - splitN va.length) es (leafH item))) (by rw [List.length_cons, List.length_append, topH_length (leaves_len _), topH_length (leaves_len _)]) (by rw [List.length_cons, List.length_append, hal, leadH_length (leafH_length _)]) (by omega) (by omega) (by decide) (by decide) (IsB.cons (by decide) (by decide) (IsB.append (isB_topH (isB_leaves _)) (isB_topH (isB_leaves _)))) (IsB.cons (by decide) (by decide) (IsB.append hab (isB_lead (isB_leaf _))))) (fun w nw => ⟨(Sn.ofBlkAt .h1 fun i v h => app_at i v h).rw_ w nw, (Sn.ofBlkAt .h0 fun i v h => app_at i v h).rw_ w nw⟩) (K_keep (Weak.refl _) ?_))
    refine O_pure rfl rfl rfl rfl (P_assign rfl rfl) ?_
    refine O_nil ?_
    refine St.env (.cons (t := 0) rfl (.cons (t := 1) rfl (.cons (t := 3) rfl (.cons (t := 8) rfl (.cons (t := 9) rfl (.cons (t := 11) rfl (.cons (t := 15) rfl (.cons (t := 19) rfl .nil)))))))) ?_
    refine Q_then ?_
    refine R_seq ?_
    refine R_region ?_
    refine L_val rfl rfl rfl (OpP.v (P_move rfl rfl)) ?_
    refine L_val rfl rfl rfl (OpP.v (P_assign rfl rfl)) ?_
    refine L_val rfl rfl rfl (OpP.v (P_assign rfl rfl)) ?_
    refine L_nil ?_
    refine St.env (.cons (t := 0) rfl (.cons (t := 1) rfl (.cons (t := 3) rfl (.cons (t := 8) rfl (.cons (t := 9) rfl (.cons (t := 11) rfl (.cons (t := 15) rfl .nil))))))) ?_
    refine Q_then ?_
    refine R_ret ?_
    refine Q_then_ret ?_
    exact R_end (rs2 := []) rfl rfl (.tmp rfl (.tmp rfl .nil)) (⟨⟨false, _, rfl, by rw [Bool.false_or]; exact clashB_of (inner_ne (topH_length (leaves_len _)) (hal) (Or.inl (fun e => of_decide_eq_true hl e.symm))) htop, fun h => by cases h⟩, rfl⟩) (Weak.nil _)
   ·skip
    refine L_val rfl rfl rfl (OpP.v (P_move rfl rfl)) ?_
    refine L_val rfl rfl rfl (V_loadAgg rfl rfl ty_ag_29 (Rds.blk .h0) (by rw [ints_length, leadH_length (leafH_length _)])) ?_
    refine L_val rfl rfl rfl (V_loadAgg rfl rfl ty_ag_29 (Rds.blk .h2) (by rw [ints_length, topH_length (leaves_len _)])) ?_
    refine L_val rfl rfl rfl (OpP.v (P_neArr rfl rfl rfl ty_un_29 ty_int_5 ty_sc_5 ty_eg_29 (leadH_length (leafH_length _)) (topH_length (leaves_len _)))) ?_
    refine L_val rfl rfl rfl (OpP.v (P_pick rfl rfl rfl)) ?_
    refine L_nil ?_
    refine St.env (.cons (t := 0) rfl (.cons (t := 1) rfl (.cons (t := 3) rfl (.cons (t := 8) rfl (.cons (t := 9) rfl (.cons (t := 11) rfl (.cons (t := 12) rfl (.cons (t := 13) rfl (.cons (t := 14) rfl (.cons (t := 15) rfl (.cons (t := 18) rfl (.cons (t := 115) rfl .nil)))))))))))) ?_
    refine Q_then ?_
    refine R_condP rfl (fun hr => ?_) (fun hr => ?_)
    ·skip
     refine R_seq ?_
     refine R_open [(0, 1), (1, 1), (3, 1), (4, 1), (2, 2), (5, 2), (6, 2), (7, 0)] mixed (by kernel_rfl) (QOk.then (QOk.then QOk.body)) ?_
     refine O_val rfl rfl rfl rfl (V_loadAgg rfl rfl ty_ag_29 (Rds.blk .h3) (by rw [ints_length, topH_length (leaves_len _)])) ?_
     refine O_val rfl rfl rfl rfl (V_loadAgg rfl rfl ty_ag_29 (Rds.blk .h2) (by rw [ints_length, topH_length (leaves_len _)])) ?_
     refine O_val rfl rfl rfl rfl (V_loadAgg rfl rfl ty_ag_29 (Rds.blk .h1) (by rw [ints_length, hal])) ?_
     refine O_val rfl rfl rfl rfl (V_loadAgg rfl rfl ty_ag_29 (Rds.blk .h0) (by rw [ints_length, leadH_length (leafH_length _)])) ?_
     refine O_keep rfl rfl (W_call rfl rfl rfl rfl fn_ca_19 (innerText_ok (topH (leaves (xss.take (splitN va.length)))) (topH (leaves (xss.drop (splitN va.length)))) (topH_length (leaves_len _)) (topH_length (leaves_len _))) (Split.nil _) (fun _ _ _ _ _ _ _ => trivial) fun v118 rs1 (e1 : rs1 = _) => ?_)
     subst e1
     refine St.openOwn (p := []) (by omega) fun tb1 tcap1 junk1 htc1 htl1 htv => ?_
     subst htv
     refine St.res (rs' := [blk tb1 (ints .u8 (1 :: (topH (leaves (xss.take (splitN va.length))) ++ topH (leaves (xss.drop (splitN va.length))))) ++ junk1) 5, blk b18 (ints .u8 (leadH (va.length - splitN va.length) (i - splitN va.length) es (leafH item))) 29, blk b14 (ints .u8 a) 29, blk b13 (ints .u8 (topH (leaves (xss.drop (splitN va.length))))) 29, blk b12 (ints .u8 (topH (leaves (xss.take (splitN va.length))))) 29]) (Weak.refl _) ?_
     refine K_keep (Weak.drop (Weak.refl _)) ?_
     refine O_keep rfl rfl (W_call rfl rfl rfl rfl fn_ca_19 (innerText_ok a (leadH (va.length - splitN va.length) (i - splitN va.length) es (leafH item)) hal (leadH_length (leafH_length _))) (Split.nil _) (fun _ _ _ _ _ _ _ => trivial) fun v121 rs1 (e1 : rs1 = _) => ?_)
     subst e1
     refine St.openOwn (p := []) (by omega) fun tb2 tcap2 junk2 htc2 htl2 htv => ?_
     subst htv
     refine St.res (rs' := [blk tb2 (ints .u8 (1 :: (a ++ leadH (va.length - splitN va.length) (i - splitN va.length) es (leafH item))) ++ junk2) 5, blk tb1 (ints .u8 (1 :: (topH (leaves (xss.take (splitN va.length))) ++ topH (leaves (xss.drop (splitN va.length))))) ++ junk1) 5, blk b18 (ints .u8 (leadH (va.length - splitN va.length) (i - splitN va.length) es (leafH item))) 29, blk b14 (ints .u8 a) 29, blk b13 (ints .u8 (topH (leaves (xss.drop (splitN va.length))))) 29, blk b12 (ints .u8 (topH (leaves (xss.take (splitN va.length))))) 29]) (Weak.refl _) ?_
     refine K_keep (Weak.drop (Weak.refl _)) ?_
     refine O_keep rfl rfl (W_callV rfl rfl rfl rfl fn_ca_20 (clash_okN hG (some ⟨tb1, 0, none⟩) tcap1 (1 :: (topH (leaves (xss.take (splitN va.length))) ++ topH (leaves (xss.drop (splitN va.length))))) (some ⟨tb2, 0, none⟩) tcap2 (1 :: (a ++ leadH (va.length - splitN va.length) (i - splitN va.length) es (leafH item))) (by rw [List.length_cons, List.length_append, topH_length (leaves_len _), topH_length (leaves_len _)]) (by rw [List.length_cons, List.length_append, hal, leadH_length (leafH_length _)]) (by omega) (by omega) (by decide) (by decide) (IsB.cons (by decide) (by decide) (IsB.append (isB_topH (isB_leaves _)) (isB_topH (isB_leaves _)))) (IsB.cons (by decide) (by decide) (IsB.append hab (isB_lead (isB_leaf _))))) (fun w nw => ⟨(Sn.ofBlkAt .h1 fun i v h => app_at i v h).rw_ w nw, (Sn.ofBlkAt .h0 fun i v h => app_at i v h).rw_ w nw⟩) (K_keep (Weak.refl _) ?_))
     refine O_pure rfl rfl rfl rfl (P_assign rfl rfl) ?_
     refine O_nil ?_
     refine St.env (.cons (t := 0) rfl (.cons (t := 1) rfl (.cons (t := 3) rfl (.cons (t := 8) rfl (.cons (t := 9) rfl (.cons (t := 11) rfl (.cons (t := 15) rfl (.cons (t := 19) rfl .nil)))))))) ?_
     refine Q_then ?_
     refine R_seq ?_
     refine R_region ?_
     refine L_val rfl rfl rfl (OpP.v (P_move rfl rfl)) ?_
     refine L_val rfl rfl rfl (OpP.v (P_assign rfl rfl)) ?_
     refine L_val rfl rfl rfl (OpP.v (P_assign rfl rfl)) ?_
     refine L_nil ?_
     refine St.env (.cons (t := 0) rfl (.cons (t := 1) rfl (.cons (t := 3) rfl (.cons (t := 8) rfl (.cons (t := 9) rfl (.cons (t := 11) rfl (.cons (t := 15) rfl .nil))))))) ?_
     refine Q_then ?_
     refine R_ret ?_
     refine Q_then_ret ?_
     exact R_end (rs2 := []) rfl rfl (.tmp rfl (.tmp rfl .nil)) (⟨⟨false, _, rfl, by rw [Bool.false_or]; exact clashB_of (inner_ne (topH_length (leaves_len _)) (hal) (Or.inr (fun e => hr e.symm))) htop, fun h => by cases h⟩, rfl⟩) (Weak.nil _)
    ·skip
     refine R_skip ?_
     refine Q_then ?_
     refine R_seq ?_
     refine R_region ?_
     refine L_val rfl rfl rfl (OpP.v (P_move rfl rfl)) ?_
     refine L_val rfl rfl rfl (OpP.v (P_move rfl rfl)) ?_
     refine L_val rfl rfl rfl (OpP.v (P_slice (splitN va.length) va.length rfl ty_sl_42 rfl ⟨_, rfl⟩ rfl (by omega) (by omega))) ?_
     refine E_as (t := 126) (v' := .slice (if ca = (splitN va.length) then ba else ba.map (·.add ((splitN va.length) * 1))) (va.drop (splitN va.length)).length (ca - splitN va.length)) rfl (by unfold sliced; rw [e2]) ?_
     refine L_val rfl rfl rfl (OpP.v (P_move rfl rfl)) ?_
     refine L_val rfl rfl rfl (OpP.v (P_move rfl rfl)) ?_
     first | (refine L_val rfl rfl rfl (OpP.v (P_subN rfl rfl rfl (by simp only [fits]; omega))) ?_) | (refine L_val rfl rfl rfl (OpP.v (P_sub rfl rfl rfl)) ?_)
     refine E_as (t := 129) (v' := .int .i64 ((i - splitN va.length : Nat) : Int)) rfl (by congr 1; omega) ?_
     refine L_val rfl rfl rfl (OpP.v (P_move rfl rfl)) ?_
     refine L_val rfl rfl rfl (OpP.v (P_move rfl rfl)) ?_
     refine L_op rfl (W_call rfl rfl rfl rfl fn_ca_132 (hih _ _ (va.drop (splitN va.length)) (xss.drop (splitN va.length)) (i - splitN va.length) _ _ es ib ic item (by omega) (by omega) (by omega) (by omega) (by simp only [List.length_drop]; omega) (by omega) fa2 (by rw [e2]; exact hq) hes hesB (by omega) hic hit (by rw [e2]; exact (Classical.not_not.1 hr).symm)) (Split.nil _) (fun w a b _ hb dj m => ⟨ra2 _ w ⟨_, hb, m.le (Heap.le_join_right dj)⟩, rq _ w ⟨_, hb, m.le (Heap.le_join_right dj)⟩, (Sn.row hpre.2.2 rfl).rw_ w ⟨_, hb, m.le (Heap.le_join_right dj)⟩⟩) fun v132 rs1 ⟨⟨s2, c2, e3, hsc2⟩, e4⟩ => ?_)
     subst e3; subst e4
     refine L_val rfl rfl rfl (OpP.v (P_extract rfl rfl rfl)) ?_
     refine L_val rfl rfl rfl (OpP.v (P_extract rfl rfl rfl)) ?_
     refine L_val rfl rfl rfl (OpP.v (P_assign rfl rfl)) ?_
     refine L_val rfl rfl rfl (OpP.v (P_assign rfl rfl)) ?_
     refine L_nil ?_
     refine St.env (.cons (t := 8) rfl (.cons (t := 9) rfl .nil)) ?_
     refine Q_then ?_
     refine R_ret ?_
     exact R_end (rs2 := []) rfl rfl (.tmp rfl (.tmp rfl .nil)) (⟨⟨s2, c2, rfl, hsc2.1, fun hs => by have := hsc2.2 hs; rw [List.getElem?_drop] at this; rwa [show splitN va.length + (i - splitN va.length) = i by omega] at this⟩, rfl⟩) (Weak.nil _)
theorem down_okQ {gl : Nat → Obj} (hG : GlobsR gl) : ∀ b, DownOkQ gl b
 | 0 => fun _ _ _ _ _ _ _ _ _ _ _ h => absurd h (by omega)
 | b + 1 => down_stepQ hG b (down_okQ hG b)
end Go.Proofs.YtfhjhaogmdaepaaGreatDoor

/- Walks: Beside, DigestBinds. Printed by gen.py. -/
set_option linter.unusedVariables false
set_option linter.unusedSimpArgs false
set_option maxRecDepth 100000
namespace Go.Proofs.YtfhjhaogmdaepaaGreatDoor
open Go Go.RowKit Go.Proofs
theorem beside_okQ {gl : Nat → Obj} (hG : GlobsR gl) (ba : Option Addr) (ca : Nat) (va : List Value) (xss : List (List Int)) (hvx : va.length = xss.length) (hca : va.length ≤ ca) (hbx : ∀ x ∈ xss, IsB x) (hB : bigL xss = false) (n i : Nat) (bh : Option Addr) (ch : Nat) (hs : List (List Int)) (ib : Option Addr) (ic : Nat) (item : List Int) (hh : ∀ h ∈ hs, h.length = 32) (hHB : ∀ h ∈ hs, IsB h) (hch : hs.length ≤ ch) (hic : item.length ≤ ic) (hib : IsB item) (hn1 : 1 ≤ n) (hn2 : n ≤ 65536) (hin : i < n) (hlen : hs.length = (turnsH n i).length) (him : item.length ≤ 1048576) (hroot : sha (2 :: (numB (n : Int) ++ leadH n i hs (leafH item))) = rootH xss.length (topH (leaves xss))) : Spec (cx gl) 67 [.slice ba va.length ca, .agg [.int .i64 (n : Int), .int .i64 (i : Int), .slice bh hs.length ch].toArray, .slice ib item.length ic] (fun w _ => Items w ba va xss ∧ Row w bh (flat .u8 hs) ∧ Row w ib (ints .u8 item)) [] (fun v rs => (∃ s c : Bool, v = .tuple #[.bool s, .bool c] ∧ (s || c) = true ∧ (s = true → n = va.length ∧ xss[i]? = some item)) ∧ rs = []) := by
 refine Spec.enter (C := cx gl) Tryz.func67 rfl 47 rfl rfl fun w0 h0 hsep hsub hpre => ?_
 obtain rfl : h0 = Heap.none := hsep
 show St (cx gl) _ [(0, .slice ba va.length ca), (1, .agg [.int .i64 (n : Int), .int .i64 (i : Int), .slice bh hs.length ch].toArray), (2, .slice ib item.length ic)] _ _
 obtain ⟨g1, _, g3⟩ := bigL_false hB
 rw [← hvx] at hroot
 refine R_seq ?_
 refine R_region ?_
 refine L_op rfl (W_box ([.int .i64 (n : Int), .int .i64 (i : Int), .slice bh hs.length ch]) rfl rfl rfl rfl rfl fun b4 => ?_)
 refine L_val rfl rfl rfl (OpP.v (P_assign rfl rfl)) ?_
 refine L_val rfl rfl rfl (OpP.v (P_assign rfl rfl)) ?_
 refine L_nil ?_
 refine St.env (.cons (t := 0) rfl (.cons (t := 2) rfl (.cons (t := 4) rfl (.cons (t := 6) rfl (.cons (t := 7) rfl .nil))))) ?_
 refine Q_then ?_
 refine R_seq ?_
 refine R_region ?_
 refine L_val rfl rfl rfl (OpP.v (P_fld0 rfl ty_fl_47_0 rfl)) ?_
 refine L_val rfl rfl rfl (V_load rfl rfl ty_sc_3 (Rd.blk .h0 rfl)) ?_
 refine L_val rfl rfl rfl (OpP.v (P_fld0 rfl ty_fl_47_1 rfl)) ?_
 refine L_val rfl rfl rfl (V_load rfl rfl ty_sc_3 (Rd.blk .h0 rfl)) ?_
 refine L_val rfl rfl rfl (OpP.v (P_fld0 rfl ty_fl_47_2 rfl)) ?_
 refine L_val rfl rfl rfl (V_load rfl rfl ty_sc_45 (Rd.blk .h0 rfl)) ?_
 refine L_val rfl rfl rfl (OpP.v (P_move rfl rfl)) ?_
 refine L_op rfl (W_callV rfl rfl rfl rfl fn_ca_131 (lead_ok hG n i bh ch hs ib ic item hn1 hn2 hin hlen hh hch (by omega)) (fun w nw => ⟨(Sn.row hpre.2.1 rfl).rw_ w nw, (Sn.row hpre.2.2 rfl).rw_ w nw⟩) ?_)
 refine L_op rfl (W_alloc rfl rfl rfl ty_ze_29 fun b8 => ?_)
 refine L_op rfl (W_storeAll rfl rfl rfl rfl ty_ag_29 (by rw [ints_length, leadH_length (leafH_length _)]) (ints_one) .h0 (by rw [ints_length, leadH_length (leafH_length _)]; rfl) ?_)
 refine L_nil ?_
 refine St.env (.cons (t := 0) rfl (.cons (t := 2) rfl (.cons (t := 4) rfl (.cons (t := 6) rfl (.cons (t := 7) rfl (.cons (t := 8) rfl .nil)))))) ?_
 refine Q_then ?_
 refine R_seq ?_
 refine R_region ?_
 refine L_val rfl rfl rfl (OpP.v (P_move rfl rfl)) ?_
 refine L_val rfl rfl rfl (OpP.v (P_len rfl ty_sl_42 rfl)) ?_
 refine L_val rfl rfl rfl (OpP.v (P_move rfl rfl)) ?_
 refine L_op rfl (W_callV rfl rfl rfl rfl fn_ca_22 (rtop_ok hG va.length _ _ va xss (Nat.le_refl _) (by omega) hvx (fun x hx => by have := g3 x hx; omega) hca) (Items.row hpre.1 rfl) ?_)
 refine L_op rfl (W_call rfl rfl rfl rfl fn_ca_21 (rootText_ok (va.length : Int) (topH (leaves xss)) (topH_length (leaves_len _))) (Split.nil _) (fun _ _ _ _ _ _ _ => trivial) fun v24 rs1 (e1 : rs1 = _) => ?_)
 subst e1
 refine St.openOwn (p := []) (by omega) fun tb1 tcap1 junk1 htc1 htl1 htv => ?_
 subst htv
 refine St.res (rs' := [blk tb1 (ints .u8 (2 :: (numB (va.length : Int) ++ topH (leaves xss))) ++ junk1) 5, blk b8 (ints .u8 (leadH n i hs (leafH item))) 29, blk b4 [.int .i64 (n : Int), .int .i64 (i : Int), .slice bh hs.length ch] 47]) (Weak.refl _) ?_
 refine L_val rfl rfl rfl (OpP.v (P_assign rfl rfl)) ?_
 refine L_nil ?_
 refine St.env (.cons (t := 0) rfl (.cons (t := 2) rfl (.cons (t := 4) rfl (.cons (t := 6) rfl (.cons (t := 7) rfl (.cons (t := 8) rfl (.cons (t := 9) rfl .nil))))))) ?_
 refine Q_then ?_
 refine R_seq ?_
 refine R_region ?_
 refine L_val rfl rfl rfl (OpP.v (P_fld0 rfl ty_fl_47_0 rfl)) ?_
 refine L_val rfl rfl rfl (V_load rfl rfl ty_sc_3 (Rd.blk .h2 rfl)) ?_
 refine L_val rfl rfl rfl (V_loadAgg rfl rfl ty_ag_29 (Rds.blk .h1) (by rw [ints_length, leadH_length (leafH_length _)])) ?_
 refine L_op rfl (W_call rfl rfl rfl rfl fn_ca_21 (rootText_ok (n : Int) (leadH n i hs (leafH item)) (leadH_length (leafH_length _))) (Split.nil _) (fun _ _ _ _ _ _ _ => trivial) fun v28 rs1 (e1 : rs1 = _) => ?_)
 subst e1
 refine St.openOwn (p := []) (by omega) fun tb2 tcap2 junk2 htc2 htl2 htv => ?_
 subst htv
 refine St.res (rs' := [blk tb2 (ints .u8 (2 :: (numB (n : Int) ++ leadH n i hs (leafH item))) ++ junk2) 5, blk tb1 (ints .u8 (2 :: (numB (va.length : Int) ++ topH (leaves xss))) ++ junk1) 5, blk b8 (ints .u8 (leadH n i hs (leafH item))) 29, blk b4 [.int .i64 (n : Int), .int .i64 (i : Int), .slice bh hs.length ch] 47]) (Weak.refl _) ?_
 refine L_val rfl rfl rfl (OpP.v (P_assign rfl rfl)) ?_
 refine L_nil ?_
 refine St.env (.cons (t := 0) rfl (.cons (t := 2) rfl (.cons (t := 4) rfl (.cons (t := 6) rfl (.cons (t := 7) rfl (.cons (t := 9) rfl (.cons (t := 10) rfl .nil))))))) ?_
 refine Q_then ?_
 refine R_seq ?_
 refine R_seq ?_
 refine R_region ?_
 refine L_val rfl rfl rfl (OpP.v (P_move rfl rfl)) ?_
 refine L_val rfl rfl rfl (V_strN (by rw [List.length_cons, List.length_append, numB_length, topH_length (leaves_len _)]) rfl (slB_spec ty_sl_48).1 ty_int_5 ty_str_9 rfl ((Sn.ofBlkAt .h1 fun i v h => app_at i v h).rw_)) ?_
 refine L_val rfl rfl rfl (OpP.v (P_move rfl rfl)) ?_
 refine L_val rfl rfl rfl (V_strN (by rw [List.length_cons, List.length_append, numB_length, leadH_length (leafH_length _)]) rfl (slB_spec ty_sl_48).1 ty_int_5 ty_str_9 rfl ((Sn.ofBlkAt .h0 fun i v h => app_at i v h).rw_)) ?_
 refine L_val rfl rfl rfl (OpP.v (P_neStr rfl rfl rfl (IsB.cons (by decide) (by decide) (IsB.append (isB_numB _) (isB_topH (isB_leaves _)))) (IsB.cons (by decide) (by decide) (IsB.append (isB_numB _) (isB_lead (isB_leaf _)))))) ?_
 refine L_nil ?_
 refine St.env (.cons (t := 0) rfl (.cons (t := 2) rfl (.cons (t := 4) rfl (.cons (t := 6) rfl (.cons (t := 7) rfl (.cons (t := 9) rfl (.cons (t := 10) rfl (.cons (t := 33) rfl .nil)))))))) ?_
 refine Q_then ?_
 refine R_condP rfl (fun hne => ?_) (fun hne => ?_)
 ·skip
  refine R_seq ?_
  refine R_region ?_
  refine L_val rfl rfl rfl (OpP.v (P_move rfl rfl)) ?_
  refine L_val rfl rfl rfl (OpP.v (P_move rfl rfl)) ?_
  refine L_op rfl (W_callV rfl rfl rfl rfl fn_ca_20 (clash_okN hG (some ⟨tb1, 0, none⟩) tcap1 (2 :: (numB (va.length : Int) ++ topH (leaves xss))) (some ⟨tb2, 0, none⟩) tcap2 (2 :: (numB (n : Int) ++ leadH n i hs (leafH item))) (by rw [List.length_cons, List.length_append, numB_length, topH_length (leaves_len _)]) (by rw [List.length_cons, List.length_append, numB_length, leadH_length (leafH_length _)]) (by omega) (by omega) (by decide) (by decide) (IsB.cons (by decide) (by decide) (IsB.append (isB_numB _) (isB_topH (isB_leaves _)))) (IsB.cons (by decide) (by decide) (IsB.append (isB_numB _) (isB_lead (isB_leaf _))))) (fun w nw => ⟨(Sn.ofBlkAt .h1 fun i v h => app_at i v h).rw_ w nw, (Sn.ofBlkAt .h0 fun i v h => app_at i v h).rw_ w nw⟩) ?_)
  refine L_val rfl rfl rfl (OpP.v (P_assign rfl rfl)) ?_
  refine L_nil ?_
  refine St.env (.cons (t := 0) rfl (.cons (t := 2) rfl (.cons (t := 4) rfl (.cons (t := 6) rfl (.cons (t := 7) rfl (.cons (t := 11) rfl .nil)))))) ?_
  refine Q_then ?_
  refine R_seq ?_
  refine R_region ?_
  refine L_val rfl rfl rfl (OpP.v (P_move rfl rfl)) ?_
  refine L_val rfl rfl rfl (OpP.v (P_assign rfl rfl)) ?_
  refine L_val rfl rfl rfl (OpP.v (P_assign rfl rfl)) ?_
  refine L_nil ?_
  refine St.env (.cons (t := 0) rfl (.cons (t := 2) rfl (.cons (t := 4) rfl (.cons (t := 6) rfl (.cons (t := 7) rfl .nil))))) ?_
  refine Q_then ?_
  refine R_ret ?_
  refine Q_then_ret ?_
  exact R_end (rs2 := []) rfl rfl (.tmp rfl (.tmp rfl .nil)) (⟨⟨false, _, rfl, by rw [Bool.false_or]; exact clashB_of hne hroot.symm, fun h => by cases h⟩, rfl⟩) (Weak.nil _)
 ·skip
  have heq := Classical.not_not.1 hne
  obtain ⟨hnn, htop⟩ := rootText_inj (by omega) (by omega) heq
  subst hnn
  refine R_skip ?_
  refine Q_then ?_
  refine R_seq ?_
  refine R_region ?_
  refine L_val rfl rfl rfl (OpP.v (P_move rfl rfl)) ?_
  refine L_val rfl rfl rfl (OpP.v (P_fld0 rfl ty_fl_47_1 rfl)) ?_
  refine L_val rfl rfl rfl (V_load rfl rfl ty_sc_3 (Rd.blk .h3 rfl)) ?_
  refine L_val rfl rfl rfl (OpP.v (P_fld0 rfl ty_fl_47_2 rfl)) ?_
  refine L_val rfl rfl rfl (V_load rfl rfl ty_sc_45 (Rd.blk .h3 rfl)) ?_
  refine L_val rfl rfl rfl (OpP.v (P_move rfl rfl)) ?_
  refine L_op rfl (W_call rfl rfl rfl rfl fn_ca_132 (down_okQ hG (va.length + 1) ba ca va xss i bh ch hs ib ic item (by omega) hn1 hn2 hin hvx hca (fun x hx => ⟨by have := g3 x hx; omega, hbx x hx⟩) hlen hh hHB hch hic ⟨by omega, hib⟩ htop) (Split.nil _) (fun w a b _ hb dj m => ⟨Items.row hpre.1 rfl w ⟨_, hb, m.le (Heap.le_join_right dj)⟩, (Sn.row hpre.2.1 rfl).rw_ w ⟨_, hb, m.le (Heap.le_join_right dj)⟩, (Sn.row hpre.2.2 rfl).rw_ w ⟨_, hb, m.le (Heap.le_join_right dj)⟩⟩) fun v44 rs1 ⟨⟨s1, c1, e1, hsc1⟩, e2⟩ => ?_)
  subst e1; subst e2
  refine L_val rfl rfl rfl (OpP.v (P_extract rfl rfl rfl)) ?_
  refine L_val rfl rfl rfl (OpP.v (P_extract rfl rfl rfl)) ?_
  refine L_val rfl rfl rfl (OpP.v (P_assign rfl rfl)) ?_
  refine L_val rfl rfl rfl (OpP.v (P_assign rfl rfl)) ?_
  refine L_nil ?_
  refine St.env (.cons (t := 6) rfl (.cons (t := 7) rfl .nil)) ?_
  refine Q_then ?_
  refine R_ret ?_
  exact R_end (rs2 := []) rfl rfl (.tmp rfl (.tmp rfl .nil)) (⟨⟨s1, c1, rfl, hsc1.1, fun hs => ⟨rfl, hsc1.2 hs⟩⟩, rfl⟩) (Weak.nil _)
end Go.Proofs.YtfhjhaogmdaepaaGreatDoor

/- Plain: what Verify lets is what Find says; the reference's pieces beside the ledger's. Printed by gen.py. -/
set_option linter.unusedVariables false
set_option linter.unusedSimpArgs false
set_option maxRecDepth 100000
namespace Go.Proofs.YtfhjhaogmdaepaaGreatDoor
open Go Go.RowKit Go.Proofs
/-- What Verify lets: how the pieces stand; the top that is shown; what it reads. -/
inductive Shown (root R : List Int) (a : Int) : List Acc → List Pf → List Int → Acc → Bool → Prop
 | none (h : sha (1 :: (rootD [] ++ R)) = root) : Shown root R a [] [] (rootD []) acc0 false
 | hit (x : Acc) (p : Pf) (h1 : pE x p = 0) (h2 : sha (1 :: (pD x p ++ R)) = root) (h3 : x.a = a) : Shown root R a [x] [p] (pD x p) x true
 | one (x : Acc) (p : Pf) (h1 : pE x p = 0) (h2 : sha (1 :: (pD x p ++ R)) = root) (h3 : x.a ≠ a) (h4 : ¬ oneB a x p) : Shown root R a [x] [p] (pD x p) acc0 false
 | two (x y : Acc) (p q : Pf) (h1 : pE x p = 0) (h2 : sha (1 :: (pD x p ++ R)) = root) (h3 : ¬ btwB a x y p q) (h4 : verE (pD x p) q.t q.i q.hs (formB y) = 0) : Shown root R a [x, y] [p, q] (pD x p) acc0 false
theorem lead_zero {root R : List Int} {x : Acc} {p : Pf} (h : leadE root R x p = 0) : pE x p = 0 ∧ sha (1 :: (pD x p ++ R)) = root := by
 unfold leadE at h
 split at h
 ·omega
 ·rename_i h1; exact ⟨h, Classical.not_not.1 fun h2 => h1 ⟨h, h2⟩⟩
/-- Verify's answer, part by part. -/
theorem ver_cases (root R : List Int) (a : Int) (ac : List Acc) (ps : List Pf) : ∃ (X : Acc) (T : Bool) (c : Int), verV root R a ac ps = .tuple #[.agg X.cells.toArray, .bool T, .int .i64 c] ∧ (c ≠ 0 → X = acc0 ∧ T = false) ∧ (c = 0 → ∃ D, Shown root R a ac ps D X T) := by
 have bad : verV root R a ac ps = verN 20 → ∃ (X : Acc) (T : Bool) (c : Int), verV root R a ac ps = .tuple #[.agg X.cells.toArray, .bool T, .int .i64 c] ∧ (c ≠ 0 → X = acc0 ∧ T = false) ∧ (c = 0 → ∃ D, Shown root R a ac ps D X T) := fun h => ⟨acc0, false, 20, h, fun _ => ⟨rfl, rfl⟩, fun h => absurd h (by decide)⟩
 match ac, ps, bad with
 | [], [], _ =>
  refine ⟨acc0, false, _, rfl, fun _ => ⟨rfl, rfl⟩, fun h => ⟨_, .none ?_⟩⟩
  split at h
  ·omega
  ·rename_i h1; exact Classical.not_not.1 h1
 | [x], [p], bad =>
  by_cases hb : oneB a x p
  ·exact bad (by rw [verV_one, if_pos hb])
  ·by_cases hh : leadE root R x p = 0 ∧ x.a = a
   ·obtain ⟨h1, h2⟩ := lead_zero hh.1
    exact ⟨x, true, 0, by rw [verV_one, if_neg hb, if_pos hh], fun h => absurd rfl h, fun _ => ⟨_, .hit x p h1 h2 hh.2⟩⟩
   ·refine ⟨acc0, false, leadE root R x p, by rw [verV_one, if_neg hb, if_neg hh]; rfl, fun _ => ⟨rfl, rfl⟩, fun h => ?_⟩
    obtain ⟨h1, h2⟩ := lead_zero h
    exact ⟨_, .one x p h1 h2 (fun e => hh ⟨h, e⟩) hb⟩
 | [x, y], [p, q], bad =>
  refine ⟨acc0, false, btwE root R a x y p q, rfl, fun _ => ⟨rfl, rfl⟩, fun h => ?_⟩
  unfold btwE at h
  by_cases hb : btwB a x y p q
  ·rw [if_pos hb] at h; cases h
  ·rw [if_neg hb] at h
   by_cases hl : leadE root R x p = 0
   ·rw [if_neg (by rw [hl]; simp)] at h
    obtain ⟨h1, h2⟩ := lead_zero hl
    exact ⟨_, .two x y p q h1 h2 hb h⟩
   ·rw [if_pos hl] at h; exact absurd h hl
 | [], _ :: _, bad => exact bad rfl
 | [_], [], bad => exact bad rfl
 | [_], _ :: _ :: _, bad => exact bad rfl
 | [_, _], [], bad => exact bad rfl
 | [_, _], [_], bad => exact bad rfl
 | [_, _], _ :: _ :: _ :: _, bad => exact bad rfl
 | _ :: _ :: _ :: _, _, bad => exact bad (by cases ps <;> rfl)
section
variable {root R : List Int} {a : Int} {ac : List Acc} {ps : List Pf} {D : List Int} {X : Acc} {T : Bool}
theorem Shown.lens (h : Shown root R a ac ps D X T) : ac.length = ps.length ∧ ac.length ≤ 2 := by cases h <;> exact ⟨rfl, by simp⟩
theorem Shown.dlen (h : Shown root R a ac ps D X T) : D.length = 32 := by cases h <;> first | exact rootD_length _ | exact pD_length _ _
theorem Shown.top (h : Shown root R a ac ps D X T) : sha (1 :: (D ++ R)) = root := by cases h <;> assumption
theorem Shown.nil (h : Shown root R a ac ps D X T) (h0 : ¬ 0 < ac.length) : D = rootD [] := by cases h <;> first | rfl | exact absurd (Nat.succ_pos _) h0
theorem Shown.first (h : Shown root R a ac ps D X T) {x : Acc} {p : Pf} (hx : ac[0]? = some x) (hp : ps[0]? = some p) : D = pD x p ∧ pE x p = 0 := by
 cases h with
 | none => cases hx
 | hit x' p' h1 => simp at hx hp; subst hx; subst hp; exact ⟨rfl, h1⟩
 | one x' p' h1 => simp at hx hp; subst hx; subst hp; exact ⟨rfl, h1⟩
 | two x' y' p' q' h1 => simp at hx hp; subst hx; subst hp; exact ⟨rfl, h1⟩
theorem pD_ver {x : Acc} {p : Pf} (h : pE x p = 0) : verE (pD x p) p.t p.i p.hs (formB x) = 0 := by
 have h' : pathE p.t p.i p.hs (formB x) = 0 := h
 unfold verE
 rw [if_pos h']
 exact if_pos rfl
theorem Shown.each (h : Shown root R a ac ps D X T) : ∀ (i : Nat) (x : Acc) (p : Pf), ac[i]? = some x → ps[i]? = some p → verE D p.t p.i p.hs (formB x) = 0 := by
 intro i x p hx hp
 cases h with
 | none => cases hx
 | hit x' p' h1 =>
  match i, hx, hp with
  | 0, hx, hp => simp at hx hp; subst hx; subst hp; exact pD_ver h1
  | i + 1, hx, _ => simp at hx
 | one x' p' h1 =>
  match i, hx, hp with
  | 0, hx, hp => simp at hx hp; subst hx; subst hp; exact pD_ver h1
  | i + 1, hx, _ => simp at hx
 | two x' y' p' q' h1 h2 h3 h4 =>
  match i, hx, hp with
  | 0, hx, hp => simp at hx hp; subst hx; subst hp; exact pD_ver h1
  | 1, hx, hp => simp at hx hp; subst hx; subst hp; exact h4
  | i + 2, hx, _ => simp at hx
end
/-- The first i accounts are the ledger's own, at the places that their proofs name. -/
def SameTo (l : List Acc) (ac : List Acc) (ps : List Pf) (i : Nat) : Prop := ∀ (j : Nat) (x : Acc) (p : Pf), j < i → ac[j]? = some x → ps[j]? = some p → p.t = (l.length : Int) ∧ ∃ m : Nat, p.i = (m : Int) ∧ (l.map formB)[m]? = some (formB x)
theorem SameTo.zero {l : List Acc} {ac : List Acc} {ps : List Pf} : SameTo l ac ps 0 := fun j _ _ h => absurd h (Nat.not_lt_zero j)
theorem SameTo.next {l : List Acc} {ac : List Acc} {ps : List Pf} {i : Nat} {x : Acc} {p : Pf} (h : SameTo l ac ps i) (hx : ac[i]? = some x) (hp : ps[i]? = some p) (h1 : p.t = (l.length : Int)) (m : Nat) (h2 : p.i = (m : Int)) (h3 : (l.map formB)[m]? = some (formB x)) : SameTo l ac ps (i + 1) := fun j y q hj hy hq => by
 rcases Nat.lt_or_ge j i with h4 | h4
 ·exact h j y q h4 hy hq
 ·obtain rfl : j = i := by omega
  rw [hx] at hy; rw [hp] at hq; cases hy; cases hq
  exact ⟨h1, m, h2, h3⟩
theorem w8_div {x : Int} (hx : u64 x) (i : Nat) (hi : i < 8) : w8 x i = x / 256 ^ i % 256 := by
 rw [← w8_eq hx.1 hi]
 have h0 : 0 ≤ x / 256 ^ i := Int.ediv_nonneg hx.1 (Int.pow_nonneg (by decide))
 rw [Int.tmod_eq_emod_of_nonneg h0]
 simp only [IntKind.wrap, IntKind.signed, IntKind.bits, Bool.false_and, Bool.false_eq_true, if_false]
 omega
theorem word8_inj {x y : Int} (hx : u64 x) (hy : u64 y) (h : word8 x 8 = word8 y 8) : x = y := by
 have key : ∀ i, i < 8 → x / 256 ^ i % 256 = y / 256 ^ i % 256 := fun i hi => by
  have := congrArg (fun l => l[i]?) h
  unfold word8 at this
  simp only [List.getElem?_map, List.getElem?_range hi, Option.map_some, Option.some.injEq] at this
  rwa [w8_div hx i hi, w8_div hy i hi] at this
 have k0 := key 0 (by decide); have k1 := key 1 (by decide); have k2 := key 2 (by decide); have k3 := key 3 (by decide)
 have k4 := key 4 (by decide); have k5 := key 5 (by decide); have k6 := key 6 (by decide); have k7 := key 7 (by decide)
 obtain ⟨hx0, hx1⟩ := hx; obtain ⟨hy0, hy1⟩ := hy
 simp only [Int.reducePow] at k0 k1 k2 k3 k4 k5 k6 k7
 omega
theorem append_cut {α : Type} {a b c d : List α} (h : a ++ b = c ++ d) (hl : a.length = c.length) : a = c ∧ b = d := List.append_inj h hl
theorem formB_inj {x y : Acc} (hx : x.ok) (hy : y.ok) (h : formB x = formB y) : x = y := by
 obtain ⟨h1, h2, h3, h4⟩ := hx
 obtain ⟨g1, g2, g3, g4⟩ := hy
 obtain ⟨xa, xb, xc, xd, xe⟩ := x
 obtain ⟨ya, yb, yc, yd, ye⟩ := y
 simp only [formB, accW, wordsB, List.flatMap_cons, List.flatMap_nil, List.append_nil, List.append_assoc] at h
 obtain ⟨e1, h⟩ := append_cut h (by rw [word8_length, word8_length])
 obtain ⟨e2, h⟩ := append_cut h (by rw [word8_length, word8_length])
 obtain ⟨e3, h⟩ := append_cut h (by rw [word8_length, word8_length])
 obtain ⟨e4, h⟩ := append_cut h (by rw [word8_length, word8_length])
 obtain rfl := word8_inj h1 g1 e1
 obtain rfl := word8_inj h2 g2 e2
 obtain rfl := word8_inj h3 g3 e3
 obtain rfl := word8_inj h4 g4 e4
 have : xe = ye := by
  cases xe <;> cases ye <;> first | rfl | (simp [boolB] at h)
 rw [this]
/-- What is let is what Find says. -/
theorem binds_law {l : List Acc} (hf : AccFine l) (hok : ∀ x ∈ l, x.ok) {root R : List Int} {a : Int} {ac : List Acc} {ps : List Pf} {D : List Int} {X : Acc} {T : Bool} (hac : ∀ x ∈ ac, x.ok) (hS : Shown root R a ac ps D X T) (hall : SameTo l ac ps ac.length) (hnil : ac.length = 0 → l = []) (hfew : l.length ≤ 65536) : T = decide (findE l a = 0) ∧ X = findX l a := by
 have own : ∀ (i : Nat) (x : Acc) (p : Pf), ac[i]? = some x → ps[i]? = some p → p.t = (l.length : Int) ∧ ∃ m : Nat, p.i = (m : Int) ∧ m < l.length ∧ accAt l m = x := fun i x p hx hp => by
  obtain ⟨h1, m, h2, h3⟩ := hall i x p (List.getElem?_eq_some_iff.1 hx).1 hx hp
  rw [List.getElem?_map] at h3
  obtain ⟨y, hy, e⟩ := Option.map_eq_some_iff.1 h3
  have := formB_inj (hok y (List.mem_of_getElem? hy)) (hac x (List.mem_of_getElem? hx)) e
  subst this
  exact ⟨h1, m, h2, (List.getElem?_eq_some_iff.1 hy).1, accAt_of hy⟩
 have miss : (∀ i, i < l.length → (accAt l i).a ≠ a) → false = decide (findE l a = 0) ∧ acc0 = findX l a := fun h => by
  have hb : spotB l a = false := by
   cases hb : spotB l a with
   | false => rfl
   | true => obtain ⟨i, hi, e⟩ := (spotB_iff hf a).1 hb; exact absurd e (h i hi)
  obtain ⟨h1, h2⟩ := find_miss hf hb
  rw [h1, h2]; exact ⟨rfl, rfl⟩
 cases hS with
 | none h =>
  have := hnil rfl; subst this
  exact miss fun i hi => absurd hi (Nat.not_lt_zero i)
 | hit x p h1 h2 h3 =>
  obtain ⟨_, m, _, hm, e⟩ := own 0 X p rfl rfl
  have hb := (spotB_iff hf a).2 ⟨m, hm, by rw [e]; exact h3⟩
  have hs := spotI_eq hf hm (show (accAt l m).a = a by rw [e]; exact h3)
  obtain ⟨g1, g2⟩ := find_hit hf hb
  rw [g1, g2, hs, e]; exact ⟨rfl, rfl⟩
 | one x p h1 h2 h3 h4 =>
  obtain ⟨ht, m, hi, hm, e⟩ := own 0 x p rfl rfl
  refine miss fun i hil he => h4 ?_
  rcases Int.lt_or_lt_of_ne h3 with h5 | h5
  ·refine .inr ⟨h5, fun h6 => ?_⟩
   rw [ht, hi, wrap_fits (by simp only [fits]; omega)] at h6
   have h7 : i ≤ m := by omega
   rcases Nat.lt_or_ge i m with h8 | h8
   ·have := hf.mono i m h8 hm; rw [e] at this; omega
   ·obtain rfl : i = m := by omega
    rw [e] at he; omega
  ·refine .inl ⟨h5, fun h6 => ?_⟩
   rw [hi] at h6
   obtain rfl : m = 0 := by omega
   rcases Nat.eq_zero_or_pos i with h8 | h8
   ·subst h8; rw [e] at he; omega
   ·have := hf.mono 0 i h8 hil; rw [e] at this; omega
 | two x y p q h1 h2 h3 h4 =>
  obtain ⟨ht, m, hi, hm, e⟩ := own 0 x p rfl rfl
  obtain ⟨ht', m', hi', hm', e'⟩ := own 1 y q rfl rfl
  refine miss fun i hil he => h3 ?_
  unfold btwB
  refine Classical.byContradiction fun hn => ?_
  have n1 : ¬ a ≤ x.a := fun h => hn (.inl h)
  have n2 : ¬ y.a ≤ a := fun h => hn (.inr (.inl h))
  have n4 : IntKind.i64.wrap (q.i - 1) = p.i := Classical.not_not.1 fun h => hn (.inr (.inr (.inr h)))
  have hmb : m' < 9223372036854775808 := by
   have := (List.getElem?_eq_some_iff.1 (accAt_get hm')).1
   omega
  rw [hi, hi', wrap_fits (by simp only [fits]; omega)] at n4
  rcases Nat.lt_or_ge i m with h8 | h8
  ·have := hf.mono i m h8 hm; rw [e] at this; omega
  ·rcases Nat.lt_or_ge m' i with h9 | h9
   ·have := hf.mono m' i h9 hil; rw [e'] at this; omega
   ·have : i = m ∨ i = m' := by omega
    rcases this with rfl | rfl
    ·rw [e] at he; omega
    ·rw [e'] at he; omega
theorem lbeside_ok {gl : Nat → Obj} (hG : GlobsR gl) (base : Option Addr) (c : Nat) (l : List Acc) (hc : l.length ≤ c) (hfew : l.length ≤ 65536)(hok : ∀ x ∈ l, x.ok) (rv : Value) (hrv : rv.oneCell' = true) (bu su : Int) (R : List Int) (hR : R.length = 32) (ub pb : Option Addr) (uc pc : Nat) (ac : List Acc) (ps : List Pf) (hac : ac.length ≤ uc) (hpc : ps.length ≤ pc) (hps : ∀ p ∈ ps, PfIn p) (hpb : ∀ p ∈ ps, ∀ h ∈ p.hs, IsB h) (hlp : ac.length = ps.length) (hl2 : ac.length ≤ 2) (hao : ∀ x ∈ ac, x.ok) (hver : ∀ (i : Nat) (x : Acc) (p : Pf), ac[i]? = some x → ps[i]? = some p → verE (rootD (l.map formB)) p.t p.i p.hs (formB x) = 0) : Spec (cx gl) 23 [.agg (ledV (.slice base l.length c) (rv) bu su).toArray, .agg (wiC R (.slice ub ac.length uc) (.slice pb ps.length pc)).toArray] (fun w _ => Row w base (rc l) ∧ WitRow w ub ac pb ps) [] (fun v rs => (∃ s c : Bool, v = .tuple #[.bool s, .bool c] ∧ (s || c) = true ∧ (s = true → SameTo l ac ps ac.length)) ∧ rs = []) := by
 refine Spec.enter (C := cx gl) Tryz.func23 rfl 38 rfl rfl fun w0 h0 hsep hsub hpre => ?_
 obtain rfl : h0 = Heap.none := hsep
 show St (cx gl) _ [(0, .agg (ledV (.slice base l.length c) (rv) bu su).toArray), (1, .agg (wiC R (.slice ub ac.length uc) (.slice pb ps.length pc)).toArray)] _ _
 refine R_seq ?_
 refine R_region ?_
 refine L_op rfl (W_box (ledV (.slice base l.length c) (rv) bu su) rfl rfl rfl rfl rfl fun b2 => ?_)
 refine L_op rfl (W_box (wiC R (.slice ub ac.length uc) (.slice pb ps.length pc)) rfl rfl rfl rfl rfl fun b3 => ?_)
 refine L_val rfl rfl rfl (OpP.v (P_assign rfl rfl)) ?_
 refine L_val rfl rfl rfl (OpP.v (P_assign rfl rfl)) ?_
 refine L_nil ?_
 refine St.env (.cons (t := 2) rfl (.cons (t := 3) rfl (.cons (t := 4) rfl (.cons (t := 5) rfl .nil)))) ?_
 refine Q_then ?_
 refine R_seq ?_
 refine R_region ?_
 refine L_val rfl rfl rfl (V_loadAgg rfl rfl ty_ag_26 (Rds.blk .h1) (rfl)) ?_
 refine L_op rfl (W_call rfl rfl rfl rfl fn_ca_14 (rforms_ok base c l hc hfew hok rv hrv bu su) (Split.nil _) (fun w a b _ hb dj m => (Sn.row hpre.1 rfl).rw_ w ⟨_, hb, m.le (Heap.le_join_right dj)⟩) fun v1 rs1 ⟨qs, hq, e1⟩ => ?_)
 subst e1
 refine St.ownForm (p := [_]) fun fub fuc huv hfuc => ?_
 subst huv
 have hql : (qs.map Ob.val).length = l.length := by rw [List.length_map]; exact hq.len
 refine L_val rfl rfl rfl (OpP.v (P_assign rfl rfl)) ?_
 refine L_nil ?_
 refine St.env (.cons (t := 3) rfl (.cons (t := 4) rfl (.cons (t := 5) rfl (.cons (t := 6) rfl .nil)))) ?_
 refine Q_then ?_
 refine R_seq ?_
 refine R_seq ?_
 refine R_region ?_
 refine L_val rfl rfl rfl (OpP.v (P_assign rfl rfl)) ?_
 refine L_nil ?_
 refine Q_then ?_
 refine R_block ?_
 refine R_loopE (G := Nat) (.cons (t := 3) rfl (.cons (t := 4) rfl (.cons (t := 5) rfl (.cons (t := 6) rfl .nil)))) (fun g => [(7, .int .i64 ((g : Int)))]) (fun _ => _) (fun g => g ≤ ac.length ∧ SameTo l ac ps g) (fun g => ac.length - g) (0) (by show (0) ≤ ac.length ∧ SameTo l ac ps (0); exact ⟨Nat.zero_le _, SameTo.zero⟩) (by repeat (first | exact .nil | refine .cons rfl ?_ | refine .consE rfl (by first | rfl | (congr 1; omega) | (congr 1; push_cast; omega)) ?_)) (Weak.refl _) ?_
 intro i hinv
 replace hinv : i ≤ ac.length ∧ SameTo l ac ps i := hinv
 show St (cx gl) _ ((7, .int .i64 ((i : Int))) :: _) _ _
 obtain ⟨hi, hs0⟩ := hinv
 refine R_seq ?_
 refine R_seq ?_
 refine R_region ?_
 refine L_val rfl rfl rfl (OpP.v (P_move rfl rfl)) ?_
 refine L_val rfl rfl rfl (OpP.v (P_fld0 rfl ty_fl_32_1 rfl)) ?_
 refine L_val rfl rfl rfl (V_load rfl rfl ty_sc_22 (Rd.blk .h2 (wi_1 hR _ _))) ?_
 refine L_val rfl rfl rfl (OpP.v (P_len rfl ty_sl_22 rfl)) ?_
 refine L_val rfl rfl rfl (OpP.v (P_lss rfl rfl rfl)) ?_
 refine L_nil ?_
 refine Q_then ?_
 refine R_condP rfl (fun hlt => ?_) (fun hlt => ?_)
 ·skip
  have hilt : i < ac.length := by omega
  obtain ⟨x, hx⟩ : ∃ x, ac[i]? = some x := ⟨_, List.getElem?_eq_getElem hilt⟩
  obtain ⟨p, hp⟩ : ∃ p, ps[i]? = some p := ⟨_, List.getElem?_eq_getElem (by omega)⟩
  have hpm := List.mem_of_getElem? hp
  obtain ⟨g1, g2, g3⟩ := hps p hpm
  have gB := hpb p hpm
  have hv := hver i x p hx hp
  obtain ⟨w1, w2, w3⟩ := hpre.2
  have wp := w3 p hpm
  obtain ⟨T, J, pb2, pc2, hs⟩ := p
  replace hv : verE (rootD (l.map formB)) T J hs (formB x) = 0 := hv
  replace g1 : ∀ h ∈ hs, h.length = 32 := g1
  replace gB : ∀ h ∈ hs, IsB h := gB
  replace g3 : hs.length ≤ pc2 := g3
  replace wp : Row w0 pb2 (flat .u8 hs) := wp
  obtain ⟨him, hfit, hsr⟩ := verE_zero hv
  obtain ⟨n, m, rfl, rfl, hn1, hn2, hin, hlen⟩ := fitsB_true hfit
  have hroot : sha (2 :: (numB (n : Int) ++ leadH n m hs (leafH (formB x)))) = rootH (l.map formB).length (topH (leaves (l.map formB))) := by have h := hsr; rw [rootD, forms_small hfew] at h; simpa using h
  obtain ⟨ab, aj, rfl, har⟩ := w1.some_ (by rw [rc_length]; show 0 < _ * 5; omega)
  obtain ⟨qb, qj, rfl, hqr⟩ := w2.some_ (by rw [rc_length]; show 0 < _ * 3; omega)
  refine R_skip ?_
  refine Q_then ?_
  refine R_seq ?_
  refine R_block ?_
  refine R_seq ?_
  refine R_open [(0, 0), (1, 0), (2, 1), (3, 0), (4, 0), (5, 1), (6, 0), (7, 1), (8, 0), (9, 0), (10, 1), (11, 2), (12, 2), (13, 0), (14, 0), (15, 0), (16, 0), (17, 0)] mixed (by kernel_rfl) (QOk.then (QOk.block (QOk.then (QOk.then (QOk.block (QOk.then QOk.body)))))) ?_
  refine O_pure rfl rfl rfl rfl (P_move rfl rfl) ?_
  refine O_pure rfl rfl rfl rfl (P_fld0 rfl ty_fl_32_2 rfl) ?_
  refine O_val rfl rfl rfl rfl (V_load rfl rfl ty_sc_30 (Rd.blk .h2 (wi_2 hR _ _))) ?_
  refine O_pure rfl rfl rfl rfl (P_move rfl rfl) ?_
  refine O_pure rfl rfl rfl rfl (P_ixs (i) rfl ty_sl_30 rfl rfl (by first | rfl | omega) (by omega)) ?_
  refine O_val rfl rfl rfl rfl (V_loadAgg rfl rfl ty_ag_47 (rds_rc (Rds.row hqr rfl) hp) (rfl)) ?_
  refine O_pure rfl rfl rfl rfl (P_fld0 rfl ty_fl_32_1 rfl) ?_
  refine O_val rfl rfl rfl rfl (V_load rfl rfl ty_sc_22 (Rd.blk .h2 (wi_1 hR _ _))) ?_
  refine O_pure rfl rfl rfl rfl (P_move rfl rfl) ?_
  refine O_pure rfl rfl rfl rfl (P_ixs (i) rfl ty_sl_22 rfl rfl (by first | rfl | omega) (by omega)) ?_
  refine O_val rfl rfl rfl rfl (V_loadAgg rfl rfl ty_ag_38 (rds_rc (Rds.row har rfl) hx) (rfl)) ?_
  refine O_keep rfl rfl (W_call rfl rfl rfl rfl fn_ca_16 (rform_ok x (hao x (List.mem_of_getElem? hx))) (Split.nil _) (fun _ _ _ _ _ _ _ => trivial) fun v1 rs1 (e1 : rs1 = _) => ?_)
  subst e1
  have hfl := formB_length x
  refine St.ownForm (p := []) fun ib ic hiv hic => ?_
  subst hiv
  have hic : (formB x).length ≤ ic := by omega
  have h9 := (beside_okQ (gl := gl) hG fub fuc (qs.map Ob.val) (l.map formB) (by rw [hql, List.length_map]) (by rw [hql]; exact hfuc) (fun y hy => by obtain ⟨z, _, rfl⟩ := List.mem_map.1 hy; exact formB_b z) (forms_small hfew) n m pb2 pc2 hs ib ic (formB x) g1 gB g3 hic (formB_b x) hn1 hn2 hin hlen (by rw [formB_length]; decide) hroot)
  rw [hql, formB_length x] at h9
  refine K_keep (Weak.drop (Weak.refl _)) ?_
  refine O_keep rfl rfl (W_call rfl rfl rfl rfl fn_ca_67 (h9) (Split.nil _) (fun w a b _ hb dj m => ⟨by have h8 := fam_items hq.2 .h1 .h2 w ⟨_, hb, m.le (Heap.le_join_right dj)⟩; rw [hq.1] at h8; exact h8, (Sn.row wp rfl).rw_ w ⟨_, hb, m.le (Heap.le_join_right dj)⟩, (Sn.own .h0 rfl).rw_ w ⟨_, hb, m.le (Heap.le_join_right dj)⟩⟩) fun v2 rs2 ⟨⟨s1, c1, e1, hsc, hsm⟩, e2⟩ => ?_)
  subst e1; subst e2
  refine K_keep (Weak.refl _) ?_
  refine O_pure rfl rfl rfl rfl (P_move rfl rfl) ?_
  refine O_pure rfl rfl rfl rfl (P_extract rfl rfl rfl) ?_
  refine O_pure rfl rfl rfl rfl (P_extract rfl rfl rfl) ?_
  refine O_pure rfl rfl rfl rfl (P_assign rfl rfl) ?_
  refine O_pure rfl rfl rfl rfl (P_assign rfl rfl) ?_
  refine O_nil ?_
  refine Q_then ?_
  refine R_seq ?_
  refine R_region ?_
  refine L_val rfl rfl rfl (OpP.v (P_move rfl rfl)) ?_
  refine L_val rfl rfl rfl (OpP.v (P_not rfl rfl)) ?_
  refine L_nil ?_
  refine Q_then ?_
  refine R_cond rfl (fun hs1 => ?_) (fun hs1 => ?_)
  ·skip
   refine R_seq ?_
   refine R_region ?_
   refine L_val rfl rfl rfl (OpP.v (P_move rfl rfl)) ?_
   refine L_val rfl rfl rfl (OpP.v (P_assign rfl rfl)) ?_
   refine L_val rfl rfl rfl (OpP.v (P_assign rfl rfl)) ?_
   refine L_nil ?_
   refine Q_then ?_
   refine R_ret ?_
   refine Q_block_ret ?_
   refine Q_then_ret ?_
   refine Q_then_ret ?_
   refine Q_block_ret ?_
   refine Q_then_ret ?_
   exact R_end (rs2 := []) rfl rfl (.tmp rfl (.tmp rfl .nil)) (⟨⟨false, c1, rfl, by cases s1 with | false => simpa using hsc | true => simp at hs1, fun h => by cases h⟩, rfl⟩) (Weak.nil _)
  ·skip
   have hs1' : s1 = true := by simpa using hs1
   refine R_skip ?_
   refine Q_block ?_
   refine Q_then ?_
   refine R_region ?_
   refine L_val rfl rfl rfl (OpP.v (P_move rfl rfl)) ?_
   first | (refine L_val rfl rfl rfl (OpP.v (P_addN rfl rfl rfl (by simp only [fits]; omega))) ?_) | (refine L_val rfl rfl rfl (OpP.v (P_add rfl rfl rfl)) ?_)
   refine L_val rfl rfl rfl (OpP.v (P_assign rfl rfl)) ?_
   refine L_nil ?_
   exact Q_round (i + 1) (by show (i + 1) ≤ ac.length ∧ SameTo l ac ps (i + 1); exact ⟨by omega, hs0.next hx hp (by show (n : Int) = _; rw [(hsm hs1').1]) m rfl (hsm hs1').2⟩) (by show ac.length - (i + 1) < ac.length - i; omega) (by repeat (first | exact .nil | refine .cons rfl ?_ | refine .consE rfl (by first | rfl | (congr 1; omega) | (congr 1; push_cast; omega)) ?_)) (Weak.drop (Weak.refl _))
 ·skip
  have hin : i = ac.length := by omega
  subst hin
  refine R_exit ?_
  refine Q_then_exit ?_
  refine Q_then_exit ?_
  refine Q_block_eq ?_
  refine St.env (.cons (t := 4) rfl (.cons (t := 5) rfl .nil)) ?_
  refine Q_then ?_
  refine R_seq ?_
  refine R_region ?_
  refine L_val rfl rfl rfl (OpP.v (P_assign rfl rfl)) ?_
  refine L_val rfl rfl rfl (OpP.v (P_assign rfl rfl)) ?_
  refine L_nil ?_
  refine Q_then ?_
  refine R_ret ?_
  exact R_end (rs2 := []) rfl rfl (.tmp rfl (.tmp rfl .nil)) (⟨⟨true, false, rfl, rfl, fun _ => hs0⟩, rfl⟩) (Weak.nil _)
end Go.Proofs.YtfhjhaogmdaepaaGreatDoor

/- alive. Printed by gen.py. -/
set_option linter.unusedVariables false
set_option linter.unusedSimpArgs false
set_option maxRecDepth 100000
namespace Go.Proofs.YtfhjhaogmdaepaaGreatDoor
open Go Go.RowKit Go.Proofs
def al8 : List Acc := [⟨1, 100, 0, 0, false⟩, ⟨2, 0, 50, 7, false⟩]
def par8 : Par := ⟨10, 2, 0, 0, 0, 0, 0, 0, 0, 0, 0, 0⟩
theorem al8_e : newE al8 = 0 := by decide
theorem al8_new : newL8 al8 = ⟨al8, [], 0, 150⟩ := newL8_fine al8_e
theorem al8_fine : AccFine al8 := accFine_of (by decide)
theorem al8_ok : ∀ x ∈ al8, x.ok := by
 intro x hx
 simp only [al8, List.mem_cons, List.not_mem_nil, or_false] at hx
 rcases hx with rfl | rfl <;> exact ⟨⟨by decide, by decide⟩, ⟨by decide, by decide⟩, ⟨by decide, by decide⟩, ⟨by decide, by decide⟩⟩
theorem al8_cand : candM 10 al8 = [⟨2, 50, 0⟩] := by rfl
theorem al8_seats : SeatsOf 10 2 al8 [⟨2, 50, 0⟩] := by
 refine ⟨List.pairwise_singleton _ _, fun x hx => by rw [al8_cand]; exact hx, by rw [al8_cand]; rfl, fun x _ y hy hn => ?_⟩
 rw [al8_cand] at hy; exact absurd hy hn
theorem al8_find : findV al8 2 = .tuple #[.agg (⟨2, 0, 50, 7, false⟩ : Acc).cells.toArray, .int .i64 0] := by
 have h : idxG (isAc 2) al8 = 1 := by decide
 have h2 : ¬ (idxG (isAc 2) al8 < 0 ∨ (2 : Int) = 0) := by rw [h]; decide
 unfold findV findX findE
 rw [if_neg h2, if_neg h2, h]; rfl
theorem alive8 {gl : Nat → Obj} : SpecV (cx gl) 9 [] noPre (.bool true) := by
 refine Spec.enter (C := cx gl) Tryz.func9 rfl 62 rfl rfl fun w0 h0 hsep hsub hpre => ?_
 obtain rfl : h0 = Heap.none := hsep
 show St (cx gl) _ [] _ _
 refine R_seq ?_
 refine R_region ?_
 refine L_val rfl rfl rfl (OpP.v (P_assign rfl rfl)) ?_
 refine L_nil ?_
 refine Q_then ?_
 refine R_seq ?_
 refine R_region ?_
 refine L_val rfl rfl rfl (OpP.v (P_buildStruct rfl ty_pl_38 ty_ze_38 rfl rfl (rfl))) ?_
 refine L_val rfl rfl rfl (OpP.v (P_buildStruct rfl ty_pl_38 ty_ze_38 rfl rfl (rfl))) ?_
 refine L_op rfl (W_lit (z := .nilIface) (rc al8) rfl rfl rfl ty_sl_22 ty_lz_22 rfl rfl rfl (by decide) (by decide) (by intro v hv; simp only [List.mem_cons, List.not_mem_nil, or_false] at hv; rcases hv with rfl | rfl <;> rfl) (rfl) fun b9 => ?_)
 refine L_op rfl (W_call rfl rfl rfl rfl fn_ca_26 (lnew_ok (some ⟨b9, 0, none⟩) 2 al8 (Nat.le_refl 2) (by decide) al8_ok) (Split.nil _) (fun w a b _ hb dj m => (Sn.ofBlk .h0).rw_ w ⟨_, hb, m.le (Heap.le_join_right dj)⟩) fun v10 rs1 ⟨u, z1, z2⟩ => ?_)
 rw [al8_new] at z1 z2
 subst z1; subst z2
 refine St.ownForm (p := []) fun ub uc huv huc => ?_
 subst huv
 refine St.res (rs' := [ownS 38 5 (.slice ub 2 uc) (2) (rc al8), blk b9 (rc al8) 38]) (Weak.refl _) ?_
 refine E_as (t := 10) (v' := .tuple #[.agg (ledV (.slice ub 2 uc) (.slice none 0 0) 0 150).toArray, .int .i64 0]) rfl (by rw [al8_e]; rfl) ?_
 refine L_val rfl rfl rfl (OpP.v (P_move rfl rfl)) ?_
 refine L_val rfl rfl rfl (OpP.v (P_extract rfl rfl rfl)) ?_
 refine L_val rfl rfl rfl (OpP.v (P_extract rfl rfl rfl)) ?_
 refine L_op rfl (W_alloc rfl rfl rfl ty_ze_26 fun b1 => ?_)
 refine L_op rfl (W_storeAll rfl rfl rfl rfl ty_ag_26 (rfl) (ledV_one _ _ _ _ rfl rfl) .h0 (rfl) ?_)
 refine L_val rfl rfl rfl (OpP.v (P_assign rfl rfl)) ?_
 refine L_nil ?_
 refine St.env (.cons (t := 0) rfl (.cons (t := 1) rfl (.cons (t := 2) rfl .nil))) ?_
 refine Q_then ?_
 refine R_seq ?_
 refine R_region ?_
 refine L_val rfl rfl rfl (V_loadAgg rfl rfl ty_ag_26 (Rds.blk .h0) (rfl)) ?_
 refine L_val rfl rfl rfl (OpP.v (P_buildStruct rfl ty_pl_62 ty_ze_62 rfl rfl (rfl))) ?_
 refine L_op rfl (W_call rfl rfl rfl rfl fn_ca_31 (seats_ok ub uc al8 huc (by decide) al8_fine (.slice none 0 0) rfl 0 150 par8) (Split.nil _) (fun w a b _ hb dj m => (Sn.own .h1 rfl).rw_ w ⟨_, hb, m.le (Heap.le_join_right dj)⟩) fun v15 rs1 ⟨R, sb0, sc, z1, hR, z2⟩ => ?_)
 obtain rfl := hR.uniq al8_seats
 subst z1; subst z2
 refine St.ownSome (p := []) (by decide) fun sb sc' hsv hsc => ?_
 obtain rfl : sb0 = some ⟨sb, 0, none⟩ := by simp only [Value.slice.injEq] at hsv; exact hsv.1
 refine St.res (rs' := [ownS 76 3 (.slice (some ⟨sb, 0, none⟩) 1 sc) (1) (rc [(⟨2, 50, 0⟩ : Mem)]), blk b1 (ledV (.slice ub 2 uc) (.slice none 0 0) 0 150) 26, ownS 38 5 (.slice ub 2 uc) (2) (rc al8), blk b9 (rc al8) 38]) (Weak.refl _) ?_
 refine E_as (t := 15) (v' := .slice (some ⟨sb, 0, none⟩) 1 sc) rfl (rfl) ?_
 refine L_val rfl rfl rfl (OpP.v (P_assign rfl rfl)) ?_
 refine L_nil ?_
 refine St.env (.cons (t := 0) rfl (.cons (t := 1) rfl (.cons (t := 2) rfl (.cons (t := 3) rfl .nil)))) ?_
 refine Q_then ?_
 refine R_seq ?_
 refine R_region ?_
 refine L_val rfl rfl rfl (V_loadAgg rfl rfl ty_ag_26 (Rds.blk .h1) (rfl)) ?_
 refine L_op rfl (W_callV rfl rfl rfl rfl fn_ca_50 (find_ok ub uc al8 huc (by decide) (.slice none 0 0) rfl 0 150 2) (fun w nw => (Sn.own .h2 rfl).rw_ w nw) ?_)
 rw [al8_find]
 refine L_val rfl rfl rfl (OpP.v (P_move rfl rfl)) ?_
 refine L_val rfl rfl rfl (OpP.v (P_extract rfl rfl rfl)) ?_
 refine L_val rfl rfl rfl (OpP.v (P_extract rfl rfl rfl)) ?_
 refine L_op rfl (W_alloc rfl rfl rfl ty_ze_38 fun b4 => ?_)
 refine L_op rfl (W_storeAll rfl rfl rfl rfl ty_ag_38 (rfl) (Rec.one (⟨2, 0, 50, 7, false⟩ : Acc)) .h0 (rfl) ?_)
 refine L_val rfl rfl rfl (OpP.v (P_assign rfl rfl)) ?_
 refine L_nil ?_
 refine St.env (.cons (t := 0) rfl (.cons (t := 1) rfl (.cons (t := 2) rfl (.cons (t := 3) rfl (.cons (t := 4) rfl (.cons (t := 5) rfl .nil)))))) ?_
 refine Q_then ?_
 refine R_seq ?_
 refine R_region ?_
 refine L_val rfl rfl rfl (OpP.v (P_move rfl rfl)) ?_
 refine L_val rfl rfl rfl (OpP.v (P_eql rfl rfl rfl)) ?_
 refine E_true (t := 22) rfl (rfl) ?_
 refine L_val rfl rfl rfl (OpP.v (P_move rfl rfl)) ?_
 refine L_val rfl rfl rfl (OpP.v (P_move rfl rfl)) ?_
 refine L_val rfl rfl rfl (OpP.v (P_eql rfl rfl rfl)) ?_
 refine E_true (t := 25) rfl (rfl) ?_
 refine L_val rfl rfl rfl (OpP.v (P_pick rfl rfl rfl)) ?_
 refine L_val rfl rfl rfl (OpP.v (P_move rfl rfl)) ?_
 refine L_val rfl rfl rfl (OpP.v (P_fld0 rfl ty_fl_26_3 rfl)) ?_
 refine L_val rfl rfl rfl (V_load rfl rfl ty_sc_24 (Rd.blk .h2 rfl)) ?_
 refine L_val rfl rfl rfl (OpP.v (P_eql rfl rfl rfl)) ?_
 refine E_true (t := 30) rfl (rfl) ?_
 refine L_val rfl rfl rfl (OpP.v (P_pick rfl rfl rfl)) ?_
 refine L_val rfl rfl rfl (OpP.v (P_move rfl rfl)) ?_
 refine L_val rfl rfl rfl (OpP.v (P_fld0 rfl ty_fl_26_0 rfl)) ?_
 refine L_val rfl rfl rfl (V_load rfl rfl ty_sc_22 (Rd.blk .h2 rfl)) ?_
 refine L_val rfl rfl rfl (OpP.v (P_len rfl ty_sl_22 rfl)) ?_
 refine L_val rfl rfl rfl (OpP.v (P_eql rfl rfl rfl)) ?_
 refine E_true (t := 36) rfl (rfl) ?_
 refine L_val rfl rfl rfl (OpP.v (P_pick rfl rfl rfl)) ?_
 refine L_val rfl rfl rfl (OpP.v (P_move rfl rfl)) ?_
 refine L_val rfl rfl rfl (OpP.v (P_fld0 rfl ty_fl_38_2 rfl)) ?_
 refine L_val rfl rfl rfl (V_load rfl rfl ty_sc_24 (Rd.blk .h0 rfl)) ?_
 refine L_val rfl rfl rfl (OpP.v (P_eql rfl rfl rfl)) ?_
 refine E_true (t := 41) rfl (rfl) ?_
 refine L_val rfl rfl rfl (OpP.v (P_pick rfl rfl rfl)) ?_
 refine L_val rfl rfl rfl (OpP.v (P_move rfl rfl)) ?_
 refine L_val rfl rfl rfl (OpP.v (P_move rfl rfl)) ?_
 refine L_val rfl rfl rfl (OpP.v (P_len rfl ty_sl_68 rfl)) ?_
 refine L_val rfl rfl rfl (OpP.v (P_eql rfl rfl rfl)) ?_
 refine E_true (t := 46) rfl (rfl) ?_
 refine L_val rfl rfl rfl (OpP.v (P_pick rfl rfl rfl)) ?_
 refine L_val rfl rfl rfl (OpP.v (P_move rfl rfl)) ?_
 refine L_val rfl rfl rfl (OpP.v (P_move rfl rfl)) ?_
 refine L_val rfl rfl rfl (OpP.v (P_ixs (0) rfl ty_sl_68 rfl rfl (by first | rfl | omega) (by omega))) ?_
 refine L_val rfl rfl rfl (OpP.v (P_fld rfl ty_fl_76_0 rfl)) ?_
 refine L_val rfl rfl rfl (V_load rfl rfl ty_sc_27 (Rd.own .h1 rfl)) ?_
 refine L_val rfl rfl rfl (OpP.v (P_eql rfl rfl rfl)) ?_
 refine E_true (t := 53) rfl (rfl) ?_
 refine L_val rfl rfl rfl (OpP.v (P_pick rfl rfl rfl)) ?_
 refine L_val rfl rfl rfl (OpP.v (P_move rfl rfl)) ?_
 refine L_val rfl rfl rfl (OpP.v (P_move rfl rfl)) ?_
 refine L_val rfl rfl rfl (OpP.v (P_ixs (0) rfl ty_sl_68 rfl rfl (by first | rfl | omega) (by omega))) ?_
 refine L_val rfl rfl rfl (OpP.v (P_fld rfl ty_fl_76_1 rfl)) ?_
 refine L_val rfl rfl rfl (V_load rfl rfl ty_sc_24 (Rd.own .h1 rfl)) ?_
 refine L_val rfl rfl rfl (OpP.v (P_eql rfl rfl rfl)) ?_
 refine E_true (t := 60) rfl (rfl) ?_
 refine L_val rfl rfl rfl (OpP.v (P_pick rfl rfl rfl)) ?_
 refine L_val rfl rfl rfl (OpP.v (P_assign rfl rfl)) ?_
 refine L_nil ?_
 refine St.env (.cons (t := 0) rfl .nil) ?_
 refine Q_then ?_
 refine R_ret ?_
 exact R_endV rfl rfl (.tmp rfl .nil) (rfl)
end Go.Proofs.YtfhjhaogmdaepaaGreatDoor

/- LedgerProves: the walk. Printed by gen.py. -/
set_option linter.unusedVariables false
set_option linter.unusedSimpArgs false
set_option maxRecDepth 100000
namespace Go.Proofs.YtfhjhaogmdaepaaGreatDoor
open Go Go.RowKit Go.Proofs
theorem rootLD_of {L : Led} (h : lsoundE L = 0) : rootLD L = sha (1 :: (rootD (L.acc.map formB) ++ wRest L)) := by
 have h1 : rootLE L = 0 := by
  rw [rootLE_of h]; unfold rootE
  rw [show bigL (fB L) = false from forms_small (ledFine_of h).few]; rfl
 unfold rootLD wRest
 rw [if_neg (by rw [h1]; simp), if_pos h]; rfl
end Go.Proofs.YtfhjhaogmdaepaaGreatDoor

/- LedgerBinds: the walk. Printed by gen.py. -/
set_option linter.unusedVariables false
set_option linter.unusedSimpArgs false
set_option maxRecDepth 100000
namespace Go.Proofs.YtfhjhaogmdaepaaGreatDoor
open Go Go.RowKit Go.Proofs
theorem rootLE_zero {L : Led} (h : rootLE L = 0) : lsoundE L = 0 := by
 by_cases h1 : lsoundE L = 0
 ·exact h1
 ·rw [rootLE_bad h1] at h; exact h
theorem rootD_plain {xss : List (List Int)} (h : bigL xss = false) : rootD xss = sha (2 :: (numB (xss.length : Int) ++ topH (leaves xss))) := by unfold rootD rootH; rw [h]; rfl
theorem isB_rootD (xss : List (List Int)) : IsB (rootD xss) := by
 unfold rootD; split
 ·intro x hx; rw [List.mem_replicate] at hx; omega
 ·exact isB_sha _
theorem isB_pD (x : Acc) (p : Pf) : IsB (pD x p) := by
 show IsB (pathD _ _ _ _)
 unfold pathD; split
 ·exact isB_sha _
 ·intro x hx; rw [List.mem_replicate] at hx; omega
theorem Shown.isB {root R : List Int} {a : Int} {ac : List Acc} {ps : List Pf} {D : List Int} {X : Acc} {T : Bool} (h : Shown root R a ac ps D X T) : IsB D := by cases h <;> first | exact isB_rootD _ | exact isB_pD _ _
set_option maxHeartbeats 1000000 in
theorem ledgerBinds_walk {gl : Nat → Obj} (hG : GlobsR gl) (base : Option Addr) (c : Nat) (l : List Acc) (hc : l.length ≤ c)(hok : ∀ x ∈ l, x.ok)(base' : Option Addr) (c' : Nat) (r : List Rel) (hc' : r.length ≤ c') (hok' : ∀ x ∈ r, x.ok) (bu su : Int) (hbu : u64 bu) (hsu : u64 su) (hm : l.length ≤ 3518437208800) (hm' : r.length ≤ 4398046511000) (a : Int) (R : List Int) (hR : R.length = 32) (ub pb : Option Addr) (uc pc : Nat) (ac : List Acc) (ps : List Pf) (hac : ac.length ≤ uc) (hpc : ps.length ≤ pc) (hps : ∀ p ∈ ps, PfIn p) (hpb : ∀ p ∈ ps, ∀ h ∈ p.hs, IsB h) (hRB : IsB R) (hao : ∀ x ∈ ac, x.ok) : SpecV (cx gl) 3 [.agg (ledV (.slice base l.length c) (.slice base' r.length c') bu su).toArray, .int .u64 a, .agg (wiC R (.slice ub ac.length uc) (.slice pb ps.length pc)).toArray] (fun w => (Row w base (rc l) ∧ Row w base' (rc r)) ∧ WitRow w ub ac pb ps) (.bool true) := by
 refine Spec.enter (C := cx gl) Tryz.func3 rfl 167 rfl rfl fun w0 h0 hsep hsub hpre => ?_
 obtain rfl : h0 = Heap.none := hsep
 show St (cx gl) _ [(0, .agg (ledV (.slice base l.length c) (.slice base' r.length c') bu su).toArray), (1, .int .u64 a), (2, .agg (wiC R (.slice ub ac.length uc) (.slice pb ps.length pc)).toArray)] _ _
 refine R_seq ?_
 refine R_region ?_
 refine L_op rfl (W_box (ledV (.slice base l.length c) (.slice base' r.length c') bu su) rfl rfl rfl rfl rfl fun b3 => ?_)
 refine L_op rfl (W_box (wiC R (.slice ub ac.length uc) (.slice pb ps.length pc)) rfl rfl rfl rfl rfl fun b5 => ?_)
 refine L_val rfl rfl rfl (OpP.v (P_assign rfl rfl)) ?_
 refine L_nil ?_
 refine St.env (.cons (t := 1) rfl (.cons (t := 3) rfl (.cons (t := 5) rfl (.cons (t := 6) rfl .nil)))) ?_
 refine Q_then ?_
 refine R_seq ?_
 refine R_region ?_
 refine L_op rfl (W_callV rfl rfl rfl rfl fn_ca_9 (alive8) (fun _ _ => trivial) ?_)
 refine L_val rfl rfl rfl (OpP.v (P_assign rfl rfl)) ?_
 refine L_nil ?_
 refine St.env (.cons (t := 1) rfl (.cons (t := 3) rfl (.cons (t := 5) rfl (.cons (t := 6) rfl (.cons (t := 7) rfl .nil))))) ?_
 refine Q_then ?_
 refine R_seq ?_
 refine R_seq ?_
 refine R_region ?_
 refine L_val rfl rfl rfl (OpP.v (P_move rfl rfl)) ?_
 refine L_val rfl rfl rfl (OpP.v (P_not rfl rfl)) ?_
 refine E_false (t := 29) rfl (rfl) ?_
 refine L_nil ?_
 refine St.env (.cons (t := 1) rfl (.cons (t := 3) rfl (.cons (t := 5) rfl (.cons (t := 6) rfl (.cons (t := 29) rfl .nil))))) ?_
 refine Q_then ?_
 refine R_condF rfl ?_
 refine R_skip ?_
 refine Q_then ?_
 refine R_seq ?_
 refine R_region ?_
 refine L_val rfl rfl rfl (V_loadAgg rfl rfl ty_ag_26 (Rds.blk .h1) (rfl)) ?_
 refine L_op rfl (W_callV rfl rfl rfl rfl fn_ca_10 (lroot_ok hG.toGlobs base c l hc (by omega) hok base' c' r hc' hok' bu su hbu hsu) (fun w nw => ⟨(Sn.row hpre.1.1 rfl).rw_ w nw, (Sn.row hpre.1.2 rfl).rw_ w nw⟩) ?_)
 refine L_val rfl rfl rfl (OpP.v (P_move rfl rfl)) ?_
 refine L_val rfl rfl rfl (OpP.v (P_extract rfl rfl rfl)) ?_
 refine L_val rfl rfl rfl (OpP.v (P_extract rfl rfl rfl)) ?_
 refine L_op rfl (W_alloc rfl rfl rfl ty_ze_29 fun b8 => ?_)
 refine L_op rfl (W_storeAll rfl rfl rfl rfl ty_ag_29 (by rw [ints_length, rootLD_length]) (ints_one) .h0 (by first | (rw [ints_length, rootLD_length]; done) | (rw [ints_length, rootLD_length]; rfl)) ?_)
 refine L_val rfl rfl rfl (OpP.v (P_assign rfl rfl)) ?_
 refine L_nil ?_
 refine St.env (.cons (t := 1) rfl (.cons (t := 3) rfl (.cons (t := 5) rfl (.cons (t := 6) rfl (.cons (t := 8) rfl (.cons (t := 9) rfl .nil)))))) ?_
 refine Q_then ?_
 refine R_seq ?_
 refine R_region ?_
 refine L_val rfl rfl rfl (V_loadAgg rfl rfl ty_ag_26 (Rds.blk .h2) (rfl)) ?_
 refine L_op rfl (W_callV rfl rfl rfl rfl fn_ca_11 (rlroot_ok hG base c l hc (by omega) hok base' c' r hc' hok' bu su hbu hsu) (fun w nw => ⟨(Sn.row hpre.1.1 rfl).rw_ w nw, (Sn.row hpre.1.2 rfl).rw_ w nw⟩) ?_)
 refine L_val rfl rfl rfl (OpP.v (P_move rfl rfl)) ?_
 refine L_val rfl rfl rfl (OpP.v (P_extract rfl rfl rfl)) ?_
 refine L_val rfl rfl rfl (OpP.v (P_extract rfl rfl rfl)) ?_
 refine L_op rfl (W_alloc rfl rfl rfl ty_ze_29 fun b10 => ?_)
 refine L_op rfl (W_storeAll rfl rfl rfl rfl ty_ag_29 (by rw [ints_length, rootLD_length]) (ints_one) .h0 (by first | (rw [ints_length, rootLD_length]; done) | (rw [ints_length, rootLD_length]; rfl)) ?_)
 refine L_val rfl rfl rfl (OpP.v (P_assign rfl rfl)) ?_
 refine L_nil ?_
 refine St.env (.cons (t := 1) rfl (.cons (t := 3) rfl (.cons (t := 5) rfl (.cons (t := 6) rfl (.cons (t := 8) rfl (.cons (t := 9) rfl (.cons (t := 11) rfl .nil))))))) ?_
 refine Q_then ?_
 refine R_seq ?_
 refine R_seq ?_
 refine R_region ?_
 refine L_val rfl rfl rfl (OpP.v (P_move rfl rfl)) ?_
 refine L_val rfl rfl rfl (OpP.v (P_move rfl rfl)) ?_
 refine L_val rfl rfl rfl (OpP.v (P_neq rfl rfl rfl)) ?_
 refine E_false (t := 42) rfl (decide_eq_false (by simp)) ?_
 refine L_nil ?_
 refine St.env (.cons (t := 1) rfl (.cons (t := 3) rfl (.cons (t := 5) rfl (.cons (t := 6) rfl (.cons (t := 8) rfl (.cons (t := 9) rfl (.cons (t := 11) rfl (.cons (t := 42) rfl .nil)))))))) ?_
 refine Q_then ?_
 refine R_condF rfl ?_
 refine R_skip ?_
 refine Q_then ?_
 refine R_seq ?_
 refine R_seq ?_
 refine R_region ?_
 refine L_val rfl rfl rfl (OpP.v (P_move rfl rfl)) ?_
 refine L_val rfl rfl rfl (OpP.v (P_neq rfl rfl rfl)) ?_
 refine L_nil ?_
 refine St.env (.cons (t := 1) rfl (.cons (t := 3) rfl (.cons (t := 5) rfl (.cons (t := 6) rfl (.cons (t := 8) rfl (.cons (t := 9) rfl (.cons (t := 11) rfl (.cons (t := 44) rfl .nil)))))))) ?_
 refine Q_then ?_
 refine R_condP rfl (fun he => ?_) (fun he => ?_)
 ·skip
  refine R_seq ?_
  refine R_region ?_
  refine L_val rfl rfl rfl (OpP.v (P_assign rfl rfl)) ?_
  refine L_nil ?_
  refine St.env (.cons (t := 1) rfl (.cons (t := 3) rfl (.cons (t := 5) rfl (.cons (t := 6) rfl (.cons (t := 8) rfl (.cons (t := 9) rfl (.cons (t := 11) rfl .nil))))))) ?_
  refine Q_then ?_
  refine R_ret ?_
  refine Q_then_ret ?_
  exact R_endV rfl rfl (.tmp rfl .nil) (rfl)
 ·skip
  have he : lsoundE (⟨l, r, bu, su⟩ : Led) = 0 := rootLE_zero (Classical.not_not.1 he)
  have hF := ledFine_of he
  have hfew : l.length ≤ 65536 := hF.few
  have hfew' : r.length ≤ 65536 := hF.few'
  have hrl : rootLD (⟨l, r, bu, su⟩ : Led) = sha (1 :: (rootD (l.map formB) ++ (wRest (⟨l, r, bu, su⟩ : Led)))) := rootLD_of he
  have hwr : (wRest (⟨l, r, bu, su⟩ : Led)) = sha (restB r bu su) := by unfold wRest; rw [if_pos he]
  rw [hwr] at hrl
  obtain ⟨X, T, C, hvv, hbad, hshow⟩ := ver_cases (rootLD (⟨l, r, bu, su⟩ : Led)) R a ac ps
  refine R_skip ?_
  refine Q_then ?_
  refine R_seq ?_
  refine R_region ?_
  refine L_val rfl rfl rfl (V_loadAgg rfl rfl ty_ag_29 (Rds.blk .h1) (by rw [ints_length, rootLD_length])) ?_
  refine L_val rfl rfl rfl (OpP.v (P_move rfl rfl)) ?_
  refine L_val rfl rfl rfl (V_loadAgg rfl rfl ty_ag_32 (Rds.blk .h2) (by rw [wi_len hR])) ?_
  refine L_op rfl (W_callV rfl rfl rfl rfl fn_ca_12 ((by have h9 := ver_ok hG.toGlobs (rootLD (⟨l, r, bu, su⟩ : Led)) R (rootLD_length _) hR ub pb uc pc ac ps hac hpc hps a; rw [hvv] at h9; exact h9)) (WitRow.now hpre.2 rfl) ?_)
  refine L_val rfl rfl rfl (OpP.v (P_move rfl rfl)) ?_
  refine L_val rfl rfl rfl (OpP.v (P_extract rfl rfl rfl)) ?_
  refine L_val rfl rfl rfl (OpP.v (P_extract rfl rfl rfl)) ?_
  refine L_val rfl rfl rfl (OpP.v (P_extract rfl rfl rfl)) ?_
  refine L_op rfl (W_alloc rfl rfl rfl ty_ze_38 fun b12 => ?_)
  refine L_op rfl (W_storeAll rfl rfl rfl rfl ty_ag_38 (rfl) (Rec.one X) .h0 (rfl) ?_)
  refine L_val rfl rfl rfl (OpP.v (P_assign rfl rfl)) ?_
  refine L_val rfl rfl rfl (OpP.v (P_assign rfl rfl)) ?_
  refine L_nil ?_
  refine St.env (.cons (t := 1) rfl (.cons (t := 3) rfl (.cons (t := 5) rfl (.cons (t := 6) rfl (.cons (t := 9) rfl (.cons (t := 11) rfl (.cons (t := 12) rfl (.cons (t := 13) rfl .nil)))))))) ?_
  refine Q_then ?_
  refine R_seq ?_
  refine R_seq ?_
  refine R_region ?_
  refine L_val rfl rfl rfl (OpP.v (P_move rfl rfl)) ?_
  refine L_val rfl rfl rfl (OpP.v (P_neq rfl rfl rfl)) ?_
  refine L_nil ?_
  refine St.env (.cons (t := 1) rfl (.cons (t := 3) rfl (.cons (t := 5) rfl (.cons (t := 6) rfl (.cons (t := 11) rfl (.cons (t := 12) rfl (.cons (t := 13) rfl (.cons (t := 54) rfl .nil)))))))) ?_
  refine Q_then ?_
  refine R_condP rfl (fun hv => ?_) (fun hv => ?_)
  ·skip
   obtain ⟨rfl, rfl⟩ := hbad hv
   refine R_seq ?_
   refine R_region ?_
   refine L_val rfl rfl rfl (V_loadAgg rfl rfl ty_ag_38 (Rds.blk .h0) (rfl)) ?_
   refine L_val rfl rfl rfl (OpP.v (P_buildStruct rfl ty_pl_38 ty_ze_38 rfl rfl (rfl))) ?_
   refine L_val rfl rfl rfl (OpP.v (P_eql_structK (b := true) [false, false, false, false, true] rfl se_acc rfl rfl rfl rfl (acc_kind acc0 acc0) ⟨fun _ => rfl, fun _ => rfl⟩)) ?_
   refine E_true (t := 57) rfl (rfl) ?_
   refine L_val rfl rfl rfl (OpP.v (P_move rfl rfl)) ?_
   refine L_val rfl rfl rfl (OpP.v (P_move rfl rfl)) ?_
   refine L_val rfl rfl rfl (OpP.v (P_not rfl rfl)) ?_
   refine L_val rfl rfl rfl (OpP.v (P_pick rfl rfl rfl)) ?_
   refine L_val rfl rfl rfl (OpP.v (P_assign rfl rfl)) ?_
   refine L_nil ?_
   refine St.env (.cons (t := 1) rfl (.cons (t := 3) rfl (.cons (t := 5) rfl (.cons (t := 6) rfl (.cons (t := 11) rfl (.cons (t := 12) rfl (.cons (t := 13) rfl .nil))))))) ?_
   refine Q_then ?_
   refine R_ret ?_
   refine Q_then_ret ?_
   exact R_endV rfl rfl (.tmp rfl .nil) (rfl)
  ·skip
   obtain ⟨D, hSh⟩ := hshow (Classical.not_not.1 hv)
   obtain ⟨hlp, hl2⟩ := hSh.lens
   have hDl := hSh.dlen
   have htop := hSh.top
   refine R_skip ?_
   refine Q_then ?_
   refine R_seq ?_
   refine R_seq ?_
   refine R_region ?_
   refine L_val rfl rfl rfl (OpP.v (P_fld0 rfl ty_fl_32_1 rfl)) ?_
   refine L_val rfl rfl rfl (V_load rfl rfl ty_sc_22 (Rd.blk .h3 (wi_1 hR _ _))) ?_
   refine L_val rfl rfl rfl (OpP.v (P_len rfl ty_sl_22 rfl)) ?_
   refine L_val rfl rfl rfl (OpP.v (P_fld0 rfl ty_fl_32_2 rfl)) ?_
   refine L_val rfl rfl rfl (V_load rfl rfl ty_sc_30 (Rd.blk .h3 (wi_2 hR _ _))) ?_
   refine L_val rfl rfl rfl (OpP.v (P_len rfl ty_sl_30 rfl)) ?_
   refine L_val rfl rfl rfl (OpP.v (P_neq rfl rfl rfl)) ?_
   refine E_false (t := 68) rfl (decide_eq_false (by omega)) ?_
   refine L_val rfl rfl rfl (OpP.v (P_move rfl rfl)) ?_
   refine L_val rfl rfl rfl (OpP.v (P_fld0 rfl ty_fl_32_1 rfl)) ?_
   refine L_val rfl rfl rfl (V_load rfl rfl ty_sc_22 (Rd.blk .h3 (wi_1 hR _ _))) ?_
   refine L_val rfl rfl rfl (OpP.v (P_len rfl ty_sl_22 rfl)) ?_
   refine L_val rfl rfl rfl (OpP.v (P_gtr rfl rfl rfl)) ?_
   refine E_false (t := 73) rfl (decide_eq_false (by omega)) ?_
   refine L_val rfl rfl rfl (OpP.v (P_pick rfl rfl rfl)) ?_
   refine L_nil ?_
   refine St.env (.cons (t := 1) rfl (.cons (t := 3) rfl (.cons (t := 5) rfl (.cons (t := 6) rfl (.cons (t := 11) rfl (.cons (t := 12) rfl (.cons (t := 13) rfl (.cons (t := 74) rfl .nil)))))))) ?_
   refine Q_then ?_
   refine R_condF rfl ?_
   refine R_skip ?_
   refine Q_then ?_
   refine R_seq ?_
   refine R_region ?_
   refine L_val rfl rfl rfl (V_loadAgg rfl rfl ty_ag_26 (Rds.blk .h4) (rfl)) ?_
   refine L_op rfl (W_call rfl rfl rfl rfl fn_ca_14 (rforms_ok base c l hc hfew hok (.slice base' r.length c') rfl bu su) (Split.nil _) (fun w a b _ hb dj m => (Sn.row hpre.1.1 rfl).rw_ w ⟨_, hb, m.le (Heap.le_join_right dj)⟩) fun v1 rs1 ⟨qs, hq, e1⟩ => ?_)
   subst e1
   refine St.ownForm (p := [_]) fun fub fuc huv hfuc => ?_
   subst huv
   have hql : (qs.map Ob.val).length = l.length := by rw [List.length_map]; exact hq.len
   refine L_op rfl (W_callV rfl rfl rfl rfl fn_ca_13 ((by have h9 := rroot_ok (gl := gl) hG fub fuc (qs.map Ob.val) (qs.map Ob.xs) (by rw [List.length_map, List.length_map]) (by omega) (by omega); rw [hql, hq.1] at h9; exact h9)) (fun w nw => by have h8 := fam_items hq.2 .h0 .h1 w nw; rw [hq.1] at h8; exact h8) ?_)
   refine L_val rfl rfl rfl (OpP.v (P_move rfl rfl)) ?_
   refine L_val rfl rfl rfl (OpP.v (P_extract rfl rfl rfl)) ?_
   refine L_val rfl rfl rfl (OpP.v (P_extract rfl rfl rfl)) ?_
   refine L_op rfl (W_alloc rfl rfl rfl ty_ze_29 fun b14 => ?_)
   refine L_op rfl (W_storeAll rfl rfl rfl rfl ty_ag_29 (by rw [ints_length, rootD_length]) (ints_one) .h0 (by first | (rw [ints_length, rootD_length]; done) | (rw [ints_length, rootD_length]; rfl)) ?_)
   refine St.res (rs' := [blk b14 (ints .u8 (rootD (l.map formB))) 29, blk b12 X.cells 38, blk b10 (ints .u8 (rootLD (⟨l, r, bu, su⟩ : Led))) 29, blk b8 (ints .u8 (rootLD (⟨l, r, bu, su⟩ : Led))) 29, blk b5 (wiC R (.slice ub ac.length uc) (.slice pb ps.length pc)) 32, blk b3 (ledV (.slice base l.length c) (.slice base' r.length c') bu su) 26]) (Weak.keep (Weak.drop (Weak.drop (Weak.refl _)))) ?_
   refine L_val rfl rfl rfl (OpP.v (P_assign rfl rfl)) ?_
   refine L_nil ?_
   refine St.env (.cons (t := 1) rfl (.cons (t := 3) rfl (.cons (t := 5) rfl (.cons (t := 6) rfl (.cons (t := 11) rfl (.cons (t := 12) rfl (.cons (t := 13) rfl (.cons (t := 14) rfl .nil)))))))) ?_
   refine Q_then ?_
   refine R_seq ?_
   refine R_region ?_
   refine L_op rfl (W_callV rfl rfl rfl rfl fn_ca_13 (rroot_ok hG none 0 [] [] rfl (Nat.le_refl _) (by decide)) (fun w nw => ⟨Row.nil, rfl, fun i v xs hv hx => by cases hv⟩) ?_)
   refine L_val rfl rfl rfl (OpP.v (P_move rfl rfl)) ?_
   refine L_val rfl rfl rfl (OpP.v (P_extract rfl rfl rfl)) ?_
   refine L_val rfl rfl rfl (OpP.v (P_extract rfl rfl rfl)) ?_
   refine L_op rfl (W_alloc rfl rfl rfl ty_ze_29 fun b16 => ?_)
   refine L_op rfl (W_storeAll rfl rfl rfl rfl ty_ag_29 (by rw [ints_length, rootD_length]) (ints_one) .h0 (by first | (rw [ints_length, rootD_length]; done) | (rw [ints_length, rootD_length]; rfl)) ?_)
   refine L_val rfl rfl rfl (OpP.v (P_assign rfl rfl)) ?_
   refine L_nil ?_
   refine St.env (.cons (t := 1) rfl (.cons (t := 3) rfl (.cons (t := 5) rfl (.cons (t := 6) rfl (.cons (t := 11) rfl (.cons (t := 12) rfl (.cons (t := 13) rfl (.cons (t := 14) rfl (.cons (t := 16) rfl .nil))))))))) ?_
   refine Q_then ?_
   refine R_joinE (G := Unit) (.cons (t := 1) rfl (.cons (t := 3) rfl (.cons (t := 5) rfl (.cons (t := 6) rfl (.cons (t := 12) rfl (.cons (t := 13) rfl (.cons (t := 14) rfl (.cons (t := 16) rfl .nil)))))))) (fun g => []) (fun g => [blk b16 (ints .u8 (D)) 29, blk b14 (ints .u8 (rootD (l.map formB))) 29, blk b12 X.cells 38, blk b10 (ints .u8 (rootLD (⟨l, r, bu, su⟩ : Led))) 29, blk b8 (ints .u8 (rootLD (⟨l, r, bu, su⟩ : Led))) 29, blk b5 (wiC R (.slice ub ac.length uc) (.slice pb ps.length pc)) 32, blk b3 (ledV (.slice base l.length c) (.slice base' r.length c') bu su) 26]) (fun g => True) ?_ ?_
   ·skip
    refine R_seq ?_
    refine R_region ?_
    refine L_val rfl rfl rfl (OpP.v (P_fld0 rfl ty_fl_32_1 rfl)) ?_
    refine L_val rfl rfl rfl (V_load rfl rfl ty_sc_22 (Rd.blk .h5 (wi_1 hR _ _))) ?_
    refine L_val rfl rfl rfl (OpP.v (P_len rfl ty_sl_22 rfl)) ?_
    refine L_val rfl rfl rfl (OpP.v (P_gtr rfl rfl rfl)) ?_
    refine L_nil ?_
    refine St.env (.cons (t := 1) rfl (.cons (t := 3) rfl (.cons (t := 5) rfl (.cons (t := 6) rfl (.cons (t := 11) rfl (.cons (t := 12) rfl (.cons (t := 13) rfl (.cons (t := 14) rfl (.cons (t := 16) rfl (.cons (t := 88) rfl .nil)))))))))) ?_
    refine Q_then ?_
    refine R_condP rfl (fun h0 => ?_) (fun h0 => ?_)
    ·skip
     obtain ⟨x, hx⟩ : ∃ x, ac[0]? = some x := ⟨_, List.getElem?_eq_getElem (by omega)⟩
     obtain ⟨p, hp⟩ : ∃ p, ps[0]? = some p := ⟨_, List.getElem?_eq_getElem (by omega)⟩
     obtain ⟨hD1, hpe⟩ := hSh.first hx hp
     have hpm := List.mem_of_getElem? hp
     obtain ⟨g1, g2, g3⟩ := hps p hpm
     obtain ⟨w1, w2, w3⟩ := hpre.2
     have wp := w3 p hpm
     obtain ⟨ab, aj, rfl, har⟩ := w1.some_ (by rw [rc_length]; show 0 < _ * 5; omega)
     obtain ⟨qb, qj, rfl, hqr⟩ := w2.some_ (by rw [rc_length]; show 0 < _ * 3; omega)
     have hfl := formB_length x
     refine R_seq ?_
     refine R_open [(0, 0), (1, 1), (2, 0), (3, 1), (4, 0), (5, 1), (6, 0), (7, 1), (8, 2), (9, 2), (10, 0), (11, 0), (12, 0), (13, 3), (14, 0)] mixed (by kernel_rfl) (QOk.then (QOk.then QOk.body)) ?_
     refine O_pure rfl rfl rfl rfl (P_fld0 rfl ty_fl_32_2 rfl) ?_
     refine O_val rfl rfl rfl rfl (V_load rfl rfl ty_sc_30 (Rd.blk .h5 (wi_2 hR _ _))) ?_
     refine O_pure rfl rfl rfl rfl (P_ixs (0) rfl ty_sl_30 rfl rfl (by first | rfl | omega) (by omega)) ?_
     refine O_val rfl rfl rfl rfl (V_loadAgg rfl rfl ty_ag_47 (rds_rc (Rds.row hqr rfl) hp) (rfl)) ?_
     refine O_pure rfl rfl rfl rfl (P_fld0 rfl ty_fl_32_1 rfl) ?_
     refine O_val rfl rfl rfl rfl (V_load rfl rfl ty_sc_22 (Rd.blk .h5 (wi_1 hR _ _))) ?_
     refine O_pure rfl rfl rfl rfl (P_ixs (0) rfl ty_sl_22 rfl rfl (by first | rfl | omega) (by omega)) ?_
     refine O_val rfl rfl rfl rfl (V_loadAgg rfl rfl ty_ag_38 (rds_rc (Rds.row har rfl) hx) (rfl)) ?_
     refine O_keep rfl rfl (W_call rfl rfl rfl rfl fn_ca_16 (rform_ok x (hao x (List.mem_of_getElem? hx))) (Split.nil _) (fun _ _ _ _ _ _ _ => trivial) fun v1 rs1 (e1 : rs1 = _) => ?_)
     subst e1
     refine St.ownForm (p := []) fun ib ic hiv hic => ?_
     subst hiv
     have hic : (formB x).length ≤ ic := by omega
     refine K_keep (Weak.drop (Weak.refl _)) ?_
     refine O_keep rfl rfl (W_callV rfl rfl rfl rfl fn_ca_15 ((by have h9 := rpath_ok (gl := gl) hG p.t p.i p.b p.c p.hs ib ic (formB x) g1 g3 g2 hic; rw [hfl] at h9; exact h9)) (fun w nw => And.intro ((Sn.row wp rfl).rw_ w nw) ((Sn.own .h0 rfl).rw_ w nw)) (K_keep (Weak.refl _) ?_))
     refine E_as (t := 99) (v' := .tuple #[.agg (ints .u8 (pD x p)).toArray, .int .i64 (pE x p)]) rfl (rfl) ?_
     refine O_pure rfl rfl rfl rfl (P_move rfl rfl) ?_
     refine O_pure rfl rfl rfl rfl (P_extract rfl rfl rfl) ?_
     refine O_pure rfl rfl rfl rfl (P_extract rfl rfl rfl) ?_
     refine O_new rfl rfl (W_storeAll rfl rfl rfl rfl ty_ag_29 (by rw [ints_length, pD_length]) (ints_one) .h1 (by first | (rw [ints_length, pD_length]; done) | (rw [ints_length, pD_length]; rfl)) (K_new ?_))
     refine O_pure rfl rfl rfl rfl (P_assign rfl rfl) ?_
     refine O_nil ?_
     refine St.env (.cons (t := 1) rfl (.cons (t := 3) rfl (.cons (t := 5) rfl (.cons (t := 6) rfl (.cons (t := 11) rfl (.cons (t := 12) rfl (.cons (t := 13) rfl (.cons (t := 14) rfl (.cons (t := 16) rfl .nil))))))))) ?_
     refine Q_then ?_
     refine R_seq ?_
     refine R_region ?_
     refine L_val rfl rfl rfl (OpP.v (P_move rfl rfl)) ?_
     refine L_val rfl rfl rfl (OpP.v (P_neq rfl rfl rfl)) ?_
     refine E_false (t := 103) rfl (by rw [hpe]; rfl) ?_
     refine L_nil ?_
     refine St.env (.cons (t := 1) rfl (.cons (t := 3) rfl (.cons (t := 5) rfl (.cons (t := 6) rfl (.cons (t := 12) rfl (.cons (t := 13) rfl (.cons (t := 14) rfl (.cons (t := 16) rfl (.cons (t := 103) rfl .nil))))))))) ?_
     refine Q_then ?_
     refine R_condF rfl ?_
     refine R_skip ?_
     subst hD1
     exact Q_meet () (trivial) (by repeat (first | exact .nil | refine .cons rfl ?_ | refine .consE rfl (by first | rfl | (congr 1; omega) | (congr 1; push_cast; omega)) ?_)) (Weak.drop (Weak.refl _))
    ·skip
     refine R_skip ?_
     obtain rfl := hSh.nil (by omega)
     exact Q_meet () (trivial) (by repeat (first | exact .nil | refine .cons rfl ?_ | refine .consE rfl (by first | rfl | (congr 1; omega) | (congr 1; push_cast; omega)) ?_)) (Weak.refl _)
   ·rintro ⟨⟩ hinv
    replace hinv : True := hinv
    show St (cx gl) _ _ [blk b16 (ints .u8 (D)) 29, blk b14 (ints .u8 (rootD (l.map formB))) 29, blk b12 X.cells 38, blk b10 (ints .u8 (rootLD (⟨l, r, bu, su⟩ : Led))) 29, blk b8 (ints .u8 (rootLD (⟨l, r, bu, su⟩ : Led))) 29, blk b5 (wiC R (.slice ub ac.length uc) (.slice pb ps.length pc)) 32, blk b3 (ledV (.slice base l.length c) (.slice base' r.length c') bu su) 26] _
    refine R_seq ?_
    refine R_region ?_
    refine L_val rfl rfl rfl (V_loadAgg rfl rfl ty_ag_26 (Rds.blk .h6) (rfl)) ?_
    refine L_op rfl (W_call rfl rfl rfl rfl fn_ca_18 (rrest_ok (.slice base l.length c) rfl base' c' r hc' hfew' hok' bu su hbu hsu) (Split.nil _) (fun w a b _ hb dj m => (Sn.row hpre.1.2 rfl).rw_ w ⟨_, hb, m.le (Heap.le_join_right dj)⟩) fun v2 rs2 (e2 : rs2 = _) => ?_)
    subst e2
    refine St.ownForm (p := []) fun vb vc hvv hvc => ?_
    subst hvv
    refine L_op rfl (W_callV rfl rfl rfl rfl fn_ca_17 (rsum_ok hG vb vc (restB r bu su) hvc (by rw [restB_length]; omega)) ((Sn.own .h0 rfl).rw_) ?_)
    refine L_op rfl (W_alloc rfl rfl rfl ty_ze_29 fun b18 => ?_)
    refine L_op rfl (W_storeAll rfl rfl rfl rfl ty_ag_29 (by rw [ints_length, sha_length]) (ints_one) .h0 (by first | (rw [ints_length, sha_length]; done) | (rw [ints_length, sha_length]; rfl)) ?_)
    refine St.res (rs' := [blk b18 (ints .u8 (sha (restB r bu su))) 29, blk b16 (ints .u8 (D)) 29, blk b14 (ints .u8 (rootD (l.map formB))) 29, blk b12 X.cells 38, blk b10 (ints .u8 (rootLD (⟨l, r, bu, su⟩ : Led))) 29, blk b8 (ints .u8 (rootLD (⟨l, r, bu, su⟩ : Led))) 29, blk b5 (wiC R (.slice ub ac.length uc) (.slice pb ps.length pc)) 32, blk b3 (ledV (.slice base l.length c) (.slice base' r.length c') bu su) 26]) (Weak.keep (Weak.drop (Weak.refl _))) ?_
    refine L_nil ?_
    refine St.env (.cons (t := 1) rfl (.cons (t := 3) rfl (.cons (t := 5) rfl (.cons (t := 6) rfl (.cons (t := 12) rfl (.cons (t := 13) rfl (.cons (t := 14) rfl (.cons (t := 16) rfl (.cons (t := 18) rfl .nil))))))))) ?_
    refine Q_then ?_
    refine R_seq ?_
    refine R_region ?_
    refine L_val rfl rfl rfl (V_loadAgg rfl rfl ty_ag_29 (Rds.blk .h2) (by rw [ints_length, rootD_length])) ?_
    refine L_val rfl rfl rfl (V_loadAgg rfl rfl ty_ag_29 (Rds.blk .h0) (by rw [ints_length, sha_length])) ?_
    refine L_op rfl (W_call rfl rfl rfl rfl fn_ca_19 (innerText_ok (rootD (l.map formB)) (sha (restB r bu su)) (rootD_length _) (sha_length _)) (Split.nil _) (fun _ _ _ _ _ _ _ => trivial) fun viy rsiy (eiy : rsiy = _) => ?_)
    subst eiy
    refine St.ownForm (p := []) fun yb yc huv hyc => ?_
    subst huv
    refine L_val rfl rfl rfl (OpP.v (P_assign rfl rfl)) ?_
    refine L_nil ?_
    refine St.env (.cons (t := 1) rfl (.cons (t := 3) rfl (.cons (t := 5) rfl (.cons (t := 6) rfl (.cons (t := 12) rfl (.cons (t := 13) rfl (.cons (t := 16) rfl (.cons (t := 19) rfl .nil)))))))) ?_
    refine Q_then ?_
    refine R_seq ?_
    refine R_region ?_
    refine L_val rfl rfl rfl (V_loadAgg rfl rfl ty_ag_29 (Rds.blk .h2) (by rw [ints_length, hDl])) ?_
    refine L_val rfl rfl rfl (OpP.v (P_fld0 rfl ty_fl_32_0 rfl)) ?_
    refine L_val rfl rfl rfl (V_loadAgg rfl rfl ty_ag_29 ((Rds.blk .h7).part 0 (wi_sub hR _ _)) (by rw [ints_length, hR])) ?_
    refine L_op rfl (W_call rfl rfl rfl rfl fn_ca_19 (innerText_ok (D) (R) (hDl) (hR)) (Split.nil _) (fun _ _ _ _ _ _ _ => trivial) fun viz rsiz (eiz : rsiz = _) => ?_)
    subst eiz
    refine St.ownForm (p := []) fun zb zc huv hzc => ?_
    subst huv
    refine L_val rfl rfl rfl (OpP.v (P_assign rfl rfl)) ?_
    refine L_nil ?_
    refine St.env (.cons (t := 1) rfl (.cons (t := 3) rfl (.cons (t := 5) rfl (.cons (t := 6) rfl (.cons (t := 12) rfl (.cons (t := 13) rfl (.cons (t := 19) rfl (.cons (t := 20) rfl .nil)))))))) ?_
    refine Q_then ?_
    refine R_seq ?_
    refine R_seq ?_
    refine R_region ?_
    refine L_val rfl rfl rfl (OpP.v (P_move rfl rfl)) ?_
    refine L_val rfl rfl rfl (V_strN (by rw [List.length_cons, List.length_append, rootD_length, sha_length]) rfl (slB_spec ty_sl_48).1 ty_int_5 ty_str_9 rfl ((Sn.own .h1 rfl).rw_)) ?_
    refine L_val rfl rfl rfl (OpP.v (P_move rfl rfl)) ?_
    refine L_val rfl rfl rfl (V_strN (by rw [List.length_cons, List.length_append, hDl, hR]) rfl (slB_spec ty_sl_48).1 ty_int_5 ty_str_9 rfl ((Sn.own .h0 rfl).rw_)) ?_
    refine L_val rfl rfl rfl (OpP.v (P_neStr rfl rfl rfl (IsB.cons (by decide) (by decide) (IsB.append (isB_rootD _) (isB_sha _))) (IsB.cons (by decide) (by decide) (IsB.append hSh.isB hRB)))) ?_
    refine L_nil ?_
    refine St.env (.cons (t := 1) rfl (.cons (t := 3) rfl (.cons (t := 5) rfl (.cons (t := 6) rfl (.cons (t := 12) rfl (.cons (t := 13) rfl (.cons (t := 19) rfl (.cons (t := 20) rfl (.cons (t := 118) rfl .nil))))))))) ?_
    refine Q_then ?_
    refine R_condP rfl (fun hne => ?_) (fun hne => ?_)
    ·skip
     refine R_seq ?_
     refine R_region ?_
     refine L_val rfl rfl rfl (OpP.v (P_move rfl rfl)) ?_
     refine L_val rfl rfl rfl (OpP.v (P_move rfl rfl)) ?_
     refine L_op rfl (W_callV rfl rfl rfl rfl fn_ca_20 (clash_okN hG yb yc (1 :: (rootD (l.map formB) ++ sha (restB r bu su))) zb zc (1 :: (D ++ R)) (by rw [List.length_cons, List.length_append, rootD_length, sha_length]) (by rw [List.length_cons, List.length_append, hDl, hR]) (by omega) (by omega) (by decide) (by decide) (IsB.cons (by decide) (by decide) (IsB.append (isB_rootD _) (isB_sha _))) (IsB.cons (by decide) (by decide) (IsB.append hSh.isB hRB))) (fun w nw => ⟨(Sn.own .h1 rfl).rw_ w nw, (Sn.own .h0 rfl).rw_ w nw⟩) ?_)
     refine L_val rfl rfl rfl (OpP.v (P_assign rfl rfl)) ?_
     refine L_nil ?_
     refine St.env (.cons (t := 1) rfl (.cons (t := 3) rfl (.cons (t := 5) rfl (.cons (t := 6) rfl (.cons (t := 12) rfl (.cons (t := 13) rfl .nil)))))) ?_
     refine Q_then ?_
     refine R_ret ?_
     refine Q_then_ret ?_
     exact R_endV rfl rfl (.tmp rfl .nil) (congrArg Value.bool (clashB_of hne (by rw [htop]; exact hrl.symm)))
    ·skip
     have heq := Classical.not_not.1 hne
     have heq2 : rootD (l.map formB) ++ sha (restB r bu su) = D ++ R := by injection heq
     obtain ⟨hDD, hRR⟩ := append_cut heq2 (by rw [rootD_length, hDl])
     refine R_skip ?_
     refine Q_then ?_
     refine R_joinE (G := Unit) (.cons (t := 1) rfl (.cons (t := 3) rfl (.cons (t := 5) rfl (.cons (t := 6) rfl (.cons (t := 12) rfl (.cons (t := 13) rfl .nil)))))) (fun g => []) (fun g => [blk b14 (ints .u8 (rootD (l.map formB))) 29, blk b12 X.cells 38, blk b10 (ints .u8 (rootLD (⟨l, r, bu, su⟩ : Led))) 29, blk b8 (ints .u8 (rootLD (⟨l, r, bu, su⟩ : Led))) 29, blk b5 (wiC R (.slice ub ac.length uc) (.slice pb ps.length pc)) 32, blk b3 (ledV (.slice base l.length c) (.slice base' r.length c') bu su) 26]) (fun g => (ac.length = 0 → l = [])) ?_ ?_
     ·skip
      refine R_seq ?_
      refine St.res (rs' := [blk b14 (ints .u8 (rootD (l.map formB))) 29, blk b12 X.cells 38, blk b10 (ints .u8 (rootLD (⟨l, r, bu, su⟩ : Led))) 29, blk b8 (ints .u8 (rootLD (⟨l, r, bu, su⟩ : Led))) 29, blk b5 (wiC R (.slice ub ac.length uc) (.slice pb ps.length pc)) 32, blk b3 (ledV (.slice base l.length c) (.slice base' r.length c') bu su) 26]) (Weak.drop (Weak.drop (Weak.drop (Weak.drop (Weak.refl _))))) ?_
      refine R_region ?_
      refine L_val rfl rfl rfl (OpP.v (P_fld0 rfl ty_fl_32_1 rfl)) ?_
      refine L_val rfl rfl rfl (V_load rfl rfl ty_sc_22 (Rd.blk .h4 (wi_1 hR _ _))) ?_
      refine L_val rfl rfl rfl (OpP.v (P_len rfl ty_sl_22 rfl)) ?_
      refine L_val rfl rfl rfl (OpP.v (P_eql rfl rfl rfl)) ?_
      refine L_nil ?_
      refine St.env (.cons (t := 1) rfl (.cons (t := 3) rfl (.cons (t := 5) rfl (.cons (t := 6) rfl (.cons (t := 12) rfl (.cons (t := 13) rfl (.cons (t := 125) rfl .nil))))))) ?_
      refine Q_then ?_
      refine R_condP rfl (fun hz => ?_) (fun hz => ?_)
      ·skip
       have hz : ac.length = 0 := by omega
       refine R_seq ?_
       refine R_region ?_
       refine L_op rfl (W_callV rfl rfl rfl rfl fn_ca_22 (rtop_ok hG 0 none 0 [] [] (Nat.le_refl _) (by decide) rfl (fun x hx => by cases hx) (Nat.le_refl _)) (fun w nw => ⟨Row.nil, rfl, fun i v xs hv hx => by cases hv⟩) ?_)
       refine L_op rfl (W_call rfl rfl rfl rfl fn_ca_21 (rootText_ok 0 (topH (leaves [])) (topH_length (leaves_len _))) (Split.nil _) (fun _ _ _ _ _ _ _ => trivial) fun v3 rs3 (e3 : rs3 = _) => ?_)
       subst e3
       refine St.ownForm (p := []) fun yb yc huv hyc => ?_
       subst huv
       refine L_val rfl rfl rfl (OpP.v (P_assign rfl rfl)) ?_
       refine L_nil ?_
       refine St.env (.cons (t := 1) rfl (.cons (t := 3) rfl (.cons (t := 5) rfl (.cons (t := 6) rfl (.cons (t := 12) rfl (.cons (t := 13) rfl (.cons (t := 21) rfl .nil))))))) ?_
       refine Q_then ?_
       refine R_seq ?_
       refine R_open [(0, 0), (1, 1), (2, 0), (3, 1), (4, 2), (5, 2), (6, 2), (7, 0)] mixed (by kernel_rfl) (QOk.then (QOk.then QOk.body)) ?_
       refine O_pure rfl rfl rfl rfl (P_fld0 rfl ty_fl_26_0 rfl) ?_
       refine O_val rfl rfl rfl rfl (V_load rfl rfl ty_sc_22 (Rd.blk .h6 rfl)) ?_
       refine O_pure rfl rfl rfl rfl (P_len rfl ty_sl_22 rfl) ?_
       refine O_val rfl rfl rfl rfl (V_loadAgg rfl rfl ty_ag_26 (Rds.blk .h6) (rfl)) ?_
       refine O_keep rfl rfl (W_call rfl rfl rfl rfl fn_ca_14 (rforms_ok base c l hc hfew hok (.slice base' r.length c') rfl bu su) (Split.nil _) (fun w a b _ hb dj m => (Sn.row hpre.1.1 rfl).rw_ w ⟨_, hb, m.le (Heap.le_join_right dj)⟩) fun v1 rs1 ⟨qs, hq, e1⟩ => ?_)
       subst e1
       refine St.ownForm (p := [_]) fun fub fuc huv hfuc => ?_
       subst huv
       have hql : (qs.map Ob.val).length = l.length := by rw [List.length_map]; exact hq.len
       refine K_keep (Weak.drop (Weak.drop (Weak.refl _))) ?_
       refine O_keep rfl rfl (W_callV rfl rfl rfl rfl fn_ca_22 ((by have h9 := rtop_ok (gl := gl) hG l.length fub fuc (qs.map Ob.val) (qs.map Ob.xs) (by omega) (by omega) (by rw [List.length_map, List.length_map]) (fun y hy => by rw [hq.1] at hy; obtain ⟨z, _, rfl⟩ := List.mem_map.1 hy; rw [formB_length]; omega) (by omega); rw [hql, hq.1] at h9; exact h9)) (fun w nw => by have h8 := fam_items hq.2 .h0 .h1 w nw; rw [hq.1] at h8; exact h8) (K_keep (Weak.refl _) ?_))
       refine O_keep rfl rfl (W_call rfl rfl rfl rfl fn_ca_21 (rootText_ok (l.length : Int) (topH (leaves (l.map formB))) (topH_length (leaves_len _))) (Split.nil _) (fun _ _ _ _ _ _ _ => trivial) fun v4 rs4 (e4 : rs4 = _) => ?_)
       subst e4
       refine St.ownForm (p := []) fun zb zc huv hzc => ?_
       subst huv
       refine K_keep (Weak.drop (Weak.refl _)) ?_
       refine O_pure rfl rfl rfl rfl (P_assign rfl rfl) ?_
       refine O_nil ?_
       refine St.env (.cons (t := 1) rfl (.cons (t := 3) rfl (.cons (t := 5) rfl (.cons (t := 6) rfl (.cons (t := 12) rfl (.cons (t := 13) rfl (.cons (t := 21) rfl (.cons (t := 22) rfl .nil)))))))) ?_
       refine Q_then ?_
       refine R_seq ?_
       refine R_region ?_
       refine L_val rfl rfl rfl (OpP.v (P_move rfl rfl)) ?_
       refine L_val rfl rfl rfl (V_strN (by rw [List.length_cons, List.length_append, numB_length, topH_length (leaves_len _)]) rfl (slB_spec ty_sl_48).1 ty_int_5 ty_str_9 rfl ((Sn.own .h3 rfl).rw_)) ?_
       refine L_val rfl rfl rfl (OpP.v (P_move rfl rfl)) ?_
       refine L_val rfl rfl rfl (V_strN (by rw [List.length_cons, List.length_append, numB_length, topH_length (leaves_len _)]) rfl (slB_spec ty_sl_48).1 ty_int_5 ty_str_9 rfl ((Sn.own .h0 rfl).rw_)) ?_
       refine L_val rfl rfl rfl (OpP.v (P_neStr rfl rfl rfl (IsB.cons (by decide) (by decide) (IsB.append (isB_numB _) (isB_topH (isB_leaves _)))) (IsB.cons (by decide) (by decide) (IsB.append (isB_numB _) (isB_topH (isB_leaves _)))))) ?_
       refine L_nil ?_
       refine St.env (.cons (t := 1) rfl (.cons (t := 3) rfl (.cons (t := 5) rfl (.cons (t := 6) rfl (.cons (t := 12) rfl (.cons (t := 13) rfl (.cons (t := 21) rfl (.cons (t := 22) rfl (.cons (t := 139) rfl .nil))))))))) ?_
       refine Q_then ?_
       refine R_condP rfl (fun hne2 => ?_) (fun hne2 => ?_)
       ·skip
        refine R_seq ?_
        refine R_region ?_
        refine L_val rfl rfl rfl (OpP.v (P_move rfl rfl)) ?_
        refine L_val rfl rfl rfl (OpP.v (P_move rfl rfl)) ?_
        refine L_op rfl (W_callV rfl rfl rfl rfl fn_ca_20 (clash_okN hG yb yc (2 :: (numB 0 ++ topH (leaves []))) zb zc (2 :: (numB (l.length : Int) ++ topH (leaves (l.map formB)))) (by rw [List.length_cons, List.length_append, numB_length, topH_length (leaves_len _)]) (by rw [List.length_cons, List.length_append, numB_length, topH_length (leaves_len _)]) (by omega) (by omega) (by decide) (by decide) (IsB.cons (by decide) (by decide) (IsB.append (isB_numB _) (isB_topH (isB_leaves _)))) (IsB.cons (by decide) (by decide) (IsB.append (isB_numB _) (isB_topH (isB_leaves _))))) (fun w nw => ⟨(Sn.own .h3 rfl).rw_ w nw, (Sn.own .h0 rfl).rw_ w nw⟩) ?_)
        refine L_val rfl rfl rfl (OpP.v (P_assign rfl rfl)) ?_
        refine L_nil ?_
        refine St.env (.cons (t := 1) rfl (.cons (t := 3) rfl (.cons (t := 5) rfl (.cons (t := 6) rfl (.cons (t := 12) rfl (.cons (t := 13) rfl .nil)))))) ?_
        refine Q_then ?_
        refine R_ret ?_
        refine Q_then_ret ?_
        exact R_endV rfl rfl (.tmp rfl .nil) (congrArg Value.bool (clashB_of hne2 (by have h5 := hSh.nil (by omega); rw [h5] at hDD; rw [rootD_plain (forms_small hfew), rootD_plain (by rfl), List.length_map] at hDD; exact hDD.symm)))
       ·skip
        have heq3 := Classical.not_not.1 hne2
        have hl0 : l = [] := by obtain ⟨e5, _⟩ := rootText_inj (n := 0) (by omega) (by omega) heq3; exact List.eq_nil_of_length_eq_zero e5.symm
        refine R_skip ?_
        exact Q_meet () (fun _ => hl0) (by repeat (first | exact .nil | refine .cons rfl ?_ | refine .consE rfl (by first | rfl | (congr 1; omega) | (congr 1; push_cast; omega)) ?_)) (Weak.drop (Weak.drop (Weak.drop (Weak.drop (Weak.refl _)))))
      ·skip
       have hnz : ¬ ac.length = 0 := by omega
       refine R_skip ?_
       exact Q_meet () (fun h9 => absurd h9 hnz) (by repeat (first | exact .nil | refine .cons rfl ?_ | refine .consE rfl (by first | rfl | (congr 1; omega) | (congr 1; push_cast; omega)) ?_)) (Weak.refl _)
     ·rintro ⟨⟩ hinv
      replace hinv : (ac.length = 0 → l = []) := hinv
      show St (cx gl) _ _ [blk b14 (ints .u8 (rootD (l.map formB))) 29, blk b12 X.cells 38, blk b10 (ints .u8 (rootLD (⟨l, r, bu, su⟩ : Led))) 29, blk b8 (ints .u8 (rootLD (⟨l, r, bu, su⟩ : Led))) 29, blk b5 (wiC R (.slice ub ac.length uc) (.slice pb ps.length pc)) 32, blk b3 (ledV (.slice base l.length c) (.slice base' r.length c') bu su) 26] _
      refine R_seq ?_
      refine R_region ?_
      refine L_val rfl rfl rfl (V_loadAgg rfl rfl ty_ag_26 (Rds.blk .h5) (rfl)) ?_
      refine L_val rfl rfl rfl (V_loadAgg rfl rfl ty_ag_32 (Rds.blk .h4) (by rw [wi_len hR])) ?_
      refine L_op rfl (W_call rfl rfl rfl rfl fn_ca_23 (lbeside_ok hG base c l hc hfew hok (.slice base' r.length c') rfl bu su R hR ub pb uc pc ac ps hac hpc hps hpb hlp hl2 hao (by rw [hDD]; exact hSh.each)) (Split.nil _) (fun w a b _ hb dj m => ⟨(Sn.row hpre.1.1 rfl).rw_ w ⟨_, hb, m.le (Heap.le_join_right dj)⟩, WitRow.now hpre.2 rfl w ⟨_, hb, m.le (Heap.le_join_right dj)⟩⟩) fun v5 rs5 ⟨⟨s, cc, e5, hsc, hsm⟩, e6⟩ => ?_)
      subst e5; subst e6
      refine L_val rfl rfl rfl (OpP.v (P_move rfl rfl)) ?_
      refine L_val rfl rfl rfl (OpP.v (P_extract rfl rfl rfl)) ?_
      refine L_val rfl rfl rfl (OpP.v (P_extract rfl rfl rfl)) ?_
      refine L_val rfl rfl rfl (OpP.v (P_assign rfl rfl)) ?_
      refine L_val rfl rfl rfl (OpP.v (P_assign rfl rfl)) ?_
      refine L_nil ?_
      refine St.env (.cons (t := 1) rfl (.cons (t := 3) rfl (.cons (t := 6) rfl (.cons (t := 12) rfl (.cons (t := 13) rfl (.cons (t := 23) rfl (.cons (t := 24) rfl .nil))))))) ?_
      refine Q_then ?_
      refine R_seq ?_
      refine R_seq ?_
      refine R_region ?_
      refine L_val rfl rfl rfl (OpP.v (P_move rfl rfl)) ?_
      refine L_val rfl rfl rfl (OpP.v (P_not rfl rfl)) ?_
      refine L_nil ?_
      refine St.env (.cons (t := 1) rfl (.cons (t := 3) rfl (.cons (t := 6) rfl (.cons (t := 12) rfl (.cons (t := 13) rfl (.cons (t := 24) rfl (.cons (t := 150) rfl .nil))))))) ?_
      refine Q_then ?_
      refine R_cond rfl (fun hs => ?_) (fun hs => ?_)
      ·skip
       refine R_seq ?_
       refine R_region ?_
       refine L_val rfl rfl rfl (OpP.v (P_move rfl rfl)) ?_
       refine L_val rfl rfl rfl (OpP.v (P_assign rfl rfl)) ?_
       refine L_nil ?_
       refine St.env (.cons (t := 1) rfl (.cons (t := 3) rfl (.cons (t := 6) rfl (.cons (t := 12) rfl (.cons (t := 13) rfl .nil))))) ?_
       refine Q_then ?_
       refine R_ret ?_
       refine Q_then_ret ?_
       exact R_endV rfl rfl (.tmp rfl .nil) (congrArg Value.bool (by cases s with | false => simpa using hsc | true => simp at hs))
      ·skip
       obtain ⟨hT, hX⟩ := binds_law (accFine_of hF.acc) hok hao hSh (hsm (by simpa using hs)) hinv hfew
       subst hT; subst hX
       refine R_skip ?_
       refine Q_then ?_
       refine R_seq ?_
       refine R_region ?_
       refine L_val rfl rfl rfl (V_loadAgg rfl rfl ty_ag_26 (Rds.blk .h5) (rfl)) ?_
       refine L_val rfl rfl rfl (OpP.v (P_move rfl rfl)) ?_
       refine L_op rfl (W_callV rfl rfl rfl rfl fn_ca_24 (rfind_ok base c l hc (by omega) (.slice base' r.length c') rfl bu su a) ((Sn.row hpre.1.1 rfl).rw_) ?_)
       refine L_val rfl rfl rfl (OpP.v (P_move rfl rfl)) ?_
       refine L_val rfl rfl rfl (OpP.v (P_extract rfl rfl rfl)) ?_
       refine L_val rfl rfl rfl (OpP.v (P_extract rfl rfl rfl)) ?_
       refine L_op rfl (W_alloc rfl rfl rfl ty_ze_38 fun b25 => ?_)
       refine L_op rfl (W_storeAll rfl rfl rfl rfl ty_ag_38 (rfl) (Rec.one (findX l a)) .h0 (rfl) ?_)
       refine L_val rfl rfl rfl (OpP.v (P_assign rfl rfl)) ?_
       refine L_nil ?_
       refine St.env (.cons (t := 6) rfl (.cons (t := 12) rfl (.cons (t := 13) rfl (.cons (t := 25) rfl (.cons (t := 26) rfl .nil))))) ?_
       refine Q_then ?_
       refine R_seq ?_
       refine R_region ?_
       refine L_val rfl rfl rfl (OpP.v (P_move rfl rfl)) ?_
       refine L_val rfl rfl rfl (OpP.v (P_move rfl rfl)) ?_
       refine L_val rfl rfl rfl (OpP.v (P_eql rfl rfl rfl)) ?_
       refine L_val rfl rfl rfl (OpP.v (P_eql_bool rfl ty_bool_4 rfl rfl)) ?_
       refine E_true (t := 161) rfl (by simp) ?_
       refine L_val rfl rfl rfl (OpP.v (P_move rfl rfl)) ?_
       refine L_val rfl rfl rfl (V_loadAgg rfl rfl ty_ag_38 (Rds.blk .h2) (rfl)) ?_
       refine L_val rfl rfl rfl (V_loadAgg rfl rfl ty_ag_38 (Rds.blk .h0) (rfl)) ?_
       refine L_val rfl rfl rfl (OpP.v (P_eql_structK (b := true) [false, false, false, false, true] rfl se_acc rfl rfl rfl rfl (acc_kind (findX l a) (findX l a)) ⟨fun _ => rfl, fun _ => rfl⟩)) ?_
       refine E_true (t := 165) rfl (rfl) ?_
       refine L_val rfl rfl rfl (OpP.v (P_pick rfl rfl rfl)) ?_
       refine L_val rfl rfl rfl (OpP.v (P_assign rfl rfl)) ?_
       refine L_nil ?_
       refine St.env (.cons (t := 6) rfl .nil) ?_
       refine Q_then ?_
       refine R_ret ?_
       exact R_endV rfl rfl (.tmp rfl .nil) (rfl)
end Go.Proofs.YtfhjhaogmdaepaaGreatDoor

/- What the listed variables hold. Printed by gen.py. -/
set_option linter.unusedVariables false
set_option linter.unusedSimpArgs false
set_option maxRecDepth 100000
namespace Go.Proofs.YtfhjhaogmdaepaaGreatDoor
open Go Go.RowKit Go.ChangeShapes Go.WideShapes Go.Proofs
theorem ownNone : ownKnob Tryz.prog.godebug = none := by kernel_rfl
noncomputable def laid3 : List (String × DataW Unit) := [("assent/assentref02.adds", Rows.laid_assent_assentref02_adds), ("assent/digest.adds", Rows.laid_assent_digest_adds), ("assent/digest.begin", Rows.laid_assent_digest_begin)]
theorem laid3_door (os : Os) (args : Array Value) : laidMetH Tryz.prog laid3 ((World.doorLaid Tryz.prog 400 os).forCall (fun _ _ => 0) ⟨#[], args, []⟩).memory :=
 laidMetH_of_parts3 (fuel := 8) (laidMet_of_run' 8 (by kernel_rfl) (by kernel_rfl)) (by kernel_rfl) (by kernel_rfl)
theorem gRef : Tryz.prog.globalNamed "assent/assentref02.adds" = some 0 := by kernel_rfl
theorem gAdds : Tryz.prog.globalNamed "assent/digest.adds" = some 4 := by kernel_rfl
theorem gBegin : Tryz.prog.globalNamed "assent/digest.begin" = some 3 := by kernel_rfl
theorem tRef : (Tryz.prog.globals[0]?).map (·.type) = some 208 := by kernel_rfl
theorem tAdds : (Tryz.prog.globals[4]?).map (·.type) = some 208 := by kernel_rfl
theorem tBegin : (Tryz.prog.globals[3]?).map (·.type) = some 131 := by kernel_rfl
theorem cells_108 : Tryz.prog.cellsOf 108 = 1 := by kernel_rfl
theorem cells_208 : Tryz.prog.cellsOf 208 = 64 := by kernel_rfl
theorem cells_131 : Tryz.prog.cellsOf 131 = 8 := by kernel_rfl
theorem arr_of_laid {H : Type} {enc : TypeId × Value → H} {W : World} {base : Nat} {sp : Nat → Bool} {hd : Bool} {t n fuel : Nat} {cs : Array Value} {zs : List Int} {ps : List MemPlace} (ht : Tryz.prog.underlying t = some (.array n 108)) (hc : Tryz.prog.cellsOf t = n)
  (h : DataW.trod enc Tryz.prog W base sp hd fuel t cs.toList = some (.agg (lits .u32 zs), ps)) : cs = (ints .u32 zs).toArray := by
 obtain ⟨ys, h1, _, h3, _⟩ := open_intArr ht ty_int_108 cells_108 hc h
 simp only [Prod.mk.injEq, DataW.agg.injEq] at h3
 rw [lits_inj h3.1, ← h1]
theorem glob_of {W : World} {i : Nat} {o : Obj} (h : W.heap[i]? = some o) : (W.heap[i]?).getD default = o := by rw [h]; rfl
/-- What the condition gives: the world's first blocks are the program's tables. -/
theorem globs_of_laid {W : World} (h : laidMetH Tryz.prog laid3 W) : ∃ gl, GlobsR gl ∧ (cx gl).ok W := by
 rw [MakeChecks.laidMetH_plain _ _ _ (by kernel_rfl)] at h
 obtain ⟨ps, ⟨g0, t0, cs0, f0, p0, q0, hg0, ht0, hv0, hd0, ⟨g1, t1, cs1, f1, p1, q1, hg1, ht1, hv1, hd1, ⟨g2, t2, cs2, f2, p2, q2, hg2, ht2, hv2, hd2, _, _⟩, _⟩, _⟩, _, _⟩ := h
 obtain rfl := Option.some.inj (gRef.symm.trans hg0)
 obtain rfl := Option.some.inj (gAdds.symm.trans hg1)
 obtain rfl := Option.some.inj (gBegin.symm.trans hg2)
 obtain rfl := Option.some.inj (tRef.symm.trans ht0)
 obtain rfl := Option.some.inj (tAdds.symm.trans ht1)
 obtain rfl := Option.some.inj (tBegin.symm.trans ht2)
 obtain rfl := arr_of_laid (zs := addsK) ty_un_208 cells_208 hd0
 obtain rfl := arr_of_laid (zs := addsK) ty_un_208 cells_208 hd1
 obtain rfl := arr_of_laid (zs := beginK) ty_un_131 cells_131 hd2
 obtain ⟨T0, r0, e0⟩ := var_heap gRef hv0
 obtain ⟨T1, r1, e1⟩ := var_heap gAdds hv1
 obtain ⟨T2, r2, e2⟩ := var_heap gBegin hv2
 refine ⟨fun i => (W.heap[i]?).getD default, ⟨⟨⟨T2, r2, glob_of e2⟩, ⟨T1, r1, glob_of e1⟩⟩, ⟨T0, r0, glob_of e0⟩⟩, fun i hi => ?_⟩
 have hi : i < 5 := hi
 have hs := lt_of_some (w := W) e1
 show W.heap[i]? = some ((W.heap[i]?).getD default)
 rw [Array.getElem?_eq_getElem (by omega)]; rfl
end Go.Proofs.YtfhjhaogmdaepaaGreatDoor

/- How ledgers, settings, transactions are read. Printed by gen.py. -/
set_option linter.unusedVariables false
set_option linter.unusedSimpArgs false
set_option maxRecDepth 100000
namespace Go.Proofs.YtfhjhaogmdaepaaGreatDoor
open Go Go.RowKit Go.ChangeShapes Go.WideShapes Go.Proofs
/-- A transaction. -/
structure Tx where
 kind : Int
 frm : Int
 to : Int
 amt : Int
 fee : Int
 non : Int
 sg16 : List Int
def Tx.cells (x : Tx) : List Value := [.int .i64 x.kind, .int .u64 x.frm, .int .u64 x.to, .int .u64 x.amt, .int .u64 x.fee, .int .u64 x.non] ++ ints .u8 x.sg16
structure Tx.ok (x : Tx) : Prop where
 kind : -9223372036854775808 ≤ x.kind ∧ x.kind ≤ 9223372036854775807
 frm : u64 x.frm
 to : u64 x.to
 amt : u64 x.amt
 fee : u64 x.fee
 non : u64 x.non
 sg16 : IsB x.sg16
 len : x.sg16.length = 16
theorem Tx.one (x : Tx) : ∀ v ∈ x.cells, v.oneCell' = true := by
 intro v hv; unfold Tx.cells at hv
 rcases List.mem_append.1 hv with hv | hv
 ·simp only [List.mem_cons, List.not_mem_nil, or_false] at hv
  rcases hv with rfl | rfl | rfl | rfl | rfl | rfl <;> rfl
 ·exact ints_one v hv
structure Par.ok (p : Par) : Prop where
 mb : u64 p.mb
 seats : -9223372036854775808 ≤ p.seats ∧ p.seats ≤ 9223372036854775807
 p2 : u64 p.p2
 p3 : u64 p.p3
 p4 : u64 p.p4
 p5 : -9223372036854775808 ≤ p.p5 ∧ p.p5 ≤ 9223372036854775807
 p6 : u64 p.p6
 p7 : u64 p.p7
 p8 : u64 p.p8
 p9 : u64 p.p9
 p10 : u64 p.p10
 p11 : u64 p.p11
/-- A ledger as it is handed in. -/
structure LedI where
 s : Sl Acc
 r : Sl Rel
 bu : Int
 su : Int
def LedI.cells (x : LedI) : List Value := ledV x.s.val x.r.val x.bu x.su
structure LedI.ok (W : World) (x : LedI) : Prop where
 hc : x.s.xs.length ≤ x.s.c
 hc' : x.r.xs.length ≤ x.r.c
 row : Row W x.s.b (rc x.s.xs)
 row' : Row W x.r.b (rc x.r.xs)
 ok : ∀ y ∈ x.s.xs, y.ok
 ok' : ∀ y ∈ x.r.xs, y.ok
 bu : u64 x.bu
 su : u64 x.su
theorem fits64 {z : Int} (h : fits .u64 z) : u64 z := by simp only [fits] at h; exact ⟨by omega, by omega⟩
theorem cells_acc : Tryz.prog.cellsOf 38 = 5 := by kernel_rfl
theorem bytes_acc : Tryz.prog.bytesOf 38 = 40 := by kernel_rfl
theorem fs_acc : fsB Tryz.prog 38 [(27, 0, 1), (24, 1, 1), (24, 2, 1), (24, 3, 1), (4, 4, 1)] = true := by kernel_rfl
def accOf (a : Int × Int × Int × Int × Bool × Unit) : Acc := ⟨a.1, a.2.1, a.2.2.1, a.2.2.2.1, a.2.2.2.2.1⟩
def rd_acc := PLift.up (Reads.as (cells' := Acc.cells) (Hd' := fun _ x => x.ok) (bulk' := fun _ => 1) (Small' := fun _ => True) accOf (Reads.struct fs_acc cells_acc (ReadsF.cons (Reads.int ty_int_27) (ReadsF.cons (Reads.int ty_int_24) (ReadsF.cons (Reads.int ty_int_24) (ReadsF.cons (Reads.int ty_int_24) (ReadsF.cons (Reads.bool ty_bool_4) ReadsF.nil)))))) (fun _ => rfl) (fun W a h => by
 obtain ⟨⟨⟨h1, _⟩, ⟨h2, _⟩, ⟨h3, _⟩, ⟨h4, _⟩, _⟩, _⟩ := h
 exact ⟨fits64 h1, fits64 h2, fits64 h3, fits64 h4⟩) (fun _ => by omega) (fun _ _ => trivial))
def rd_accs := PLift.up (Reads.slice ty_sl_22 cells_acc bytes_acc (fun _ => .inr trivial) rd_acc.down)
theorem cells_rel : Tryz.prog.cellsOf 135 = 4 := by kernel_rfl
theorem bytes_rel : Tryz.prog.bytesOf 135 = 32 := by kernel_rfl
theorem fs_rel : fsB Tryz.prog 135 [(24, 0, 1), (27, 1, 1), (24, 2, 1), (24, 3, 1)] = true := by kernel_rfl
def relOf (a : Int × Int × Int × Int × Unit) : Rel := ⟨a.1, a.2.1, a.2.2.1, a.2.2.2.1⟩
def rd_rel := PLift.up (Reads.as (cells' := Rel.cells) (Hd' := fun _ x => x.ok) (bulk' := fun _ => 1) (Small' := fun _ => True) relOf (Reads.struct fs_rel cells_rel (ReadsF.cons (Reads.int ty_int_24) (ReadsF.cons (Reads.int ty_int_27) (ReadsF.cons (Reads.int ty_int_24) (ReadsF.cons (Reads.int ty_int_24) ReadsF.nil))))) (fun _ => rfl) (fun W a h => by
 obtain ⟨⟨⟨h1, _⟩, ⟨h2, _⟩, ⟨h3, _⟩, ⟨h4, _⟩, _⟩, _⟩ := h
 exact ⟨fits64 h1, fits64 h2, fits64 h3, fits64 h4⟩) (fun _ => by omega) (fun _ _ => trivial))
def rd_rels := PLift.up (Reads.slice ty_sl_23 cells_rel bytes_rel (fun _ => .inr trivial) rd_rel.down)
theorem cells_led : Tryz.prog.cellsOf 26 = 4 := by kernel_rfl
theorem fs_led : fsB Tryz.prog 26 [(22, 0, 1), (23, 1, 1), (24, 2, 1), (24, 3, 1)] = true := by kernel_rfl
def ledOf (a : Sl Acc × Sl Rel × Int × Int × Unit) : LedI := ⟨a.1, a.2.1, a.2.2.1, a.2.2.2.1⟩
theorem ones_sum {α : Type} (xs : List α) : (xs.map fun _ => 1).sum = xs.length := by induction xs with
 | nil => rfl
 | cons x xs ih => rw [List.map_cons, List.sum_cons, ih, List.length_cons]; omega
def rd_led := PLift.up (Reads.as (cells' := LedI.cells) (Hd' := LedI.ok) (bulk' := fun x => x.s.xs.length + x.r.xs.length) (Small' := fun x => x.s.xs.length * 40 ≤ reachBytes ∧ x.r.xs.length * 32 ≤ reachBytes) ledOf (Reads.struct fs_led cells_led (ReadsF.cons rd_accs.down (ReadsF.cons rd_rels.down (ReadsF.cons (Reads.int ty_int_24) (ReadsF.cons (Reads.int ty_int_24) ReadsF.nil))))) (fun _ => rfl) (fun W a h => by
 obtain ⟨⟨⟨⟨h1, _, h2, h3⟩, _⟩, ⟨⟨h4, _, h5, h6⟩, _⟩, ⟨h7, _⟩, ⟨h8, _⟩, _⟩, _⟩ := h
 exact ⟨h1, h4, h2, h5, fun y hy => (h3 y hy).1, fun y hy => (h6 y hy).1, fits64 h7, fits64 h8⟩) (fun a => by have h1 := ones_sum a.1.xs; have h2 := ones_sum a.2.1.xs; show a.1.xs.length + a.2.1.xs.length ≤ ((a.1.xs.map fun _ => 1).sum + 1 + ((a.2.1.xs.map fun _ => 1).sum + 1 + _)) + 1; omega) (fun a h => ⟨h.1.1, h.2.1.1⟩))
section
variable {H : Type} {enc : TypeId × Value → H} {P : Program} {w : World} {base : Nat} {spare : Nat → Bool} {held : Bool}
end
theorem cells_u8 : Tryz.prog.cellsOf 5 = 1 := by kernel_rfl
end Go.Proofs.YtfhjhaogmdaepaaGreatDoor

/- How witnesses are read. Printed by gen.py. -/
set_option linter.unusedVariables false
set_option linter.unusedSimpArgs false
set_option maxRecDepth 100000
namespace Go.Proofs.YtfhjhaogmdaepaaGreatDoor
open Go Go.RowKit Go.ChangeShapes Go.WideShapes Go.Proofs
theorem cells_hash : Tryz.prog.cellsOf 29 = 32 := by kernel_rfl
theorem bytes_hash : Tryz.prog.bytesOf 29 = 32 := by kernel_rfl
def rd_hash := PLift.up (Reads.ints (P := Tryz.prog) (k := .u8) ty_un_29 ty_int_5 cells_u8 cells_hash)
def rd_hashes := PLift.up (Reads.slice ty_sl_45 cells_hash bytes_hash (fun _ => .inr trivial) rd_hash.down)
/-- A proof that the world shows. -/
structure PfRd (W : World) (p : Pf) : Prop where
 cap : p.hs.length ≤ p.c
 row : Row W p.b (flat .u8 p.hs)
 len : ∀ h ∈ p.hs, h.length = 32 ∧ IsB h
theorem cells_pf : Tryz.prog.cellsOf 47 = 3 := by kernel_rfl
theorem bytes_pf : Tryz.prog.bytesOf 47 = 40 := by kernel_rfl
theorem fs_pf : fsB Tryz.prog 47 [(3, 0, 1), (3, 1, 1), (45, 2, 1)] = true := by kernel_rfl
def pfOf (a : Int × Int × Sl (List Int) × Unit) : Pf := ⟨a.1, a.2.1, a.2.2.1.b, a.2.2.1.c, a.2.2.1.xs⟩
def rd_pf := PLift.up (Reads.as (cells' := Pf.cells) (Hd' := PfRd) (bulk' := fun _ => 1) (Small' := fun p => p.hs.length * 32 ≤ reachBytes) pfOf (Reads.struct fs_pf cells_pf (ReadsF.cons (Reads.int ty_int_3) (ReadsF.cons (Reads.int ty_int_3) (ReadsF.cons rd_hashes.down ReadsF.nil)))) (fun _ => rfl) (fun W a h => by
 obtain ⟨⟨⟨_, _⟩, ⟨_, _⟩, ⟨⟨h1, _, h2, h3⟩, _⟩, _⟩, _⟩ := h
 exact ⟨h1, h2, fun x hx => ⟨(h3 x hx).1.1, fun z hz => by have := (h3 x hx).1.2 z hz; simp only [fits] at this; omega⟩⟩) (fun _ => by omega) (fun a h => h.2.2.1.1))
def rd_pfs := PLift.up (Reads.slice ty_sl_30 cells_pf bytes_pf (fun _ => .inr trivial) rd_pf.down)
/-- A witness as it is handed in. -/
structure WitI where
 R : List Int
 s : Sl Acc
 q : Sl Pf
def WitI.cells (x : WitI) : List Value := wiC x.R x.s.val x.q.val
structure WitI.ok' (W : World) (x : WitI) : Prop where
 len : x.R.length = 32
 isB : IsB x.R
 hc : x.s.xs.length ≤ x.s.c
 hc' : x.q.xs.length ≤ x.q.c
 row : Row W x.s.b (rc x.s.xs)
 row' : Row W x.q.b (rc x.q.xs)
 ok : ∀ y ∈ x.s.xs, y.ok
 pf : ∀ p ∈ x.q.xs, PfRd W p
theorem cells_wit : Tryz.prog.cellsOf 32 = 34 := by kernel_rfl
theorem fs_wit : fsB Tryz.prog 32 [(29, 0, 32), (22, 32, 1), (30, 33, 1)] = true := by kernel_rfl
def witOf (a : List Int × Sl Acc × Sl Pf × Unit) : WitI := ⟨a.1, a.2.1, a.2.2.1⟩
def rd_wit := PLift.up (Reads.as (cells' := WitI.cells) (Hd' := WitI.ok') (bulk' := fun _ => 1) (Small' := fun x => ∀ p ∈ x.q.xs, p.hs.length * 32 ≤ reachBytes) witOf (Reads.struct fs_wit cells_wit (ReadsF.cons rd_hash.down (ReadsF.cons rd_accs.down (ReadsF.cons rd_pfs.down ReadsF.nil)))) (fun _ => rfl) (fun W a h => by
 obtain ⟨⟨⟨⟨r1, r2⟩, _⟩, ⟨⟨h1, _, h2, h3⟩, _⟩, ⟨⟨h4, _, h5, h6⟩, _⟩, _⟩, _⟩ := h
 exact ⟨r1, fun z hz => by have := r2 z hz; simp only [fits] at this; omega, h1, h4, h2, h5, fun y hy => (h3 y hy).1, fun p hp => (h6 p hp).1⟩) (fun _ => by omega) (fun a h => h.2.2.1.2))
end Go.Proofs.YtfhjhaogmdaepaaGreatDoor
