/- Walks: what a proof binds. Printed by gen.py. -/
import Derived.Test.YtldndhekjhlbmaaDoorD17
import Derived.Test.YtldndhekjhlbmaaDoorD15
set_option linter.unusedVariables false
set_option linter.unusedSimpArgs false
set_option maxRecDepth 100000
namespace Go.Proofs.YtldndhekjhlbmaaDoor
open Go Go.RowKit Go.Proofs
theorem isB_leaf (x : List Int) : IsB (leafH x) := isB_sha _
theorem isB_climb {t : List Int} (ht : IsB t) : ∀ (es : List (List Int)) (ds : List Bool), IsB (climb t es ds) := by
  intro es
  induction es generalizing t with
  | nil => intro ds; exact ht
  | cons a es ih => intro ds; cases ds with
    | nil => exact ht
    | cons d ds =>
      refine ih ?_ ds
      unfold stepH; split <;> exact isB_sha _
theorem isB_lead {n i : Nat} {es : List (List Int)} {t : List Int} (ht : IsB t) : IsB (leadH n i es t) := isB_climb ht _ _
/-- What down keeps, for lists of less than b items. -/
def DownOk (gl : Nat → Obj) (b : Nat) : Prop := ∀ (ba : Option Addr) (ca : Nat) (va : List Value) (xss : List (List Int)) (i : Nat) (bh : Option Addr) (ch : Nat) (hs : List (List Int)) (ib : Option Addr) (ic : Nat) (item : List Int),
  va.length < b → 1 ≤ va.length → va.length ≤ 65536 → i < va.length → va.length = xss.length → va.length ≤ ca → (∀ x ∈ xss, Fine x) → hs.length = (turnsH va.length i).length → (∀ h ∈ hs, h.length = 32) → (∀ h ∈ hs, IsB h) → hs.length ≤ ch → item.length ≤ ic → Fine item →
  topH (leaves xss) = leadH va.length i hs (leafH item) →
  Spec (cx gl) 60 [.slice ba va.length ca, .int .i64 (i : Int), .slice bh hs.length ch, .slice ib item.length ic] (fun w _ => Items w ba va xss ∧ Row w bh (flat .u8 hs) ∧ Row w ib (ints .u8 item)) [] (fun v rs => (∃ s c : Bool, v = .tuple #[.bool s, .bool c] ∧ (s || c) = true) ∧ rs = [])
theorem verE_cases (root : List Int) (total index : Int) (hs : List (List Int)) (item : List Int) : verE root total index hs item = 0 ∨ verE root total index hs item = 4 ∨ verE root total index hs item = 20 ∨ verE root total index hs item = 21 := by
  have hp : pathE total index hs item = 0 ∨ pathE total index hs item = 4 ∨ pathE total index hs item = 20 := by
    unfold pathE
    split
    · exact .inr (.inl rfl)
    · split
      · exact .inl rfl
      · exact .inr (.inr rfl)
  unfold verE
  by_cases h0 : pathE total index hs item = 0
  · rw [if_pos h0]
    by_cases hd : pathD total index hs item = root
    · rw [if_pos hd]; exact .inl rfl
    · rw [if_neg hd]; exact .inr (.inr (.inr rfl))
  · rw [if_neg h0]
    rcases hp with h | h | h
    · exact absurd h h0
    · exact .inr (.inl h)
    · exact .inr (.inr (.inl h))
theorem verE_zero {root : List Int} {total index : Int} {hs : List (List Int)} {item : List Int} (h : verE root total index hs item = 0) : item.length ≤ 1048576 ∧ fitsB total index hs.length = true ∧ sha (2 :: (numB total ++ leadH total.toNat index.toNat hs (leafH item))) = root := by
  have hp : pathE total index hs item = 0 := by
    unfold verE at h
    by_cases hp : pathE total index hs item = 0
    · exact hp
    · rw [if_neg hp] at h; exact absurd h hp
  have hd : pathD total index hs item = root := by
    unfold verE at h
    rw [if_pos hp] at h
    by_cases hd : pathD total index hs item = root
    · exact hd
    · rw [if_neg hd] at h; cases h
  unfold pathD at hd
  rw [if_pos hp] at hd
  unfold pathE at hp
  by_cases h1 : 1048576 < item.length
  · rw [if_pos h1] at hp; cases hp
  · rw [if_neg h1] at hp
    by_cases h2 : fitsB total index hs.length = true
    · exact ⟨by omega, h2, hd⟩
    · rw [if_neg h2] at hp; cases hp
theorem lead_ok {gl : Nat → Obj} (hG : GlobsR gl) (n i : Nat) (bh : Option Addr) (ch : Nat) (hs : List (List Int)) (ib : Option Addr) (ic : Nat) (item : List Int) (h1 : 1 ≤ n) (hn : n ≤ 65536) (hi : i < n) (hlen : hs.length = (turnsH n i).length) (hh : ∀ h ∈ hs, h.length = 32) (hch : hs.length ≤ ch) (him : item.length ≤ 140737488355000) : SpecV (cx gl) 59 [.int .i64 (n : Int), .int .i64 (i : Int), .slice bh hs.length ch, .slice ib item.length ic] (fun w => Row w bh (flat .u8 hs) ∧ Row w ib (ints .u8 item)) (.agg (ints .u8 (leadH n i hs (leafH item))).toArray) := by
  refine Spec.enter (C := cx gl) Tryd.func59 rfl 17 rfl rfl fun w0 h0 hsep hsub hpre => ?_
  obtain rfl : h0 = Heap.none := hsep
  show St (cx gl) _ [(0, .int .i64 (n : Int)), (1, .int .i64 (i : Int)), (2, .slice bh hs.length ch), (3, .slice ib item.length ic)] _ _
  refine R_seq ?_
  refine R_region ?_
  refine L_op rfl (W_alloc rfl rfl rfl ty_ze_23 fun b8 => ?_)
  refine L_nil ?_
  refine Q_then ?_
  refine R_seq ?_
  refine R_region ?_
  refine L_val rfl rfl rfl (OpP.v (P_move rfl rfl)) ?_
  refine L_op rfl (W_callV rfl rfl rfl rfl fn_ca_18 (rleaf_ok hG ib ic item him) ((Sn.row hpre.2 rfl).rw_) ?_)
  refine L_op rfl (W_alloc rfl rfl rfl ty_ze_23 fun b9 => ?_)
  refine L_op rfl (W_storeAll rfl rfl rfl rfl ty_ag_23 (by rw [ints_length]; exact sha_length _) (ints_one) .h0 (by rw [ints_length]; exact sha_length _) ?_)
  refine L_nil ?_
  refine St.env (.cons (t := 0) rfl (.cons (t := 1) rfl (.cons (t := 2) rfl (.cons (t := 8) rfl (.cons (t := 9) rfl .nil))))) ?_
  refine Q_then ?_
  refine R_seq ?_
  refine R_region ?_
  refine L_val rfl rfl rfl (OpP.v (P_move rfl rfl)) ?_
  refine L_val rfl rfl rfl (OpP.v (P_move rfl rfl)) ?_
  refine L_val rfl rfl rfl (OpP.v (P_move rfl rfl)) ?_
  refine L_val rfl rfl rfl (V_loadAgg rfl rfl ty_ag_23 (Rds.blk .h0) (by rw [ints_length]; exact sha_length _)) ?_
  refine L_op rfl (W_callV rfl rfl rfl rfl fn_ca_54 (up_ok hG (n + 1) (by omega) n i bh ch hs (leafH item) (by omega) h1 hi hlen hh hch (leafH_length _)) ((Sn.row hpre.1 rfl).rw_) ?_)
  refine L_op rfl (W_storeAll rfl rfl rfl rfl ty_ag_23 (by rw [ints_length, leadH_length (leafH_length _)]) (ints_one) .h1 (by rw [ints_length, leadH_length (leafH_length _)]; rfl) ?_)
  refine L_nil ?_
  refine St.env (.cons (t := 8) rfl .nil) ?_
  refine Q_then ?_
  refine R_ret ?_
  exact R_endV rfl rfl (.cell rfl (Rds.loadVar ty_ag_23 (Rds.blk .h1) (by rw [ints_length, leadH_length (leafH_length _)])) .nil) (rfl)
set_option maxHeartbeats 1000000 in
theorem down_step {gl : Nat → Obj} (hG : GlobsR gl) (b : Nat) (hih : DownOk gl b) : DownOk gl (b + 1) := by
  intro ba ca va xss i bh ch hs ib ic item hva h1n hnM hi hvx hca ha hlen hh hB hch hic hit htop
  refine Spec.enter (C := cx gl) Tryd.func60 rfl 135 rfl rfl fun w0 h0 hsep hsub hpre => ?_
  obtain rfl : h0 = Heap.none := hsep
  show St (cx gl) _ [(0, .slice ba va.length ca), (1, .int .i64 (i : Int)), (2, .slice bh hs.length ch), (3, .slice ib item.length ic)] _ _
  refine R_seq ?_
  refine R_region ?_
  refine L_val rfl rfl rfl (OpP.v (P_assign rfl rfl)) ?_
  refine L_val rfl rfl rfl (OpP.v (P_assign rfl rfl)) ?_
  refine L_nil ?_
  refine Q_then ?_
  refine R_seq ?_
  refine R_seq ?_
  refine R_region ?_
  refine L_val rfl rfl rfl (OpP.v (P_move rfl rfl)) ?_
  refine L_val rfl rfl rfl (OpP.v (P_len rfl ty_sl_36 rfl)) ?_
  refine L_val rfl rfl rfl (OpP.v (P_eql rfl rfl rfl)) ?_
  refine L_nil ?_
  refine St.env (.cons (t := 0) rfl (.cons (t := 1) rfl (.cons (t := 2) rfl (.cons (t := 3) rfl (.cons (t := 8) rfl (.cons (t := 9) rfl (.cons (t := 22) rfl .nil))))))) ?_
  refine Q_then ?_
  refine R_condP rfl (fun h1 => ?_) (fun h1 => ?_)
  · skip
    obtain ⟨bb1, c1, y1, hvk1, hxk1, hbc1, hbr1⟩ := hpre.1.2.at_ (k := 0) (by omega)
    obtain ⟨pa, ja, rfl, hrowa⟩ := hpre.1.1.some_ (by omega)
    obtain ⟨g1, i1⟩ := ha y1 (List.mem_of_getElem? hxk1)
    have hv1 : va.length = 1 := by omega
    obtain rfl : hs = [] := List.eq_nil_of_length_eq_zero (by rw [hlen, turnsH_one (by omega)]; rfl)
    rw [leaf_one (by omega) hxk1, leadH_one (by omega)] at htop
    refine R_seq ?_
    refine R_seq ?_
    refine R_open [(0, 0), (1, 0), (2, 0), (3, 0), (4, 0), (5, 0), (6, 1), (7, 1), (8, 0), (9, 1), (10, 0), (11, 0)] mixed (by kernel_rfl) (QOk.then (QOk.then (QOk.then QOk.body))) ?_
    refine O_pure rfl rfl rfl rfl (P_move rfl rfl) ?_
    refine O_pure rfl rfl rfl rfl (P_len rfl ty_sl_55 rfl) ?_
    refine O_pure rfl rfl rfl rfl (P_eql rfl rfl rfl) ?_
    refine E_true (t := 25) rfl (rfl) ?_
    refine O_pure rfl rfl rfl rfl (P_move rfl rfl) ?_
    refine O_pure rfl rfl rfl rfl (P_move rfl rfl) ?_
    refine O_pure rfl rfl rfl rfl (P_ixs (0) rfl ty_sl_36 rfl rfl (by first | rfl | omega) (by omega)) ?_
    refine O_val rfl rfl rfl rfl (V_load rfl rfl ty_sc_26 (Rd.row hrowa rfl hvk1)) ?_
    refine O_val rfl rfl rfl rfl (V_str rfl (slB_spec ty_sl_26).1 ty_int_5 ty_str_9 rfl ((Sn.row hbr1 rfl).rw_)) ?_
    refine O_pure rfl rfl rfl rfl (P_move rfl rfl) ?_
    refine O_val rfl rfl rfl rfl (V_str rfl (slB_spec ty_sl_26).1 ty_int_5 ty_str_9 rfl ((Sn.row hpre.2.2 rfl).rw_)) ?_
    refine O_pure rfl rfl rfl rfl (P_eqStr rfl rfl rfl i1 hit.2) ?_
    refine O_pure rfl rfl rfl rfl (P_pick rfl rfl rfl) ?_
    refine O_nil ?_
    refine St.env (.cons (t := 0) rfl (.cons (t := 1) rfl (.cons (t := 2) rfl (.cons (t := 3) rfl (.cons (t := 8) rfl (.cons (t := 9) rfl (.cons (t := 34) rfl .nil))))))) ?_
    refine Q_then ?_
    refine R_condP rfl (fun heq => ?_) (fun heq => ?_)
    · skip
      refine R_seq ?_
      refine R_region ?_
      refine L_val rfl rfl rfl (OpP.v (P_assign rfl rfl)) ?_
      refine L_val rfl rfl rfl (OpP.v (P_assign rfl rfl)) ?_
      refine L_nil ?_
      refine St.env (.cons (t := 0) rfl (.cons (t := 1) rfl (.cons (t := 2) rfl (.cons (t := 3) rfl (.cons (t := 8) rfl (.cons (t := 9) rfl .nil)))))) ?_
      refine Q_then ?_
      refine R_ret ?_
      refine Q_then_ret ?_
      refine Q_then_ret ?_
      exact R_end (rs2 := _) rfl rfl (.tmp rfl (.tmp rfl .nil)) (⟨⟨true, false, rfl, rfl⟩, rfl⟩) (Weak.refl _)
    · skip
      refine R_skip ?_
      refine Q_then ?_
      refine R_seq ?_
      refine R_region ?_
      refine L_val rfl rfl rfl (OpP.v (P_move rfl rfl)) ?_
      refine L_val rfl rfl rfl (OpP.v (P_ixs (0) rfl ty_sl_36 rfl rfl (by first | rfl | omega) (by omega))) ?_
      refine L_val rfl rfl rfl (V_load rfl rfl ty_sc_26 (Rd.row hrowa rfl hvk1)) ?_
      refine L_op rfl (W_call rfl rfl rfl rfl fn_ca_42 (leafText_ok bb1 c1 y1 g1) (Split.nil _) (fun w a b _ hb dj m => (Sn.row hbr1 rfl).rw_ w ⟨_, hb, m.le (Heap.le_join_right dj)⟩) fun v38 rs1 (e1 : rs1 = _) => ?_)
      subst e1
      refine St.openOwn (p := []) (by omega) fun tb1 tcap1 junk1 htc1 htl1 htv => ?_
      subst htv
      refine St.res (rs' := [blk tb1 (ints .u8 (0 :: y1) ++ junk1) 5]) (Weak.refl _) ?_
      refine L_val rfl rfl rfl (OpP.v (P_move rfl rfl)) ?_
      refine L_op rfl (W_call rfl rfl rfl rfl fn_ca_42 (leafText_ok ib ic item hit.1) (Split.nil _) (fun w a b _ hb dj m => (Sn.row hpre.2.2 rfl).rw_ w ⟨_, hb, m.le (Heap.le_join_right dj)⟩) fun v40 rs1 (e1 : rs1 = _) => ?_)
      subst e1
      refine St.openOwn (p := []) (by omega) fun tb2 tcap2 junk2 htc2 htl2 htv => ?_
      subst htv
      refine St.res (rs' := [blk tb2 (ints .u8 (0 :: item) ++ junk2) 5, blk tb1 (ints .u8 (0 :: y1) ++ junk1) 5]) (Weak.refl _) ?_
      refine L_op rfl (W_callV rfl rfl rfl rfl fn_ca_51 (clash_okN hG (some ⟨tb1, 0, none⟩) tcap1 (0 :: y1) (some ⟨tb2, 0, none⟩) tcap2 (0 :: item) (List.length_cons) (List.length_cons) htc1 htc2 (by omega) (by have := hit.1; omega) (IsB.cons (by decide) (by decide) i1) (IsB.cons (by decide) (by decide) hit.2)) (fun w nw => ⟨(Sn.ofBlkAt .h1 fun i v h => app_at i v h).rw_ w nw, (Sn.ofBlkAt .h0 fun i v h => app_at i v h).rw_ w nw⟩) ?_)
      refine L_val rfl rfl rfl (OpP.v (P_assign rfl rfl)) ?_
      refine L_nil ?_
      refine St.env (.cons (t := 0) rfl (.cons (t := 1) rfl (.cons (t := 2) rfl (.cons (t := 3) rfl (.cons (t := 8) rfl (.cons (t := 9) rfl (.cons (t := 10) rfl .nil))))))) ?_
      refine Q_then ?_
      refine R_seq ?_
      refine R_region ?_
      refine L_val rfl rfl rfl (OpP.v (P_move rfl rfl)) ?_
      refine L_val rfl rfl rfl (OpP.v (P_assign rfl rfl)) ?_
      refine L_val rfl rfl rfl (OpP.v (P_assign rfl rfl)) ?_
      refine L_nil ?_
      refine St.env (.cons (t := 0) rfl (.cons (t := 1) rfl (.cons (t := 2) rfl (.cons (t := 3) rfl (.cons (t := 8) rfl (.cons (t := 9) rfl .nil)))))) ?_
      refine Q_then ?_
      refine R_ret ?_
      refine Q_then_ret ?_
      exact R_end (rs2 := []) rfl rfl (.tmp rfl (.tmp rfl .nil)) (⟨⟨false, _, rfl, by rw [Bool.false_or]; exact clashB_of (fun e => heq (by injection e)) htop⟩, rfl⟩) (Weak.nil _)
  · skip
    have hn : 1 < va.length := by omega
    have hk1 := splitN_lt hn
    have hk2 := splitN_pos hn
    have e1 : (va.take (splitN va.length)).length = splitN va.length := by rw [List.length_take]; omega
    have e2 : (va.drop (splitN va.length)).length = va.length - splitN va.length := by rw [List.length_drop] <;> omega
    have ra1 : ∀ rs w, Now (cx gl) ⟨135, [], w0, Heap.none⟩ rs w → Items w (if ca = 0 then ba else ba.map (·.add (0 * 1))) (va.take (splitN va.length)) (xss.take (splitN va.length)) := fun rs w nw => by
      have h := (Items.row (C := cx gl) (F := ⟨135, [], w0, Heap.none⟩) (rs := rs) hpre.1 rfl w nw).sliced (p := 0) (q := splitN va.length) (c := ca) (by omega) (by omega)
      rwa [List.drop_zero, List.drop_zero, Nat.sub_zero] at h
    have ra2 : ∀ rs w, Now (cx gl) ⟨135, [], w0, Heap.none⟩ rs w → Items w (if ca = (splitN va.length) then ba else ba.map (·.add ((splitN va.length) * 1))) (va.drop (splitN va.length)) (xss.drop (splitN va.length)) := fun rs w nw => by
      have h := (Items.row (C := cx gl) (F := ⟨135, [], w0, Heap.none⟩) (rs := rs) hpre.1 rfl w nw).sliced (p := splitN va.length) (q := va.length) (c := ca) (by omega) (Nat.le_refl _)
      rw [take_sub, List.take_of_length_le (l := xss.drop (splitN va.length)) (by rw [List.length_drop]; omega)] at h
      exact h
    have fa1 : ∀ x ∈ (xss.take (splitN va.length)), Fine x := fun x hm => ha x (List.mem_of_mem_take hm)
    have fa2 : ∀ x ∈ (xss.drop (splitN va.length)), Fine x := fun x hm => ha x (List.mem_of_mem_drop hm)
    have hpos : 0 < hs.length := by rw [hlen]; exact turnsH_pos hn
    obtain ⟨es, a, rfl⟩ := list_snoc hpos
    have hel : (es ++ [a]).length = es.length + 1 := by simp
    have hsm : es.length ≤ 65537 := by have := turnsH_len va.length i; omega
    have hal : a.length = 32 := hh a (by simp)
    have hab : IsB a := hB a (by simp)
    have hes : ∀ h ∈ es, h.length = 32 := fun h hm => hh h (by simp [hm])
    have hesB : ∀ h ∈ es, IsB h := fun h hm => hB h (by simp [hm])
    have hax : (es ++ [a])[es.length]? = some a := by simp
    obtain ⟨pb, pj, hbe, hrow⟩ := Row.some_ hpre.2.1 (by rw [flat_length hh]; omega)
    subst hbe
    have rq : ∀ rs, Rw (cx gl) ⟨135, [], w0, Heap.none⟩ rs (if ch = 0 then (some (⟨pb, pj, none⟩ : Addr)) else (some (⟨pb, pj, none⟩ : Addr)).map (·.add (0 * 32))) (flat .u8 es) := fun rs => by
      have h := ((Sn.row (C := cx gl) (F := ⟨135, [], w0, Heap.none⟩) (rs := rs) hpre.2.1 rfl).sliced (sz := 32) (p := 0) (q := es.length) (c := ch) (by omega) (.inr (by rw [flat_length hh, hel]; omega))).rw_
      rwa [Nat.zero_mul, List.drop_zero, Nat.sub_zero, flat_take hh, List.take_left] at h
    rw [hel]
    rw [top_two (n := va.length) hvx hn] at htop
    refine R_skip ?_
    refine Q_then ?_
    refine R_seq ?_
    refine R_region ?_
    refine L_val rfl rfl rfl (OpP.v (P_move rfl rfl)) ?_
    refine L_val rfl rfl rfl (OpP.v (P_len rfl ty_sl_36 rfl)) ?_
    refine L_op rfl (W_callV rfl rfl rfl rfl fn_ca_65 (rsplit_ok gl va.length (by omega)) (fun _ _ => trivial) ?_)
    refine L_val rfl rfl rfl (OpP.v (P_assign rfl rfl)) ?_
    refine L_nil ?_
    refine St.env (.cons (t := 0) rfl (.cons (t := 1) rfl (.cons (t := 2) rfl (.cons (t := 3) rfl (.cons (t := 8) rfl (.cons (t := 9) rfl (.cons (t := 11) rfl .nil))))))) ?_
    refine Q_then ?_
    refine R_seq ?_
    refine R_region ?_
    refine L_val rfl rfl rfl (OpP.v (P_move rfl rfl)) ?_
    refine L_val rfl rfl rfl (OpP.v (P_move rfl rfl)) ?_
    refine L_val rfl rfl rfl (OpP.v (P_slice 0 (splitN va.length) rfl ty_sl_36 rfl rfl ⟨_, rfl⟩ (by omega) (by omega))) ?_
    refine E_as (t := 48) (v' := .slice (if ca = 0 then ba else ba.map (·.add (0 * 1))) (va.take (splitN va.length)).length ca) rfl (by unfold sliced; rw [e1, Nat.sub_zero, Nat.sub_zero]) ?_
    refine L_op rfl (W_callV rfl rfl rfl rfl fn_ca_49 (rtop_ok hG (va.take (splitN va.length)).length _ _ (va.take (splitN va.length)) (xss.take (splitN va.length)) (Nat.le_refl _) (by omega) (by simp only [List.length_take]; omega) (fun x hx => (fa1 x hx).1) (by omega)) (ra1 _) ?_)
    refine L_op rfl (W_alloc rfl rfl rfl ty_ze_23 fun b12 => ?_)
    refine L_op rfl (W_storeAll rfl rfl rfl rfl ty_ag_23 (by rw [ints_length, topH_length (leaves_len _)]) (ints_one) .h0 (by rw [ints_length, topH_length (leaves_len _)]; rfl) ?_)
    refine L_nil ?_
    refine St.env (.cons (t := 0) rfl (.cons (t := 1) rfl (.cons (t := 2) rfl (.cons (t := 3) rfl (.cons (t := 8) rfl (.cons (t := 9) rfl (.cons (t := 11) rfl (.cons (t := 12) rfl .nil)))))))) ?_
    refine Q_then ?_
    refine R_seq ?_
    refine R_region ?_
    refine L_val rfl rfl rfl (OpP.v (P_move rfl rfl)) ?_
    refine L_val rfl rfl rfl (OpP.v (P_move rfl rfl)) ?_
    refine L_val rfl rfl rfl (OpP.v (P_slice (splitN va.length) va.length rfl ty_sl_36 rfl ⟨_, rfl⟩ rfl (by omega) (by omega))) ?_
    refine E_as (t := 52) (v' := .slice (if ca = (splitN va.length) then ba else ba.map (·.add ((splitN va.length) * 1))) (va.drop (splitN va.length)).length (ca - splitN va.length)) rfl (by unfold sliced; rw [e2]) ?_
    refine L_op rfl (W_callV rfl rfl rfl rfl fn_ca_49 (rtop_ok hG (va.drop (splitN va.length)).length _ _ (va.drop (splitN va.length)) (xss.drop (splitN va.length)) (Nat.le_refl _) (by omega) (by simp only [List.length_drop]; omega) (fun x hx => (fa2 x hx).1) (by omega)) (ra2 _) ?_)
    refine L_op rfl (W_alloc rfl rfl rfl ty_ze_23 fun b13 => ?_)
    refine L_op rfl (W_storeAll rfl rfl rfl rfl ty_ag_23 (by rw [ints_length, topH_length (leaves_len _)]) (ints_one) .h0 (by rw [ints_length, topH_length (leaves_len _)]; rfl) ?_)
    refine L_nil ?_
    refine St.env (.cons (t := 0) rfl (.cons (t := 1) rfl (.cons (t := 2) rfl (.cons (t := 3) rfl (.cons (t := 8) rfl (.cons (t := 9) rfl (.cons (t := 11) rfl (.cons (t := 12) rfl (.cons (t := 13) rfl .nil))))))))) ?_
    refine Q_then ?_
    refine R_seq ?_
    refine R_region ?_
    refine L_val rfl rfl rfl (OpP.v (P_move rfl rfl)) ?_
    refine L_val rfl rfl rfl (OpP.v (P_move rfl rfl)) ?_
    refine L_val rfl rfl rfl (OpP.v (P_len rfl ty_sl_55 rfl)) ?_
    first | (refine L_val rfl rfl rfl (OpP.v (P_subN rfl rfl rfl (by simp only [fits]; omega))) ?_) | (refine L_val rfl rfl rfl (OpP.v (P_sub rfl rfl rfl)) ?_)
    refine E_as (t := 57) (v' := .int .i64 ((es.length : Nat) : Int)) rfl (by congr 1; omega) ?_
    refine L_val rfl rfl rfl (OpP.v (P_ixs (es.length) rfl ty_sl_55 rfl rfl (by first | rfl | omega) (by omega))) ?_
    refine L_val rfl rfl rfl (V_loadAgg rfl rfl ty_ag_23 ((Rds.row hrow rfl).part (es.length * 32) fun j v hv => flat_at hh hax j v hv) (by rw [ints_length, hal])) ?_
    refine L_op rfl (W_alloc rfl rfl rfl ty_ze_23 fun b14 => ?_)
    refine L_op rfl (W_storeAll rfl rfl rfl rfl ty_ag_23 (by rw [ints_length, hal]) (ints_one) .h0 (by rw [ints_length, hal]; rfl) ?_)
    refine L_nil ?_
    refine St.env (.cons (t := 0) rfl (.cons (t := 1) rfl (.cons (t := 2) rfl (.cons (t := 3) rfl (.cons (t := 8) rfl (.cons (t := 9) rfl (.cons (t := 11) rfl (.cons (t := 12) rfl (.cons (t := 13) rfl (.cons (t := 14) rfl .nil)))))))))) ?_
    refine Q_then ?_
    refine R_seq ?_
    refine R_region ?_
    refine L_val rfl rfl rfl (OpP.v (P_move rfl rfl)) ?_
    refine L_val rfl rfl rfl (OpP.v (P_move rfl rfl)) ?_
    refine L_val rfl rfl rfl (OpP.v (P_len rfl ty_sl_55 rfl)) ?_
    first | (refine L_val rfl rfl rfl (OpP.v (P_subN rfl rfl rfl (by simp only [fits]; omega))) ?_) | (refine L_val rfl rfl rfl (OpP.v (P_sub rfl rfl rfl)) ?_)
    refine E_as (t := 63) (v' := .int .i64 ((es.length : Nat) : Int)) rfl (by congr 1; omega) ?_
    refine L_val rfl rfl rfl (OpP.v (P_slice 0 es.length rfl ty_sl_55 rfl rfl ⟨_, rfl⟩ (by omega) (by omega))) ?_
    refine E_as (t := 64) (v' := .slice (if ch = 0 then (some (⟨pb, pj, none⟩ : Addr)) else (some (⟨pb, pj, none⟩ : Addr)).map (·.add (0 * 32))) es.length ch) rfl (by unfold sliced; rw [Nat.sub_zero, Nat.sub_zero]) ?_
    refine L_val rfl rfl rfl (OpP.v (P_assign rfl rfl)) ?_
    refine L_nil ?_
    refine St.env (.cons (t := 0) rfl (.cons (t := 1) rfl (.cons (t := 3) rfl (.cons (t := 8) rfl (.cons (t := 9) rfl (.cons (t := 11) rfl (.cons (t := 12) rfl (.cons (t := 13) rfl (.cons (t := 14) rfl (.cons (t := 15) rfl .nil)))))))))) ?_
    refine Q_then ?_
    refine R_seq ?_
    refine R_seq ?_
    refine R_region ?_
    refine L_val rfl rfl rfl (OpP.v (P_move rfl rfl)) ?_
    refine L_val rfl rfl rfl (OpP.v (P_move rfl rfl)) ?_
    refine L_val rfl rfl rfl (OpP.v (P_lss rfl rfl rfl)) ?_
    refine L_nil ?_
    refine St.env (.cons (t := 0) rfl (.cons (t := 1) rfl (.cons (t := 3) rfl (.cons (t := 8) rfl (.cons (t := 9) rfl (.cons (t := 11) rfl (.cons (t := 12) rfl (.cons (t := 13) rfl (.cons (t := 14) rfl (.cons (t := 15) rfl (.cons (t := 67) rfl .nil))))))))))) ?_
    refine Q_then ?_
    refine R_condP rfl (fun hk => ?_) (fun hk => ?_)
    · skip
      have hq : es.length = (turnsH (splitN va.length) i).length := by rw [hel, turnsH_left hn (by omega), List.length_cons] at hlen; omega
      rw [leadH_left hn (by omega) _ _ hq] at htop
      refine R_seq ?_
      refine R_region ?_
      refine L_val rfl rfl rfl (OpP.v (P_move rfl rfl)) ?_
      refine L_val rfl rfl rfl (OpP.v (P_move rfl rfl)) ?_
      refine L_val rfl rfl rfl (OpP.v (P_move rfl rfl)) ?_
      refine L_val rfl rfl rfl (OpP.v (P_move rfl rfl)) ?_
      refine L_op rfl (W_callV rfl rfl rfl rfl fn_ca_59 (lead_ok hG (splitN va.length) i _ _ es ib ic item (by omega) (by omega) (by omega) hq hes (by omega) hit.1) (fun w nw => ⟨rq _ w nw, (Sn.row hpre.2.2 rfl).rw_ w nw⟩) ?_)
      refine L_op rfl (W_alloc rfl rfl rfl ty_ze_23 fun b16 => ?_)
      refine L_op rfl (W_storeAll rfl rfl rfl rfl ty_ag_23 (by rw [ints_length, leadH_length (leafH_length _)]) (ints_one) .h0 (by rw [ints_length, leadH_length (leafH_length _)]; rfl) ?_)
      refine L_nil ?_
      refine St.env (.cons (t := 0) rfl (.cons (t := 1) rfl (.cons (t := 3) rfl (.cons (t := 8) rfl (.cons (t := 9) rfl (.cons (t := 11) rfl (.cons (t := 12) rfl (.cons (t := 13) rfl (.cons (t := 14) rfl (.cons (t := 15) rfl (.cons (t := 16) rfl .nil))))))))))) ?_
      refine Q_then ?_
      refine R_seq ?_
      refine R_seq ?_
      refine R_region ?_
      refine L_val rfl rfl rfl (V_loadAgg rfl rfl ty_ag_23 (Rds.blk .h0) (by rw [ints_length, leadH_length (leafH_length _)])) ?_
      refine L_val rfl rfl rfl (V_loadAgg rfl rfl ty_ag_23 (Rds.blk .h3) (by rw [ints_length, topH_length (leaves_len _)])) ?_
      refine L_val rfl rfl rfl (OpP.v (P_neArr rfl rfl rfl ty_un_23 ty_int_5 ty_sc_5 ty_eg_23 (leadH_length (leafH_length _)) (topH_length (leaves_len _)))) ?_
      refine E_bool (t := 75) rfl (fun hl => ?_) (fun hl => ?_)
      · skip
        refine L_val rfl rfl rfl (OpP.v (P_move rfl rfl)) ?_
        refine L_no rfl rfl rfl ?_
        refine L_no rfl rfl rfl ?_
        refine L_no rfl rfl rfl ?_
        refine L_val rfl rfl rfl (OpP.v (P_pick rfl rfl rfl)) ?_
        refine L_nil ?_
        refine St.env (.cons (t := 0) rfl (.cons (t := 1) rfl (.cons (t := 3) rfl (.cons (t := 8) rfl (.cons (t := 9) rfl (.cons (t := 11) rfl (.cons (t := 12) rfl (.cons (t := 13) rfl (.cons (t := 14) rfl (.cons (t := 15) rfl (.cons (t := 16) rfl (.cons (t := 80) rfl .nil)))))))))))) ?_
        refine Q_then ?_
        refine R_condT rfl ?_
        refine R_seq ?_
        refine R_open [(0, 1), (1, 1), (3, 1), (4, 1), (2, 2), (5, 2), (6, 2), (7, 0)] mixed (by kernel_rfl) (QOk.then (QOk.then (QOk.then QOk.body))) ?_
        refine O_val rfl rfl rfl rfl (V_loadAgg rfl rfl ty_ag_23 (Rds.blk .h3) (by rw [ints_length, topH_length (leaves_len _)])) ?_
        refine O_val rfl rfl rfl rfl (V_loadAgg rfl rfl ty_ag_23 (Rds.blk .h2) (by rw [ints_length, topH_length (leaves_len _)])) ?_
        refine O_val rfl rfl rfl rfl (V_loadAgg rfl rfl ty_ag_23 (Rds.blk .h0) (by rw [ints_length, leadH_length (leafH_length _)])) ?_
        refine O_val rfl rfl rfl rfl (V_loadAgg rfl rfl ty_ag_23 (Rds.blk .h1) (by rw [ints_length, hal])) ?_
        refine O_keep rfl rfl (W_call rfl rfl rfl rfl fn_ca_40 (innerText_ok (topH (leaves (xss.take (splitN va.length)))) (topH (leaves (xss.drop (splitN va.length)))) (topH_length (leaves_len _)) (topH_length (leaves_len _))) (Split.nil _) (fun _ _ _ _ _ _ _ => trivial) fun v83 rs1 (e1 : rs1 = _) => ?_)
        subst e1
        refine St.openOwn (p := []) (by omega) fun tb1 tcap1 junk1 htc1 htl1 htv => ?_
        subst htv
        refine St.res (rs' := [blk tb1 (ints .u8 (1 :: (topH (leaves (xss.take (splitN va.length))) ++ topH (leaves (xss.drop (splitN va.length))))) ++ junk1) 5, blk b16 (ints .u8 (leadH (splitN va.length) i es (leafH item))) 23, blk b14 (ints .u8 a) 23, blk b13 (ints .u8 (topH (leaves (xss.drop (splitN va.length))))) 23, blk b12 (ints .u8 (topH (leaves (xss.take (splitN va.length))))) 23]) (Weak.refl _) ?_
        refine K_keep (Weak.drop (Weak.refl _)) ?_
        refine O_keep rfl rfl (W_call rfl rfl rfl rfl fn_ca_40 (innerText_ok (leadH (splitN va.length) i es (leafH item)) a (leadH_length (leafH_length _)) hal) (Split.nil _) (fun _ _ _ _ _ _ _ => trivial) fun v86 rs1 (e1 : rs1 = _) => ?_)
        subst e1
        refine St.openOwn (p := []) (by omega) fun tb2 tcap2 junk2 htc2 htl2 htv => ?_
        subst htv
        refine St.res (rs' := [blk tb2 (ints .u8 (1 :: (leadH (splitN va.length) i es (leafH item) ++ a)) ++ junk2) 5, blk tb1 (ints .u8 (1 :: (topH (leaves (xss.take (splitN va.length))) ++ topH (leaves (xss.drop (splitN va.length))))) ++ junk1) 5, blk b16 (ints .u8 (leadH (splitN va.length) i es (leafH item))) 23, blk b14 (ints .u8 a) 23, blk b13 (ints .u8 (topH (leaves (xss.drop (splitN va.length))))) 23, blk b12 (ints .u8 (topH (leaves (xss.take (splitN va.length))))) 23]) (Weak.refl _) ?_
        refine K_keep (Weak.drop (Weak.refl _)) ?_
        refine O_keep rfl rfl (W_callV rfl rfl rfl rfl fn_ca_51 (clash_okN hG (some ⟨tb1, 0, none⟩) tcap1 (1 :: (topH (leaves (xss.take (splitN va.length))) ++ topH (leaves (xss.drop (splitN va.length))))) (some ⟨tb2, 0, none⟩) tcap2 (1 :: (leadH (splitN va.length) i es (leafH item) ++ a)) (by rw [List.length_cons, List.length_append, topH_length (leaves_len _), topH_length (leaves_len _)]) (by rw [List.length_cons, List.length_append, leadH_length (leafH_length _), hal]) (by omega) (by omega) (by decide) (by decide) (IsB.cons (by decide) (by decide) (IsB.append (isB_topH (isB_leaves _)) (isB_topH (isB_leaves _)))) (IsB.cons (by decide) (by decide) (IsB.append (isB_lead (isB_leaf _)) hab))) (fun w nw => ⟨(Sn.ofBlkAt .h1 fun i v h => app_at i v h).rw_ w nw, (Sn.ofBlkAt .h0 fun i v h => app_at i v h).rw_ w nw⟩) (K_keep (Weak.refl _) ?_))
        refine O_pure rfl rfl rfl rfl (P_assign rfl rfl) ?_
        refine O_nil ?_
        refine St.env (.cons (t := 0) rfl (.cons (t := 1) rfl (.cons (t := 3) rfl (.cons (t := 8) rfl (.cons (t := 9) rfl (.cons (t := 11) rfl (.cons (t := 12) rfl (.cons (t := 13) rfl (.cons (t := 14) rfl (.cons (t := 15) rfl (.cons (t := 17) rfl .nil))))))))))) ?_
        refine Q_then ?_
        refine R_seq ?_
        refine R_region ?_
        refine L_val rfl rfl rfl (OpP.v (P_move rfl rfl)) ?_
        refine L_val rfl rfl rfl (OpP.v (P_assign rfl rfl)) ?_
        refine L_val rfl rfl rfl (OpP.v (P_assign rfl rfl)) ?_
        refine L_nil ?_
        refine St.env (.cons (t := 0) rfl (.cons (t := 1) rfl (.cons (t := 3) rfl (.cons (t := 8) rfl (.cons (t := 9) rfl (.cons (t := 11) rfl (.cons (t := 12) rfl (.cons (t := 13) rfl (.cons (t := 14) rfl (.cons (t := 15) rfl .nil)))))))))) ?_
        refine Q_then ?_
        refine R_ret ?_
        refine Q_then_ret ?_
        refine Q_then_ret ?_
        exact R_end (rs2 := []) rfl rfl (.tmp rfl (.tmp rfl .nil)) (⟨⟨false, _, rfl, by rw [Bool.false_or]; exact clashB_of (inner_ne (topH_length (leaves_len _)) ((leadH_length (leafH_length _))) (Or.inl (fun e => of_decide_eq_true hl e.symm))) htop⟩, rfl⟩) (Weak.nil _)
      · skip
        refine L_val rfl rfl rfl (OpP.v (P_move rfl rfl)) ?_
        refine L_val rfl rfl rfl (V_loadAgg rfl rfl ty_ag_23 (Rds.blk .h1) (by rw [ints_length, hal])) ?_
        refine L_val rfl rfl rfl (V_loadAgg rfl rfl ty_ag_23 (Rds.blk .h2) (by rw [ints_length, topH_length (leaves_len _)])) ?_
        refine L_val rfl rfl rfl (OpP.v (P_neArr rfl rfl rfl ty_un_23 ty_int_5 ty_sc_5 ty_eg_23 (hal) (topH_length (leaves_len _)))) ?_
        refine L_val rfl rfl rfl (OpP.v (P_pick rfl rfl rfl)) ?_
        refine L_nil ?_
        refine St.env (.cons (t := 0) rfl (.cons (t := 1) rfl (.cons (t := 3) rfl (.cons (t := 8) rfl (.cons (t := 9) rfl (.cons (t := 11) rfl (.cons (t := 12) rfl (.cons (t := 13) rfl (.cons (t := 14) rfl (.cons (t := 15) rfl (.cons (t := 16) rfl (.cons (t := 80) rfl .nil)))))))))))) ?_
        refine Q_then ?_
        refine R_condP rfl (fun hr => ?_) (fun hr => ?_)
        · skip
          refine R_seq ?_
          refine R_open [(0, 1), (1, 1), (3, 1), (4, 1), (2, 2), (5, 2), (6, 2), (7, 0)] mixed (by kernel_rfl) (QOk.then (QOk.then (QOk.then QOk.body))) ?_
          refine O_val rfl rfl rfl rfl (V_loadAgg rfl rfl ty_ag_23 (Rds.blk .h3) (by rw [ints_length, topH_length (leaves_len _)])) ?_
          refine O_val rfl rfl rfl rfl (V_loadAgg rfl rfl ty_ag_23 (Rds.blk .h2) (by rw [ints_length, topH_length (leaves_len _)])) ?_
          refine O_val rfl rfl rfl rfl (V_loadAgg rfl rfl ty_ag_23 (Rds.blk .h0) (by rw [ints_length, leadH_length (leafH_length _)])) ?_
          refine O_val rfl rfl rfl rfl (V_loadAgg rfl rfl ty_ag_23 (Rds.blk .h1) (by rw [ints_length, hal])) ?_
          refine O_keep rfl rfl (W_call rfl rfl rfl rfl fn_ca_40 (innerText_ok (topH (leaves (xss.take (splitN va.length)))) (topH (leaves (xss.drop (splitN va.length)))) (topH_length (leaves_len _)) (topH_length (leaves_len _))) (Split.nil _) (fun _ _ _ _ _ _ _ => trivial) fun v83 rs1 (e1 : rs1 = _) => ?_)
          subst e1
          refine St.openOwn (p := []) (by omega) fun tb1 tcap1 junk1 htc1 htl1 htv => ?_
          subst htv
          refine St.res (rs' := [blk tb1 (ints .u8 (1 :: (topH (leaves (xss.take (splitN va.length))) ++ topH (leaves (xss.drop (splitN va.length))))) ++ junk1) 5, blk b16 (ints .u8 (leadH (splitN va.length) i es (leafH item))) 23, blk b14 (ints .u8 a) 23, blk b13 (ints .u8 (topH (leaves (xss.drop (splitN va.length))))) 23, blk b12 (ints .u8 (topH (leaves (xss.take (splitN va.length))))) 23]) (Weak.refl _) ?_
          refine K_keep (Weak.drop (Weak.refl _)) ?_
          refine O_keep rfl rfl (W_call rfl rfl rfl rfl fn_ca_40 (innerText_ok (leadH (splitN va.length) i es (leafH item)) a (leadH_length (leafH_length _)) hal) (Split.nil _) (fun _ _ _ _ _ _ _ => trivial) fun v86 rs1 (e1 : rs1 = _) => ?_)
          subst e1
          refine St.openOwn (p := []) (by omega) fun tb2 tcap2 junk2 htc2 htl2 htv => ?_
          subst htv
          refine St.res (rs' := [blk tb2 (ints .u8 (1 :: (leadH (splitN va.length) i es (leafH item) ++ a)) ++ junk2) 5, blk tb1 (ints .u8 (1 :: (topH (leaves (xss.take (splitN va.length))) ++ topH (leaves (xss.drop (splitN va.length))))) ++ junk1) 5, blk b16 (ints .u8 (leadH (splitN va.length) i es (leafH item))) 23, blk b14 (ints .u8 a) 23, blk b13 (ints .u8 (topH (leaves (xss.drop (splitN va.length))))) 23, blk b12 (ints .u8 (topH (leaves (xss.take (splitN va.length))))) 23]) (Weak.refl _) ?_
          refine K_keep (Weak.drop (Weak.refl _)) ?_
          refine O_keep rfl rfl (W_callV rfl rfl rfl rfl fn_ca_51 (clash_okN hG (some ⟨tb1, 0, none⟩) tcap1 (1 :: (topH (leaves (xss.take (splitN va.length))) ++ topH (leaves (xss.drop (splitN va.length))))) (some ⟨tb2, 0, none⟩) tcap2 (1 :: (leadH (splitN va.length) i es (leafH item) ++ a)) (by rw [List.length_cons, List.length_append, topH_length (leaves_len _), topH_length (leaves_len _)]) (by rw [List.length_cons, List.length_append, leadH_length (leafH_length _), hal]) (by omega) (by omega) (by decide) (by decide) (IsB.cons (by decide) (by decide) (IsB.append (isB_topH (isB_leaves _)) (isB_topH (isB_leaves _)))) (IsB.cons (by decide) (by decide) (IsB.append (isB_lead (isB_leaf _)) hab))) (fun w nw => ⟨(Sn.ofBlkAt .h1 fun i v h => app_at i v h).rw_ w nw, (Sn.ofBlkAt .h0 fun i v h => app_at i v h).rw_ w nw⟩) (K_keep (Weak.refl _) ?_))
          refine O_pure rfl rfl rfl rfl (P_assign rfl rfl) ?_
          refine O_nil ?_
          refine St.env (.cons (t := 0) rfl (.cons (t := 1) rfl (.cons (t := 3) rfl (.cons (t := 8) rfl (.cons (t := 9) rfl (.cons (t := 11) rfl (.cons (t := 12) rfl (.cons (t := 13) rfl (.cons (t := 14) rfl (.cons (t := 15) rfl (.cons (t := 17) rfl .nil))))))))))) ?_
          refine Q_then ?_
          refine R_seq ?_
          refine R_region ?_
          refine L_val rfl rfl rfl (OpP.v (P_move rfl rfl)) ?_
          refine L_val rfl rfl rfl (OpP.v (P_assign rfl rfl)) ?_
          refine L_val rfl rfl rfl (OpP.v (P_assign rfl rfl)) ?_
          refine L_nil ?_
          refine St.env (.cons (t := 0) rfl (.cons (t := 1) rfl (.cons (t := 3) rfl (.cons (t := 8) rfl (.cons (t := 9) rfl (.cons (t := 11) rfl (.cons (t := 12) rfl (.cons (t := 13) rfl (.cons (t := 14) rfl (.cons (t := 15) rfl .nil)))))))))) ?_
          refine Q_then ?_
          refine R_ret ?_
          refine Q_then_ret ?_
          refine Q_then_ret ?_
          exact R_end (rs2 := []) rfl rfl (.tmp rfl (.tmp rfl .nil)) (⟨⟨false, _, rfl, by rw [Bool.false_or]; exact clashB_of (inner_ne (topH_length (leaves_len _)) ((leadH_length (leafH_length _))) (Or.inr (fun e => hr e.symm))) htop⟩, rfl⟩) (Weak.nil _)
        · skip
          refine R_skip ?_
          refine Q_then ?_
          refine R_seq ?_
          refine R_region ?_
          refine L_val rfl rfl rfl (OpP.v (P_move rfl rfl)) ?_
          refine L_val rfl rfl rfl (OpP.v (P_move rfl rfl)) ?_
          refine L_val rfl rfl rfl (OpP.v (P_slice 0 (splitN va.length) rfl ty_sl_36 rfl rfl ⟨_, rfl⟩ (by omega) (by omega))) ?_
          refine E_as (t := 91) (v' := .slice (if ca = 0 then ba else ba.map (·.add (0 * 1))) (va.take (splitN va.length)).length ca) rfl (by unfold sliced; rw [e1, Nat.sub_zero, Nat.sub_zero]) ?_
          refine L_val rfl rfl rfl (OpP.v (P_move rfl rfl)) ?_
          refine L_val rfl rfl rfl (OpP.v (P_move rfl rfl)) ?_
          refine L_val rfl rfl rfl (OpP.v (P_move rfl rfl)) ?_
          refine L_op rfl (W_call rfl rfl rfl rfl fn_ca_60 (hih _ _ (va.take (splitN va.length)) (xss.take (splitN va.length)) i _ _ es ib ic item (by omega) (by omega) (by omega) (by omega) (by simp only [List.length_take]; omega) (by omega) fa1 (by rw [e1]; exact hq) hes hesB (by omega) hic hit (by rw [e1]; have h : leadH (splitN va.length) i es (leafH item) = topH (leaves (xss.take (splitN va.length))) := (by simpa using hl); exact h.symm)) (Split.nil _) (fun w a b _ hb dj m => ⟨ra1 _ w ⟨_, hb, m.le (Heap.le_join_right dj)⟩, rq _ w ⟨_, hb, m.le (Heap.le_join_right dj)⟩, (Sn.row hpre.2.2 rfl).rw_ w ⟨_, hb, m.le (Heap.le_join_right dj)⟩⟩) fun v95 rs1 ⟨⟨s1, c1, e3, hsc1⟩, e4⟩ => ?_)
          subst e3; subst e4
          refine L_val rfl rfl rfl (OpP.v (P_extract rfl rfl rfl)) ?_
          refine L_val rfl rfl rfl (OpP.v (P_extract rfl rfl rfl)) ?_
          refine L_val rfl rfl rfl (OpP.v (P_assign rfl rfl)) ?_
          refine L_val rfl rfl rfl (OpP.v (P_assign rfl rfl)) ?_
          refine L_nil ?_
          refine St.env (.cons (t := 0) rfl (.cons (t := 1) rfl (.cons (t := 3) rfl (.cons (t := 8) rfl (.cons (t := 9) rfl (.cons (t := 11) rfl (.cons (t := 12) rfl (.cons (t := 13) rfl (.cons (t := 14) rfl (.cons (t := 15) rfl .nil)))))))))) ?_
          refine Q_then ?_
          refine R_ret ?_
          refine Q_then_ret ?_
          exact R_end (rs2 := []) rfl rfl (.tmp rfl (.tmp rfl .nil)) (⟨⟨s1, c1, rfl, hsc1⟩, rfl⟩) (Weak.nil _)
    · skip
      have hq : es.length = (turnsH (va.length - splitN va.length) (i - splitN va.length)).length := by rw [hel, turnsH_right hn (by omega), List.length_cons] at hlen; omega
      rw [leadH_right hn (by omega) _ _ hq] at htop
      refine R_skip ?_
      refine Q_then ?_
      refine R_seq ?_
      refine R_region ?_
      refine L_val rfl rfl rfl (OpP.v (P_move rfl rfl)) ?_
      refine L_val rfl rfl rfl (OpP.v (P_len rfl ty_sl_36 rfl)) ?_
      refine L_val rfl rfl rfl (OpP.v (P_move rfl rfl)) ?_
      first | (refine L_val rfl rfl rfl (OpP.v (P_subN rfl rfl rfl (by simp only [fits]; omega))) ?_) | (refine L_val rfl rfl rfl (OpP.v (P_sub rfl rfl rfl)) ?_)
      refine E_as (t := 101) (v' := .int .i64 ((va.length - splitN va.length : Nat) : Int)) rfl (by congr 1; omega) ?_
      refine L_val rfl rfl rfl (OpP.v (P_move rfl rfl)) ?_
      refine L_val rfl rfl rfl (OpP.v (P_move rfl rfl)) ?_
      first | (refine L_val rfl rfl rfl (OpP.v (P_subN rfl rfl rfl (by simp only [fits]; omega))) ?_) | (refine L_val rfl rfl rfl (OpP.v (P_sub rfl rfl rfl)) ?_)
      refine E_as (t := 104) (v' := .int .i64 ((i - splitN va.length : Nat) : Int)) rfl (by congr 1; omega) ?_
      refine L_val rfl rfl rfl (OpP.v (P_move rfl rfl)) ?_
      refine L_val rfl rfl rfl (OpP.v (P_move rfl rfl)) ?_
      refine L_op rfl (W_callV rfl rfl rfl rfl fn_ca_59 (lead_ok hG (va.length - splitN va.length) (i - splitN va.length) _ _ es ib ic item (by omega) (by omega) (by omega) hq hes (by omega) hit.1) (fun w nw => ⟨rq _ w nw, (Sn.row hpre.2.2 rfl).rw_ w nw⟩) ?_)
      refine L_op rfl (W_alloc rfl rfl rfl ty_ze_23 fun b18 => ?_)
      refine L_op rfl (W_storeAll rfl rfl rfl rfl ty_ag_23 (by rw [ints_length, leadH_length (leafH_length _)]) (ints_one) .h0 (by rw [ints_length, leadH_length (leafH_length _)]; rfl) ?_)
      refine L_nil ?_
      refine St.env (.cons (t := 0) rfl (.cons (t := 1) rfl (.cons (t := 3) rfl (.cons (t := 8) rfl (.cons (t := 9) rfl (.cons (t := 11) rfl (.cons (t := 12) rfl (.cons (t := 13) rfl (.cons (t := 14) rfl (.cons (t := 15) rfl (.cons (t := 18) rfl .nil))))))))))) ?_
      refine Q_then ?_
      refine R_seq ?_
      refine R_seq ?_
      refine R_region ?_
      refine L_val rfl rfl rfl (V_loadAgg rfl rfl ty_ag_23 (Rds.blk .h1) (by rw [ints_length, hal])) ?_
      refine L_val rfl rfl rfl (V_loadAgg rfl rfl ty_ag_23 (Rds.blk .h3) (by rw [ints_length, topH_length (leaves_len _)])) ?_
      refine L_val rfl rfl rfl (OpP.v (P_neArr rfl rfl rfl ty_un_23 ty_int_5 ty_sc_5 ty_eg_23 (hal) (topH_length (leaves_len _)))) ?_
      refine E_bool (t := 110) rfl (fun hl => ?_) (fun hl => ?_)
      · skip
        refine L_val rfl rfl rfl (OpP.v (P_move rfl rfl)) ?_
        refine L_no rfl rfl rfl ?_
        refine L_no rfl rfl rfl ?_
        refine L_no rfl rfl rfl ?_
        refine L_val rfl rfl rfl (OpP.v (P_pick rfl rfl rfl)) ?_
        refine L_nil ?_
        refine St.env (.cons (t := 0) rfl (.cons (t := 1) rfl (.cons (t := 3) rfl (.cons (t := 8) rfl (.cons (t := 9) rfl (.cons (t := 11) rfl (.cons (t := 12) rfl (.cons (t := 13) rfl (.cons (t := 14) rfl (.cons (t := 15) rfl (.cons (t := 18) rfl (.cons (t := 115) rfl .nil)))))))))))) ?_
        refine Q_then ?_
        refine R_condT rfl ?_
        refine R_seq ?_
        refine R_open [(0, 1), (1, 1), (3, 1), (4, 1), (2, 2), (5, 2), (6, 2), (7, 0)] mixed (by kernel_rfl) (QOk.then (QOk.then QOk.body)) ?_
        refine O_val rfl rfl rfl rfl (V_loadAgg rfl rfl ty_ag_23 (Rds.blk .h3) (by rw [ints_length, topH_length (leaves_len _)])) ?_
        refine O_val rfl rfl rfl rfl (V_loadAgg rfl rfl ty_ag_23 (Rds.blk .h2) (by rw [ints_length, topH_length (leaves_len _)])) ?_
        refine O_val rfl rfl rfl rfl (V_loadAgg rfl rfl ty_ag_23 (Rds.blk .h1) (by rw [ints_length, hal])) ?_
        refine O_val rfl rfl rfl rfl (V_loadAgg rfl rfl ty_ag_23 (Rds.blk .h0) (by rw [ints_length, leadH_length (leafH_length _)])) ?_
        refine O_keep rfl rfl (W_call rfl rfl rfl rfl fn_ca_40 (innerText_ok (topH (leaves (xss.take (splitN va.length)))) (topH (leaves (xss.drop (splitN va.length)))) (topH_length (leaves_len _)) (topH_length (leaves_len _))) (Split.nil _) (fun _ _ _ _ _ _ _ => trivial) fun v118 rs1 (e1 : rs1 = _) => ?_)
        subst e1
        refine St.openOwn (p := []) (by omega) fun tb1 tcap1 junk1 htc1 htl1 htv => ?_
        subst htv
        refine St.res (rs' := [blk tb1 (ints .u8 (1 :: (topH (leaves (xss.take (splitN va.length))) ++ topH (leaves (xss.drop (splitN va.length))))) ++ junk1) 5, blk b18 (ints .u8 (leadH (va.length - splitN va.length) (i - splitN va.length) es (leafH item))) 23, blk b14 (ints .u8 a) 23, blk b13 (ints .u8 (topH (leaves (xss.drop (splitN va.length))))) 23, blk b12 (ints .u8 (topH (leaves (xss.take (splitN va.length))))) 23]) (Weak.refl _) ?_
        refine K_keep (Weak.drop (Weak.refl _)) ?_
        refine O_keep rfl rfl (W_call rfl rfl rfl rfl fn_ca_40 (innerText_ok a (leadH (va.length - splitN va.length) (i - splitN va.length) es (leafH item)) hal (leadH_length (leafH_length _))) (Split.nil _) (fun _ _ _ _ _ _ _ => trivial) fun v121 rs1 (e1 : rs1 = _) => ?_)
        subst e1
        refine St.openOwn (p := []) (by omega) fun tb2 tcap2 junk2 htc2 htl2 htv => ?_
        subst htv
        refine St.res (rs' := [blk tb2 (ints .u8 (1 :: (a ++ leadH (va.length - splitN va.length) (i - splitN va.length) es (leafH item))) ++ junk2) 5, blk tb1 (ints .u8 (1 :: (topH (leaves (xss.take (splitN va.length))) ++ topH (leaves (xss.drop (splitN va.length))))) ++ junk1) 5, blk b18 (ints .u8 (leadH (va.length - splitN va.length) (i - splitN va.length) es (leafH item))) 23, blk b14 (ints .u8 a) 23, blk b13 (ints .u8 (topH (leaves (xss.drop (splitN va.length))))) 23, blk b12 (ints .u8 (topH (leaves (xss.take (splitN va.length))))) 23]) (Weak.refl _) ?_
        refine K_keep (Weak.drop (Weak.refl _)) ?_
        refine O_keep rfl rfl (W_callV rfl rfl rfl rfl fn_ca_51 (clash_okN hG (some ⟨tb1, 0, none⟩) tcap1 (1 :: (topH (leaves (xss.take (splitN va.length))) ++ topH (leaves (xss.drop (splitN va.length))))) (some ⟨tb2, 0, none⟩) tcap2 (1 :: (a ++ leadH (va.length - splitN va.length) (i - splitN va.length) es (leafH item))) (by rw [List.length_cons, List.length_append, topH_length (leaves_len _), topH_length (leaves_len _)]) (by rw [List.length_cons, List.length_append, hal, leadH_length (leafH_length _)]) (by omega) (by omega) (by decide) (by decide) (IsB.cons (by decide) (by decide) (IsB.append (isB_topH (isB_leaves _)) (isB_topH (isB_leaves _)))) (IsB.cons (by decide) (by decide) (IsB.append hab (isB_lead (isB_leaf _))))) (fun w nw => ⟨(Sn.ofBlkAt .h1 fun i v h => app_at i v h).rw_ w nw, (Sn.ofBlkAt .h0 fun i v h => app_at i v h).rw_ w nw⟩) (K_keep (Weak.refl _) ?_))
        refine O_pure rfl rfl rfl rfl (P_assign rfl rfl) ?_
        refine O_nil ?_
        refine St.env (.cons (t := 0) rfl (.cons (t := 1) rfl (.cons (t := 3) rfl (.cons (t := 8) rfl (.cons (t := 9) rfl (.cons (t := 11) rfl (.cons (t := 15) rfl (.cons (t := 19) rfl .nil)))))))) ?_
        refine Q_then ?_
        refine R_seq ?_
        refine R_region ?_
        refine L_val rfl rfl rfl (OpP.v (P_move rfl rfl)) ?_
        refine L_val rfl rfl rfl (OpP.v (P_assign rfl rfl)) ?_
        refine L_val rfl rfl rfl (OpP.v (P_assign rfl rfl)) ?_
        refine L_nil ?_
        refine St.env (.cons (t := 0) rfl (.cons (t := 1) rfl (.cons (t := 3) rfl (.cons (t := 8) rfl (.cons (t := 9) rfl (.cons (t := 11) rfl (.cons (t := 15) rfl .nil))))))) ?_
        refine Q_then ?_
        refine R_ret ?_
        refine Q_then_ret ?_
        exact R_end (rs2 := []) rfl rfl (.tmp rfl (.tmp rfl .nil)) (⟨⟨false, _, rfl, by rw [Bool.false_or]; exact clashB_of (inner_ne (topH_length (leaves_len _)) (hal) (Or.inl (fun e => of_decide_eq_true hl e.symm))) htop⟩, rfl⟩) (Weak.nil _)
      · skip
        refine L_val rfl rfl rfl (OpP.v (P_move rfl rfl)) ?_
        refine L_val rfl rfl rfl (V_loadAgg rfl rfl ty_ag_23 (Rds.blk .h0) (by rw [ints_length, leadH_length (leafH_length _)])) ?_
        refine L_val rfl rfl rfl (V_loadAgg rfl rfl ty_ag_23 (Rds.blk .h2) (by rw [ints_length, topH_length (leaves_len _)])) ?_
        refine L_val rfl rfl rfl (OpP.v (P_neArr rfl rfl rfl ty_un_23 ty_int_5 ty_sc_5 ty_eg_23 (leadH_length (leafH_length _)) (topH_length (leaves_len _)))) ?_
        refine L_val rfl rfl rfl (OpP.v (P_pick rfl rfl rfl)) ?_
        refine L_nil ?_
        refine St.env (.cons (t := 0) rfl (.cons (t := 1) rfl (.cons (t := 3) rfl (.cons (t := 8) rfl (.cons (t := 9) rfl (.cons (t := 11) rfl (.cons (t := 12) rfl (.cons (t := 13) rfl (.cons (t := 14) rfl (.cons (t := 15) rfl (.cons (t := 18) rfl (.cons (t := 115) rfl .nil)))))))))))) ?_
        refine Q_then ?_
        refine R_condP rfl (fun hr => ?_) (fun hr => ?_)
        · skip
          refine R_seq ?_
          refine R_open [(0, 1), (1, 1), (3, 1), (4, 1), (2, 2), (5, 2), (6, 2), (7, 0)] mixed (by kernel_rfl) (QOk.then (QOk.then QOk.body)) ?_
          refine O_val rfl rfl rfl rfl (V_loadAgg rfl rfl ty_ag_23 (Rds.blk .h3) (by rw [ints_length, topH_length (leaves_len _)])) ?_
          refine O_val rfl rfl rfl rfl (V_loadAgg rfl rfl ty_ag_23 (Rds.blk .h2) (by rw [ints_length, topH_length (leaves_len _)])) ?_
          refine O_val rfl rfl rfl rfl (V_loadAgg rfl rfl ty_ag_23 (Rds.blk .h1) (by rw [ints_length, hal])) ?_
          refine O_val rfl rfl rfl rfl (V_loadAgg rfl rfl ty_ag_23 (Rds.blk .h0) (by rw [ints_length, leadH_length (leafH_length _)])) ?_
          refine O_keep rfl rfl (W_call rfl rfl rfl rfl fn_ca_40 (innerText_ok (topH (leaves (xss.take (splitN va.length)))) (topH (leaves (xss.drop (splitN va.length)))) (topH_length (leaves_len _)) (topH_length (leaves_len _))) (Split.nil _) (fun _ _ _ _ _ _ _ => trivial) fun v118 rs1 (e1 : rs1 = _) => ?_)
          subst e1
          refine St.openOwn (p := []) (by omega) fun tb1 tcap1 junk1 htc1 htl1 htv => ?_
          subst htv
          refine St.res (rs' := [blk tb1 (ints .u8 (1 :: (topH (leaves (xss.take (splitN va.length))) ++ topH (leaves (xss.drop (splitN va.length))))) ++ junk1) 5, blk b18 (ints .u8 (leadH (va.length - splitN va.length) (i - splitN va.length) es (leafH item))) 23, blk b14 (ints .u8 a) 23, blk b13 (ints .u8 (topH (leaves (xss.drop (splitN va.length))))) 23, blk b12 (ints .u8 (topH (leaves (xss.take (splitN va.length))))) 23]) (Weak.refl _) ?_
          refine K_keep (Weak.drop (Weak.refl _)) ?_
          refine O_keep rfl rfl (W_call rfl rfl rfl rfl fn_ca_40 (innerText_ok a (leadH (va.length - splitN va.length) (i - splitN va.length) es (leafH item)) hal (leadH_length (leafH_length _))) (Split.nil _) (fun _ _ _ _ _ _ _ => trivial) fun v121 rs1 (e1 : rs1 = _) => ?_)
          subst e1
          refine St.openOwn (p := []) (by omega) fun tb2 tcap2 junk2 htc2 htl2 htv => ?_
          subst htv
          refine St.res (rs' := [blk tb2 (ints .u8 (1 :: (a ++ leadH (va.length - splitN va.length) (i - splitN va.length) es (leafH item))) ++ junk2) 5, blk tb1 (ints .u8 (1 :: (topH (leaves (xss.take (splitN va.length))) ++ topH (leaves (xss.drop (splitN va.length))))) ++ junk1) 5, blk b18 (ints .u8 (leadH (va.length - splitN va.length) (i - splitN va.length) es (leafH item))) 23, blk b14 (ints .u8 a) 23, blk b13 (ints .u8 (topH (leaves (xss.drop (splitN va.length))))) 23, blk b12 (ints .u8 (topH (leaves (xss.take (splitN va.length))))) 23]) (Weak.refl _) ?_
          refine K_keep (Weak.drop (Weak.refl _)) ?_
          refine O_keep rfl rfl (W_callV rfl rfl rfl rfl fn_ca_51 (clash_okN hG (some ⟨tb1, 0, none⟩) tcap1 (1 :: (topH (leaves (xss.take (splitN va.length))) ++ topH (leaves (xss.drop (splitN va.length))))) (some ⟨tb2, 0, none⟩) tcap2 (1 :: (a ++ leadH (va.length - splitN va.length) (i - splitN va.length) es (leafH item))) (by rw [List.length_cons, List.length_append, topH_length (leaves_len _), topH_length (leaves_len _)]) (by rw [List.length_cons, List.length_append, hal, leadH_length (leafH_length _)]) (by omega) (by omega) (by decide) (by decide) (IsB.cons (by decide) (by decide) (IsB.append (isB_topH (isB_leaves _)) (isB_topH (isB_leaves _)))) (IsB.cons (by decide) (by decide) (IsB.append hab (isB_lead (isB_leaf _))))) (fun w nw => ⟨(Sn.ofBlkAt .h1 fun i v h => app_at i v h).rw_ w nw, (Sn.ofBlkAt .h0 fun i v h => app_at i v h).rw_ w nw⟩) (K_keep (Weak.refl _) ?_))
          refine O_pure rfl rfl rfl rfl (P_assign rfl rfl) ?_
          refine O_nil ?_
          refine St.env (.cons (t := 0) rfl (.cons (t := 1) rfl (.cons (t := 3) rfl (.cons (t := 8) rfl (.cons (t := 9) rfl (.cons (t := 11) rfl (.cons (t := 15) rfl (.cons (t := 19) rfl .nil)))))))) ?_
          refine Q_then ?_
          refine R_seq ?_
          refine R_region ?_
          refine L_val rfl rfl rfl (OpP.v (P_move rfl rfl)) ?_
          refine L_val rfl rfl rfl (OpP.v (P_assign rfl rfl)) ?_
          refine L_val rfl rfl rfl (OpP.v (P_assign rfl rfl)) ?_
          refine L_nil ?_
          refine St.env (.cons (t := 0) rfl (.cons (t := 1) rfl (.cons (t := 3) rfl (.cons (t := 8) rfl (.cons (t := 9) rfl (.cons (t := 11) rfl (.cons (t := 15) rfl .nil))))))) ?_
          refine Q_then ?_
          refine R_ret ?_
          refine Q_then_ret ?_
          exact R_end (rs2 := []) rfl rfl (.tmp rfl (.tmp rfl .nil)) (⟨⟨false, _, rfl, by rw [Bool.false_or]; exact clashB_of (inner_ne (topH_length (leaves_len _)) (hal) (Or.inr (fun e => hr e.symm))) htop⟩, rfl⟩) (Weak.nil _)
        · skip
          refine R_skip ?_
          refine Q_then ?_
          refine R_seq ?_
          refine R_region ?_
          refine L_val rfl rfl rfl (OpP.v (P_move rfl rfl)) ?_
          refine L_val rfl rfl rfl (OpP.v (P_move rfl rfl)) ?_
          refine L_val rfl rfl rfl (OpP.v (P_slice (splitN va.length) va.length rfl ty_sl_36 rfl ⟨_, rfl⟩ rfl (by omega) (by omega))) ?_
          refine E_as (t := 126) (v' := .slice (if ca = (splitN va.length) then ba else ba.map (·.add ((splitN va.length) * 1))) (va.drop (splitN va.length)).length (ca - splitN va.length)) rfl (by unfold sliced; rw [e2]) ?_
          refine L_val rfl rfl rfl (OpP.v (P_move rfl rfl)) ?_
          refine L_val rfl rfl rfl (OpP.v (P_move rfl rfl)) ?_
          first | (refine L_val rfl rfl rfl (OpP.v (P_subN rfl rfl rfl (by simp only [fits]; omega))) ?_) | (refine L_val rfl rfl rfl (OpP.v (P_sub rfl rfl rfl)) ?_)
          refine E_as (t := 129) (v' := .int .i64 ((i - splitN va.length : Nat) : Int)) rfl (by congr 1; omega) ?_
          refine L_val rfl rfl rfl (OpP.v (P_move rfl rfl)) ?_
          refine L_val rfl rfl rfl (OpP.v (P_move rfl rfl)) ?_
          refine L_op rfl (W_call rfl rfl rfl rfl fn_ca_60 (hih _ _ (va.drop (splitN va.length)) (xss.drop (splitN va.length)) (i - splitN va.length) _ _ es ib ic item (by omega) (by omega) (by omega) (by omega) (by simp only [List.length_drop]; omega) (by omega) fa2 (by rw [e2]; exact hq) hes hesB (by omega) hic hit (by rw [e2]; exact (Classical.not_not.1 hr).symm)) (Split.nil _) (fun w a b _ hb dj m => ⟨ra2 _ w ⟨_, hb, m.le (Heap.le_join_right dj)⟩, rq _ w ⟨_, hb, m.le (Heap.le_join_right dj)⟩, (Sn.row hpre.2.2 rfl).rw_ w ⟨_, hb, m.le (Heap.le_join_right dj)⟩⟩) fun v132 rs1 ⟨⟨s2, c2, e3, hsc2⟩, e4⟩ => ?_)
          subst e3; subst e4
          refine L_val rfl rfl rfl (OpP.v (P_extract rfl rfl rfl)) ?_
          refine L_val rfl rfl rfl (OpP.v (P_extract rfl rfl rfl)) ?_
          refine L_val rfl rfl rfl (OpP.v (P_assign rfl rfl)) ?_
          refine L_val rfl rfl rfl (OpP.v (P_assign rfl rfl)) ?_
          refine L_nil ?_
          refine St.env (.cons (t := 8) rfl (.cons (t := 9) rfl .nil)) ?_
          refine Q_then ?_
          refine R_ret ?_
          exact R_end (rs2 := []) rfl rfl (.tmp rfl (.tmp rfl .nil)) (⟨⟨s2, c2, rfl, hsc2⟩, rfl⟩) (Weak.nil _)
theorem down_ok {gl : Nat → Obj} (hG : GlobsR gl) : ∀ b, DownOk gl b
  | 0 => fun _ _ _ _ _ _ _ _ _ _ _ h => absurd h (by omega)
  | b + 1 => down_step hG b (down_ok hG b)
end Go.Proofs.YtldndhekjhlbmaaDoor
