/- Walks: the Hasher. Printed by gen.py. -/
import Derived.Test.YtnaadddnbfnahaaDoorD2
import Derived.Test.YtnaadddnbfnahaaDoorSha
import Derived.Test.YtnaadddnbfnahaaDoorEngG
set_option linter.unusedVariables false
set_option linter.unusedSimpArgs false
set_option maxRecDepth 100000
namespace Go.Proofs.YtnaadddnbfnahaaDoor
open Go Go.RowKit Go.Proofs
/-- A Hasher that New or Copy made, which was given xs; 'taken' is its count. -/
def hcore (b : Nat) (xs : List Int) (taken : Int) : HP := ExP (fun p : List Int => p.length = 64 ∧ p.take (xs.length % 64) = rem64 xs) fun p => blk b (hcells true (cmp xs) p (xs.length % 64 : Nat) taken) 158
def hasher (b : Nat) (xs : List Int) : HP := hcore b xs (IntKind.u64.wrap xs.length)
theorem hcore_in {b : Nat} {X W P : List Int} {T H : Int} {rs : List HP} (hW : W = cmp X) (hP : P.length = 64) (hT : P.take (X.length % 64) = rem64 X) (hH : H = ((X.length % 64 : Nat) : Int)) :
    Weak (blk b (hcells true W P H T) 158 :: rs) (hcore b X T :: rs) := by
  subst hW; subst hH
  exact Weak.turn .h0 fun a ha => ⟨P, ⟨hP, hT⟩, ha⟩
theorem writeSmall {X zs P : List Int} (hP : P.length = 64) (hT : P.take (X.length % 64) = rem64 X) (h : X.length % 64 + zs.length < 64) :
    cmp X = cmp (X ++ zs) ∧ (P.take (X.length % 64) ++ zs ++ P.drop (X.length % 64 + zs.length)).length = 64 ∧ (P.take (X.length % 64) ++ zs ++ P.drop (X.length % 64 + zs.length)).take ((X ++ zs).length % 64) = rem64 (X ++ zs) ∧ (((X.length % 64 : Nat) : Int) + (zs.length : Nat)) = (((X ++ zs).length % 64 : Nat) : Int) := by
  obtain ⟨h1, h2, h3⟩ := cmp_small X zs h
  refine ⟨h1.symm, by simp [hP]; omega, ?_, by rw [h3]; omega⟩
  rw [h3, h2, hT, List.take_left' (by rw [List.length_append, rem64_length])]
theorem writeFull {X zs P : List Int} (hP : P.length = 64) (hT : P.take (X.length % 64) = rem64 X) (h : X.length % 64 + zs.length = 64) :
    mixF addsK (cmp X) (P.take (X.length % 64) ++ zs ++ P.drop (X.length % 64 + zs.length)) = cmp (X ++ zs) ∧ (P.take (X.length % 64) ++ zs ++ P.drop (X.length % 64 + zs.length)).length = 64 ∧ (P.take (X.length % 64) ++ zs ++ P.drop (X.length % 64 + zs.length)).take ((X ++ zs).length % 64) = rem64 (X ++ zs) ∧ (0 : Int) = (((X ++ zs).length % 64 : Nat) : Int) := by
  obtain ⟨h1, h2, h3⟩ := cmp_full X zs h
  have e : P.drop (X.length % 64 + zs.length) = [] := List.drop_eq_nil_of_le (by omega)
  refine ⟨by rw [h1, e, List.append_nil, hT], by simp [hP]; omega, by rw [h3, h2]; simp, by rw [h3]; rfl⟩
theorem good_ok (gl : Nat → Obj) (b : Nat) (m : Bool) : SpecV (cx gl) 91 [.pointer (some ⟨b, 0, none⟩)] (fun w => w.cell? ⟨b, 0, none⟩ = some (.bool m)) (.bool m) := by
  refine Spec.enter (C := cx gl) Tryd.func91 rfl 11 rfl rfl fun w0 h0 hsep hsub hpre => ?_
  obtain rfl : h0 = Heap.none := hsep
  show St (cx gl) _ [(0, .pointer (some ⟨b, 0, none⟩))] _ _
  refine R_seq ?_
  refine R_region ?_
  refine L_val rfl rfl rfl (OpP.v (P_assign rfl rfl)) ?_
  refine L_nil ?_
  refine Q_then ?_
  refine R_seq ?_
  refine R_region ?_
  refine L_val rfl rfl rfl (OpP.v (P_move rfl rfl)) ?_
  refine L_val rfl rfl rfl (OpP.v (P_neNil rfl ty_ptr_152 rfl rfl)) ?_
  refine L_val rfl rfl rfl (OpP.v (P_move rfl rfl)) ?_
  refine L_val rfl rfl rfl (OpP.v (P_move rfl rfl)) ?_
  refine L_val rfl rfl rfl (OpP.v (P_nil rfl rfl)) ?_
  refine L_val rfl rfl rfl (OpP.v (P_fld0 rfl ty_fl_158_0 rfl)) ?_
  refine L_val rfl rfl rfl (V_load rfl rfl ty_sc_4 (Rd.old hpre rfl)) ?_
  refine L_val rfl rfl rfl (OpP.v (P_pick rfl rfl rfl)) ?_
  refine L_val rfl rfl rfl (OpP.v (P_assign rfl rfl)) ?_
  refine L_nil ?_
  refine St.env (.cons (t := 2) rfl .nil) ?_
  refine Q_then ?_
  refine R_ret ?_
  exact R_endV rfl rfl (.tmp rfl .nil) (rfl)
theorem new_ok {gl : Nat → Obj} (hG : Globs gl) : Spec (cx gl) 88 [] (fun _ _ => True) [] (fun v rs => ∃ b, v = .pointer (some ⟨b, 0, none⟩) ∧ rs = [hasher b []]) := by
  obtain ⟨T, fr, hg⟩ := hG.begin_
  refine Spec.enter (C := cx gl) Tryd.func88 rfl 4 rfl rfl fun w0 h0 hsep hsub hpre => ?_
  show St (cx gl) _ [] _ _
  refine R_seq ?_
  refine R_region ?_
  refine L_val rfl rfl rfl (OpP.v (P_assign rfl rfl)) ?_
  refine L_nil ?_
  refine Q_then ?_
  refine R_seq ?_
  refine R_region ?_
  refine L_val rfl rfl rfl (V_loadAgg rfl rfl ty_ag_121 (Rds.glob rfl hg) (rfl)) ?_
  refine L_val rfl rfl rfl (OpP.v (P_buildStruct rfl ty_pl_158 ty_ze_158 rfl rfl (rfl))) ?_
  refine L_op rfl (W_box (hcells true beginK (List.replicate 64 0) 0 0) rfl rfl rfl rfl rfl fun b3 => ?_)
  refine L_val rfl rfl rfl (OpP.v (P_assign rfl rfl)) ?_
  refine L_nil ?_
  refine St.env (.cons (t := 0) rfl .nil) ?_
  refine Q_then ?_
  refine R_ret ?_
  exact R_end (rs2 := _) rfl rfl (.tmp rfl .nil) (⟨_, rfl, rfl⟩) (hcore_in (T := 0) (H := 0) (X := []) rfl rfl rfl rfl)
set_option maxHeartbeats 1000000 in
theorem write_ok {gl : Nat → Obj} (hG : Globs gl) (b : Nat) (xs ys : List Int) (base : Option Addr) (c : Nat) (hcap : ys.length ≤ c) : SpecR (cx gl) 89 [.pointer (some ⟨b, 0, none⟩), .slice base ys.length c] (fun w h => Seen w h base (ints .u8 ys)) [hasher b xs] (.tuple #[]) [hasher b (xs ++ ys)] := by
  refine Spec.enter (C := cx gl) Tryd.func89 rfl 62 rfl rfl fun w0 h0 hsep hsub hpre => ?_
  show St (cx gl) _ [(0, .pointer (some ⟨b, 0, none⟩)), (1, .slice base ys.length c)] _ _
  refine St.openP [] fun part hpart => ?_
  obtain ⟨hpl, hpr⟩ := hpart
  refine R_seq ?_
  refine R_seq ?_
  refine R_region ?_
  refine L_val rfl rfl rfl (OpP.v (P_move rfl rfl)) ?_
  refine L_op rfl (W_callV rfl rfl rfl rfl fn_ca_91 (good_ok gl b true) (fun w nw => Rd.blk .h0 rfl w nw) ?_)
  refine L_val rfl rfl rfl (OpP.v (P_not rfl rfl)) ?_
  refine L_nil ?_
  refine St.env (.cons (t := 0) rfl (.cons (t := 1) rfl (.cons (t := 7) rfl .nil))) ?_
  refine Q_then ?_
  refine R_condF rfl ?_
  refine R_skip ?_
  refine Q_then ?_
  refine R_seq ?_
  refine R_region ?_
  refine L_val rfl rfl rfl (OpP.v (P_move rfl rfl)) ?_
  refine L_val rfl rfl rfl (OpP.v (P_nil rfl rfl)) ?_
  refine L_val rfl rfl rfl (OpP.v (P_fld0 rfl ty_fl_158_4 rfl)) ?_
  refine L_val rfl rfl rfl (V_load rfl rfl ty_sc_22 (Rd.blk .h0 (hcells_74 (cmp_length _) hpl))) ?_
  refine L_val rfl rfl rfl (OpP.v (P_move rfl rfl)) ?_
  refine L_val rfl rfl rfl (OpP.v (P_len rfl ty_sl_24 rfl)) ?_
  refine L_val rfl rfl rfl (OpP.v (P_conv rfl ty_int_3 ty_int_22 rfl)) ?_
  refine L_val rfl rfl rfl (OpP.v (P_add rfl rfl rfl)) ?_
  refine E_as (t := 15) (v' := .int .u64 (IntKind.u64.wrap ((xs.length : Int) + (ys.length : Int)))) rfl (by rw [wrap64_add]) ?_
  refine L_val rfl rfl rfl (OpP.v (P_nil rfl rfl)) ?_
  refine L_val rfl rfl rfl (OpP.v (P_fld0 rfl ty_fl_158_4 rfl)) ?_
  refine L_op rfl (W_store rfl rfl rfl rfl ty_sc_22 rfl .h0 (by rw [hcells_length (cmp_length _) hpl]; decide) ?_)
  rw [hcells_set74 (cmp_length _) hpl]
  refine L_nil ?_
  refine St.env (.cons (t := 0) rfl (.cons (t := 1) rfl .nil)) ?_
  refine Q_then ?_
  refine R_block ?_
  refine R_loop (G := Nat × Option Addr × Nat) (fun g => [(0, .pointer (some ⟨b, 0, none⟩)), (1, .slice g.2.1 (ys.length - g.1) g.2.2)]) (fun g => [hcore b (xs ++ ys.take g.1) (IntKind.u64.wrap ((xs.length : Int) + (ys.length : Int)))]) (fun g => g.1 ≤ ys.length ∧ ys.length - g.1 ≤ g.2.2 ∧ Seen w0 h0 g.2.1 (ints .u8 (ys.drop g.1))) (fun g => ys.length - g.1) ((0, base, c)) (⟨Nat.zero_le _, hcap, hpre⟩) (by repeat (first | exact .nil | refine .cons rfl ?_)) (by rw [List.take_zero, List.append_nil]; exact hcore_in rfl hpl hpr rfl) ?_
  rintro ⟨j, base', c'⟩ ⟨hj, hc', hs⟩
  simp only at hj hc' hs
  show St (cx gl) _ [(0, .pointer (some ⟨b, 0, none⟩)), (1, .slice base' (ys.length - j) c')] [hcore b (xs ++ ys.take j) (IntKind.u64.wrap ((xs.length : Int) + (ys.length : Int)))] _
  refine R_seq ?_
  refine R_seq ?_
  refine R_region ?_
  refine L_val rfl rfl rfl (OpP.v (P_move rfl rfl)) ?_
  refine L_val rfl rfl rfl (OpP.v (P_len rfl ty_sl_24 rfl)) ?_
  refine L_val rfl rfl rfl (OpP.v (P_gtr rfl rfl rfl)) ?_
  refine L_nil ?_
  refine Q_then ?_
  refine R_condP rfl (fun hgt => ?_) (fun hgt => ?_)
  · skip
    refine St.openP [] fun part hpart => ?_
    obtain ⟨hpl, hpr⟩ := hpart
    obtain ⟨k, hk⟩ : ∃ k, k = Nat.min (ys.length - j) (64 - (xs ++ ys.take j).length % 64) := ⟨_, rfl⟩
    have hmin : k = min (ys.length - j) (64 - (xs ++ ys.take j).length % 64) := hk
    have hx64 : (xs ++ ys.take j).length % 64 < 64 := Nat.mod_lt _ (by decide)
    have hzl : ((ys.drop j).take k).length = k := by rw [List.length_take, List.length_drop]; omega
    have hxe : xs ++ ys.take (j + k) = (xs ++ ys.take j) ++ ((ys.drop j).take k) := by rw [List.take_add, List.append_assoc]
    have hs2 := Seen.sliced (sz := 1) (p := k) (q := ys.length - j) hs hc' (.inr (by rw [ints_length, List.length_drop]; omega))
    have hnext : Seen w0 h0 (if c' = k then base' else base'.map (·.add (k * 1))) (ints .u8 (ys.drop (j + k))) := by have h := hs2; simp only [Nat.mul_one, ints_drop, List.drop_drop, ints_take] at h; rw [List.take_of_length_le (by rw [List.length_drop]; omega)] at h; rw [Nat.mul_one]; exact h
    refine R_skip ?_
    refine Q_then ?_
    refine R_block ?_
    refine R_seq ?_
    refine R_open [(0, 0), (1, 0), (2, 0), (3, 0), (4, 0), (5, 0), (6, 1), (7, 0), (8, 0), (9, 3), (10, 0)] mixed (by kernel_rfl) (QOk.then (QOk.block (QOk.then (QOk.block QOk.body)))) ?_
    refine O_pure rfl rfl rfl rfl (P_move rfl rfl) ?_
    refine O_pure rfl rfl rfl rfl (P_nil rfl rfl) ?_
    refine O_pure rfl rfl rfl rfl (P_fld0 rfl ty_fl_158_2 rfl) ?_
    refine O_pure rfl rfl rfl rfl (P_move rfl rfl) ?_
    refine O_pure rfl rfl rfl rfl (P_nil rfl rfl) ?_
    refine O_pure rfl rfl rfl rfl (P_fld0 rfl ty_fl_158_3 rfl) ?_
    refine O_val rfl rfl rfl rfl (V_load rfl rfl ty_sc_3 (Rd.blk .h0 (hcells_73 (cmp_length _) hpl))) ?_
    refine O_pure rfl rfl rfl rfl (P_sliceArr ((xs ++ ys.take j).length % 64) 64 rfl ty_ar_156 rfl ⟨_, rfl⟩ rfl (by omega) (by omega)) ?_
    refine E_as (t := 28) (v' := .slice (some ⟨b, 9 + (xs ++ ys.take j).length % 64, none⟩) (64 - (xs ++ ys.take j).length % 64) (64 - (xs ++ ys.take j).length % 64)) rfl (by rw [if_neg (by omega), Nat.mul_one]) ?_
    refine O_pure rfl rfl rfl rfl (P_move rfl rfl) ?_
    refine O_new rfl rfl (W_copy (k := k) (news := ints .u8 ((ys.drop j).take k)) rfl rfl rfl ty_sl_24 rfl rfl rfl (hk) (fun w nw => by have := Src.part (C := cx gl) (sz := 1) (k := k) (m := ys.length - j) (c := c') (Sn.old hs).rw_ (by rw [ints_length, List.length_drop]; omega) w nw; rwa [Nat.mul_one, ints_take] at this) (ints_one) .h0 (by rw [hcells_length (cmp_length _) hpl, ints_length, hzl]; omega) (K_new ?_))
    rw [hcells_setPart (cmp_length _) hpl _ _ (by rw [hzl]; omega)]
    refine O_pure rfl rfl rfl rfl (P_assign rfl rfl) ?_
    refine O_nil ?_
    refine Q_then ?_
    refine R_seq ?_
    refine R_region ?_
    have hpl2 : (part.take ((xs ++ ys.take j).length % 64) ++ ((ys.drop j).take k) ++ part.drop ((xs ++ ys.take j).length % 64 + ((ys.drop j).take k).length)).length = 64 := by rw [List.length_append, List.length_append, List.length_take, List.length_drop, hzl, hpl]; omega
    refine L_val rfl rfl rfl (OpP.v (P_move rfl rfl)) ?_
    refine L_val rfl rfl rfl (OpP.v (P_nil rfl rfl)) ?_
    refine L_val rfl rfl rfl (OpP.v (P_fld0 rfl ty_fl_158_3 rfl)) ?_
    refine L_val rfl rfl rfl (V_load rfl rfl ty_sc_3 (Rd.blk .h0 (hcells_73 (cmp_length _) hpl2))) ?_
    refine L_val rfl rfl rfl (OpP.v (P_move rfl rfl)) ?_
    first | (refine L_val rfl rfl rfl (OpP.v (P_addN rfl rfl rfl (by simp only [fits]; omega))) ?_) | (refine L_val rfl rfl rfl (OpP.v (P_add rfl rfl rfl)) ?_)
    refine L_val rfl rfl rfl (OpP.v (P_nil rfl rfl)) ?_
    refine L_val rfl rfl rfl (OpP.v (P_fld0 rfl ty_fl_158_3 rfl)) ?_
    refine L_op rfl (W_store rfl rfl rfl rfl ty_sc_3 rfl .h0 (by rw [hcells_length (cmp_length _) hpl2]; decide) ?_)
    rw [hcells_set73 (cmp_length _) hpl2]
    refine L_nil ?_
    refine Q_then ?_
    refine R_seq ?_
    refine R_region ?_
    refine L_val rfl rfl rfl (OpP.v (P_move rfl rfl)) ?_
    refine L_val rfl rfl rfl (OpP.v (P_move rfl rfl)) ?_
    refine L_val rfl rfl rfl (OpP.v (P_slice k (ys.length - j) rfl ty_sl_24 rfl ⟨_, rfl⟩ rfl (by omega) (by omega))) ?_
    refine E_as (t := 41) (v' := .slice (if c' = k then base' else base'.map (·.add (k * 1))) (ys.length - (j + k)) (c' - k)) rfl (by unfold sliced; rw [Nat.sub_sub]) ?_
    refine L_val rfl rfl rfl (OpP.v (P_assign rfl rfl)) ?_
    refine L_nil ?_
    refine Q_then ?_
    refine R_seq ?_
    refine R_region ?_
    refine L_val rfl rfl rfl (OpP.v (P_move rfl rfl)) ?_
    refine L_val rfl rfl rfl (OpP.v (P_nil rfl rfl)) ?_
    refine L_val rfl rfl rfl (OpP.v (P_fld0 rfl ty_fl_158_3 rfl)) ?_
    refine L_val rfl rfl rfl (V_load rfl rfl ty_sc_3 (Rd.blk .h0 (hcells_73 (cmp_length _) hpl2))) ?_
    refine L_val rfl rfl rfl (OpP.v (P_eql rfl rfl rfl)) ?_
    refine L_nil ?_
    refine Q_then ?_
    refine R_condP rfl (fun hfull => ?_) (fun hfull => ?_)
    · skip
      refine R_open [(0, 0), (1, 0), (2, 0), (3, 0), (4, 0), (5, 1), (6, 0), (7, 0), (8, 0), (9, 1), (10, 2), (11, 0), (12, 0), (13, 3), (14, 0), (15, 0), (16, 3)] mixed (by kernel_rfl) (QOk.block (QOk.then (QOk.block QOk.body))) ?_
      refine O_pure rfl rfl rfl rfl (P_move rfl rfl) ?_
      refine O_pure rfl rfl rfl rfl (P_move rfl rfl) ?_
      refine O_pure rfl rfl rfl rfl (P_move rfl rfl) ?_
      refine O_pure rfl rfl rfl rfl (P_nil rfl rfl) ?_
      refine O_pure rfl rfl rfl rfl (P_fld0 rfl ty_fl_158_1 rfl) ?_
      refine O_val rfl rfl rfl rfl (V_loadAgg rfl rfl ty_ag_155 (Rds.part (Rds.blk .h0) 1 fun i v hv => hcells_words (cmp_length _) hpl2 i v hv) (by rw [ints_length, cmp_length])) ?_
      refine O_pure rfl rfl rfl rfl (P_move rfl rfl) ?_
      refine O_pure rfl rfl rfl rfl (P_nil rfl rfl) ?_
      refine O_pure rfl rfl rfl rfl (P_fld0 rfl ty_fl_158_2 rfl) ?_
      refine O_val rfl rfl rfl rfl (V_loadAgg rfl rfl ty_ag_156 (Rds.part (Rds.blk .h0) 9 fun i v hv => hcells_part (cmp_length _) hpl2 i v hv) (by rw [ints_length, hpl2])) ?_
      refine O_keep rfl rfl (W_callV rfl rfl rfl rfl fn_ca_92 (mix_ok hG.adds (cmp (xs ++ ys.take j)) (part.take ((xs ++ ys.take j).length % 64) ++ ((ys.drop j).take k) ++ part.drop ((xs ++ ys.take j).length % 64 + ((ys.drop j).take k).length)) (cmp_length _) hpl2) (fun _ _ => trivial) (K_keep (Weak.refl _) ?_))
      refine O_pure rfl rfl rfl rfl (P_nil rfl rfl) ?_
      refine O_pure rfl rfl rfl rfl (P_fld0 rfl ty_fl_158_1 rfl) ?_
      refine O_new rfl rfl (W_storeAgg rfl rfl rfl rfl ty_ag_155 (by rw [ints_length, mixF_length, cmp_length]) (ints_one) .h0 (by rw [hcells_length (cmp_length _) hpl2, ints_length, mixF_length, cmp_length]; decide) (K_new ?_))
      rw [hcells_setWords (cmp_length _) hpl2 _ (by rw [mixF_length, cmp_length])]
      refine O_pure rfl rfl rfl rfl (P_nil rfl rfl) ?_
      refine O_pure rfl rfl rfl rfl (P_fld0 rfl ty_fl_158_3 rfl) ?_
      refine O_new rfl rfl (W_store rfl rfl rfl rfl ty_sc_3 rfl .h0 (by rw [hcells_length (by rw [mixF_length, cmp_length]) hpl2]; decide) (K_new ?_))
      rw [hcells_set73 (by rw [mixF_length, cmp_length]) hpl2]
      refine O_nil ?_
      refine Q_block ?_
      show St (cx gl) _ _ _ _
      exact Q_round (j + k, (if c' = k then base' else base'.map (·.add (k * 1))), c' - k) (⟨by simp only; omega, by simp only; omega, hnext⟩) (by simp only; omega) (by repeat (first | exact .nil | refine .cons rfl ?_)) (by simp only; rw [hxe]; first | (obtain ⟨e1, e2, e3, e4⟩ := writeFull (zs := ((ys.drop j).take k)) hpl hpr (by omega); exact hcore_in e1 e2 e3 e4) | (obtain ⟨e1, e2, e3, e4⟩ := writeSmall (zs := ((ys.drop j).take k)) hpl hpr (by omega); exact hcore_in e1 e2 e3 (by rw [← e4, hzl])))
    · skip
      refine R_skip ?_
      refine Q_block ?_
      show St (cx gl) _ _ _ _
      exact Q_round (j + k, (if c' = k then base' else base'.map (·.add (k * 1))), c' - k) (⟨by simp only; omega, by simp only; omega, hnext⟩) (by simp only; omega) (by repeat (first | exact .nil | refine .cons rfl ?_)) (by simp only; rw [hxe]; first | (obtain ⟨e1, e2, e3, e4⟩ := writeFull (zs := ((ys.drop j).take k)) hpl hpr (by omega); exact hcore_in e1 e2 e3 e4) | (obtain ⟨e1, e2, e3, e4⟩ := writeSmall (zs := ((ys.drop j).take k)) hpl hpr (by omega); exact hcore_in e1 e2 e3 (by rw [← e4, hzl])))
  · skip
    refine R_exit ?_
    refine Q_then_exit ?_
    refine Q_then_exit ?_
    refine Q_block_eq ?_
    refine St.env (.nil) ?_
    have hje : j = ys.length := by omega
    subst hje
    rw [List.take_length]
    exact R_end0 (rs2 := [hasher b (xs ++ ys)]) rfl rfl (.nil) (⟨rfl, rfl⟩) (by unfold hasher; rw [List.length_append, Int.natCast_add]; exact Weak.refl _)
end Go.Proofs.YtnaadddnbfnahaaDoor
