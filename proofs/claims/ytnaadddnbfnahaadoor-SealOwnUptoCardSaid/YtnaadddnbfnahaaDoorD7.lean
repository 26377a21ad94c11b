/- Walks: the reference's Sum, the texts under a digest. Printed by gen.py. -/
import Derived.Test.YtnaadddnbfnahaaDoorD6
import Derived.Test.YtnaadddnbfnahaaDoorD3
set_option linter.unusedVariables false
set_option linter.unusedSimpArgs false
set_option maxRecDepth 100000
namespace Go.Proofs.YtnaadddnbfnahaaDoor
open Go Go.RowKit Go.Proofs
theorem tmodN (a b : Nat) : Int.tmod (a : Int) (b : Int) = ((a % b : Nat) : Int) := rfl
theorem quoN (a b : Nat) (h : a ≤ 9223372036854775807) : IntKind.i64.wrap (Int.tdiv (a : Int) (b : Int)) = ((a / b : Nat) : Int) := by
  have e : Int.tdiv (a : Int) (b : Int) = ((a / b : Nat) : Int) := rfl
  have hle : a / b ≤ a := Nat.div_le_self _ _
  rw [e]
  generalize a / b = q at hle
  rw [wrap_fits (by simp only [fits]; omega)]
theorem ownS.to {T sz n n' : Nat} {v : Value} {cs cs' : List Value} {rs : List HP} (hn : n = n') (hc : cs = cs') : Weak (ownS T sz v n cs :: rs) (ownS T sz v n' cs' :: rs) := by subst hn; subst hc; exact Weak.refl _
theorem Sn.rowAt {C : Cx} {F : Fx} {rs : List HP} {b j : Nat} {cs us : List Value} (s : Sn C F rs (some ⟨b, j, none⟩) cs) (k : Nat) (hu : ∀ (i : Nat) (v : Value), us[i]? = some v → cs[k + i]? = some v) : ∀ w, Now C F rs w → RowAt w ⟨b, j + k, none⟩ us := fun w n i v hv => by
  obtain ⟨ad, e, hc⟩ := s.rw_ w n (k + i) v (hu i v hv)
  rw [Option.some.injEq] at e
  subst e
  rw [add_zero_off] at hc ⊢
  rwa [Nat.add_assoc]
theorem ints_part (k : IntKind) (xs : List Int) (o n i : Nat) (v : Value) (h : (ints k ((xs.drop o).take n))[i]? = some v) : (ints k xs)[o + i]? = some v := by
  rw [← ints_take, ← ints_drop, List.getElem?_take] at h
  split at h
  · rwa [List.getElem?_drop] at h
  · cases h
theorem ints_part2 (k : IntKind) (xs : List Int) (junk : List Value) (o n i : Nat) (v : Value) (h : (ints k ((xs.drop o).take n))[i]? = some v) : (ints k xs ++ junk)[o + i]? = some v := by
  have h2 := ints_part k xs o n i v h
  rw [List.getElem?_append_left (List.getElem?_eq_some_iff.1 h2).1]; exact h2
/-- The end of the text: what is left over, a mark, zeros, the length. -/
def tailB (xs : List Int) : List Int := rem64 xs ++ [128] ++ List.replicate (padZ xs.length) 0 ++ lenB xs.length
theorem tailB_length (xs : List Int) : (tailB xs).length = xs.length % 64 + 1 + padZ xs.length + 8 := by
  simp only [tailB, List.length_append, List.length_cons, List.length_nil, List.length_replicate, lenB_length, rem64_length]
theorem tailB_64 (xs : List Int) : (tailB xs).length % 64 = 0 := by rw [tailB_length, padZ]; omega
theorem cmp_padded (xs : List Int) : cmpN ((tailB xs).length / 64) (cmp xs) (tailB xs) = cmp (padded xs) := by
  have e : padded xs = xs.take (64 * (xs.length / 64)) ++ tailB xs := by
    rw [tailB, rem64, padded]
    simp only [← List.append_assoc, List.take_append_drop]
  have hl : (padded xs).length = 64 * (xs.length / 64) + (tailB xs).length := by
    rw [e, List.length_append, List.length_take]; omega
  have h64 := tailB_64 xs
  show cmpN _ _ _ = cmpN ((padded xs).length / 64) beginK (padded xs)
  rw [hl, show (64 * (xs.length / 64) + (tailB xs).length) / 64 = xs.length / 64 + (tailB xs).length / 64 by omega, cmpN_add, e, List.drop_left' (by rw [List.length_take]; omega)]
  congr 1
  rw [cmpN_append _ _ _ _ (by rw [List.length_take]; omega)]
  conv => lhs; rw [cmp, ← List.take_append_drop (64 * (xs.length / 64)) xs]
  rw [List.take_append_drop]
  conv => lhs; arg 3; rw [← List.take_append_drop (64 * (xs.length / 64)) xs]
  rw [cmpN_append _ _ _ _ (by rw [List.length_take]; omega)]
theorem lenB_next (n j : Nat) (h : j < 8) : (lenB n).take (j + 1) = (lenB n).take j ++ [lenF n j] := by
  rw [List.take_add_one]
  congr 1
  rw [List.getElem?_eq_getElem (by rw [lenB_length]; exact h)]
  simp [lenB, lenF]
set_option maxHeartbeats 1000000 in
theorem rsum_ok {gl : Nat → Obj} (hG : GlobsR gl) (base : Option Addr) (c : Nat) (xs : List Int) (hc : xs.length ≤ c) (hmax : xs.length ≤ 9223372036854775000) : SpecV (cx gl) 43 [.slice base xs.length c] (fun w => Row w base (ints .u8 xs)) (.agg (ints .u8 (sha xs)).toArray) := by
  refine Spec.enter (C := cx gl) Tryd.func43 rfl 89 rfl rfl fun w0 h0 hsep hsub hpre => ?_
  obtain rfl : h0 = Heap.none := hsep
  show St (cx gl) _ [(0, .slice base xs.length c)] _ _
  refine R_seq ?_
  refine R_region ?_
  refine L_op rfl (W_alloc rfl rfl rfl ty_ze_107 fun b2 => ?_)
  refine L_nil ?_
  refine Q_then ?_
  refine R_seq ?_
  refine R_region ?_
  refine L_val rfl rfl rfl (OpP.v (P_buildArr rfl ty_ar_121 ty_ze_121 rfl rfl rfl rfl (by simp [Value.oneCell']))) ?_
  refine E_as (t := 11) (v' := .agg (ints .u32 beginK).toArray) rfl rfl ?_
  refine L_op rfl (W_alloc rfl rfl rfl ty_ze_121 fun b3 => ?_)
  refine L_op rfl (W_storeAll rfl rfl rfl rfl ty_ag_121 (rfl) (ints_one) .h0 (rfl) ?_)
  refine L_nil ?_
  refine St.env (.cons (t := 0) rfl (.cons (t := 2) rfl (.cons (t := 3) rfl .nil))) ?_
  refine Q_then ?_
  refine R_seq ?_
  refine R_region ?_
  refine L_val rfl rfl rfl (OpP.v (P_assign rfl rfl)) ?_
  refine L_nil ?_
  refine Q_then ?_
  refine R_seq ?_
  refine R_block ?_
  refine R_loop (G := Nat) (fun k => [(0, .slice base xs.length c), (2, .pointer (some ⟨b2, 0, none⟩)), (3, .pointer (some ⟨b3, 0, none⟩)), (4, .int .i64 ((64 * k : Nat) : Int))]) (fun k => [blk b3 (ints .u32 (cmpN k beginK xs)) 121, blk b2 (List.replicate 32 (.int .u8 0)) 107]) (fun k => 64 * k ≤ xs.length) (fun k => xs.length - 64 * k) (0) (by omega) (by repeat (first | exact .nil | refine .cons rfl ?_)) (Weak.refl _) ?_
  intro k hk
  refine R_seq ?_
  refine R_seq ?_
  refine R_region ?_
  refine L_val rfl rfl rfl (OpP.v (P_move rfl rfl)) ?_
  first | (refine L_val rfl rfl rfl (OpP.v (P_addN rfl rfl rfl (by simp only [fits]; omega))) ?_) | (refine L_val rfl rfl rfl (OpP.v (P_add rfl rfl rfl)) ?_)
  refine L_val rfl rfl rfl (OpP.v (P_move rfl rfl)) ?_
  refine L_val rfl rfl rfl (OpP.v (P_len rfl ty_sl_24 rfl)) ?_
  refine L_val rfl rfl rfl (OpP.v (P_leq rfl rfl rfl)) ?_
  refine L_nil ?_
  refine Q_then ?_
  refine R_condP rfl (fun hle => ?_) (fun hle => ?_)
  · skip
    obtain ⟨pb, pj, rfl, hrow⟩ := hpre.some_ (by rw [ints_length]; omega)
    have hpl : ((xs.drop (64 * k)).take 64).length = 64 := by rw [List.length_take, List.length_drop]; omega
    refine R_skip ?_
    refine Q_then ?_
    refine R_block ?_
    refine R_seq ?_
    refine R_open [(0, 1), (1, 0), (2, 0), (3, 0), (4, 0), (5, 0), (6, 2), (7, 3)] mixed (by kernel_rfl) (QOk.then (QOk.block (QOk.then (QOk.block (QOk.then QOk.body))))) ?_
    refine O_val rfl rfl rfl rfl (V_loadAgg rfl rfl ty_ag_121 (Rds.blk .h0) (by rw [ints_length, cmpN_length]; rfl)) ?_
    refine O_pure rfl rfl rfl rfl (P_move rfl rfl) ?_
    refine O_pure rfl rfl rfl rfl (P_move rfl rfl) ?_
    refine O_pure rfl rfl rfl rfl (P_move rfl rfl) ?_
    first | (refine O_pure rfl rfl rfl rfl (P_addN rfl rfl rfl (by simp only [fits]; omega)) ?_) | (refine O_pure rfl rfl rfl rfl (P_add rfl rfl rfl) ?_)
    refine O_pure rfl rfl rfl rfl (P_slice (64 * k) (64 * k + 64) rfl ty_sl_24 rfl ⟨_, rfl⟩ ⟨_, rfl⟩ (by omega) (by omega)) ?_
    refine E_as (t := 22) (v' := .slice (some ⟨pb, pj + 64 * k, none⟩) 64 (c - 64 * k)) rfl (by unfold sliced; rw [if_neg (by omega), Option.map_some, add_zero_off, Nat.mul_one, Nat.add_sub_cancel_left]) ?_
    refine O_keep rfl rfl (W_callV rfl rfl rfl rfl fn_ca_59 (block_ok hG.refAdds (cmpN k beginK xs) ((xs.drop (64 * k)).take 64) (by rw [cmpN_length]; rfl) hpl pb (pj + 64 * k) (c - 64 * k)) ((Sn.row hpre rfl).rowAt (64 * k) fun i v hv => ints_part _ _ _ _ i v hv) (K_keep (Weak.refl _) ?_))
    refine O_new rfl rfl (W_storeAll rfl rfl rfl rfl ty_ag_121 (by rw [ints_length, mixF_length, cmpN_length]; rfl) (ints_one) .h0 (by rw [ints_length, ints_length, mixF_length]) (K_new ?_))
    refine O_nil ?_
    refine Q_then ?_
    refine R_region ?_
    refine L_val rfl rfl rfl (OpP.v (P_move rfl rfl)) ?_
    first | (refine L_val rfl rfl rfl (OpP.v (P_addN rfl rfl rfl (by simp only [fits]; omega))) ?_) | (refine L_val rfl rfl rfl (OpP.v (P_add rfl rfl rfl)) ?_)
    refine L_val rfl rfl rfl (OpP.v (P_assign rfl rfl)) ?_
    refine L_nil ?_
    refine Q_block ?_
    refine E_nat (t := 4) (n := 64 * (k + 1)) rfl (by omega) ?_
    exact Q_round (k + 1) (by omega) (by omega) (by repeat (first | exact .nil | refine .cons rfl ?_)) (by rw [cmpN_succ]; exact Weak.refl _)
  · skip
    obtain rfl : k = xs.length / 64 := by omega
    refine R_exit ?_
    refine Q_then_exit ?_
    refine Q_then_exit ?_
    refine Q_block_eq ?_
    refine St.env (.cons (t := 0) rfl (.cons (t := 2) rfl (.cons (t := 3) rfl (.cons (t := 4) rfl .nil)))) ?_
    refine Q_then ?_
    refine R_seq ?_
    refine R_region ?_
    refine L_val rfl rfl rfl (OpP.v (P_assign rfl rfl)) ?_
    refine St.res (rs' := [ownS 5 1 (.slice none 0 0) 0 [], blk b3 (ints .u32 (cmp xs)) 121, blk b2 (List.replicate 32 (.int .u8 0)) 107]) (Weak.newNil) ?_
    have hsn : ∀ rs, Sn (cx gl) ⟨89, [], w0, Heap.none⟩ rs (if c = 64 * (xs.length / 64) then base else base.map (·.add (64 * (xs.length / 64) * 1))) (ints .u8 (rem64 xs)) := fun rs => by
          have h := (Sn.row (C := cx gl) (F := ⟨89, [], w0, Heap.none⟩) (rs := rs) hpre rfl).sliced (sz := 1) (p := 64 * (xs.length / 64)) (q := xs.length) hc (.inr (by rw [ints_length]; omega))
          simp only [Nat.mul_one, ints_drop, ints_take] at h ⊢
          rwa [List.take_of_length_le (by rw [List.length_drop]; omega)] at h
    refine L_nil ?_
    refine Q_then ?_
    refine R_seq ?_
    refine R_region ?_
    refine L_val rfl rfl rfl (OpP.v (P_move rfl rfl)) ?_
    refine L_val rfl rfl rfl (OpP.v (P_move rfl rfl)) ?_
    refine L_val rfl rfl rfl (OpP.v (P_move rfl rfl)) ?_
    refine L_val rfl rfl rfl (OpP.v (P_slice (64 * (xs.length / 64)) xs.length rfl ty_sl_24 rfl ⟨_, rfl⟩ rfl (by omega) (by omega))) ?_
    refine L_op rfl (W_append (p := []) rfl rfl rfl ty_sl_24 ty_ap_24 ty_src_24 rfl rfl rfl (Src.row (hsn _).rw_ (by rw [ints_length, rem64_length]; omega) ints_one) (by omega) (by simp only [maxLen]; omega) fun v30 => ?_)
    refine St.res (rs' := [ownS 5 1 v30 (xs.length % 64) (ints .u8 (rem64 xs)), blk b3 (ints .u32 (cmp xs)) 121, blk b2 (List.replicate 32 (.int .u8 0)) 107]) (ownS.to (by omega) (by simp)) ?_
    refine L_val rfl rfl rfl (OpP.v (P_assign rfl rfl)) ?_
    refine L_nil ?_
    refine St.env (.cons (t := 0) rfl (.cons (t := 2) rfl (.cons (t := 3) rfl (.cons (t := 5) rfl .nil)))) ?_
    refine Q_then ?_
    refine R_seq ?_
    refine R_region ?_
    refine L_val rfl rfl rfl (OpP.v (P_move rfl rfl)) ?_
    refine L_op rfl (W_lit (z := .nilIface) (ints .u8 [128]) rfl rfl rfl ty_sl_24 ty_lz_24 rfl rfl rfl (by decide) (by decide) (by simp [Value.cells]) (rfl) fun b32 => ?_)
    refine L_op rfl (W_append (p := [_]) rfl rfl rfl ty_sl_24 ty_ap_24 ty_src_24 rfl rfl rfl (Src.slice (sz := 1) (news := ints .u8 [128]) (Rds.blk .h0) rfl ints_one) (by omega) (by simp only [maxLen]; omega) fun v33 => ?_)
    refine St.res (rs' := [ownS 5 1 v33 (xs.length % 64 + 1) (ints .u8 (rem64 xs ++ [128])), blk b3 (ints .u32 (cmp xs)) 121, blk b2 (List.replicate 32 (.int .u8 0)) 107]) (Weak.drop (ownS.to rfl (by rw [ints_append]))) ?_
    refine L_val rfl rfl rfl (OpP.v (P_assign rfl rfl)) ?_
    refine L_nil ?_
    refine St.env (.cons (t := 0) rfl (.cons (t := 2) rfl (.cons (t := 3) rfl (.cons (t := 5) rfl .nil)))) ?_
    refine Q_then ?_
    refine R_seq ?_
    refine R_block ?_
    refine R_loop (G := Value × Nat) (fun g => [(0, .slice base xs.length c), (2, .pointer (some ⟨b2, 0, none⟩)), (3, .pointer (some ⟨b3, 0, none⟩)), (5, g.1)]) (fun g => [ownS 5 1 g.1 (xs.length % 64 + 1 + g.2) (ints .u8 (rem64 xs ++ [128] ++ List.replicate g.2 0)), blk b3 (ints .u32 (cmp xs)) 121, blk b2 (List.replicate 32 (.int .u8 0)) 107]) (fun g => g.2 ≤ padZ xs.length) (fun g => padZ xs.length - g.2) ((v33, 0)) (Nat.zero_le _) (by repeat (first | exact .nil | refine .cons rfl ?_)) (ownS.to rfl (by simp)) ?_
    rintro ⟨v, k⟩ hk
    simp only at hk
    show St (cx gl) _ [(0, .slice base xs.length c), (2, .pointer (some ⟨b2, 0, none⟩)), (3, .pointer (some ⟨b3, 0, none⟩)), (5, v)] [ownS 5 1 v (xs.length % 64 + 1 + k) (ints .u8 (rem64 xs ++ [128] ++ List.replicate k 0)), blk b3 (ints .u32 (cmp xs)) 121, blk b2 (List.replicate 32 (.int .u8 0)) 107] _
    refine R_seq ?_
    refine R_seq ?_
    refine R_region ?_
    refine L_val rfl rfl rfl (OpP.v (P_move rfl rfl)) ?_
    refine L_val rfl rfl rfl (V_lenOwn .h0 rfl ty_sl_24 rfl) ?_
    refine L_val rfl rfl rfl (OpP.v (P_rem rfl rfl rfl (by decide))) ?_
    refine E_as (t := 36) (v' := .int .i64 (((xs.length % 64 + 1 + k) % 64 : Nat) : Int)) rfl (congrArg (Value.int .i64) (tmodN _ 64)) ?_
    refine L_val rfl rfl rfl (OpP.v (P_neq rfl rfl rfl)) ?_
    refine L_nil ?_
    refine Q_then ?_
    refine R_condP rfl (fun hne => ?_) (fun hne => ?_)
    · skip
      refine R_skip ?_
      refine Q_then ?_
      refine R_block ?_
      refine R_region ?_
      refine L_val rfl rfl rfl (OpP.v (P_move rfl rfl)) ?_
      refine L_op rfl (W_lit (z := .nilIface) (ints .u8 [0]) rfl rfl rfl ty_sl_24 ty_lz_24 rfl rfl rfl (by decide) (by decide) (by simp [Value.cells]) (rfl) fun b39 => ?_)
      refine L_op rfl (W_append (p := [_]) rfl rfl rfl ty_sl_24 ty_ap_24 ty_src_24 rfl rfl rfl (Src.slice (sz := 1) (news := ints .u8 [0]) (Rds.blk .h0) rfl ints_one) (by unfold padZ at *; omega) (by simp only [maxLen]; unfold padZ at *; omega) fun v40 => ?_)
      refine L_val rfl rfl rfl (OpP.v (P_assign rfl rfl)) ?_
      refine L_nil ?_
      refine Q_block ?_
      exact Q_round ((v40, k + 1)) (by show k + 1 ≤ padZ xs.length; unfold padZ at *; omega) (by show padZ xs.length - (k + 1) < padZ xs.length - k; unfold padZ at *; omega) (by repeat (first | exact .nil | refine .cons rfl ?_)) (Weak.drop (ownS.to (by omega) (by rw [ints_append, List.replicate_succ', ← List.append_assoc])))
    · skip
      obtain rfl : k = padZ xs.length := by unfold padZ at *; omega
      refine R_exit ?_
      refine Q_then_exit ?_
      refine Q_then_exit ?_
      refine Q_block_eq ?_
      refine St.env (.cons (t := 0) rfl (.cons (t := 2) rfl (.cons (t := 3) rfl (.cons (t := 5) rfl .nil)))) ?_
      refine Q_then ?_
      refine R_seq ?_
      refine R_region ?_
      refine L_val rfl rfl rfl (OpP.v (P_move rfl rfl)) ?_
      refine L_val rfl rfl rfl (OpP.v (P_len rfl ty_sl_24 rfl)) ?_
      refine L_val rfl rfl rfl (OpP.v (P_conv rfl ty_int_3 ty_int_22 rfl)) ?_
      refine L_val rfl rfl rfl (OpP.v (P_mul rfl rfl rfl)) ?_
      refine L_val rfl rfl rfl (OpP.v (P_assign rfl rfl)) ?_
      refine L_nil ?_
      refine St.env (.cons (t := 2) rfl (.cons (t := 3) rfl (.cons (t := 5) rfl (.cons (t := 6) rfl .nil)))) ?_
      refine Q_then ?_
      refine R_seq ?_
      refine R_seq ?_
      refine R_region ?_
      refine L_val rfl rfl rfl (OpP.v (P_assign rfl rfl)) ?_
      refine L_nil ?_
      refine Q_then ?_
      refine R_block ?_
      refine R_loop (G := Value × Nat) (fun g => [(2, .pointer (some ⟨b2, 0, none⟩)), (3, .pointer (some ⟨b3, 0, none⟩)), (5, g.1), (6, .int .u64 (IntKind.u64.wrap (IntKind.u64.wrap (xs.length : Int) * 8))), (7, .int .i64 (7 - (g.2 : Int)))]) (fun g => [ownS 5 1 g.1 (xs.length % 64 + 1 + padZ xs.length + g.2) (ints .u8 (rem64 xs ++ [128] ++ List.replicate (padZ xs.length) 0 ++ (lenB xs.length).take g.2)), blk b3 (ints .u32 (cmp xs)) 121, blk b2 (List.replicate 32 (.int .u8 0)) 107]) (fun g => g.2 ≤ 8) (fun g => 8 - g.2) ((v, 0)) (Nat.zero_le _) (by repeat (first | exact .nil | refine .cons rfl ?_)) (ownS.to rfl (by simp)) ?_
      rintro ⟨v, j⟩ hj
      simp only at hj
      show St (cx gl) _ [(2, .pointer (some ⟨b2, 0, none⟩)), (3, .pointer (some ⟨b3, 0, none⟩)), (5, v), (6, .int .u64 (IntKind.u64.wrap (IntKind.u64.wrap (xs.length : Int) * 8))), (7, .int .i64 (7 - (j : Int)))] [ownS 5 1 v (xs.length % 64 + 1 + padZ xs.length + j) (ints .u8 (rem64 xs ++ [128] ++ List.replicate (padZ xs.length) 0 ++ (lenB xs.length).take j)), blk b3 (ints .u32 (cmp xs)) 121, blk b2 (List.replicate 32 (.int .u8 0)) 107] _
      refine R_seq ?_
      refine R_seq ?_
      refine R_region ?_
      refine L_val rfl rfl rfl (OpP.v (P_move rfl rfl)) ?_
      refine L_val rfl rfl rfl (OpP.v (P_geq rfl rfl rfl)) ?_
      refine L_nil ?_
      refine Q_then ?_
      refine R_condP rfl (fun hge => ?_) (fun hge => ?_)
      · skip
        refine R_skip ?_
        refine Q_then ?_
        refine R_seq ?_
        refine R_block ?_
        refine R_region ?_
        refine L_val rfl rfl rfl (OpP.v (P_move rfl rfl)) ?_
        refine L_val rfl rfl rfl (OpP.v (P_move rfl rfl)) ?_
        refine L_val rfl rfl rfl (OpP.v (P_move rfl rfl)) ?_
        first | (refine L_val rfl rfl rfl (OpP.v (P_mulN rfl rfl rfl (by simp only [fits]; omega))) ?_) | (refine L_val rfl rfl rfl (OpP.v (P_mul rfl rfl rfl)) ?_)
        refine L_val rfl rfl rfl (OpP.v (P_convN rfl ty_int_3 ty_int_105 rfl (by simp only [fits]; omega))) ?_
        refine L_val rfl rfl rfl (OpP.v (P_shr rfl rfl rfl (by omega))) ?_
        refine L_val rfl rfl rfl (OpP.v (P_conv rfl ty_int_22 ty_int_5 rfl)) ?_
        refine E_as (t := 55) (v' := .int .u8 (lenF xs.length j)) rfl (by unfold lenF; rw [show (56 : Int) - 8 * (j : Int) = 8 * (7 - (j : Int)) by omega]) ?_
        refine L_op rfl (W_lit (z := .nilIface) (ints .u8 [lenF xs.length j]) rfl rfl rfl ty_sl_24 ty_lz_24 rfl rfl rfl (by decide) (by decide) (by simp [Value.cells]) (rfl) fun b56 => ?_)
        refine L_op rfl (W_append (p := [_]) rfl rfl rfl ty_sl_24 ty_ap_24 ty_src_24 rfl rfl rfl (Src.slice (sz := 1) (news := ints .u8 [lenF xs.length j]) (Rds.blk .h0) rfl ints_one) (by unfold padZ at *; omega) (by simp only [maxLen]; unfold padZ at *; omega) fun v57 => ?_)
        refine L_val rfl rfl rfl (OpP.v (P_assign rfl rfl)) ?_
        refine L_nil ?_
        refine Q_block ?_
        refine Q_then ?_
        refine R_region ?_
        refine L_val rfl rfl rfl (OpP.v (P_move rfl rfl)) ?_
        first | (refine L_val rfl rfl rfl (OpP.v (P_subN rfl rfl rfl (by simp only [fits]; omega))) ?_) | (refine L_val rfl rfl rfl (OpP.v (P_sub rfl rfl rfl)) ?_)
        refine L_val rfl rfl rfl (OpP.v (P_assign rfl rfl)) ?_
        refine L_nil ?_
        refine E_as (t := 7) (v' := .int .i64 (7 - ((j + 1 : Nat) : Int))) rfl (by congr 1; omega) ?_
        exact Q_round ((v57, j + 1)) (by show j + 1 ≤ 8; omega) (by show 8 - (j + 1) < 8 - j; omega) (by repeat (first | exact .nil | refine .cons rfl ?_)) (Weak.drop (ownS.to (by omega) (by rw [ints_append, lenB_next _ _ (by omega), ← List.append_assoc])))
      · skip
        obtain rfl : j = 8 := by omega
        refine St.res (rs' := [ownS 5 1 v ((tailB xs).length) (ints .u8 (tailB xs)), blk b3 (ints .u32 (cmp xs)) 121, blk b2 (List.replicate 32 (.int .u8 0)) 107]) (ownS.to (by rw [tailB_length]) (by rw [List.take_of_length_le (by rw [lenB_length]; omega)]; rfl)) ?_
        refine R_exit ?_
        refine Q_then_exit ?_
        refine Q_then_exit ?_
        refine Q_block_eq ?_
        refine St.env (.cons (t := 2) rfl (.cons (t := 3) rfl (.cons (t := 5) rfl .nil))) ?_
        refine Q_then ?_
        refine R_seq ?_
        refine R_seq ?_
        refine R_region ?_
        refine L_val rfl rfl rfl (OpP.v (P_assign rfl rfl)) ?_
        refine L_nil ?_
        refine Q_then ?_
        refine R_block ?_
        refine St.openOwn (p := []) (by rw [tailB_length]; omega) fun ob ocap junk hoc hol hov => ?_
        subst hov
        have ht64 := tailB_64 xs
        have htl : (tailB xs).length ≤ 200 := by rw [tailB_length, padZ]; omega
        refine R_loop (G := Nat) (fun k => [(2, .pointer (some ⟨b2, 0, none⟩)), (3, .pointer (some ⟨b3, 0, none⟩)), (5, .slice (some ⟨ob, 0, none⟩) (tailB xs).length ocap), (8, .int .i64 ((64 * k : Nat) : Int))]) (fun k => [blk ob (ints .u8 (tailB xs) ++ junk) 5, blk b3 (ints .u32 (cmpN k (cmp xs) (tailB xs))) 121, blk b2 (List.replicate 32 (.int .u8 0)) 107]) (fun k => 64 * k ≤ (tailB xs).length) (fun k => (tailB xs).length - 64 * k) (0) (by omega) (by repeat (first | exact .nil | refine .cons rfl ?_)) (Weak.refl _) ?_
        intro k hk
        refine R_seq ?_
        refine R_seq ?_
        refine R_region ?_
        refine L_val rfl rfl rfl (OpP.v (P_move rfl rfl)) ?_
        refine L_val rfl rfl rfl (OpP.v (P_move rfl rfl)) ?_
        refine L_val rfl rfl rfl (OpP.v (P_len rfl ty_sl_24 rfl)) ?_
        refine L_val rfl rfl rfl (OpP.v (P_lss rfl rfl rfl)) ?_
        refine L_nil ?_
        refine Q_then ?_
        refine R_condP rfl (fun hlt => ?_) (fun hlt => ?_)
        · skip
          have hpl : (((tailB xs).drop (64 * k)).take 64).length = 64 := by rw [List.length_take, List.length_drop]; omega
          refine R_skip ?_
          refine Q_then ?_
          refine R_seq ?_
          refine R_block ?_
          refine R_open [(0, 1), (1, 0), (2, 0), (3, 0), (4, 0), (5, 0), (6, 2), (7, 3)] mixed (by kernel_rfl) (QOk.block (QOk.then (QOk.then (QOk.block (QOk.then QOk.body))))) ?_
          refine O_val rfl rfl rfl rfl (V_loadAgg rfl rfl ty_ag_121 (Rds.blk .h1) (by rw [ints_length, cmpN_length, cmp_length])) ?_
          refine O_pure rfl rfl rfl rfl (P_move rfl rfl) ?_
          refine O_pure rfl rfl rfl rfl (P_move rfl rfl) ?_
          refine O_pure rfl rfl rfl rfl (P_move rfl rfl) ?_
          first | (refine O_pure rfl rfl rfl rfl (P_addN rfl rfl rfl (by simp only [fits]; omega)) ?_) | (refine O_pure rfl rfl rfl rfl (P_add rfl rfl rfl) ?_)
          refine O_pure rfl rfl rfl rfl (P_slice (64 * k) (64 * k + 64) rfl ty_sl_24 rfl ⟨_, rfl⟩ ⟨_, rfl⟩ (by omega) (by omega)) ?_
          refine E_as (t := 69) (v' := .slice (some ⟨ob, 0 + 64 * k, none⟩) 64 (ocap - 64 * k)) rfl (by unfold sliced; rw [if_neg (by omega), Option.map_some, add_zero_off, Nat.mul_one, Nat.add_sub_cancel_left]) ?_
          refine O_keep rfl rfl (W_callV rfl rfl rfl rfl fn_ca_59 (block_ok hG.refAdds (cmpN k (cmp xs) (tailB xs)) (((tailB xs).drop (64 * k)).take 64) (by rw [cmpN_length, cmp_length]) hpl ob (0 + 64 * k) (ocap - 64 * k)) ((Sn.ofBlk .h0).rowAt (64 * k) fun i v hv => ints_part2 _ _ _ _ _ i v hv) (K_keep (Weak.refl _) ?_))
          refine O_new rfl rfl (W_storeAll rfl rfl rfl rfl ty_ag_121 (by rw [ints_length, mixF_length, cmpN_length, cmp_length]) (ints_one) .h1 (by rw [ints_length, ints_length, mixF_length]) (K_new ?_))
          refine O_nil ?_
          refine Q_block ?_
          refine Q_then ?_
          refine R_region ?_
          refine L_val rfl rfl rfl (OpP.v (P_move rfl rfl)) ?_
          first | (refine L_val rfl rfl rfl (OpP.v (P_addN rfl rfl rfl (by simp only [fits]; omega))) ?_) | (refine L_val rfl rfl rfl (OpP.v (P_add rfl rfl rfl)) ?_)
          refine L_val rfl rfl rfl (OpP.v (P_assign rfl rfl)) ?_
          refine L_nil ?_
          refine E_nat (t := 8) (n := 64 * (k + 1)) rfl (by omega) ?_
          exact Q_round (k + 1) (by omega) (by omega) (by repeat (first | exact .nil | refine .cons rfl ?_)) (by rw [cmpN_succ]; exact Weak.refl _)
        · skip
          obtain rfl : k = (tailB xs).length / 64 := by omega
          rw [cmp_padded]
          refine R_exit ?_
          refine Q_then_exit ?_
          refine Q_then_exit ?_
          refine Q_block_eq ?_
          refine St.env (.cons (t := 2) rfl (.cons (t := 3) rfl .nil)) ?_
          refine Q_then ?_
          refine R_seq ?_
          refine R_region ?_
          refine L_op rfl (W_alloc rfl rfl rfl ty_ze_107 fun b9 => ?_)
          refine L_nil ?_
          refine Q_then ?_
          refine R_seq ?_
          refine R_seq ?_
          refine R_region ?_
          refine L_val rfl rfl rfl (OpP.v (P_assign rfl rfl)) ?_
          refine L_nil ?_
          refine Q_then ?_
          refine R_block ?_
          refine R_loop (G := Nat) (fun i => [(2, .pointer (some ⟨b2, 0, none⟩)), (3, .pointer (some ⟨b3, 0, none⟩)), (9, .pointer (some ⟨b9, 0, none⟩)), (10, .int .i64 (i : Int))]) (fun i => [blk b9 (ints .u8 (fillN (outF (cmp (padded xs))) 32 i)) 107, blk ob (ints .u8 (tailB xs) ++ junk) 5, blk b3 (ints .u32 (cmp (padded xs))) 121, blk b2 (List.replicate 32 (.int .u8 0)) 107]) (fun i => i ≤ 32) (fun i => 32 - i) (0) (by omega) (by repeat (first | exact .nil | refine .cons rfl ?_)) (by rw [fillN_zero]; exact Weak.refl _) ?_
          intro i hi
          refine R_seq ?_
          refine R_seq ?_
          refine R_region ?_
          refine L_val rfl rfl rfl (OpP.v (P_move rfl rfl)) ?_
          refine L_val rfl rfl rfl (OpP.v (P_lss rfl rfl rfl)) ?_
          refine L_nil ?_
          refine Q_then ?_
          refine R_condP rfl (fun hli => ?_) (fun hli => ?_)
          · skip
            refine R_skip ?_
            refine Q_then ?_
            refine R_seq ?_
            refine R_block ?_
            refine R_region ?_
            refine L_val rfl rfl rfl (OpP.v (P_move rfl rfl)) ?_
            refine L_val rfl rfl rfl (OpP.v (P_move rfl rfl)) ?_
            refine L_val rfl rfl rfl (OpP.v (P_quo rfl rfl rfl (by decide))) ?_
            refine E_as (t := 77) (v' := .int .i64 ((i / 4 : Nat) : Int)) rfl (congrArg (Value.int .i64) (quoN _ 4 (by omega))) ?_
            first | (refine L_val rfl rfl rfl (OpP.v (P_ixa0 (i / 4) rfl ty_ar_121 rfl rfl (by first | rfl | omega) (by omega))) ?_) | (refine L_val rfl rfl rfl (OpP.v (P_ixa (i / 4) rfl ty_ar_121 rfl rfl (by first | rfl | omega) (by omega))) ?_)
            refine L_val rfl rfl rfl (V_load rfl rfl ty_sc_88 (Rd.blk .h2 (ints_at (by rw [cmp_length]; omega)))) ?_
            refine L_val rfl rfl rfl (OpP.v (P_move rfl rfl)) ?_
            refine L_val rfl rfl rfl (OpP.v (P_rem rfl rfl rfl (by decide))) ?_
            refine E_as (t := 81) (v' := .int .i64 ((i % 4 : Nat) : Int)) rfl (congrArg (Value.int .i64) (tmodN _ 4)) ?_
            first | (refine L_val rfl rfl rfl (OpP.v (P_mulN rfl rfl rfl (by simp only [fits]; omega))) ?_) | (refine L_val rfl rfl rfl (OpP.v (P_mul rfl rfl rfl)) ?_)
            first | (refine L_val rfl rfl rfl (OpP.v (P_subN rfl rfl rfl (by simp only [fits]; omega))) ?_) | (refine L_val rfl rfl rfl (OpP.v (P_sub rfl rfl rfl)) ?_)
            refine L_val rfl rfl rfl (OpP.v (P_convN rfl ty_int_3 ty_int_105 rfl (by simp only [fits]; omega))) ?_
            refine L_val rfl rfl rfl (OpP.v (P_shr rfl rfl rfl (by omega))) ?_
            refine L_val rfl rfl rfl (OpP.v (P_conv rfl ty_int_88 ty_int_5 rfl)) ?_
            first | (refine L_val rfl rfl rfl (OpP.v (P_ixa0 (i) rfl ty_ar_107 rfl rfl (by first | rfl | omega) (by omega))) ?_) | (refine L_val rfl rfl rfl (OpP.v (P_ixa (i) rfl ty_ar_107 rfl rfl (by first | rfl | omega) (by omega))) ?_)
            refine L_op rfl (W_store rfl rfl rfl rfl ty_sc_5 rfl .h0 (by rw [ints_length, fillN_length]; omega) ?_)
            rw [ints_set]
            refine L_nil ?_
            refine Q_block ?_
            refine Q_then ?_
            refine R_region ?_
            refine L_val rfl rfl rfl (OpP.v (P_move rfl rfl)) ?_
            first | (refine L_val rfl rfl rfl (OpP.v (P_addN rfl rfl rfl (by simp only [fits]; omega))) ?_) | (refine L_val rfl rfl rfl (OpP.v (P_add rfl rfl rfl)) ?_)
            refine L_val rfl rfl rfl (OpP.v (P_assign rfl rfl)) ?_
            refine L_nil ?_
            refine E_nat (t := 10) (n := i + 1) rfl (by omega) ?_
            exact Q_round (i + 1) (by omega) (by omega) (by repeat (first | exact .nil | refine .cons rfl ?_)) (by rw [← fillN_set]; exact Weak.refl _)
          · skip
            obtain rfl : i = 32 := by omega
            rw [fillN_full]
            refine St.res (rs' := [blk b9 (ints .u8 (sha xs)) 107, blk ob (ints .u8 (tailB xs) ++ junk) 5, blk b3 (ints .u32 (cmp (padded xs))) 121, blk b2 (List.replicate 32 (.int .u8 0)) 107]) (Weak.refl _) ?_
            refine R_exit ?_
            refine Q_then_exit ?_
            refine Q_then_exit ?_
            refine Q_block_eq ?_
            refine St.env (.cons (t := 2) rfl (.cons (t := 9) rfl .nil)) ?_
            refine Q_then ?_
            refine R_seq ?_
            refine R_region ?_
            refine L_val rfl rfl rfl (V_loadAgg rfl rfl ty_ag_107 (Rds.blk .h0) (by rw [ints_length, sha_length])) ?_
            refine L_op rfl (W_storeAll rfl rfl rfl rfl ty_ag_107 (by rw [ints_length, sha_length]) (ints_one) .h3 (by rw [ints_length, sha_length]; rfl) ?_)
            refine L_nil ?_
            refine St.env (.cons (t := 2) rfl .nil) ?_
            refine Q_then ?_
            refine R_ret ?_
            exact R_endV rfl rfl (.cell rfl (Rds.loadVar ty_ag_107 (Rds.blk .h3) (by rw [ints_length, sha_length])) .nil) (rfl)
end Go.Proofs.YtnaadddnbfnahaaDoor
