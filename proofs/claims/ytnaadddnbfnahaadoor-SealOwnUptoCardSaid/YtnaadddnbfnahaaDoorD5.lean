/- Walks: the Hasher's Sum and Copy. Printed by gen.py. -/
import Derived.Test.YtnaadddnbfnahaaDoorD4
set_option linter.unusedVariables false
set_option linter.unusedSimpArgs false
set_option maxRecDepth 100000
namespace Go.Proofs.YtnaadddnbfnahaaDoor
open Go Go.RowKit Go.Proofs
theorem hcells_one {made : Bool} {ws part : List Int} {held taken : Int} : ∀ v ∈ hcells made ws part held taken, v.oneCell' = true := fun v hv => by
  simp only [hcells, List.mem_append, List.mem_singleton, List.mem_cons, List.not_mem_nil, or_false] at hv
  rcases hv with ((rfl | h) | h) | (rfl | rfl)
  · rfl
  · exact ints_one v h
  · exact ints_one v h
  · rfl
  · rfl
def lenF (n : Nat) (j : Nat) : Int := IntKind.u8.wrap (shrI .u64 (IntKind.u64.wrap (IntKind.u64.wrap (n : Int) * 8)) (56 - 8 * (j : Int)))
def outF (ws : List Int) (i : Nat) : Int := IntKind.u8.wrap (shrI .u32 (ws.getD (i / 4) 0) (24 - 8 * ((i % 4 : Nat) : Int)))
theorem outF_at (ws : List Int) (i k : Nat) (h : k < 4) : outF ws (4 * i + k) = IntKind.u8.wrap (shrI .u32 (ws.getD i 0) (24 - 8 * (k : Int))) := by
  unfold outF
  rw [show (4 * i + k) / 4 = i by omega, show (4 * i + k) % 4 = k by omega]
set_option maxHeartbeats 1000000 in
theorem hsum_ok {gl : Nat → Obj} (hG : Globs gl) (b : Nat) (xs : List Int) : SpecR (cx gl) 90 [.pointer (some ⟨b, 0, none⟩)] (fun _ _ => True) [hasher b xs] (.agg (ints .u8 (sha xs)).toArray) [hasher b xs] := by
  refine Spec.enter (C := cx gl) Tryd.func90 rfl 65 rfl rfl fun w0 h0 hsep hsub hpre => ?_
  show St (cx gl) _ [(0, .pointer (some ⟨b, 0, none⟩))] _ _
  refine St.openP [] fun part hpart => ?_
  obtain ⟨hpl, hpr⟩ := hpart
  refine R_seq ?_
  refine R_region ?_
  refine L_op rfl (W_alloc rfl rfl rfl ty_ze_107 fun b2 => ?_)
  refine L_nil ?_
  refine Q_then ?_
  refine R_seq ?_
  refine R_seq ?_
  refine R_region ?_
  refine L_val rfl rfl rfl (OpP.v (P_move rfl rfl)) ?_
  refine L_op rfl (W_callV rfl rfl rfl rfl fn_ca_91 (good_ok gl b true) (fun w nw => Rd.blk .h1 rfl w nw) ?_)
  refine L_val rfl rfl rfl (OpP.v (P_not rfl rfl)) ?_
  refine L_nil ?_
  refine St.env (.cons (t := 0) rfl (.cons (t := 2) rfl (.cons (t := 13) rfl .nil))) ?_
  refine Q_then ?_
  refine R_condF rfl ?_
  refine R_skip ?_
  refine Q_then ?_
  refine R_seq ?_
  refine R_region ?_
  refine L_val rfl rfl rfl (OpP.v (P_move rfl rfl)) ?_
  refine L_val rfl rfl rfl (OpP.v (P_nil rfl rfl)) ?_
  refine L_val rfl rfl rfl (V_loadAgg rfl rfl ty_ag_158 (Rds.blk .h1) (hcells_length (cmp_length _) hpl)) ?_
  refine L_op rfl (W_alloc rfl rfl rfl ty_ze_158 fun b3 => ?_)
  refine L_op rfl (W_storeAll rfl rfl rfl rfl ty_ag_158 (hcells_length (cmp_length _) hpl) (hcells_one) .h0 (by rw [hcells_length (cmp_length _) hpl]; rfl) ?_)
  refine L_nil ?_
  refine St.env (.cons (t := 2) rfl (.cons (t := 3) rfl .nil)) ?_
  refine Q_then ?_
  refine R_seq ?_
  refine R_region ?_
  refine L_val rfl rfl rfl (OpP.v (P_fld0 rfl ty_fl_158_4 rfl)) ?_
  refine L_val rfl rfl rfl (V_load rfl rfl ty_sc_22 (Rd.blk .h0 (hcells_74 (cmp_length _) hpl))) ?_
  refine L_val rfl rfl rfl (OpP.v (P_mul rfl rfl rfl)) ?_
  refine L_val rfl rfl rfl (OpP.v (P_assign rfl rfl)) ?_
  refine L_nil ?_
  refine St.env (.cons (t := 2) rfl (.cons (t := 3) rfl (.cons (t := 4) rfl .nil))) ?_
  refine Q_then ?_
  refine R_seq ?_
  refine R_region ?_
  refine L_op rfl (W_lit (z := .nilIface) (ints .u8 [128]) rfl rfl rfl ty_sl_24 ty_lz_24 rfl rfl rfl (by decide) (by decide) (by simp [Value.cells]) (rfl) fun b21 => ?_)
  refine St.res (rs' := [blk b21 (ints .u8 [128]) 5, hasher b3 xs, blk b2 (List.replicate 32 (.int .u8 0)) 107, blk b (hcells true (cmp xs) part (xs.length % 64 : Nat) (IntKind.u64.wrap xs.length)) 158]) (Weak.keep (hcore_in rfl hpl hpr rfl)) ?_
  refine L_op rfl (W_callR rfl rfl rfl rfl fn_ca_89 (write_ok hG b3 xs [128] (some ⟨b21, 0, none⟩) 1 (by decide)) (Split.one (p := [_])) (Sn.pre (Sn.ofBlk .h0)) ?_)
  refine St.res (rs' := [hasher b3 (xs ++ [128]), blk b2 (List.replicate 32 (.int .u8 0)) 107, blk b (hcells true (cmp xs) part (xs.length % 64 : Nat) (IntKind.u64.wrap xs.length)) 158]) (Weak.keep (Weak.drop (Weak.refl _))) ?_
  refine L_nil ?_
  refine St.env (.cons (t := 2) rfl (.cons (t := 3) rfl (.cons (t := 4) rfl .nil))) ?_
  refine Q_then ?_
  refine R_seq ?_
  refine R_block ?_
  refine R_loop (G := Nat) (fun k => [(2, .pointer (some ⟨b2, 0, none⟩)), (3, .pointer (some ⟨b3, 0, none⟩)), (4, .int .u64 (IntKind.u64.wrap (IntKind.u64.wrap xs.length * 8)))]) (fun k => [hasher b3 (xs ++ [128] ++ List.replicate k 0), blk b2 (List.replicate 32 (.int .u8 0)) 107, blk b (hcells true (cmp xs) part (xs.length % 64 : Nat) (IntKind.u64.wrap xs.length)) 158]) (fun k => k ≤ padZ xs.length) (fun k => padZ xs.length - k) (0) (by omega) (by repeat (first | exact .nil | refine .cons rfl ?_)) (by simp only [List.replicate_zero, List.append_nil]; exact Weak.refl _) ?_
  intro k hk
  have hYl : (xs ++ [128] ++ List.replicate k 0).length = xs.length + 1 + k := by simp only [List.length_append, List.length_cons, List.length_nil, List.length_replicate]
  refine St.openP [] fun p2 hp2 => ?_
  obtain ⟨h2l, h2r⟩ := hp2
  refine R_seq ?_
  refine R_seq ?_
  refine R_region ?_
  refine L_val rfl rfl rfl (OpP.v (P_fld0 rfl ty_fl_158_3 rfl)) ?_
  refine L_val rfl rfl rfl (V_load rfl rfl ty_sc_3 (Rd.blk .h0 (hcells_73 (cmp_length _) h2l))) ?_
  refine L_val rfl rfl rfl (OpP.v (P_neq rfl rfl rfl)) ?_
  refine L_nil ?_
  refine Q_then ?_
  refine R_condP rfl (fun hne => ?_) (fun hne => ?_)
  · skip
    refine R_skip ?_
    refine Q_then ?_
    refine R_block ?_
    refine R_region ?_
    refine L_op rfl (W_lit (z := .nilIface) (ints .u8 [0]) rfl rfl rfl ty_sl_24 ty_lz_24 rfl rfl rfl (by decide) (by decide) (by simp [Value.cells]) (rfl) fun b26 => ?_)
    refine St.res (rs' := [blk b26 (ints .u8 [0]) 5, hasher b3 (xs ++ [128] ++ List.replicate k 0), blk b2 (List.replicate 32 (.int .u8 0)) 107, blk b (hcells true (cmp xs) part (xs.length % 64 : Nat) (IntKind.u64.wrap xs.length)) 158]) (Weak.keep (hcore_in rfl h2l h2r rfl)) ?_
    refine L_op rfl (W_callR rfl rfl rfl rfl fn_ca_89 (write_ok hG b3 (xs ++ [128] ++ List.replicate k 0) [0] (some ⟨b26, 0, none⟩) 1 (by decide)) (Split.one (p := [_])) (Sn.pre (Sn.ofBlk .h0)) ?_)
    refine St.res (rs' := [hasher b3 ((xs ++ [128] ++ List.replicate k 0) ++ [0]), blk b2 (List.replicate 32 (.int .u8 0)) 107, blk b (hcells true (cmp xs) part (xs.length % 64 : Nat) (IntKind.u64.wrap xs.length)) 158]) (Weak.keep (Weak.drop (Weak.refl _))) ?_
    refine L_nil ?_
    refine St.env (.cons (t := 2) rfl (.cons (t := 3) rfl (.cons (t := 4) rfl (.cons (t := 23) rfl (.cons (t := 24) rfl (.cons (t := 25) rfl (.cons (t := 26) rfl .nil))))))) ?_
    refine Q_block ?_
    have hYn : (xs ++ [128] ++ List.replicate k 0) ++ [0] = xs ++ [128] ++ List.replicate (k + 1) 0 := by rw [List.replicate_succ', ← List.append_assoc]
    exact Q_round (k + 1) (by unfold padZ at *; omega) (by unfold padZ at *; omega) (by repeat (first | exact .nil | refine .cons rfl ?_)) (by rw [← hYn]; exact Weak.refl _)
  · skip
    obtain rfl : k = padZ xs.length := by unfold padZ at *; omega
    refine St.res (rs' := [hasher b3 (xs ++ [128] ++ List.replicate (padZ xs.length) 0), blk b2 (List.replicate 32 (.int .u8 0)) 107, blk b (hcells true (cmp xs) part (xs.length % 64 : Nat) (IntKind.u64.wrap xs.length)) 158]) (hcore_in rfl h2l h2r rfl) ?_
    refine R_exit ?_
    refine Q_then_exit ?_
    refine Q_then_exit ?_
    refine Q_block_eq ?_
    refine St.env (.cons (t := 2) rfl (.cons (t := 3) rfl (.cons (t := 4) rfl .nil))) ?_
    refine Q_then ?_
    refine R_seq ?_
    refine R_region ?_
    refine L_op rfl (W_alloc rfl rfl rfl ty_ze_160 fun b5 => ?_)
    refine L_nil ?_
    refine Q_then ?_
    refine R_seq ?_
    refine R_seq ?_
    refine R_region ?_
    refine L_val rfl rfl rfl (OpP.v (P_move rfl rfl)) ?_
    refine L_nil ?_
    refine Q_then ?_
    refine R_block ?_
    refine R_loop (G := Nat) (fun k => [(2, .pointer (some ⟨b2, 0, none⟩)), (3, .pointer (some ⟨b3, 0, none⟩)), (4, .int .u64 (IntKind.u64.wrap (IntKind.u64.wrap xs.length * 8))), (5, .pointer (some ⟨b5, 0, none⟩)), (28, .int .i64 (k : Int))]) (fun k => [blk b5 (ints .u8 (fillN (lenF xs.length) 8 k)) 160, hasher b3 (xs ++ [128] ++ List.replicate (padZ xs.length) 0), blk b2 (List.replicate 32 (.int .u8 0)) 107, blk b (hcells true (cmp xs) part (xs.length % 64 : Nat) (IntKind.u64.wrap xs.length)) 158]) (fun k => k ≤ 8) (fun k => 8 - k) (0) (by omega) (by repeat (first | exact .nil | refine .cons rfl ?_)) (by rw [fillN_zero]; exact Weak.refl _) ?_
    intro k hk
    refine R_seq ?_
    refine R_region ?_
    refine L_val rfl rfl rfl (OpP.v (P_lss rfl rfl rfl)) ?_
    refine L_nil ?_
    refine Q_then ?_
    refine R_seq ?_
    refine R_condP rfl (fun hlt => ?_) (fun hlt => ?_)
    · skip
      refine R_skip ?_
      refine Q_then ?_
      refine R_seq ?_
      refine R_block ?_
      refine R_seq ?_
      refine R_region ?_
      refine L_val rfl rfl rfl (OpP.v (P_move rfl rfl)) ?_
      refine L_val rfl rfl rfl (OpP.v (P_assign rfl rfl)) ?_
      refine L_nil ?_
      refine Q_then ?_
      refine R_region ?_
      refine L_val rfl rfl rfl (OpP.v (P_move rfl rfl)) ?_
      refine L_val rfl rfl rfl (OpP.v (P_move rfl rfl)) ?_
      refine L_val rfl rfl rfl (OpP.v (P_move rfl rfl)) ?_
      first | (refine L_val rfl rfl rfl (OpP.v (P_mulN rfl rfl rfl (by simp only [fits]; omega))) ?_) | (refine L_val rfl rfl rfl (OpP.v (P_mul rfl rfl rfl)) ?_)
      first | (refine L_val rfl rfl rfl (OpP.v (P_subN rfl rfl rfl (by simp only [fits]; omega))) ?_) | (refine L_val rfl rfl rfl (OpP.v (P_sub rfl rfl rfl)) ?_)
      refine L_val rfl rfl rfl (OpP.v (P_shr rfl rfl rfl (by omega))) ?_
      refine L_val rfl rfl rfl (OpP.v (P_conv rfl ty_int_22 ty_int_5 rfl)) ?_
      first | (refine L_val rfl rfl rfl (OpP.v (P_ixa0 (k) rfl ty_ar_160 rfl rfl (by first | rfl | omega) (by omega))) ?_) | (refine L_val rfl rfl rfl (OpP.v (P_ixa (k) rfl ty_ar_160 rfl rfl (by first | rfl | omega) (by omega))) ?_)
      refine L_op rfl (W_store rfl rfl rfl rfl ty_sc_5 rfl .h0 (by rw [ints_length, fillN_length]; omega) ?_)
      rw [ints_set]
      refine L_nil ?_
      refine Q_block ?_
      refine Q_then ?_
      refine R_region ?_
      first | (refine L_val rfl rfl rfl (OpP.v (P_addN rfl rfl rfl (by simp only [fits]; omega))) ?_) | (refine L_val rfl rfl rfl (OpP.v (P_add rfl rfl rfl)) ?_)
      refine L_val rfl rfl rfl (OpP.v (P_move rfl rfl)) ?_
      refine L_nil ?_
      refine E_nat (t := 28) (n := k + 1) rfl (by omega) ?_
      exact Q_round (k + 1) (by omega) (by omega) (by repeat (first | exact .nil | refine .cons rfl ?_)) (by rw [← fillN_set]; exact Weak.refl _)
    · skip
      obtain rfl : k = 8 := by omega
      rw [fillN_full]
      refine R_exit ?_
      refine Q_then_exit ?_
      refine Q_then_exit ?_
      refine Q_block_eq ?_
      refine St.env (.cons (t := 2) rfl (.cons (t := 3) rfl (.cons (t := 5) rfl .nil))) ?_
      refine Q_then ?_
      refine R_seq ?_
      refine R_region ?_
      refine L_val rfl rfl rfl (OpP.v (P_sliceAll rfl ty_ar_160 rfl)) ?_
      refine L_op rfl (W_callR rfl rfl rfl rfl fn_ca_89 (write_ok hG b3 (xs ++ [128] ++ List.replicate (padZ xs.length) 0) (lenB xs.length) (some ⟨b5, 0, none⟩) 8 (by rw [lenB_length]; decide)) (Split.one (p := [_])) (Sn.pre (Sn.ofBlk .h0)) ?_)
      refine St.res (rs' := [hasher b3 (padded xs), blk b2 (List.replicate 32 (.int .u8 0)) 107, blk b (hcells true (cmp xs) part (xs.length % 64 : Nat) (IntKind.u64.wrap xs.length)) 158]) (Weak.keep (Weak.drop (Weak.refl _))) ?_
      refine L_nil ?_
      refine St.env (.cons (t := 2) rfl (.cons (t := 3) rfl .nil)) ?_
      refine Q_then ?_
      refine R_seq ?_
      refine R_region ?_
      refine L_op rfl (W_alloc rfl rfl rfl ty_ze_107 fun b7 => ?_)
      refine St.openP [_] fun p3 hp3 => ?_
      obtain ⟨h3l, h3r⟩ := hp3
      refine L_nil ?_
      refine Q_then ?_
      refine R_seq ?_
      refine R_seq ?_
      refine R_region ?_
      refine L_val rfl rfl rfl (OpP.v (P_fld0 rfl ty_fl_158_1 rfl)) ?_
      refine L_val rfl rfl rfl (V_loadAgg rfl rfl ty_ag_155 (Rds.part (Rds.blk .h1) 1 fun i v hv => hcells_words (cmp_length _) h3l i v hv) (by rw [ints_length, cmp_length])) ?_
      refine L_val rfl rfl rfl (OpP.v (P_move rfl rfl)) ?_
      refine L_nil ?_
      refine St.env (.cons (t := 2) rfl (.cons (t := 7) rfl (.cons (t := 43) rfl (.cons (t := 44) rfl .nil)))) ?_
      refine Q_then ?_
      refine R_block ?_
      refine R_loop (G := Nat) (fun i => [(2, .pointer (some ⟨b2, 0, none⟩)), (7, .pointer (some ⟨b7, 0, none⟩)), (43, .agg (ints .u32 (cmp (padded xs))).toArray), (44, .int .i64 (i : Int))]) (fun i => [blk b7 (ints .u8 (fillN (outF (cmp (padded xs))) 32 (4 * i))) 107, blk b3 (hcells true (cmp (padded xs)) p3 ((padded xs).length % 64 : Nat) (IntKind.u64.wrap (padded xs).length)) 158, blk b2 (List.replicate 32 (.int .u8 0)) 107, blk b (hcells true (cmp xs) part (xs.length % 64 : Nat) (IntKind.u64.wrap xs.length)) 158]) (fun i => i ≤ 8) (fun i => 8 - i) (0) (by omega) (by repeat (first | exact .nil | refine .cons rfl ?_)) (by rw [Nat.mul_zero, fillN_zero]; exact Weak.refl _) ?_
      intro i hi
      refine R_seq ?_
      refine R_region ?_
      refine L_val rfl rfl rfl (OpP.v (P_lss rfl rfl rfl)) ?_
      refine L_nil ?_
      refine Q_then ?_
      refine R_seq ?_
      refine R_condP rfl (fun hli => ?_) (fun hli => ?_)
      · skip
        refine R_skip ?_
        refine Q_then ?_
        refine R_seq ?_
        refine R_block ?_
        refine R_seq ?_
        refine R_region ?_
        refine L_val rfl rfl rfl (OpP.v (P_move rfl rfl)) ?_
        refine L_val rfl rfl rfl (OpP.v (P_index (i) rfl ty_ar_155 ty_sc_88 rfl rfl (by first | rfl | omega) (by omega) (ints_at (by rw [cmp_length]; omega)))) ?_
        refine L_val rfl rfl rfl (OpP.v (P_assign rfl rfl)) ?_
        refine L_val rfl rfl rfl (OpP.v (P_assign rfl rfl)) ?_
        refine L_nil ?_
        refine Q_then ?_
        refine R_seq ?_
        refine R_region ?_
        refine L_val rfl rfl rfl (OpP.v (P_move rfl rfl)) ?_
        refine L_nil ?_
        refine Q_then ?_
        refine R_block ?_
        refine R_loop (G := Nat) (fun k => [(2, .pointer (some ⟨b2, 0, none⟩)), (7, .pointer (some ⟨b7, 0, none⟩)), (8, .int .i64 (i : Int)), (9, .int .u32 ((cmp (padded xs)).getD i 0)), (43, .agg (ints .u32 (cmp (padded xs))).toArray), (44, .int .i64 (i : Int)), (46, .int .i64 (i : Int)), (47, .int .u32 ((cmp (padded xs)).getD i 0)), (48, .int .i64 (k : Int))]) (fun k => [blk b7 (ints .u8 (fillN (outF (cmp (padded xs))) 32 (4 * i + k))) 107, blk b3 (hcells true (cmp (padded xs)) p3 ((padded xs).length % 64 : Nat) (IntKind.u64.wrap (padded xs).length)) 158, blk b2 (List.replicate 32 (.int .u8 0)) 107, blk b (hcells true (cmp xs) part (xs.length % 64 : Nat) (IntKind.u64.wrap xs.length)) 158]) (fun k => k ≤ 4) (fun k => 4 - k) (0) (by omega) (by repeat (first | exact .nil | refine .cons rfl ?_)) (Weak.refl _) ?_
        intro k hk
        refine R_seq ?_
        refine R_region ?_
        refine L_val rfl rfl rfl (OpP.v (P_lss rfl rfl rfl)) ?_
        refine L_nil ?_
        refine Q_then ?_
        refine R_seq ?_
        refine R_condP rfl (fun hlk => ?_) (fun hlk => ?_)
        · skip
          refine R_skip ?_
          refine Q_then ?_
          refine R_seq ?_
          refine R_block ?_
          refine R_seq ?_
          refine R_region ?_
          refine L_val rfl rfl rfl (OpP.v (P_move rfl rfl)) ?_
          refine L_val rfl rfl rfl (OpP.v (P_assign rfl rfl)) ?_
          refine L_nil ?_
          refine Q_then ?_
          refine R_region ?_
          refine L_val rfl rfl rfl (OpP.v (P_move rfl rfl)) ?_
          first | (refine L_val rfl rfl rfl (OpP.v (P_mulN rfl rfl rfl (by simp only [fits]; omega))) ?_) | (refine L_val rfl rfl rfl (OpP.v (P_mul rfl rfl rfl)) ?_)
          refine L_val rfl rfl rfl (OpP.v (P_move rfl rfl)) ?_
          first | (refine L_val rfl rfl rfl (OpP.v (P_addN rfl rfl rfl (by simp only [fits]; omega))) ?_) | (refine L_val rfl rfl rfl (OpP.v (P_add rfl rfl rfl)) ?_)
          refine L_val rfl rfl rfl (OpP.v (P_move rfl rfl)) ?_
          refine L_val rfl rfl rfl (OpP.v (P_move rfl rfl)) ?_
          first | (refine L_val rfl rfl rfl (OpP.v (P_mulN rfl rfl rfl (by simp only [fits]; omega))) ?_) | (refine L_val rfl rfl rfl (OpP.v (P_mul rfl rfl rfl)) ?_)
          first | (refine L_val rfl rfl rfl (OpP.v (P_subN rfl rfl rfl (by simp only [fits]; omega))) ?_) | (refine L_val rfl rfl rfl (OpP.v (P_sub rfl rfl rfl)) ?_)
          refine L_val rfl rfl rfl (OpP.v (P_shr rfl rfl rfl (by omega))) ?_
          refine L_val rfl rfl rfl (OpP.v (P_conv rfl ty_int_88 ty_int_5 rfl)) ?_
          first | (refine L_val rfl rfl rfl (OpP.v (P_ixa0 (4 * i + k) rfl ty_ar_107 rfl rfl (by first | rfl | omega) (by omega))) ?_) | (refine L_val rfl rfl rfl (OpP.v (P_ixa (4 * i + k) rfl ty_ar_107 rfl rfl (by first | rfl | omega) (by omega))) ?_)
          refine L_op rfl (W_store rfl rfl rfl rfl ty_sc_5 rfl .h0 (by rw [ints_length, fillN_length]; omega) ?_)
          rw [ints_set]
          refine L_nil ?_
          refine Q_block ?_
          refine Q_then ?_
          refine R_region ?_
          first | (refine L_val rfl rfl rfl (OpP.v (P_addN rfl rfl rfl (by simp only [fits]; omega))) ?_) | (refine L_val rfl rfl rfl (OpP.v (P_add rfl rfl rfl)) ?_)
          refine L_val rfl rfl rfl (OpP.v (P_move rfl rfl)) ?_
          refine L_nil ?_
          refine E_nat (t := 48) (n := k + 1) rfl (by omega) ?_
          exact Q_round (k + 1) (by omega) (by omega) (by repeat (first | exact .nil | refine .cons rfl ?_)) (by rw [← Nat.add_assoc, ← fillN_set, outF_at _ _ _ (by omega)]; exact Weak.refl _)
        · skip
          obtain rfl : k = 4 := by omega
          refine R_exit ?_
          refine Q_then_exit ?_
          refine Q_then_exit ?_
          refine Q_block_eq ?_
          refine Q_block ?_
          refine Q_then ?_
          refine R_region ?_
          first | (refine L_val rfl rfl rfl (OpP.v (P_addN rfl rfl rfl (by simp only [fits]; omega))) ?_) | (refine L_val rfl rfl rfl (OpP.v (P_add rfl rfl rfl)) ?_)
          refine L_val rfl rfl rfl (OpP.v (P_move rfl rfl)) ?_
          refine L_nil ?_
          refine E_nat (t := 44) (n := i + 1) rfl (by omega) ?_
          exact Q_round (i + 1) (by omega) (by omega) (by repeat (first | exact .nil | refine .cons rfl ?_)) (Weak.refl _)
      · skip
        obtain rfl : i = 8 := by omega
        rw [show 4 * 8 = 32 from rfl, fillN_full]
        refine St.res (rs' := [blk b7 (ints .u8 (sha xs)) 107, blk b3 (hcells true (cmp (padded xs)) p3 ((padded xs).length % 64 : Nat) (IntKind.u64.wrap (padded xs).length)) 158, blk b2 (List.replicate 32 (.int .u8 0)) 107, blk b (hcells true (cmp xs) part (xs.length % 64 : Nat) (IntKind.u64.wrap xs.length)) 158]) (Weak.refl _) ?_
        refine R_exit ?_
        refine Q_then_exit ?_
        refine Q_then_exit ?_
        refine Q_block_eq ?_
        refine St.env (.cons (t := 2) rfl (.cons (t := 7) rfl .nil)) ?_
        refine Q_then ?_
        refine R_seq ?_
        refine R_region ?_
        refine L_val rfl rfl rfl (V_loadAgg rfl rfl ty_ag_107 (Rds.blk .h0) (by rw [ints_length, sha_length])) ?_
        refine L_op rfl (W_storeAll rfl rfl rfl rfl ty_ag_107 (by rw [ints_length, sha_length]) (ints_one) .h2 (by rw [ints_length, sha_length]; rfl) ?_)
        refine L_nil ?_
        refine St.env (.cons (t := 2) rfl .nil) ?_
        refine Q_then ?_
        refine R_ret ?_
        exact R_end (rs2 := [hasher b xs]) rfl rfl (.cell rfl (Rds.loadVar ty_ag_107 (Rds.blk .h2) (by rw [ints_length, sha_length])) .nil) (⟨rfl, rfl⟩) (Weak.drop (Weak.drop (Weak.drop (hcore_in rfl hpl hpr rfl))))
end Go.Proofs.YtnaadddnbfnahaaDoor
