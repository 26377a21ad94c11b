/- Walks: the program's Prove. Printed by gen.py. -/
import Derived.Test.YtldndhekjhlbmaaDoorD23
set_option linter.unusedVariables false
set_option linter.unusedSimpArgs false
set_option maxRecDepth 100000
namespace Go.Proofs.YtldndhekjhlbmaaDoor
open Go Go.RowKit Go.Proofs
theorem row_part {C : Cx} {F : Fx} {rs : List HP} {b n : Nat} {l : List (List Int)} (hl : ∀ x ∈ l, x.length = 32) (s : Sn C F rs (some ⟨b, 0, none⟩) (flat .u8 l)) (o m : Nat) (h : o + m ≤ l.length) : ∀ w, Now C F rs w → Row w (some ⟨b, o * 32, none⟩) (flat .u8 ((l.drop o).take m)) := fun w nw => by
  have h2 := s.rowAt (o * 32) (us := flat .u8 ((l.drop o).take m)) (fun i v hv => ?_) w nw
  · rw [Nat.zero_add] at h2; exact h2.row
  · have hd : ∀ x ∈ l.drop o, x.length = 32 := fun x hx => hl x (List.mem_of_mem_drop hx)
    rw [← flat_take hd, ← flat_drop hl, List.getElem?_take] at hv
    split at hv
    · rwa [List.getElem?_drop] at hv
    · cases hv
theorem part_len {l : List (List Int)} {o m : Nat} (h : o + m ≤ l.length) : ((l.drop o).take m).length = m := by rw [List.length_take, List.length_drop]; omega
theorem part_take {l : List (List Int)} {o m k : Nat} (h : k ≤ m) : ((l.drop o).take m).take k = (l.drop o).take k := by rw [List.take_take, Nat.min_eq_left h]
theorem part_drop {l : List (List Int)} {o m k : Nat} : ((l.drop o).take m).drop k = (l.drop (o + k)).take (m - k) := by rw [List.drop_take, List.drop_drop]
theorem prove_big {gl : Nat → Obj} (base : Option Addr) (c : Nat) (vs : List Value) (xss : List (List Int)) (at_ : Int) (hvx : vs.length = xss.length) (hc : vs.length ≤ c) (hmax : vs.length ≤ 70368744177664) (hB : bigL xss = true) : Spec (cx gl) 33 [.slice base vs.length c, .int .i64 at_] (fun w _ => Items w base vs xss) [] (ProvePost xss at_) := by
  refine Spec.enter (C := cx gl) Tryd.func33 rfl 72 rfl rfl fun w0 h0 hsep hsub hpre => ?_
  obtain rfl : h0 = Heap.none := hsep
  show St (cx gl) _ [(0, .slice base vs.length c), (1, .int .i64 at_)] _ _
  refine R_seq ?_
  refine R_region ?_
  refine L_op rfl (W_alloc rfl rfl rfl ty_ze_57 fun b4 => ?_)
  refine L_val rfl rfl rfl (OpP.v (P_assign rfl rfl)) ?_
  refine L_nil ?_
  refine Q_then ?_
  refine R_seq ?_
  refine R_region ?_
  refine L_val rfl rfl rfl (OpP.v (P_move rfl rfl)) ?_
  refine L_op rfl (W_callV rfl rfl rfl rfl fn_ca_45 (leavesOf_big base c vs xss hvx hc hmax hB) (Items.row hpre rfl) ?_)
  refine L_val rfl rfl rfl (OpP.v (P_move rfl rfl)) ?_
  refine L_val rfl rfl rfl (OpP.v (P_extract rfl rfl rfl)) ?_
  refine L_val rfl rfl rfl (OpP.v (P_extract rfl rfl rfl)) ?_
  refine L_val rfl rfl rfl (OpP.v (P_assign rfl rfl)) ?_
  refine L_val rfl rfl rfl (OpP.v (P_assign rfl rfl)) ?_
  refine L_nil ?_
  refine St.env (.cons (t := 1) rfl (.cons (t := 4) rfl (.cons (t := 5) rfl (.cons (t := 6) rfl (.cons (t := 7) rfl .nil))))) ?_
  refine Q_then ?_
  refine R_seq ?_
  refine R_seq ?_
  refine R_region ?_
  refine L_val rfl rfl rfl (OpP.v (P_move rfl rfl)) ?_
  refine L_val rfl rfl rfl (OpP.v (P_neq rfl rfl rfl)) ?_
  refine E_true (t := 16) rfl (rfl) ?_
  refine L_nil ?_
  refine St.env (.cons (t := 1) rfl (.cons (t := 4) rfl (.cons (t := 5) rfl (.cons (t := 6) rfl (.cons (t := 7) rfl (.cons (t := 16) rfl .nil)))))) ?_
  refine Q_then ?_
  refine R_condT rfl ?_
  refine R_seq ?_
  refine R_region ?_
  refine L_val rfl rfl rfl (OpP.v (P_buildStruct rfl ty_pl_57 ty_ze_57 rfl rfl (rfl))) ?_
  refine E_as (t := 17) (v' := .agg [.int .i64 0, .int .i64 0, .slice none 0 0].toArray) rfl rfl ?_
  refine L_val rfl rfl rfl (OpP.v (P_move rfl rfl)) ?_
  refine L_op rfl (W_storeAll rfl rfl rfl rfl ty_ag_57 (rfl) (by intro v hv; simp at hv; rcases hv with rfl | rfl | rfl <;> rfl) .h0 (rfl) ?_)
  refine L_val rfl rfl rfl (OpP.v (P_assign rfl rfl)) ?_
  refine L_nil ?_
  refine St.env (.cons (t := 1) rfl (.cons (t := 4) rfl (.cons (t := 5) rfl (.cons (t := 6) rfl .nil)))) ?_
  refine Q_then ?_
  refine R_ret ?_
  refine Q_then_ret ?_
  exact R_end (rs2 := [ownS 23 32 (.slice none 0 0) 0 []]) rfl rfl (.cell rfl (Rds.loadVar ty_ag_57 (Rds.blk .h0) rfl) (.tmp rfl .nil)) (prove_err (proveE_big hB) (by decide)) (Weak.trans Weak.newNil (Weak.keep (Weak.nil _)))
set_option maxHeartbeats 1000000 in
theorem prove_ok2 {gl : Nat → Obj} (hG : Globs gl) (base : Option Addr) (c : Nat) (vs : List Value) (xss : List (List Int)) (at_ : Int) (hvx : vs.length = xss.length) (hc : vs.length ≤ c) (hmax : vs.length ≤ 70368744177664) (hB : bigL xss = false) : Spec (cx gl) 33 [.slice base vs.length c, .int .i64 at_] (fun w _ => Items w base vs xss) [] (ProvePost xss at_) := by
  refine Spec.enter (C := cx gl) Tryd.func33 rfl 72 rfl rfl fun w0 h0 hsep hsub hpre => ?_
  obtain rfl : h0 = Heap.none := hsep
  show St (cx gl) _ [(0, .slice base vs.length c), (1, .int .i64 at_)] _ _
  obtain ⟨g1, _, g3⟩ := bigL_false hB
  refine R_seq ?_
  refine R_region ?_
  refine L_op rfl (W_alloc rfl rfl rfl ty_ze_57 fun b4 => ?_)
  refine L_val rfl rfl rfl (OpP.v (P_assign rfl rfl)) ?_
  refine L_nil ?_
  refine Q_then ?_
  refine R_seq ?_
  refine R_region ?_
  refine L_val rfl rfl rfl (OpP.v (P_move rfl rfl)) ?_
  refine L_op rfl (W_call rfl rfl rfl rfl fn_ca_45 (leavesOf_ok hG base c vs xss hvx hc hmax hB) (Split.nil _) (fun w a b _ hb dj m => Items.row hpre rfl w ⟨_, hb, m.le (Heap.le_join_right dj)⟩) fun v12 rs1 ⟨lb, e1, e2⟩ => ?_)
  subst e1; subst e2
  refine St.res (rs' := [blk lb (flat .u8 (leaves xss)) 23, blk b4 [.int .i64 0, .int .i64 0, .slice none 0 0] 57]) (Weak.refl _) ?_
  refine L_val rfl rfl rfl (OpP.v (P_move rfl rfl)) ?_
  refine L_val rfl rfl rfl (OpP.v (P_extract rfl rfl rfl)) ?_
  refine L_val rfl rfl rfl (OpP.v (P_extract rfl rfl rfl)) ?_
  refine L_val rfl rfl rfl (OpP.v (P_assign rfl rfl)) ?_
  refine L_val rfl rfl rfl (OpP.v (P_assign rfl rfl)) ?_
  refine L_nil ?_
  refine St.env (.cons (t := 1) rfl (.cons (t := 4) rfl (.cons (t := 5) rfl (.cons (t := 6) rfl (.cons (t := 7) rfl .nil))))) ?_
  refine Q_then ?_
  refine R_seq ?_
  refine R_seq ?_
  refine R_region ?_
  refine L_val rfl rfl rfl (OpP.v (P_move rfl rfl)) ?_
  refine L_val rfl rfl rfl (OpP.v (P_neq rfl rfl rfl)) ?_
  refine E_false (t := 16) rfl (rfl) ?_
  refine L_nil ?_
  refine St.env (.cons (t := 1) rfl (.cons (t := 4) rfl (.cons (t := 5) rfl (.cons (t := 6) rfl (.cons (t := 7) rfl (.cons (t := 16) rfl .nil)))))) ?_
  refine Q_then ?_
  refine R_condF rfl ?_
  refine R_skip ?_
  refine Q_then ?_
  refine R_seq ?_
  refine R_seq ?_
  refine R_region ?_
  refine L_val rfl rfl rfl (OpP.v (P_move rfl rfl)) ?_
  refine L_val rfl rfl rfl (OpP.v (P_lss rfl rfl rfl)) ?_
  refine E_bool (t := 20) rfl (fun h1 => ?_) (fun h1 => ?_)
  · skip
    refine L_val rfl rfl rfl (OpP.v (P_move rfl rfl)) ?_
    refine L_no rfl rfl rfl ?_
    refine L_no rfl rfl rfl ?_
    refine L_no rfl rfl rfl ?_
    refine L_no rfl rfl rfl ?_
    refine L_val rfl rfl rfl (OpP.v (P_pick rfl rfl rfl)) ?_
    refine L_nil ?_
    refine St.env (.cons (t := 1) rfl (.cons (t := 4) rfl (.cons (t := 5) rfl (.cons (t := 6) rfl (.cons (t := 26) rfl .nil))))) ?_
    refine Q_then ?_
    refine R_condT rfl ?_
    refine R_seq ?_
    refine R_region ?_
    refine L_val rfl rfl rfl (OpP.v (P_buildStruct rfl ty_pl_57 ty_ze_57 rfl rfl (rfl))) ?_
    refine E_as (t := 27) (v' := .agg [.int .i64 0, .int .i64 0, .slice none 0 0].toArray) rfl rfl ?_
    refine L_op rfl (W_storeAll rfl rfl rfl rfl ty_ag_57 (rfl) (by intro v hv; simp at hv; rcases hv with rfl | rfl | rfl <;> rfl) .h1 (rfl) ?_)
    refine L_val rfl rfl rfl (OpP.v (P_assign rfl rfl)) ?_
    refine L_nil ?_
    refine St.env (.cons (t := 1) rfl (.cons (t := 4) rfl (.cons (t := 5) rfl (.cons (t := 6) rfl .nil)))) ?_
    refine Q_then ?_
    refine R_ret ?_
    refine Q_then_ret ?_
    exact R_end (rs2 := [ownS 23 32 (.slice none 0 0) 0 []]) rfl rfl (.cell rfl (Rds.loadVar ty_ag_57 (Rds.blk .h1) rfl) (.tmp rfl .nil)) (prove_err (proveE_out hB (by have := of_decide_eq_true h1; omega)) (by decide)) (Weak.trans Weak.newNil (Weak.keep (Weak.nil _)))
  · skip
    refine L_val rfl rfl rfl (OpP.v (P_move rfl rfl)) ?_
    refine L_val rfl rfl rfl (OpP.v (P_move rfl rfl)) ?_
    refine L_val rfl rfl rfl (OpP.v (P_move rfl rfl)) ?_
    refine L_val rfl rfl rfl (OpP.v (P_len rfl ty_sl_55 rfl)) ?_
    refine L_val rfl rfl rfl (OpP.v (P_geq rfl rfl rfl)) ?_
    refine E_bool (t := 25) rfl (fun h2 => ?_) (fun h2 => ?_)
    · skip
      refine L_val rfl rfl rfl (OpP.v (P_pick rfl rfl rfl)) ?_
      refine L_nil ?_
      refine St.env (.cons (t := 1) rfl (.cons (t := 4) rfl (.cons (t := 5) rfl (.cons (t := 6) rfl (.cons (t := 26) rfl .nil))))) ?_
      refine Q_then ?_
      refine R_condT rfl ?_
      refine R_seq ?_
      refine R_region ?_
      refine L_val rfl rfl rfl (OpP.v (P_buildStruct rfl ty_pl_57 ty_ze_57 rfl rfl (rfl))) ?_
      refine E_as (t := 27) (v' := .agg [.int .i64 0, .int .i64 0, .slice none 0 0].toArray) rfl rfl ?_
      refine L_op rfl (W_storeAll rfl rfl rfl rfl ty_ag_57 (rfl) (by intro v hv; simp at hv; rcases hv with rfl | rfl | rfl <;> rfl) .h1 (rfl) ?_)
      refine L_val rfl rfl rfl (OpP.v (P_assign rfl rfl)) ?_
      refine L_nil ?_
      refine St.env (.cons (t := 1) rfl (.cons (t := 4) rfl (.cons (t := 5) rfl (.cons (t := 6) rfl .nil)))) ?_
      refine Q_then ?_
      refine R_ret ?_
      refine Q_then_ret ?_
      exact R_end (rs2 := [ownS 23 32 (.slice none 0 0) 0 []]) rfl rfl (.cell rfl (Rds.loadVar ty_ag_57 (Rds.blk .h1) rfl) (.tmp rfl .nil)) (prove_err (proveE_out hB (by have := of_decide_eq_true h2; rw [leaves_length] at this; omega)) (by decide)) (Weak.trans Weak.newNil (Weak.keep (Weak.nil _)))
    · skip
      have hll : (leaves xss).length = xss.length := leaves_length xss
      obtain ⟨i, rfl⟩ : ∃ i : Nat, at_ = i := ⟨at_.toNat, by have := of_decide_eq_false h1; omega⟩
      have hi : i < xss.length := by have := of_decide_eq_false h2; omega
      refine L_val rfl rfl rfl (OpP.v (P_pick rfl rfl rfl)) ?_
      refine L_nil ?_
      refine St.env (.cons (t := 1) rfl (.cons (t := 4) rfl (.cons (t := 5) rfl (.cons (t := 6) rfl (.cons (t := 26) rfl .nil))))) ?_
      refine Q_then ?_
      refine R_condF rfl ?_
      refine R_skip ?_
      refine Q_then ?_
      refine R_seq ?_
      refine R_region ?_
      refine L_val rfl rfl rfl (OpP.v (P_move rfl rfl)) ?_
      refine L_val rfl rfl rfl (OpP.v (P_len rfl ty_sl_55 rfl)) ?_
      refine L_val rfl rfl rfl (OpP.v (P_move rfl rfl)) ?_
      refine L_val rfl rfl rfl (OpP.v (P_buildStruct rfl ty_pl_57 ty_ze_57 rfl rfl (rfl))) ?_
      refine E_as (t := 31) (v' := .agg [.int .i64 ((leaves xss).length : Int), .int .i64 (i : Int), .slice none 0 0].toArray) rfl rfl ?_
      refine L_op rfl (W_alloc rfl rfl rfl ty_ze_57 fun b8 => ?_)
      refine L_op rfl (W_storeAll rfl rfl rfl rfl ty_ag_57 (rfl) (by intro v hv; simp at hv; rcases hv with rfl | rfl | rfl <;> rfl) .h0 (rfl) ?_)
      refine L_nil ?_
      refine St.env (.cons (t := 1) rfl (.cons (t := 4) rfl (.cons (t := 5) rfl (.cons (t := 6) rfl (.cons (t := 8) rfl .nil))))) ?_
      refine Q_then ?_
      refine R_seq ?_
      refine R_block ?_
      refine St.res (rs' := [ownS 23 32 (.slice none 0 0) (0) (flat .u8 ([])), blk b8 [.int .i64 ((leaves xss).length : Int), .int .i64 (i : Int), .slice none 0 0] 57, blk lb (flat .u8 (leaves xss)) 23, blk b4 [.int .i64 0, .int .i64 0, .slice none 0 0] 57]) (Weak.newNil) ?_
      refine R_loop (G := Option Addr × Nat × List (List Int) × Nat × Nat × Nat × Nat) (fun g => [(1, .int .i64 (g.2.2.2.2.2.2 : Int)), (4, .pointer (some ⟨b4, 0, none⟩)), (5, .int .i64 0), (6, .slice (some ⟨lb, g.2.2.2.1 * 32, none⟩) g.2.2.2.2.1 g.2.2.2.2.2.1), (8, .pointer (some ⟨b8, 0, none⟩))]) (fun g => [ownS 23 32 (.slice g.1 g.2.2.1.length g.2.1) g.2.2.1.length (flat .u8 g.2.2.1), blk b8 [.int .i64 ((leaves xss).length : Int), .int .i64 (i : Int), .slice g.1 g.2.2.1.length g.2.1] 57, blk lb (flat .u8 (leaves xss)) 23, blk b4 [.int .i64 0, .int .i64 0, .slice none 0 0] 57]) (fun g => wayH (leaves xss) i = wayH (((leaves xss).drop g.2.2.2.1).take g.2.2.2.2.1) g.2.2.2.2.2.2 ++ g.2.2.1.reverse ∧ g.2.2.2.1 + g.2.2.2.2.1 ≤ (leaves xss).length ∧ g.2.2.2.2.1 ≤ g.2.2.2.2.2.1 ∧ 1 ≤ g.2.2.2.2.1 ∧ g.2.2.2.2.2.2 < g.2.2.2.2.1 ∧ g.2.2.1.length + g.2.2.2.2.1 ≤ (leaves xss).length) (fun g => g.2.2.2.2.1) ((none, 0, [], 0, (leaves xss).length, (leaves xss).length, i)) (⟨by simp, by simp, Nat.le_refl _, by show 1 ≤ (leaves xss).length; omega, by show i < (leaves xss).length; omega, by simp⟩) (by repeat (first | exact .nil | refine .cons rfl ?_)) (Weak.refl _) ?_
      rintro ⟨ab, ac, acc, o, m, mc, i1⟩ hinv
      replace hinv : wayH (leaves xss) i = wayH (((leaves xss).drop o).take m) i1 ++ acc.reverse ∧ o + m ≤ (leaves xss).length ∧ m ≤ mc ∧ 1 ≤ m ∧ i1 < m ∧ acc.length + m ≤ (leaves xss).length := hinv
      show St (cx gl) _ [(1, .int .i64 (i1 : Int)), (4, .pointer (some ⟨b4, 0, none⟩)), (5, .int .i64 0), (6, .slice (some ⟨lb, o * 32, none⟩) m mc), (8, .pointer (some ⟨b8, 0, none⟩))] [ownS 23 32 (.slice ab acc.length ac) acc.length (flat .u8 acc), blk b8 [.int .i64 ((leaves xss).length : Int), .int .i64 (i : Int), .slice ab acc.length ac] 57, blk lb (flat .u8 (leaves xss)) 23, blk b4 [.int .i64 0, .int .i64 0, .slice none 0 0] 57] _
      obtain ⟨hw, ho, hmc, hm1, hi1, hal⟩ := hinv
      refine R_seq ?_
      refine R_seq ?_
      refine R_region ?_
      refine L_val rfl rfl rfl (OpP.v (P_move rfl rfl)) ?_
      refine L_val rfl rfl rfl (OpP.v (P_len rfl ty_sl_55 rfl)) ?_
      refine L_val rfl rfl rfl (OpP.v (P_gtr rfl rfl rfl)) ?_
      refine L_nil ?_
      refine Q_then ?_
      refine R_condP rfl (fun hgt => ?_) (fun hgt => ?_)
      · skip
        have hn : 1 < m := by omega
        have hk1 := splitN_lt hn
        have hk2 := splitN_pos hn
        have hpl : (((leaves xss).drop o).take m).length = m := part_len ho
        have hll : (leaves xss).length = xss.length := leaves_length xss
        refine R_skip ?_
        refine Q_then ?_
        refine R_block ?_
        refine R_seq ?_
        refine R_region ?_
        refine L_val rfl rfl rfl (OpP.v (P_move rfl rfl)) ?_
        refine L_val rfl rfl rfl (OpP.v (P_len rfl ty_sl_55 rfl)) ?_
        refine L_op rfl (W_callV rfl rfl rfl rfl fn_ca_55 (split_ok gl m (by omega)) (fun _ _ => trivial) ?_)
        refine L_val rfl rfl rfl (OpP.v (P_assign rfl rfl)) ?_
        refine L_nil ?_
        refine Q_then ?_
        refine R_seq ?_
        refine R_region ?_
        refine L_val rfl rfl rfl (OpP.v (P_move rfl rfl)) ?_
        refine L_val rfl rfl rfl (OpP.v (P_move rfl rfl)) ?_
        refine L_val rfl rfl rfl (OpP.v (P_lss rfl rfl rfl)) ?_
        refine L_nil ?_
        refine Q_then ?_
        refine R_condP rfl (fun hk => ?_) (fun hk => ?_)
        · skip
          refine R_seq ?_
          refine R_open [(0, 0), (1, 1), (2, 0), (3, 0), (4, 0), (5, 2), (6, 2), (7, 3), (8, 0), (9, 3)] mixed (by kernel_rfl) (QOk.then (QOk.block (QOk.then (QOk.block (QOk.then QOk.body))))) ?_
          refine O_pure rfl rfl rfl rfl (P_fld0 rfl ty_fl_57_2 rfl) ?_
          refine O_val rfl rfl rfl rfl (V_load rfl rfl ty_sc_55 (Rd.blk .h1 rfl)) ?_
          refine O_pure rfl rfl rfl rfl (P_move rfl rfl) ?_
          refine O_pure rfl rfl rfl rfl (P_move rfl rfl) ?_
          refine O_pure rfl rfl rfl rfl (P_slice (splitN m) m rfl ty_sl_55 rfl ⟨_, rfl⟩ rfl (by omega) (by omega)) ?_
          refine E_as (t := 45) (v' := .slice (some ⟨lb, (o + splitN m) * 32, none⟩) (((leaves xss).drop (o + (splitN m))).take (m - (splitN m))).length (mc - splitN m)) rfl (by unfold sliced; rw [if_neg (by omega), Option.map_some, add_zero_off, Nat.add_mul]; rw [part_len (by omega)]) ?_
          refine O_keep rfl rfl (W_callV rfl rfl rfl rfl fn_ca_47 (top_ok hG xss.length _ _ (((leaves xss).drop (o + (splitN m))).take (m - (splitN m))) (by rw [part_len (by omega)]; omega) (by omega) (fun x hx => leaves_len xss x (List.mem_of_mem_drop (List.mem_of_mem_take hx))) (by rw [part_len (by omega)]; omega)) (row_part (n := 0) (leaves_len xss) (Sn.ofBlk .h2) _ _ (by omega)) (K_keep (Weak.refl _) ?_))
          refine O_keep rfl rfl (W_lit (z := .nilIface) (ints .u8 (topH (((leaves xss).drop (o + (splitN m))).take (m - (splitN m))))) rfl rfl rfl ty_sl_55 ty_lz_55 rfl rfl rfl (by decide) (by decide) (by intro v hv; simp only [List.mem_singleton] at hv; subst hv; show (ints .u8 (topH (((leaves xss).drop (o + (splitN m))).take (m - (splitN m))))).toArray.size = 32; rw [List.size_toArray, ints_length, topH_length (fun x hx => leaves_len xss x (List.mem_of_mem_drop (List.mem_of_mem_take hx)))]) (by simp [Value.cells]) fun b47 => (K_keep (Weak.drop (Weak.refl _)) ?_))
          refine O_new rfl rfl (W_append (p := [_]) rfl rfl rfl ty_sl_55 ty_ap_55 ty_src_55 rfl rfl rfl (Src.slice (sz := 32) (m := 1) (news := ints .u8 (topH (((leaves xss).drop (o + (splitN m))).take (m - (splitN m))))) (Rds.blk .h0) (by rw [ints_length, topH_length (fun x hx => leaves_len xss x (List.mem_of_mem_drop (List.mem_of_mem_take hx)))]) ints_one) (by omega) (by simp only [maxLen]; omega) fun v48 => ?_)
          refine St.res (rs' := [ownS 23 32 (v48) ((acc ++ [topH (((leaves xss).drop (o + (splitN m))).take (m - (splitN m)))]).length) (flat .u8 (acc ++ [topH (((leaves xss).drop (o + (splitN m))).take (m - (splitN m)))])), blk b8 [.int .i64 ((leaves xss).length : Int), .int .i64 (i : Int), .slice ab acc.length ac] 57, blk lb (flat .u8 (leaves xss)) 23, blk b4 [.int .i64 0, .int .i64 0, .slice none 0 0] 57]) (Weak.drop (ownS.to (by simp) (by rw [flat_append]; simp [flat]))) ?_
          refine St.ownForm (p := []) fun ab2 ac2 hav hac => ?_
          subst hav
          refine K_new ?_
          refine O_pure rfl rfl rfl rfl (P_fld0 rfl ty_fl_57_2 rfl) ?_
          refine O_new rfl rfl (W_store rfl rfl rfl rfl ty_sc_55 rfl .h1 (by simp) (K_new ?_))
          refine O_nil ?_
          refine Q_then ?_
          refine R_region ?_
          refine L_val rfl rfl rfl (OpP.v (P_move rfl rfl)) ?_
          refine L_val rfl rfl rfl (OpP.v (P_move rfl rfl)) ?_
          refine L_val rfl rfl rfl (OpP.v (P_slice 0 (splitN m) rfl ty_sl_55 rfl rfl ⟨_, rfl⟩ (by omega) (by omega))) ?_
          refine E_as (t := 52) (v' := .slice (some ⟨lb, o * 32, none⟩) (splitN m) mc) rfl (by unfold sliced; rw [if_neg (by omega)]; simp [add_zero_off]) ?_
          refine L_val rfl rfl rfl (OpP.v (P_assign rfl rfl)) ?_
          refine L_nil ?_
          refine Q_block ?_
          exact Q_round ((ab2, ac2, acc ++ [topH (((leaves xss).drop (o + (splitN m))).take (m - (splitN m)))], o, splitN m, mc, i1)) (⟨by show wayH (leaves xss) i = wayH (((leaves xss).drop o).take (splitN m)) i1 ++ (acc ++ [topH (((leaves xss).drop (o + (splitN m))).take (m - (splitN m)))]).reverse; rw [hw, wayH_left (by rw [hpl]; exact hn) (by rw [hpl]; omega), hpl, part_take (by omega), part_drop]; simp, by show o + splitN m ≤ _; omega, by show splitN m ≤ mc; omega, by show 1 ≤ splitN m; omega, by show i1 < splitN m; omega, by show (acc ++ [topH (((leaves xss).drop (o + (splitN m))).take (m - (splitN m)))]).length + splitN m ≤ _; rw [List.length_append]; simp only [List.length_singleton]; omega⟩) (by show splitN m < m; omega) (by repeat (first | exact .nil | refine .cons rfl ?_)) (Weak.refl _)
        · skip
          refine R_seq ?_
          refine R_open [(0, 0), (1, 1), (2, 0), (3, 0), (4, 0), (5, 2), (6, 2), (7, 3), (8, 0), (9, 3)] mixed (by kernel_rfl) (QOk.then (QOk.block (QOk.then (QOk.block (QOk.then QOk.body))))) ?_
          refine O_pure rfl rfl rfl rfl (P_fld0 rfl ty_fl_57_2 rfl) ?_
          refine O_val rfl rfl rfl rfl (V_load rfl rfl ty_sc_55 (Rd.blk .h1 rfl)) ?_
          refine O_pure rfl rfl rfl rfl (P_move rfl rfl) ?_
          refine O_pure rfl rfl rfl rfl (P_move rfl rfl) ?_
          refine O_pure rfl rfl rfl rfl (P_slice 0 (splitN m) rfl ty_sl_55 rfl rfl ⟨_, rfl⟩ (by omega) (by omega)) ?_
          refine E_as (t := 57) (v' := .slice (some ⟨lb, o * 32, none⟩) (((leaves xss).drop o).take (splitN m)).length mc) rfl (by unfold sliced; rw [if_neg (by omega), part_len (by omega)]; simp [add_zero_off]) ?_
          refine O_keep rfl rfl (W_callV rfl rfl rfl rfl fn_ca_47 (top_ok hG xss.length _ _ (((leaves xss).drop o).take (splitN m)) (by rw [part_len (by omega)]; omega) (by omega) (fun x hx => leaves_len xss x (List.mem_of_mem_drop (List.mem_of_mem_take hx))) (by rw [part_len (by omega)]; omega)) (row_part (n := 0) (leaves_len xss) (Sn.ofBlk .h2) _ _ (by omega)) (K_keep (Weak.refl _) ?_))
          refine O_keep rfl rfl (W_lit (z := .nilIface) (ints .u8 (topH (((leaves xss).drop o).take (splitN m)))) rfl rfl rfl ty_sl_55 ty_lz_55 rfl rfl rfl (by decide) (by decide) (by intro v hv; simp only [List.mem_singleton] at hv; subst hv; show (ints .u8 (topH (((leaves xss).drop o).take (splitN m)))).toArray.size = 32; rw [List.size_toArray, ints_length, topH_length (fun x hx => leaves_len xss x (List.mem_of_mem_drop (List.mem_of_mem_take hx)))]) (by simp [Value.cells]) fun b59 => (K_keep (Weak.drop (Weak.refl _)) ?_))
          refine O_new rfl rfl (W_append (p := [_]) rfl rfl rfl ty_sl_55 ty_ap_55 ty_src_55 rfl rfl rfl (Src.slice (sz := 32) (m := 1) (news := ints .u8 (topH (((leaves xss).drop o).take (splitN m)))) (Rds.blk .h0) (by rw [ints_length, topH_length (fun x hx => leaves_len xss x (List.mem_of_mem_drop (List.mem_of_mem_take hx)))]) ints_one) (by omega) (by simp only [maxLen]; omega) fun v60 => ?_)
          refine St.res (rs' := [ownS 23 32 (v60) ((acc ++ [topH (((leaves xss).drop o).take (splitN m))]).length) (flat .u8 (acc ++ [topH (((leaves xss).drop o).take (splitN m))])), blk b8 [.int .i64 ((leaves xss).length : Int), .int .i64 (i : Int), .slice ab acc.length ac] 57, blk lb (flat .u8 (leaves xss)) 23, blk b4 [.int .i64 0, .int .i64 0, .slice none 0 0] 57]) (Weak.drop (ownS.to (by simp) (by rw [flat_append]; simp [flat]))) ?_
          refine St.ownForm (p := []) fun ab2 ac2 hav hac => ?_
          subst hav
          refine K_new ?_
          refine O_pure rfl rfl rfl rfl (P_fld0 rfl ty_fl_57_2 rfl) ?_
          refine O_new rfl rfl (W_store rfl rfl rfl rfl ty_sc_55 rfl .h1 (by simp) (K_new ?_))
          refine O_nil ?_
          refine Q_then ?_
          refine R_region ?_
          refine L_val rfl rfl rfl (OpP.v (P_move rfl rfl)) ?_
          refine L_val rfl rfl rfl (OpP.v (P_move rfl rfl)) ?_
          refine L_val rfl rfl rfl (OpP.v (P_slice (splitN m) m rfl ty_sl_55 rfl ⟨_, rfl⟩ rfl (by omega) (by omega))) ?_
          refine E_as (t := 64) (v' := .slice (some ⟨lb, (o + splitN m) * 32, none⟩) (m - splitN m) (mc - splitN m)) rfl (by unfold sliced; rw [if_neg (by omega), Option.map_some, add_zero_off, Nat.add_mul]) ?_
          refine L_val rfl rfl rfl (OpP.v (P_move rfl rfl)) ?_
          refine L_val rfl rfl rfl (OpP.v (P_move rfl rfl)) ?_
          first | (refine L_val rfl rfl rfl (OpP.v (P_subN rfl rfl rfl (by simp only [fits]; omega))) ?_) | (refine L_val rfl rfl rfl (OpP.v (P_sub rfl rfl rfl)) ?_)
          refine E_as (t := 67) (v' := .int .i64 ((i1 - splitN m : Nat) : Int)) rfl (by congr 1; omega) ?_
          refine L_val rfl rfl rfl (OpP.v (P_assign rfl rfl)) ?_
          refine L_val rfl rfl rfl (OpP.v (P_assign rfl rfl)) ?_
          refine L_nil ?_
          refine Q_block ?_
          exact Q_round ((ab2, ac2, acc ++ [topH (((leaves xss).drop o).take (splitN m))], o + splitN m, m - splitN m, mc - splitN m, i1 - splitN m)) (⟨by show wayH (leaves xss) i = wayH (((leaves xss).drop (o + splitN m)).take (m - splitN m)) (i1 - splitN m) ++ (acc ++ [topH (((leaves xss).drop o).take (splitN m))]).reverse; rw [hw, wayH_right (by rw [hpl]; exact hn) (by rw [hpl]; omega), hpl, part_take (by omega), part_drop]; simp, by show o + splitN m + (m - splitN m) ≤ _; omega, by show m - splitN m ≤ mc - splitN m; omega, by show 1 ≤ m - splitN m; omega, by show i1 - splitN m < m - splitN m; omega, by show (acc ++ [topH (((leaves xss).drop o).take (splitN m))]).length + (m - splitN m) ≤ _; rw [List.length_append]; simp only [List.length_singleton]; omega⟩) (by show m - splitN m < m; omega) (by repeat (first | exact .nil | refine .cons rfl ?_)) (Weak.refl _)
      · skip
        rw [wayH_one (l := ((leaves xss).drop o).take m) (by rw [part_len ho]; omega), List.nil_append] at hw
        have hacc : ∀ h ∈ acc, h.length = 32 := fun h hh => wayH_len (leaves_len xss) i h (by rw [hw]; exact List.mem_reverse.2 hh)
        refine R_exit ?_
        refine Q_then_exit ?_
        refine Q_then_exit ?_
        refine Q_block_eq ?_
        refine St.env (.cons (t := 4) rfl (.cons (t := 5) rfl (.cons (t := 8) rfl .nil))) ?_
        refine Q_then ?_
        refine R_seq ?_
        refine R_region ?_
        refine L_val rfl rfl rfl (OpP.v (P_fld0 rfl ty_fl_57_2 rfl)) ?_
        refine L_val rfl rfl rfl (V_load rfl rfl ty_sc_55 (Rd.blk .h1 rfl)) ?_
        refine L_op rfl (W_callR rfl rfl rfl rfl fn_ca_56 (reverse_ok ab ac acc (hacc) (by omega)) (Split.one (p := [])) (fun _ _ _ _ _ _ _ => trivial) ?_)
        refine L_nil ?_
        refine St.env (.cons (t := 4) rfl (.cons (t := 5) rfl (.cons (t := 8) rfl .nil))) ?_
        refine Q_then ?_
        refine R_seq ?_
        refine R_region ?_
        refine L_val rfl rfl rfl (V_loadAgg rfl rfl ty_ag_57 (Rds.blk .h1) (rfl)) ?_
        refine L_op rfl (W_storeAll rfl rfl rfl rfl ty_ag_57 (rfl) (by intro v hv; simp at hv; rcases hv with rfl | rfl | rfl <;> rfl) .h3 (rfl) ?_)
        refine L_val rfl rfl rfl (OpP.v (P_assign rfl rfl)) ?_
        refine L_nil ?_
        refine St.env (.cons (t := 4) rfl (.cons (t := 5) rfl .nil)) ?_
        refine Q_then ?_
        refine R_ret ?_
        rw [leaves_length]
        have hr : acc.length = acc.reverse.length := (List.length_reverse ..).symm
        exact R_end (rs2 := _) rfl rfl (.cell rfl (Rds.loadVar ty_ag_57 (Rds.blk .h3) rfl) (.tmp rfl .nil)) (by have h := prove_fine hB hi (.slice ab acc.length ac); rw [hw] at h; exact h) (Weak.trans (ownS.to (by rw [List.length_reverse]) rfl) (Weak.keep (Weak.nil _)))
theorem prove_ok {gl : Nat → Obj} (hG : Globs gl) (base : Option Addr) (c : Nat) (vs : List Value) (xss : List (List Int)) (at_ : Int) (hvx : vs.length = xss.length) (hc : vs.length ≤ c) (hmax : vs.length ≤ 70368744177664) : Spec (cx gl) 33 [.slice base vs.length c, .int .i64 at_] (fun w _ => Items w base vs xss) [] (ProvePost xss at_) := by
  cases hB : bigL xss with
  | true => exact prove_big base c vs xss at_ hvx hc hmax hB
  | false => exact prove_ok2 hG base c vs xss at_ hvx hc hmax hB
end Go.Proofs.YtldndhekjhlbmaaDoor
