/- Walks: the reference's way. Printed by gen.py. -/
import Derived.Test.YtldndhekjhlbmaaDoorD17
import Derived.Test.YtldndhekjhlbmaaDoorProve
import Derived.Test.YtldndhekjhlbmaaDoorEngJ
set_option linter.unusedVariables false
set_option linter.unusedSimpArgs false
set_option maxRecDepth 100000
namespace Go.Proofs.YtldndhekjhlbmaaDoor
open Go Go.RowKit Go.Proofs
/-- What a Prove answers. -/
def proveE (xss : List (List Int)) (at_ : Int) : Int := if bigL xss = true then 4 else if 0 ≤ at_ ∧ at_ < xss.length then 0 else 2
def proveT (xss : List (List Int)) (at_ : Int) : Int := if proveE xss at_ = 0 then (xss.length : Int) else 0
def proveI (xss : List (List Int)) (at_ : Int) : Int := if proveE xss at_ = 0 then at_ else 0
def proveA (xss : List (List Int)) (at_ : Int) : List (List Int) := if proveE xss at_ = 0 then wayH (leaves xss) at_.toNat else []
def WayOk (gl : Nat → Obj) (b : Nat) : Prop := ∀ (base : Option Addr) (c : Nat) (vs : List Value) (xss : List (List Int)) (i : Nat), vs.length < b → 1 ≤ vs.length → vs.length ≤ 65536 → i < vs.length → vs.length = xss.length → vs.length ≤ c → (∀ x ∈ xss, x.length ≤ 140737488355000) →
  Spec (cx gl) 57 [.slice base vs.length c, .int .i64 (i : Int)] (fun w _ => Items w base vs xss) [] (fun v rs => rs = [ownS 23 32 v (wayH (leaves xss) i).length (flat .u8 (wayH (leaves xss) i))])
theorem way_step {gl : Nat → Obj} (hG : GlobsR gl) (b : Nat) (ih : WayOk gl b) : WayOk gl (b + 1) := by
  intro base c vs xss i hvb h1n hnM hi hvx hc hb
  refine Spec.enter (C := cx gl) Tryd.func57 rfl 47 rfl rfl fun w0 h0 hsep hsub hpre => ?_
  obtain rfl : h0 = Heap.none := hsep
  show St (cx gl) _ [(0, .slice base vs.length c), (1, .int .i64 (i : Int))] _ _
  refine R_seq ?_
  refine R_region ?_
  refine L_val rfl rfl rfl (OpP.v (P_assign rfl rfl)) ?_
  refine L_nil ?_
  refine Q_then ?_
  refine R_seq ?_
  refine R_seq ?_
  refine R_region ?_
  refine L_val rfl rfl rfl (OpP.v (P_move rfl rfl)) ?_
  refine L_val rfl rfl rfl (OpP.v (P_len rfl ty_sl_36 rfl)) ?_
  refine L_val rfl rfl rfl (OpP.v (P_eql rfl rfl rfl)) ?_
  refine L_nil ?_
  refine St.env (.cons (t := 0) rfl (.cons (t := 1) rfl (.cons (t := 4) rfl (.cons (t := 12) rfl .nil)))) ?_
  refine Q_then ?_
  refine R_condP rfl (fun h1 => ?_) (fun h1 => ?_)
  · skip
    refine R_seq ?_
    refine R_region ?_
    refine L_val rfl rfl rfl (OpP.v (P_assign rfl rfl)) ?_
    refine St.res (rs' := [ownS 23 32 (.slice none 0 0) 0 []]) (Weak.newNil) ?_
    refine L_nil ?_
    refine St.env (.cons (t := 0) rfl (.cons (t := 1) rfl (.cons (t := 4) rfl .nil))) ?_
    refine Q_then ?_
    refine R_ret ?_
    refine Q_then_ret ?_
    exact R_end (rs2 := _) rfl rfl (.tmp rfl .nil) (rfl) (ownS.to (by rw [wayH_one (by rw [leaves_length]; omega)]; rfl) (by rw [wayH_one (by rw [leaves_length]; omega)]; rfl))
  · skip
    have hn : 1 < vs.length := by omega
    have hk1 := splitN_lt hn
    have hk2 := splitN_pos hn
    have e1 : (vs.take (splitN vs.length)).length = splitN vs.length := by rw [List.length_take]; omega
    have e2 : (vs.drop (splitN vs.length)).length = vs.length - splitN vs.length := by rw [List.length_drop] <;> omega
    have ra1 : ∀ rs w, Now (cx gl) ⟨47, [], w0, Heap.none⟩ rs w → Items w (if c = 0 then base else base.map (·.add (0 * 1))) (vs.take (splitN vs.length)) (xss.take (splitN vs.length)) := fun rs w nw => by
      have h := (Items.row (C := cx gl) (F := ⟨47, [], w0, Heap.none⟩) (rs := rs) hpre rfl w nw).sliced (p := 0) (q := splitN vs.length) (c := c) (by omega) (by omega)
      rwa [List.drop_zero, List.drop_zero, Nat.sub_zero] at h
    have ra2 : ∀ rs w, Now (cx gl) ⟨47, [], w0, Heap.none⟩ rs w → Items w (if c = (splitN vs.length) then base else base.map (·.add ((splitN vs.length) * 1))) (vs.drop (splitN vs.length)) (xss.drop (splitN vs.length)) := fun rs w nw => by
      have h := (Items.row (C := cx gl) (F := ⟨47, [], w0, Heap.none⟩) (rs := rs) hpre rfl w nw).sliced (p := splitN vs.length) (q := vs.length) (c := c) (by omega) (Nat.le_refl _)
      rw [take_sub, List.take_of_length_le (l := xss.drop (splitN vs.length)) (by rw [List.length_drop]; omega)] at h
      exact h
    have hb1 : ∀ x ∈ (xss.take (splitN vs.length)), x.length ≤ 140737488355000 := fun x hm => hb x (List.mem_of_mem_take hm)
    have hb2 : ∀ x ∈ (xss.drop (splitN vs.length)), x.length ≤ 140737488355000 := fun x hm => hb x (List.mem_of_mem_drop hm)
    have hll : (leaves xss).length = vs.length := by rw [leaves_length, hvx]
    refine R_skip ?_
    refine Q_then ?_
    refine R_seq ?_
    refine R_region ?_
    refine L_val rfl rfl rfl (OpP.v (P_move rfl rfl)) ?_
    refine L_val rfl rfl rfl (OpP.v (P_len rfl ty_sl_36 rfl)) ?_
    refine L_op rfl (W_callV rfl rfl rfl rfl fn_ca_65 (rsplit_ok gl vs.length (by omega)) (fun _ _ => trivial) ?_)
    refine L_val rfl rfl rfl (OpP.v (P_assign rfl rfl)) ?_
    refine L_nil ?_
    refine St.env (.cons (t := 0) rfl (.cons (t := 1) rfl (.cons (t := 4) rfl (.cons (t := 5) rfl .nil)))) ?_
    refine Q_then ?_
    refine R_seq ?_
    refine R_seq ?_
    refine R_region ?_
    refine L_val rfl rfl rfl (OpP.v (P_move rfl rfl)) ?_
    refine L_val rfl rfl rfl (OpP.v (P_move rfl rfl)) ?_
    refine L_val rfl rfl rfl (OpP.v (P_lss rfl rfl rfl)) ?_
    refine L_nil ?_
    refine St.env (.cons (t := 0) rfl (.cons (t := 1) rfl (.cons (t := 4) rfl (.cons (t := 5) rfl (.cons (t := 18) rfl .nil))))) ?_
    refine Q_then ?_
    refine R_condP rfl (fun hk => ?_) (fun hk => ?_)
    · skip
      have hway : wayH (leaves xss) i = wayH (leaves (xss.take (splitN vs.length))) i ++ [topH (leaves (xss.drop (splitN vs.length)))] := by rw [wayH_left (by omega) (by rw [hll]; omega), hll, ← leaves_take, ← leaves_drop]
      have hwl : (wayH (leaves (xss.take (splitN vs.length))) i).length ≤ 65536 := by have h1 := wayH_length (leaves xss).length (leaves xss) i (Nat.le_refl _); have h2 := turnsH_len (leaves xss).length i; rw [hway, List.length_append, List.length_singleton] at h1; omega
      refine R_seq ?_
      refine R_region ?_
      refine L_val rfl rfl rfl (OpP.v (P_move rfl rfl)) ?_
      refine L_val rfl rfl rfl (OpP.v (P_move rfl rfl)) ?_
      refine L_val rfl rfl rfl (OpP.v (P_slice (splitN vs.length) vs.length rfl ty_sl_36 rfl ⟨_, rfl⟩ rfl (by omega) (by omega))) ?_
      refine E_as (t := 21) (v' := .slice (if c = (splitN vs.length) then base else base.map (·.add ((splitN vs.length) * 1))) (vs.drop (splitN vs.length)).length (c - splitN vs.length)) rfl (by unfold sliced; rw [e2]) ?_
      refine L_op rfl (W_callV rfl rfl rfl rfl fn_ca_49 (rtop_ok hG (vs.drop (splitN vs.length)).length _ _ (vs.drop (splitN vs.length)) (xss.drop (splitN vs.length)) (Nat.le_refl _) (by omega) (by simp only [List.length_drop]; omega) hb2 (by omega)) (ra2 _) ?_)
      refine L_op rfl (W_alloc rfl rfl rfl ty_ze_23 fun b6 => ?_)
      refine L_op rfl (W_storeAll rfl rfl rfl rfl ty_ag_23 (by rw [ints_length, topH_length (leaves_len _)]) (ints_one) .h0 (by rw [ints_length, topH_length (leaves_len _)]; rfl) ?_)
      refine L_nil ?_
      refine St.env (.cons (t := 0) rfl (.cons (t := 1) rfl (.cons (t := 4) rfl (.cons (t := 5) rfl (.cons (t := 6) rfl .nil))))) ?_
      refine Q_then ?_
      refine R_seq ?_
      refine R_region ?_
      refine L_val rfl rfl rfl (OpP.v (P_move rfl rfl)) ?_
      refine L_val rfl rfl rfl (OpP.v (P_move rfl rfl)) ?_
      refine L_val rfl rfl rfl (OpP.v (P_slice 0 (splitN vs.length) rfl ty_sl_36 rfl rfl ⟨_, rfl⟩ (by omega) (by omega))) ?_
      refine E_as (t := 25) (v' := .slice (if c = 0 then base else base.map (·.add (0 * 1))) (vs.take (splitN vs.length)).length c) rfl (by unfold sliced; rw [e1, Nat.sub_zero, Nat.sub_zero]) ?_
      refine L_val rfl rfl rfl (OpP.v (P_move rfl rfl)) ?_
      refine L_op rfl (W_call rfl rfl rfl rfl fn_ca_57 (ih _ _ (vs.take (splitN vs.length)) (xss.take (splitN vs.length)) i (by omega) (by omega) (by omega) (by omega) (by simp only [List.length_take]; omega) (by omega) hb1) (Split.nil _) (fun w a b _ hb dj m => ra1 _ w ⟨_, hb, m.le (Heap.le_join_right dj)⟩) fun v27 rs1 (e9 : rs1 = _) => ?_)
      subst e9
      refine St.res (rs' := [ownS 23 32 v27 (wayH (leaves (xss.take (splitN vs.length))) i).length (flat .u8 (wayH (leaves (xss.take (splitN vs.length))) i)), blk b6 (ints .u8 (topH (leaves (xss.drop (splitN vs.length))))) 23]) (Weak.refl _) ?_
      refine L_val rfl rfl rfl (OpP.v (P_assign rfl rfl)) ?_
      refine L_nil ?_
      refine St.env (.cons (t := 0) rfl (.cons (t := 1) rfl (.cons (t := 4) rfl (.cons (t := 5) rfl (.cons (t := 6) rfl (.cons (t := 7) rfl .nil)))))) ?_
      refine Q_then ?_
      refine R_seq ?_
      refine R_region ?_
      refine L_val rfl rfl rfl (OpP.v (P_move rfl rfl)) ?_
      refine L_val rfl rfl rfl (V_loadAgg rfl rfl ty_ag_23 (Rds.blk .h1) (by rw [ints_length, topH_length (leaves_len _)])) ?_
      refine L_op rfl (W_lit (z := .nilIface) (ints .u8 (topH (leaves (xss.drop (splitN vs.length))))) rfl rfl rfl ty_sl_55 ty_lz_55 rfl rfl rfl (by decide) (by decide) (by intro v hv; simp only [List.mem_singleton] at hv; subst hv; show (ints .u8 (topH (leaves (xss.drop (splitN vs.length))))).toArray.size = 32; rw [List.size_toArray, ints_length, topH_length (leaves_len _)]) (by simp [Value.cells]) fun b30 => ?_)
      refine L_op rfl (W_append (p := [_]) rfl rfl rfl ty_sl_55 ty_ap_55 ty_src_55 rfl rfl rfl (Src.slice (sz := 32) (m := 1) (news := ints .u8 (topH (leaves (xss.drop (splitN vs.length))))) (Rds.blk .h0) (by rw [ints_length, topH_length (leaves_len _)]) ints_one) (by omega) (by simp only [maxLen]; omega) fun v31 => ?_)
      refine L_val rfl rfl rfl (OpP.v (P_assign rfl rfl)) ?_
      refine L_nil ?_
      refine St.env (.cons (t := 0) rfl (.cons (t := 1) rfl (.cons (t := 4) rfl (.cons (t := 5) rfl .nil)))) ?_
      refine Q_then ?_
      refine R_ret ?_
      refine Q_then_ret ?_
      exact R_end (rs2 := _) rfl rfl (.tmp rfl .nil) (rfl) (Weak.drop (Weak.trans (ownS.to (by rw [hway, List.length_append]; rfl) (by rw [hway, flat_append]; simp [flat])) (Weak.keep (Weak.nil _))))
    · skip
      have hway : wayH (leaves xss) i = wayH (leaves (xss.drop (splitN vs.length))) (i - splitN vs.length) ++ [topH (leaves (xss.take (splitN vs.length)))] := by rw [wayH_right (by omega) (by rw [hll]; omega), hll, ← leaves_take, ← leaves_drop]
      have hwl : (wayH (leaves (xss.drop (splitN vs.length))) (i - splitN vs.length)).length ≤ 65536 := by have h1 := wayH_length (leaves xss).length (leaves xss) i (Nat.le_refl _); have h2 := turnsH_len (leaves xss).length i; rw [hway, List.length_append, List.length_singleton] at h1; omega
      refine R_skip ?_
      refine Q_then ?_
      refine R_seq ?_
      refine R_region ?_
      refine L_val rfl rfl rfl (OpP.v (P_move rfl rfl)) ?_
      refine L_val rfl rfl rfl (OpP.v (P_move rfl rfl)) ?_
      refine L_val rfl rfl rfl (OpP.v (P_slice 0 (splitN vs.length) rfl ty_sl_36 rfl rfl ⟨_, rfl⟩ (by omega) (by omega))) ?_
      refine E_as (t := 34) (v' := .slice (if c = 0 then base else base.map (·.add (0 * 1))) (vs.take (splitN vs.length)).length c) rfl (by unfold sliced; rw [e1, Nat.sub_zero, Nat.sub_zero]) ?_
      refine L_op rfl (W_callV rfl rfl rfl rfl fn_ca_49 (rtop_ok hG (vs.take (splitN vs.length)).length _ _ (vs.take (splitN vs.length)) (xss.take (splitN vs.length)) (Nat.le_refl _) (by omega) (by simp only [List.length_take]; omega) hb1 (by omega)) (ra1 _) ?_)
      refine L_op rfl (W_alloc rfl rfl rfl ty_ze_23 fun b8 => ?_)
      refine L_op rfl (W_storeAll rfl rfl rfl rfl ty_ag_23 (by rw [ints_length, topH_length (leaves_len _)]) (ints_one) .h0 (by rw [ints_length, topH_length (leaves_len _)]; rfl) ?_)
      refine L_nil ?_
      refine St.env (.cons (t := 0) rfl (.cons (t := 1) rfl (.cons (t := 4) rfl (.cons (t := 5) rfl (.cons (t := 8) rfl .nil))))) ?_
      refine Q_then ?_
      refine R_seq ?_
      refine R_region ?_
      refine L_val rfl rfl rfl (OpP.v (P_move rfl rfl)) ?_
      refine L_val rfl rfl rfl (OpP.v (P_move rfl rfl)) ?_
      refine L_val rfl rfl rfl (OpP.v (P_slice (splitN vs.length) vs.length rfl ty_sl_36 rfl ⟨_, rfl⟩ rfl (by omega) (by omega))) ?_
      refine E_as (t := 38) (v' := .slice (if c = (splitN vs.length) then base else base.map (·.add ((splitN vs.length) * 1))) (vs.drop (splitN vs.length)).length (c - splitN vs.length)) rfl (by unfold sliced; rw [e2]) ?_
      refine L_val rfl rfl rfl (OpP.v (P_move rfl rfl)) ?_
      refine L_val rfl rfl rfl (OpP.v (P_move rfl rfl)) ?_
      first | (refine L_val rfl rfl rfl (OpP.v (P_subN rfl rfl rfl (by simp only [fits]; omega))) ?_) | (refine L_val rfl rfl rfl (OpP.v (P_sub rfl rfl rfl)) ?_)
      refine E_as (t := 41) (v' := .int .i64 ((i - splitN vs.length : Nat) : Int)) rfl (by congr 1; omega) ?_
      refine L_op rfl (W_call rfl rfl rfl rfl fn_ca_57 (ih _ _ (vs.drop (splitN vs.length)) (xss.drop (splitN vs.length)) (i - splitN vs.length) (by omega) (by omega) (by omega) (by omega) (by simp only [List.length_drop]; omega) (by omega) hb2) (Split.nil _) (fun w a b _ hb dj m => ra2 _ w ⟨_, hb, m.le (Heap.le_join_right dj)⟩) fun v42 rs1 (e9 : rs1 = _) => ?_)
      subst e9
      refine St.res (rs' := [ownS 23 32 v42 (wayH (leaves (xss.drop (splitN vs.length))) (i - splitN vs.length)).length (flat .u8 (wayH (leaves (xss.drop (splitN vs.length))) (i - splitN vs.length))), blk b8 (ints .u8 (topH (leaves (xss.take (splitN vs.length))))) 23]) (Weak.refl _) ?_
      refine L_val rfl rfl rfl (OpP.v (P_assign rfl rfl)) ?_
      refine L_nil ?_
      refine St.env (.cons (t := 4) rfl (.cons (t := 8) rfl (.cons (t := 9) rfl .nil))) ?_
      refine Q_then ?_
      refine R_seq ?_
      refine R_region ?_
      refine L_val rfl rfl rfl (OpP.v (P_move rfl rfl)) ?_
      refine L_val rfl rfl rfl (V_loadAgg rfl rfl ty_ag_23 (Rds.blk .h1) (by rw [ints_length, topH_length (leaves_len _)])) ?_
      refine L_op rfl (W_lit (z := .nilIface) (ints .u8 (topH (leaves (xss.take (splitN vs.length))))) rfl rfl rfl ty_sl_55 ty_lz_55 rfl rfl rfl (by decide) (by decide) (by intro v hv; simp only [List.mem_singleton] at hv; subst hv; show (ints .u8 (topH (leaves (xss.take (splitN vs.length))))).toArray.size = 32; rw [List.size_toArray, ints_length, topH_length (leaves_len _)]) (by simp [Value.cells]) fun b45 => ?_)
      refine L_op rfl (W_append (p := [_]) rfl rfl rfl ty_sl_55 ty_ap_55 ty_src_55 rfl rfl rfl (Src.slice (sz := 32) (m := 1) (news := ints .u8 (topH (leaves (xss.take (splitN vs.length))))) (Rds.blk .h0) (by rw [ints_length, topH_length (leaves_len _)]) ints_one) (by omega) (by simp only [maxLen]; omega) fun v46 => ?_)
      refine L_val rfl rfl rfl (OpP.v (P_assign rfl rfl)) ?_
      refine L_nil ?_
      refine St.env (.cons (t := 4) rfl .nil) ?_
      refine Q_then ?_
      refine R_ret ?_
      exact R_end (rs2 := _) rfl rfl (.tmp rfl .nil) (rfl) (Weak.drop (Weak.trans (ownS.to (by rw [hway, List.length_append]; rfl) (by rw [hway, flat_append]; simp [flat])) (Weak.keep (Weak.nil _))))
theorem way_ok {gl : Nat → Obj} (hG : GlobsR gl) : ∀ b, WayOk gl b
  | 0 => fun _ _ _ _ _ h => absurd h (by omega)
  | b + 1 => way_step hG b (way_ok hG b)
end Go.Proofs.YtldndhekjhlbmaaDoor
