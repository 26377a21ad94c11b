/- Seats. Printed by gen.py. -/
import Derived.Test.YtfhjhaogmdaepaaSrtD
import Derived.Test.YtfhjhaogmdaepaaL8C
set_option linter.unusedVariables false
set_option linter.unusedSimpArgs false
set_option maxRecDepth 100000
namespace Go.Proofs.Ytfhjhaogmdaepaa
open Go Go.RowKit Go.Proofs Go.Sort
/-- The settings. -/
structure Par where
  mb : Int
  seats : Int
  p2 : Int
  p3 : Int
  p4 : Int
  p5 : Int
  p6 : Int
  p7 : Int
  p8 : Int
  p9 : Int
  p10 : Int
  p11 : Int
def Par.cells (p : Par) : List Value := [.int .u64 p.mb, .int .i64 p.seats, .int .u64 p.p2, .int .u64 p.p3, .int .u64 p.p4, .int .i64 p.p5, .int .u64 p.p6, .int .u64 p.p7, .int .u64 p.p8, .int .u64 p.p9, .int .u64 p.p10, .int .u64 p.p11]
theorem Par.one (p : Par) : ∀ v ∈ p.cells, v.oneCell' = true := by
  intro v hv; simp only [Par.cells, List.mem_cons, List.not_mem_nil, or_false] at hv
  rcases hv with rfl | rfl | rfl | rfl | rfl | rfl | rfl | rfl | rfl | rfl | rfl | rfl <;> rfl
theorem perm_all {d d' : Array Mem} (h : PermIn 0 d.size d d') : d'.toList.Perm d.toList := by
  have h2 := h.2.2
  rw [Array.extract_size, ← h.1, Array.extract_size] at h2
  exact h2
theorem sorted_list {lt : Mem → Mem → Bool} {d : Array Mem} {n : Nat} (h : SortedIn lt 0 n d) (hn : n = d.size) : ∀ (i j : Nat) (hij : i < j) (hj : j < d.toList.length), lt d.toList[j] (d.toList[i]'(by omega)) = false := fun i j hij hj => by
  have hj' : j < d.size := hj
  have h2 := h i j (Nat.zero_le _) hij (by omega)
  rw [getElem!_pos d j hj', getElem!_pos d i (by omega)] at h2
  exact h2
theorem ownS_cut {T sz n cap n' : Nat} {b : Option Addr} {cs : List Value} {rs : List HP} (h : n' ≤ n) : Weak (ownS T sz (.slice b n cap) n cs :: rs) (ownS T sz (.slice b n' n') n' (cs.take (n' * sz)) :: rs) := Weak.turn .h0 fun a ⟨hl, hx⟩ => by
  have hm : n' * sz ≤ n * sz := Nat.mul_le_mul_right _ h
  refine ⟨by rw [List.length_take, hl]; omega, ?_⟩
  rcases hx with ⟨⟨b0, e⟩, h0, ha⟩ | ⟨b', cap', junk, e, h1, h2, h3, h4⟩
  · obtain rfl : n' = 0 := by omega
    exact .inl ⟨⟨b, rfl⟩, rfl, ha⟩
  · simp only [Value.slice.injEq, true_and] at e
    obtain ⟨rfl, rfl⟩ := e
    refine .inr ⟨b', n', cs.drop (n' * sz) ++ junk, rfl, Nat.le_refl _, by omega, ?_, ?_⟩
    · rw [← List.append_assoc, List.take_append_drop, List.length_append, hl]; omega
    · rw [← List.append_assoc, List.take_append_drop]; exact h4
theorem sliced_0 (b : Option Addr) (q : Nat) (sz : Nat) : sliced b 0 q q sz = .slice b q q := by
  unfold sliced
  rw [Nat.zero_mul, Nat.sub_zero]
  split
  · rfl
  · cases b with
    | none => rfl
    | some a => simp [Addr.add]
theorem mostN_eq (s : Int) (n : Nat) : (if (n : Int) < (if (64 : Int) < (if 0 > s then 0 else s) then 64 else (if 0 > s then 0 else s)) then (n : Int) else (if (64 : Int) < (if 0 > s then 0 else s) then 64 else (if 0 > s then 0 else s))) = ((mostN s n : Nat) : Int) := by
  unfold mostN
  split <;> split <;> split <;> omega
theorem cand_snoc {mb : Int} {l : List Acc} {i : Nat} {x : Acc} (h : l[i]? = some x) : candM mb (l.take (i + 1)) = candM mb (l.take i) ++ (if sits mb x = true then [memA x] else []) := by
  unfold candM
  rw [List.take_add_one, h, List.filter_append, List.map_append]
  congr 1
  show List.map memA (List.filter (sits mb) [x]) = _
  rw [List.filter_cons, List.filter_nil]
  split <;> rfl
theorem cand_yes {mb : Int} {l : List Acc} {i : Nat} {x : Acc} (h : l[i]? = some x) (hs : sits mb x = true) : candM mb (l.take (i + 1)) = candM mb (l.take i) ++ [memA x] := by rw [cand_snoc h, if_pos hs]
theorem cand_no {mb : Int} {l : List Acc} {i : Nat} {x : Acc} (h : l[i]? = some x) (hs : sits mb x = false) : candM mb (l.take (i + 1)) = candM mb (l.take i) := by rw [cand_snoc h, if_neg (by rw [hs]; decide), List.append_nil]
theorem cand_len (mb : Int) (l : List Acc) : (candM mb l).length ≤ l.length := by unfold candM; rw [List.length_map]; exact List.length_filter_le _ _
theorem seats_done {mb seats : Int} {l : List Acc} {d1 e d2 : Array Mem} (hf : AccFine l) (hp1 : PermIn 0 (candM mb l).length (candM mb l).toArray d1) (hs1 : SortedIn bt 0 (candM mb l).length d1) (he : e.toList = d1.toList.take (mostN seats (candM mb l).length)) (hp2 : PermIn 0 e.size e d2) (hs2 : SortedIn ltA 0 e.size d2) : SeatsOf mb seats l d2.toList := by
  have hlen : d1.toList.length = (candM mb l).length := hp1.1
  refine seats_of hf (perm_all (d := (candM mb l).toArray) hp1) (sorted_list hs1 hlen.symm) ?_ (sorted_list hs2 hp2.1.symm)
  rw [hlen, ← he]
  exact perm_all hp2
theorem seats_ok {gl : Nat → Obj} (base : Option Addr) (c : Nat) (l : List Acc) (hc : l.length ≤ c) (hm : l.length ≤ 65536) (hf : AccFine l) (r : Value) (hr : r.oneCell' = true) (bu su : Int) (p : Par) : Spec (cx gl) 8 [.agg (ledV (.slice base l.length c) r bu su).toArray, .agg p.cells.toArray] (fun w _ => Row w base (rc l)) [] (fun v rs => ∃ (R : List Mem) (b : Option Addr) (c : Nat), v = .slice b R.length c ∧ SeatsOf p.mb p.seats l R ∧ rs = [ownS 37 3 (.slice b R.length c) (R.length) (rc R)]) := by
  refine Spec.enter (C := cx gl) Try.func8 rfl 55 rfl rfl fun w0 h0 hsep hsub hpre => ?_
  obtain rfl : h0 = Heap.none := hsep
  show St (cx gl) _ [(0, .agg (ledV (.slice base l.length c) r bu su).toArray), (1, .agg p.cells.toArray)] _ _
  refine R_seq ?_
  refine R_region ?_
  refine L_op rfl (W_box (ledV (.slice base l.length c) r bu su) rfl rfl rfl rfl rfl fun b2 => ?_)
  refine L_op rfl (W_box (p.cells) rfl rfl rfl rfl rfl fun b3 => ?_)
  refine L_val rfl rfl rfl (OpP.v (P_assign rfl rfl)) ?_
  refine L_nil ?_
  refine St.env (.cons (t := 2) rfl (.cons (t := 3) rfl (.cons (t := 4) rfl .nil))) ?_
  refine Q_then ?_
  refine R_seq ?_
  refine R_region ?_
  refine L_val rfl rfl rfl (OpP.v (P_assign rfl rfl)) ?_
  refine L_nil ?_
  refine Q_then ?_
  refine R_seq ?_
  refine R_seq ?_
  refine R_region ?_
  refine L_val rfl rfl rfl (OpP.v (P_fld0 rfl ty_fl_29_0 rfl)) ?_
  refine L_val rfl rfl rfl (V_load rfl rfl ty_sc_22 (Rd.blk .h1 rfl)) ?_
  refine L_val rfl rfl rfl (OpP.v (P_len rfl ty_sl_22 rfl)) ?_
  refine L_val rfl rfl rfl (OpP.v (P_move rfl rfl)) ?_
  refine L_nil ?_
  refine St.env (.cons (t := 3) rfl (.cons (t := 4) rfl (.cons (t := 5) rfl (.cons (t := 10) rfl (.cons (t := 11) rfl (.cons (t := 12) rfl .nil)))))) ?_
  refine Q_then ?_
  refine R_block ?_
  refine R_loopE (G := Nat × Value) (.cons (t := 3) rfl (.cons (t := 4) rfl (.cons (t := 10) rfl (.cons (t := 11) rfl .nil)))) (fun g => [(5, g.2), (12, .int .i64 (g.1 : Int))]) (fun g => [ownS 37 3 (g.2) ((candM p.mb (l.take g.1)).length) (rc (candM p.mb (l.take g.1))), blk b3 p.cells 25, blk b2 (ledV (.slice base l.length c) r bu su) 29]) (fun g => g.1 ≤ l.length) (fun g => l.length - g.1) (0, .slice none 0 0) (Nat.zero_le _) (by repeat (first | exact .nil | refine .cons rfl ?_ | refine .consE rfl (by first | rfl | (congr 1; omega) | (congr 1; push_cast; omega)) ?_)) (Weak.newNil) ?_
  rintro ⟨i, v⟩ hinv
  replace hinv : i ≤ l.length := hinv
  show St (cx gl) _ ((5, v) :: (12, .int .i64 (i : Int)) :: _) [ownS 37 3 (v) ((candM p.mb (l.take i)).length) (rc (candM p.mb (l.take i))), blk b3 p.cells 25, blk b2 (ledV (.slice base l.length c) r bu su) 29] _
  refine R_seq ?_
  refine R_region ?_
  refine L_val rfl rfl rfl (OpP.v (P_lss rfl rfl rfl)) ?_
  refine L_nil ?_
  refine Q_then ?_
  refine R_seq ?_
  refine R_condP rfl (fun hlt => ?_) (fun hlt => ?_)
  · skip
    have hi : i ≤ l.length := hinv
    have hx0 := accAt_get (l := l) (i := i) (by omega)
    obtain ⟨x, ex⟩ : ∃ x, x = accAt l i := ⟨_, rfl⟩
    have hx : l[i]? = some x := by rw [ex]; exact hx0
    obtain ⟨pb, pj, rfl, hrow⟩ := hpre.some_ (by rw [rc_length]; show 0 < _ * 5; omega)
    have hcl := cand_len p.mb (l.take i)
    rw [List.length_take] at hcl
    refine R_skip ?_
    refine Q_then ?_
    refine R_seq ?_
    refine R_block ?_
    refine R_seq ?_
    refine R_region ?_
    refine L_val rfl rfl rfl (OpP.v (P_ixs (i) rfl ty_sl_22 rfl rfl (by first | rfl | omega) (by omega))) ?_
    refine L_val rfl rfl rfl (V_loadAgg rfl rfl ty_ag_39 (rds_rc (Rds.row hrow rfl) hx) (rfl)) ?_
    refine L_op rfl (W_alloc rfl rfl rfl ty_ze_39 fun b7 => ?_)
    refine L_op rfl (W_storeAll rfl rfl rfl rfl ty_ag_39 (rfl) (Rec.one x) .h0 (rfl) ?_)
    refine L_nil ?_
    refine Q_then ?_
    refine R_seq ?_
    refine R_region ?_
    refine L_val rfl rfl rfl (OpP.v (P_fld0 rfl ty_fl_39_4 rfl)) ?_
    refine L_val rfl rfl rfl (V_load rfl rfl ty_sc_4 (Rd.blk .h0 rfl)) ?_
    refine L_val rfl rfl rfl (OpP.v (P_not rfl rfl)) ?_
    refine L_val rfl rfl rfl (OpP.v (P_move rfl rfl)) ?_
    refine E_bool (t := 19) rfl (fun hj => ?_) (fun hj => ?_)
    · skip
      refine L_val rfl rfl rfl (OpP.v (P_fld0 rfl ty_fl_39_2 rfl)) ?_
      refine L_val rfl rfl rfl (V_load rfl rfl ty_sc_23 (Rd.blk .h0 rfl)) ?_
      refine L_val rfl rfl rfl (OpP.v (P_fld0 rfl ty_fl_25_0 rfl)) ?_
      refine L_val rfl rfl rfl (V_load rfl rfl ty_sc_23 (Rd.blk .h2 rfl)) ?_
      refine L_val rfl rfl rfl (OpP.v (P_geq rfl rfl rfl)) ?_
      refine E_bool (t := 24) rfl (fun hb => ?_) (fun hb => ?_)
      · skip
        have hb := of_decide_eq_true hb
        refine L_val rfl rfl rfl (OpP.v (P_pick rfl rfl rfl)) ?_
        refine L_val rfl rfl rfl (OpP.v (P_move rfl rfl)) ?_
        refine L_val rfl rfl rfl (OpP.v (P_fld0 rfl ty_fl_39_2 rfl)) ?_
        refine L_val rfl rfl rfl (V_load rfl rfl ty_sc_23 (Rd.blk .h0 rfl)) ?_
        refine L_val rfl rfl rfl (OpP.v (P_geq rfl rfl rfl)) ?_
        refine L_val rfl rfl rfl (OpP.v (P_pick rfl rfl rfl)) ?_
        refine L_nil ?_
        refine Q_then ?_
        refine R_condP rfl (fun hs => ?_) (fun hs => ?_)
        · skip
          refine R_region ?_
          refine L_val rfl rfl rfl (OpP.v (P_move rfl rfl)) ?_
          refine L_val rfl rfl rfl (OpP.v (P_fld0 rfl ty_fl_39_0 rfl)) ?_
          refine L_val rfl rfl rfl (V_load rfl rfl ty_sc_35 (Rd.blk .h0 rfl)) ?_
          refine L_val rfl rfl rfl (OpP.v (P_fld0 rfl ty_fl_39_2 rfl)) ?_
          refine L_val rfl rfl rfl (V_load rfl rfl ty_sc_23 (Rd.blk .h0 rfl)) ?_
          refine L_val rfl rfl rfl (OpP.v (P_buildStruct rfl ty_pl_37 ty_ze_37 rfl rfl (rfl))) ?_
          refine L_op rfl (W_lit (z := .nilIface) ((memA x).cells) rfl rfl rfl ty_sl_33 ty_lz_33 rfl rfl rfl (by decide) (by decide) (by intro v hv; simp only [List.mem_singleton] at hv; subst hv; rfl) (rfl) fun b37 => ?_)
          refine L_op rfl (W_append (p := [_, _]) rfl rfl rfl ty_sl_33 ty_ap_33 ty_src_33 rfl rfl rfl (Src.slice (sz := 3) (m := 1) (news := (memA x).cells) (Rds.blk .h0) rfl (Mem.cells_one _)) (by omega) (by simp only [maxLen]; omega) fun v38 => ?_)
          refine L_val rfl rfl rfl (OpP.v (P_assign rfl rfl)) ?_
          refine L_nil ?_
          refine Q_block ?_
          refine Q_then ?_
          refine R_region ?_
          first | (refine L_val rfl rfl rfl (OpP.v (P_addN rfl rfl rfl (by simp only [fits]; omega))) ?_) | (refine L_val rfl rfl rfl (OpP.v (P_add rfl rfl rfl)) ?_)
          refine L_val rfl rfl rfl (OpP.v (P_move rfl rfl)) ?_
          refine L_nil ?_
          exact Q_round (i + 1, v38) (by show i + 1 ≤ l.length; omega) (by show l.length - (i + 1) < l.length - i; omega) (by repeat (first | exact .nil | refine .cons rfl ?_ | refine .consE rfl (by first | rfl | (congr 1; omega) | (congr 1; push_cast; omega)) ?_)) (Weak.drop (Weak.drop (by rw [cand_yes hx (by unfold sits; rw [hj, decide_eq_true hb, decide_eq_true (by omega)]; rfl), List.length_append, rc_append]; exact Weak.refl _)))
        · skip
          refine R_skip ?_
          refine Q_block ?_
          refine Q_then ?_
          refine R_region ?_
          first | (refine L_val rfl rfl rfl (OpP.v (P_addN rfl rfl rfl (by simp only [fits]; omega))) ?_) | (refine L_val rfl rfl rfl (OpP.v (P_add rfl rfl rfl)) ?_)
          refine L_val rfl rfl rfl (OpP.v (P_move rfl rfl)) ?_
          refine L_nil ?_
          exact Q_round (i + 1, v) (by show i + 1 ≤ l.length; omega) (by show l.length - (i + 1) < l.length - i; omega) (by repeat (first | exact .nil | refine .cons rfl ?_ | refine .consE rfl (by first | rfl | (congr 1; omega) | (congr 1; push_cast; omega)) ?_)) (Weak.drop (by rw [cand_no hx (by unfold sits; rw [decide_eq_false (p := 1 ≤ x.bond) (by omega), Bool.and_false, Bool.and_false])]; exact Weak.refl _))
      · skip
        have hb := of_decide_eq_false hb
        refine L_val rfl rfl rfl (OpP.v (P_pick rfl rfl rfl)) ?_
        refine L_val rfl rfl rfl (OpP.v (P_move rfl rfl)) ?_
        refine L_no rfl rfl rfl ?_
        refine L_no rfl rfl rfl ?_
        refine L_no rfl rfl rfl ?_
        refine L_val rfl rfl rfl (OpP.v (P_pick rfl rfl rfl)) ?_
        refine L_nil ?_
        refine Q_then ?_
        refine R_condF rfl ?_
        refine R_skip ?_
        refine Q_block ?_
        refine Q_then ?_
        refine R_region ?_
        first | (refine L_val rfl rfl rfl (OpP.v (P_addN rfl rfl rfl (by simp only [fits]; omega))) ?_) | (refine L_val rfl rfl rfl (OpP.v (P_add rfl rfl rfl)) ?_)
        refine L_val rfl rfl rfl (OpP.v (P_move rfl rfl)) ?_
        refine L_nil ?_
        exact Q_round (i + 1, v) (by show i + 1 ≤ l.length; omega) (by show l.length - (i + 1) < l.length - i; omega) (by repeat (first | exact .nil | refine .cons rfl ?_ | refine .consE rfl (by first | rfl | (congr 1; omega) | (congr 1; push_cast; omega)) ?_)) (Weak.drop (by rw [cand_no hx (by unfold sits; rw [decide_eq_false (p := p.mb ≤ x.bond) (by omega), Bool.false_and, Bool.and_false])]; exact Weak.refl _))
    · skip
      refine L_no rfl rfl rfl ?_
      refine L_no rfl rfl rfl ?_
      refine L_no rfl rfl rfl ?_
      refine L_no rfl rfl rfl ?_
      refine L_no rfl rfl rfl ?_
      refine L_val rfl rfl rfl (OpP.v (P_pick rfl rfl rfl)) ?_
      refine L_val rfl rfl rfl (OpP.v (P_move rfl rfl)) ?_
      refine L_no rfl rfl rfl ?_
      refine L_no rfl rfl rfl ?_
      refine L_no rfl rfl rfl ?_
      refine L_val rfl rfl rfl (OpP.v (P_pick rfl rfl rfl)) ?_
      refine L_nil ?_
      refine Q_then ?_
      refine R_condF rfl ?_
      refine R_skip ?_
      refine Q_block ?_
      refine Q_then ?_
      refine R_region ?_
      first | (refine L_val rfl rfl rfl (OpP.v (P_addN rfl rfl rfl (by simp only [fits]; omega))) ?_) | (refine L_val rfl rfl rfl (OpP.v (P_add rfl rfl rfl)) ?_)
      refine L_val rfl rfl rfl (OpP.v (P_move rfl rfl)) ?_
      refine L_nil ?_
      exact Q_round (i + 1, v) (by show i + 1 ≤ l.length; omega) (by show l.length - (i + 1) < l.length - i; omega) (by repeat (first | exact .nil | refine .cons rfl ?_ | refine .consE rfl (by first | rfl | (congr 1; omega) | (congr 1; push_cast; omega)) ?_)) (Weak.drop (by rw [cand_no hx (by unfold sits; rw [hj, Bool.false_and])]; exact Weak.refl _))
  · skip
    have hi : i ≤ l.length := hinv
    have hin : i = l.length := by omega
    rw [hin, List.take_length]
    have hcl := cand_len p.mb l
    refine St.ownForm (p := []) fun ub uc huv huc => ?_
    subst huv
    refine St.res (rs' := [ownS 37 3 (.slice ub (candM p.mb l).toArray.size uc) ((candM p.mb l).toArray.size) (rc (candM p.mb l).toArray.toList), blk b3 p.cells 25, blk b2 (ledV (.slice base l.length c) r bu su) 29]) (Weak.refl _) ?_
    refine R_exit ?_
    refine Q_then_exit ?_
    refine Q_then_exit ?_
    refine Q_block_eq ?_
    refine St.env (.cons (t := 3) rfl (.cons (t := 4) rfl (.cons (t := 5) rfl .nil))) ?_
    refine Q_then ?_
    refine R_seq ?_
    refine R_region ?_
    refine L_val rfl rfl rfl (OpP.v (P_move rfl rfl)) ?_
    refine L_op rfl (W_call rfl rfl rfl rfl fn_ca_24 (ssM_ok ub uc (candM p.mb l).toArray (by show (candM p.mb l).length ≤ _; omega)) (Split.one (p := [])) (fun _ _ _ _ _ _ _ => trivial) fun vv rs1 ⟨z1, d1, ⟨hp1, hs1⟩, z2⟩ => ?_)
    subst z1; subst z2
    refine St.res (rs' := [ownS 37 3 (.slice ub (candM p.mb l).length uc) ((candM p.mb l).length) (rc d1.toList), blk b3 p.cells 25, blk b2 (ledV (.slice base l.length c) r bu su) 29]) (Weak.refl _) ?_
    refine L_nil ?_
    refine St.env (.cons (t := 3) rfl (.cons (t := 4) rfl (.cons (t := 5) rfl .nil))) ?_
    refine Q_then ?_
    refine R_seq ?_
    refine R_region ?_
    refine L_val rfl rfl rfl (OpP.v (P_fld0 rfl ty_fl_25_1 rfl)) ?_
    refine L_val rfl rfl rfl (V_load rfl rfl ty_sc_3 (Rd.blk .h1 rfl)) ?_
    refine L_val rfl rfl rfl (OpP.v (P_max2 rfl rfl rfl)) ?_
    refine L_val rfl rfl rfl (OpP.v (P_move rfl rfl)) ?_
    refine L_val rfl rfl rfl (OpP.v (P_len rfl ty_sl_33 rfl)) ?_
    refine L_val rfl rfl rfl (OpP.v (P_min3 rfl rfl rfl rfl)) ?_
    refine E_as (t := 47) (v' := .int .i64 ((mostN p.seats (candM p.mb l).length : Nat) : Int)) rfl (congrArg (Value.int .i64) (mostN_eq _ _)) ?_
    refine L_val rfl rfl rfl (OpP.v (P_assign rfl rfl)) ?_
    refine L_nil ?_
    refine St.env (.cons (t := 4) rfl (.cons (t := 5) rfl (.cons (t := 8) rfl .nil))) ?_
    refine Q_then ?_
    refine R_seq ?_
    refine R_region ?_
    refine L_val rfl rfl rfl (OpP.v (P_move rfl rfl)) ?_
    refine L_val rfl rfl rfl (OpP.v (P_move rfl rfl)) ?_
    refine L_val rfl rfl rfl (OpP.v (P_move rfl rfl)) ?_
    refine L_val rfl rfl rfl (OpP.v (P_slice3 0 (mostN p.seats (candM p.mb l).length) (mostN p.seats (candM p.mb l).length) rfl ty_sl_33 rfl rfl rfl rfl (Nat.zero_le _) (Nat.le_refl _) (by unfold mostN; omega))) ?_
    have hmo : mostN p.seats (candM p.mb l).length ≤ (candM p.mb l).length := by unfold mostN; omega
    obtain ⟨e, he⟩ : ∃ e : Array Mem, e.toList = d1.toList.take (mostN p.seats (candM p.mb l).length) := ⟨(d1.toList.take (mostN p.seats (candM p.mb l).length)).toArray, rfl⟩
    have hes : mostN p.seats (candM p.mb l).length = e.size := by rw [← Array.length_toList, he, List.length_take]; have : d1.toList.length = (candM p.mb l).length := hp1.1; omega
    refine E_as (t := 51) (v' := .slice ub e.size e.size) rfl (by rw [sliced_0, hes]) ?_
    refine St.res (rs' := [ownS 37 3 (.slice ub e.size e.size) (e.size) (rc e.toList), blk b3 p.cells 25, blk b2 (ledV (.slice base l.length c) r bu su) 29]) (Weak.trans (ownS_cut hmo) (by rw [show (3 : Nat) = Rec.n Mem from rfl, rc_take, ← he, hes]; exact Weak.refl _)) ?_
    refine L_val rfl rfl rfl (OpP.v (P_assign rfl rfl)) ?_
    refine L_nil ?_
    refine St.env (.cons (t := 4) rfl (.cons (t := 5) rfl .nil)) ?_
    refine Q_then ?_
    refine R_seq ?_
    refine R_region ?_
    refine L_val rfl rfl rfl (OpP.v (P_move rfl rfl)) ?_
    refine L_op rfl (W_call rfl rfl rfl rfl fn_ca_29 (sortM_ok ub e.size e (by omega)) (Split.one (p := [])) (fun _ _ _ _ _ _ _ => trivial) fun vv rs1 ⟨z1, d2, hp2, hs2, z2⟩ => ?_)
    subst z1; subst z2
    refine St.res (rs' := [ownS 37 3 (.slice ub e.size e.size) (e.size) (rc d2.toList), blk b3 p.cells 25, blk b2 (ledV (.slice base l.length c) r bu su) 29]) (Weak.refl _) ?_
    refine L_nil ?_
    refine St.env (.cons (t := 4) rfl (.cons (t := 5) rfl .nil)) ?_
    refine Q_then ?_
    refine R_seq ?_
    refine R_region ?_
    refine L_val rfl rfl rfl (OpP.v (P_move rfl rfl)) ?_
    refine L_val rfl rfl rfl (OpP.v (P_assign rfl rfl)) ?_
    refine L_nil ?_
    refine St.env (.cons (t := 4) rfl .nil) ?_
    refine Q_then ?_
    refine R_ret ?_
    exact R_end (rs2 := [ownS 37 3 (.slice ub d2.toList.length e.size) (d2.toList.length) (rc d2.toList)]) rfl rfl (.tmp rfl .nil) (⟨d2.toList, ub, e.size, by rw [show d2.toList.length = e.size from hp2.1]; rfl, seats_done hf hp1 hs1 he hp2 hs2, rfl⟩) (by rw [show d2.toList.length = e.size from hp2.1]; exact Weak.keep (Weak.nil _))
end Go.Proofs.Ytfhjhaogmdaepaa
