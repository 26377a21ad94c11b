/- Walks: turns, Length, up, Fits. Printed by gen.py. -/
import Derived.Test.YtldndhekjhlbmaaDoorD12
import Derived.Test.YtldndhekjhlbmaaDoorWay
set_option linter.unusedVariables false
set_option linter.unusedSimpArgs false
set_option maxRecDepth 100000
namespace Go.Proofs.YtldndhekjhlbmaaDoor
open Go Go.RowKit Go.Proofs
def bools (ds : List Bool) : List Value := ds.map Value.bool
theorem bools_length (ds : List Bool) : (bools ds).length = ds.length := by simp [bools]
theorem bools_snoc (ds : List Bool) (d : Bool) : bools ds ++ [.bool d] = bools (ds ++ [d]) := by simp [bools]
theorem bools_at {ds : List Bool} {i : Nat} {d : Bool} (h : ds[i]? = some d) : (bools ds)[i]? = some (.bool d) := by simp [bools, h]
theorem list_snoc {α : Type} {l : List α} (h : 0 < l.length) : ∃ es a, l = es ++ [a] := ⟨l.dropLast, l.getLast (by intro e; rw [e] at h; cases h), (List.dropLast_concat_getLast _).symm⟩
theorem fitsB_out {total index : Int} {m : Nat} (h : ¬ (1 ≤ total ∧ total ≤ 65536 ∧ 0 ≤ index ∧ index < total)) : fitsB total index m = false := by unfold fitsB inB; rw [decide_eq_false h]; rfl
theorem inB_of {total index : Int} (h : 1 ≤ total ∧ total ≤ 65536 ∧ 0 ≤ index ∧ index < total) : ∃ n i : Nat, total = n ∧ index = i ∧ 1 ≤ n ∧ n ≤ 65536 ∧ i < n := inB_true (by unfold inB; exact decide_eq_true h)
theorem fitsB_in {n i m : Nat} (h1 : 1 ≤ n) (h2 : n ≤ 65536) (h3 : i < n) : fitsB (n : Int) (i : Int) m = decide (m = (turnsH n i).length) := by
  unfold fitsB inB
  rw [decide_eq_true (by omega), Bool.true_and]; rfl
def LenOk (gl : Nat → Obj) (b : Nat) : Prop := ∀ n i : Nat, n < b → i ≤ 70368744177664 → SpecV (cx gl) 58 [.int .i64 (n : Int), .int .i64 (i : Int)] noPre (.int .i64 ((turnsH n i).length : Nat))
def UpOk (gl : Nat → Obj) (b : Nat) : Prop := ∀ (n i : Nat) (base : Option Addr) (c : Nat) (hs : List (List Int)) (lf : List Int), n < b → 1 ≤ n → i < n → hs.length = (turnsH n i).length → (∀ h ∈ hs, h.length = 32) → hs.length ≤ c → lf.length = 32 →
  SpecV (cx gl) 54 [.int .i64 (n : Int), .int .i64 (i : Int), .slice base hs.length c, .agg (ints .u8 lf).toArray] (fun w => Row w base (flat .u8 hs)) (.agg (ints .u8 (leadH n i hs lf)).toArray)
theorem turns_ok {gl : Nat → Obj} (n i : Nat) (hn : n ≤ 65536) (hi : i ≤ 65536) : Spec (cx gl) 53 [.int .i64 (n : Int), .int .i64 (i : Int)] (fun _ _ => True) [] (fun v rs => rs = [ownS 4 1 v (turnsH n i).length (bools (turnsH n i))]) := by
  refine Spec.enter (C := cx gl) Tryd.func53 rfl 28 rfl rfl fun w0 h0 hsep hsub hpre => ?_
  obtain rfl : h0 = Heap.none := hsep
  show St (cx gl) _ [(0, .int .i64 (n : Int)), (1, .int .i64 (i : Int))] _ _
  refine R_seq ?_
  refine R_region ?_
  refine L_val rfl rfl rfl (OpP.v (P_assign rfl rfl)) ?_
  refine L_nil ?_
  refine Q_then ?_
  refine R_seq ?_
  refine R_region ?_
  refine L_val rfl rfl rfl (OpP.v (P_assign rfl rfl)) ?_
  refine St.res (rs' := [ownS 4 1 (.slice none 0 0) 0 []]) (Weak.newNil) ?_
  refine L_nil ?_
  refine Q_then ?_
  refine R_seq ?_
  refine R_block ?_
  refine R_loop (G := Value × Nat × Nat × List Bool) (fun g => [(0, .int .i64 (g.2.1 : Int)), (1, .int .i64 (g.2.2.1 : Int)), (4, .slice none 0 0), (5, g.1)]) (fun g => [ownS 4 1 g.1 g.2.2.2.length (bools g.2.2.2)]) (fun g => turnsH n i = g.2.2.2 ++ turnsH g.2.1 g.2.2.1 ∧ g.2.1 ≤ n ∧ g.2.2.1 ≤ i) (fun g => g.2.1) ((.slice none 0 0, n, i, [])) (⟨rfl, Nat.le_refl _, Nat.le_refl _⟩) (by repeat (first | exact .nil | refine .cons rfl ?_)) (Weak.refl _) ?_
  rintro ⟨v, n1, i1, ds⟩ hinv
  replace hinv : turnsH n i = ds ++ turnsH n1 i1 ∧ n1 ≤ n ∧ i1 ≤ i := hinv
  show St (cx gl) _ [(0, .int .i64 (n1 : Int)), (1, .int .i64 (i1 : Int)), (4, .slice none 0 0), (5, v)] [ownS 4 1 v ds.length (bools ds)] _
  obtain ⟨hds, hn2, hi2⟩ := hinv
  have hdl : ds.length ≤ n := by have h := turnsH_len n i; rw [hds, List.length_append] at h; omega
  refine R_seq ?_
  refine R_seq ?_
  refine R_region ?_
  refine L_val rfl rfl rfl (OpP.v (P_move rfl rfl)) ?_
  refine L_val rfl rfl rfl (OpP.v (P_gtr rfl rfl rfl)) ?_
  refine L_nil ?_
  refine Q_then ?_
  refine R_condP rfl (fun hgt => ?_) (fun hgt => ?_)
  · skip
    have hn1 : 1 < n1 := by omega
    have hk1 := splitN_lt hn1
    have hk2 := splitN_pos hn1
    refine R_skip ?_
    refine Q_then ?_
    refine R_block ?_
    refine R_seq ?_
    refine R_region ?_
    refine L_val rfl rfl rfl (OpP.v (P_move rfl rfl)) ?_
    refine L_op rfl (W_callV rfl rfl rfl rfl fn_ca_55 (split_ok gl n1 (by omega)) (fun _ _ => trivial) ?_)
    refine L_val rfl rfl rfl (OpP.v (P_assign rfl rfl)) ?_
    refine L_nil ?_
    refine Q_then ?_
    refine R_seq ?_
    refine R_region ?_
    refine L_val rfl rfl rfl (OpP.v (P_move rfl rfl)) ?_
    refine L_val rfl rfl rfl (OpP.v (P_move rfl rfl)) ?_
    refine L_val rfl rfl rfl (OpP.v (P_geq rfl rfl rfl)) ?_
    refine E_as (t := 14) (v' := .bool (decide (splitN n1 ≤ i1))) rfl (congrArg Value.bool (decide_eq_decide.2 (by omega))) ?_
    refine L_val rfl rfl rfl (OpP.v (P_assign rfl rfl)) ?_
    refine L_nil ?_
    refine Q_then ?_
    refine R_seq ?_
    refine R_region ?_
    refine L_val rfl rfl rfl (OpP.v (P_move rfl rfl)) ?_
    refine L_val rfl rfl rfl (OpP.v (P_move rfl rfl)) ?_
    refine L_op rfl (W_lit (z := .nilIface) ([.bool (decide (splitN n1 ≤ i1))]) rfl rfl rfl ty_sl_86 ty_lz_86 rfl rfl rfl (by decide) (by decide) (by simp [Value.cells]) (rfl) fun b17 => ?_)
    refine L_op rfl (W_append (p := [_]) rfl rfl rfl ty_sl_86 ty_ap_86 ty_src_86 rfl rfl rfl (Src.slice (sz := 1) (news := [.bool (decide (splitN n1 ≤ i1))]) (Rds.blk .h0) rfl (by simp [Value.oneCell'])) (by omega) (by simp only [maxLen]; omega) fun v18 => ?_)
    refine L_val rfl rfl rfl (OpP.v (P_assign rfl rfl)) ?_
    refine L_nil ?_
    refine Q_then ?_
    refine R_seq ?_
    refine R_region ?_
    refine L_val rfl rfl rfl (OpP.v (P_move rfl rfl)) ?_
    refine L_nil ?_
    refine Q_then ?_
    refine R_condP rfl (fun hk => ?_) (fun hk => ?_)
    · skip
      refine R_region ?_
      refine L_val rfl rfl rfl (OpP.v (P_move rfl rfl)) ?_
      refine L_val rfl rfl rfl (OpP.v (P_move rfl rfl)) ?_
      first | (refine L_val rfl rfl rfl (OpP.v (P_subN rfl rfl rfl (by simp only [fits]; omega))) ?_) | (refine L_val rfl rfl rfl (OpP.v (P_sub rfl rfl rfl)) ?_)
      refine L_val rfl rfl rfl (OpP.v (P_move rfl rfl)) ?_
      refine L_val rfl rfl rfl (OpP.v (P_move rfl rfl)) ?_
      first | (refine L_val rfl rfl rfl (OpP.v (P_subN rfl rfl rfl (by simp only [fits]; omega))) ?_) | (refine L_val rfl rfl rfl (OpP.v (P_sub rfl rfl rfl)) ?_)
      refine L_val rfl rfl rfl (OpP.v (P_assign rfl rfl)) ?_
      refine L_val rfl rfl rfl (OpP.v (P_assign rfl rfl)) ?_
      refine L_nil ?_
      refine Q_block ?_
      refine E_as (t := 0) (v' := .int .i64 ((n1 - splitN n1 : Nat) : Int)) rfl (by congr 1; omega) ?_
      refine E_as (t := 1) (v' := .int .i64 ((i1 - splitN n1 : Nat) : Int)) rfl (by congr 1; omega) ?_
      exact Q_round ((v18, n1 - splitN n1, i1 - splitN n1, ds ++ [decide (splitN n1 ≤ i1)])) (⟨by show turnsH n i = (ds ++ [decide (splitN n1 ≤ i1)]) ++ turnsH (n1 - splitN n1) (i1 - splitN n1); rw [hds, turnsH_right hn1 hk, decide_eq_true hk, List.append_assoc]; rfl, by show n1 - splitN n1 ≤ n; omega, by show i1 - splitN n1 ≤ i; omega⟩) (by show (n1 - splitN n1) < n1; omega) (by repeat (first | exact .nil | refine .cons rfl ?_)) (Weak.drop (ownS.to (by simp) (bools_snoc _ _)))
    · skip
      refine R_region ?_
      refine L_val rfl rfl rfl (OpP.v (P_move rfl rfl)) ?_
      refine L_val rfl rfl rfl (OpP.v (P_assign rfl rfl)) ?_
      refine L_nil ?_
      refine Q_block ?_
      exact Q_round ((v18, splitN n1, i1, ds ++ [decide (splitN n1 ≤ i1)])) (⟨by show turnsH n i = (ds ++ [decide (splitN n1 ≤ i1)]) ++ turnsH (splitN n1) i1; rw [hds, turnsH_left hn1 hk, decide_eq_false hk, List.append_assoc]; rfl, by show splitN n1 ≤ n; omega, hi2⟩) (by show (splitN n1) < n1; omega) (by repeat (first | exact .nil | refine .cons rfl ?_)) (Weak.drop (ownS.to (by simp) (bools_snoc _ _)))
  · skip
    rw [turnsH_one (n := n1) (by omega), List.append_nil] at hds
    rw [← hds]
    refine R_exit ?_
    refine Q_then_exit ?_
    refine Q_then_exit ?_
    refine Q_block_eq ?_
    refine St.env (.cons (t := 4) rfl (.cons (t := 5) rfl .nil)) ?_
    refine Q_then ?_
    refine R_seq ?_
    refine R_region ?_
    refine L_val rfl rfl rfl (OpP.v (P_move rfl rfl)) ?_
    refine L_val rfl rfl rfl (OpP.v (P_assign rfl rfl)) ?_
    refine L_nil ?_
    refine St.env (.cons (t := 4) rfl .nil) ?_
    refine Q_then ?_
    refine R_ret ?_
    exact R_end (rs2 := _) rfl rfl (.tmp rfl .nil) (rfl) (Weak.refl _)
theorem length_step {gl : Nat → Obj} (b : Nat) (hb : b ≤ 70368744177664) (ih : LenOk gl b) : LenOk gl (b + 1) := by
  intro n i hn hi
  refine Spec.enter (C := cx gl) Tryd.func58 rfl 25 rfl rfl fun w0 h0 hsep hsub hpre => ?_
  obtain rfl : h0 = Heap.none := hsep
  show St (cx gl) _ [(0, .int .i64 (n : Int)), (1, .int .i64 (i : Int))] _ _
  refine R_seq ?_
  refine R_region ?_
  refine L_val rfl rfl rfl (OpP.v (P_assign rfl rfl)) ?_
  refine L_nil ?_
  refine Q_then ?_
  refine R_seq ?_
  refine R_seq ?_
  refine R_region ?_
  refine L_val rfl rfl rfl (OpP.v (P_move rfl rfl)) ?_
  refine L_val rfl rfl rfl (OpP.v (P_leq rfl rfl rfl)) ?_
  refine L_nil ?_
  refine St.env (.cons (t := 0) rfl (.cons (t := 1) rfl (.cons (t := 4) rfl (.cons (t := 7) rfl .nil)))) ?_
  refine Q_then ?_
  refine R_condP rfl (fun h1 => ?_) (fun h1 => ?_)
  · skip
    refine R_seq ?_
    refine R_region ?_
    refine L_val rfl rfl rfl (OpP.v (P_assign rfl rfl)) ?_
    refine L_nil ?_
    refine St.env (.cons (t := 0) rfl (.cons (t := 1) rfl (.cons (t := 4) rfl .nil))) ?_
    refine Q_then ?_
    refine R_ret ?_
    refine Q_then_ret ?_
    exact R_endV rfl rfl (.tmp rfl .nil) (by rw [turnsH_one (by omega)]; rfl)
  · skip
    have hn1 : 1 < n := by omega
    have hk1 := splitN_lt hn1
    have hk2 := splitN_pos hn1
    refine R_skip ?_
    refine Q_then ?_
    refine R_seq ?_
    refine R_region ?_
    refine L_val rfl rfl rfl (OpP.v (P_move rfl rfl)) ?_
    refine L_op rfl (W_callV rfl rfl rfl rfl fn_ca_65 (rsplit_ok gl n (by omega)) (fun _ _ => trivial) ?_)
    refine L_val rfl rfl rfl (OpP.v (P_assign rfl rfl)) ?_
    refine L_nil ?_
    refine St.env (.cons (t := 0) rfl (.cons (t := 1) rfl (.cons (t := 4) rfl (.cons (t := 5) rfl .nil)))) ?_
    refine Q_then ?_
    refine R_seq ?_
    refine R_seq ?_
    refine R_region ?_
    refine L_val rfl rfl rfl (OpP.v (P_move rfl rfl)) ?_
    refine L_val rfl rfl rfl (OpP.v (P_move rfl rfl)) ?_
    refine L_val rfl rfl rfl (OpP.v (P_lss rfl rfl rfl)) ?_
    refine L_nil ?_
    refine St.env (.cons (t := 0) rfl (.cons (t := 1) rfl (.cons (t := 4) rfl (.cons (t := 5) rfl (.cons (t := 12) rfl .nil))))) ?_
    refine Q_then ?_
    refine R_condP rfl (fun hk => ?_) (fun hk => ?_)
    · skip
      refine R_seq ?_
      refine R_region ?_
      refine L_val rfl rfl rfl (OpP.v (P_move rfl rfl)) ?_
      refine L_val rfl rfl rfl (OpP.v (P_move rfl rfl)) ?_
      refine L_op rfl (W_callV rfl rfl rfl rfl fn_ca_58 (ih (splitN n) i (by omega) hi) (fun _ _ => trivial) ?_)
      refine L_val rfl rfl rfl (OpP.v (P_addN rfl rfl rfl (by have := turnsH_len (splitN n) i; simp only [fits]; omega))) ?_
      refine L_val rfl rfl rfl (OpP.v (P_assign rfl rfl)) ?_
      refine L_nil ?_
      refine St.env (.cons (t := 0) rfl (.cons (t := 1) rfl (.cons (t := 4) rfl (.cons (t := 5) rfl .nil)))) ?_
      refine Q_then ?_
      refine R_ret ?_
      refine Q_then_ret ?_
      exact R_endV rfl rfl (.tmp rfl .nil) (by rw [turnsH_left hn1 (by omega), List.length_cons]; rfl)
    · skip
      refine R_skip ?_
      refine Q_then ?_
      refine R_seq ?_
      refine R_region ?_
      refine L_val rfl rfl rfl (OpP.v (P_move rfl rfl)) ?_
      refine L_val rfl rfl rfl (OpP.v (P_move rfl rfl)) ?_
      first | (refine L_val rfl rfl rfl (OpP.v (P_subN rfl rfl rfl (by simp only [fits]; omega))) ?_) | (refine L_val rfl rfl rfl (OpP.v (P_sub rfl rfl rfl)) ?_)
      refine E_as (t := 19) (v' := .int .i64 ((n - splitN n : Nat) : Int)) rfl (by congr 1; omega) ?_
      refine L_val rfl rfl rfl (OpP.v (P_move rfl rfl)) ?_
      refine L_val rfl rfl rfl (OpP.v (P_move rfl rfl)) ?_
      first | (refine L_val rfl rfl rfl (OpP.v (P_subN rfl rfl rfl (by simp only [fits]; omega))) ?_) | (refine L_val rfl rfl rfl (OpP.v (P_sub rfl rfl rfl)) ?_)
      refine E_as (t := 22) (v' := .int .i64 ((i - splitN n : Nat) : Int)) rfl (by congr 1; omega) ?_
      refine L_op rfl (W_callV rfl rfl rfl rfl fn_ca_58 (ih (n - splitN n) (i - splitN n) (by omega) (by omega)) (fun _ _ => trivial) ?_)
      refine L_val rfl rfl rfl (OpP.v (P_addN rfl rfl rfl (by have := turnsH_len (n - splitN n) (i - splitN n); simp only [fits]; omega))) ?_
      refine L_val rfl rfl rfl (OpP.v (P_assign rfl rfl)) ?_
      refine L_nil ?_
      refine St.env (.cons (t := 4) rfl .nil) ?_
      refine Q_then ?_
      refine R_ret ?_
      exact R_endV rfl rfl (.tmp rfl .nil) (by rw [turnsH_right hn1 (by omega), List.length_cons]; rfl)
theorem length_ok {gl : Nat → Obj} : ∀ b, b ≤ 70368744177664 → LenOk gl b
  | 0, _ => fun _ _ h => absurd h (by omega)
  | b + 1, hb => length_step b (by omega) (length_ok b (by omega))
theorem turnsH_pos {n i : Nat} (h : 1 < n) : 0 < (turnsH n i).length := by
  by_cases hk : splitN n ≤ i
  · rw [turnsH_right h hk, List.length_cons]; omega
  · rw [turnsH_left h hk, List.length_cons]; omega
theorem up_step {gl : Nat → Obj} (hG : GlobsR gl) (b : Nat) (hb : b ≤ 65537) (ih : UpOk gl b) : UpOk gl (b + 1) := by
  intro n i base c hs lf hn h1n hin hlen hh hc hlf
  refine Spec.enter (C := cx gl) Tryd.func54 rfl 53 rfl rfl fun w0 h0 hsep hsub hpre => ?_
  obtain rfl : h0 = Heap.none := hsep
  show St (cx gl) _ [(0, .int .i64 (n : Int)), (1, .int .i64 (i : Int)), (2, .slice base hs.length c), (3, .agg (ints .u8 (lf)).toArray)] _ _
  refine R_seq ?_
  refine R_region ?_
  refine L_op rfl (W_box (ints .u8 lf) rfl rfl rfl rfl rfl fun b7 => ?_)
  refine L_op rfl (W_alloc rfl rfl rfl ty_ze_23 fun b8 => ?_)
  refine L_nil ?_
  refine St.env (.cons (t := 0) rfl (.cons (t := 1) rfl (.cons (t := 2) rfl (.cons (t := 7) rfl (.cons (t := 8) rfl .nil))))) ?_
  refine Q_then ?_
  refine R_seq ?_
  refine R_seq ?_
  refine R_region ?_
  refine L_val rfl rfl rfl (OpP.v (P_move rfl rfl)) ?_
  refine L_val rfl rfl rfl (OpP.v (P_eql rfl rfl rfl)) ?_
  refine L_nil ?_
  refine St.env (.cons (t := 0) rfl (.cons (t := 1) rfl (.cons (t := 2) rfl (.cons (t := 7) rfl (.cons (t := 8) rfl (.cons (t := 15) rfl .nil)))))) ?_
  refine Q_then ?_
  refine R_condP rfl (fun h1 => ?_) (fun h1 => ?_)
  · skip
    obtain rfl : n = 1 := by omega
    obtain rfl : hs = [] := List.eq_nil_of_length_eq_zero (by rw [hlen, turnsH_one (by omega)]; rfl)
    refine R_seq ?_
    refine R_region ?_
    refine L_val rfl rfl rfl (V_loadAgg rfl rfl ty_ag_23 (Rds.blk .h1) (by rw [ints_length, hlf])) ?_
    refine L_op rfl (W_storeAll rfl rfl rfl rfl ty_ag_23 (by rw [ints_length, hlf]) (ints_one) .h0 (by rw [ints_length, hlf]; rfl) ?_)
    refine L_nil ?_
    refine St.env (.cons (t := 0) rfl (.cons (t := 1) rfl (.cons (t := 2) rfl (.cons (t := 7) rfl (.cons (t := 8) rfl .nil))))) ?_
    refine Q_then ?_
    refine R_ret ?_
    refine Q_then_ret ?_
    exact R_endV rfl rfl (.cell rfl (Rds.loadVar ty_ag_23 (Rds.blk .h0) (by rw [ints_length, hlf])) .nil) (by rw [leadH_one (by omega)]; rfl)
  · skip
    have hn1 : 1 < n := by omega
    have hk1 := splitN_lt hn1
    have hk2 := splitN_pos hn1
    have hpos : 0 < hs.length := by rw [hlen]; exact turnsH_pos hn1
    obtain ⟨es, a, rfl⟩ := list_snoc hpos
    have hel : (es ++ [a]).length = es.length + 1 := by simp
    have hsm : es.length ≤ 65537 := by have := turnsH_len n i; omega
    have hal : a.length = 32 := hh a (by simp)
    have hes : ∀ h ∈ es, h.length = 32 := fun h hm => hh h (by simp [hm])
    have hax : (es ++ [a])[es.length]? = some a := by simp
    obtain ⟨pb, pj, hbe, hrow⟩ := Row.some_ hpre (by rw [flat_length hh]; omega)
    have r1 : ∀ rs, Rw (cx gl) ⟨53, [], w0, Heap.none⟩ rs (if c = 0 then base else base.map (·.add (0 * 32))) (flat .u8 es) := fun rs => by
      have h := ((Sn.row (C := cx gl) (F := ⟨53, [], w0, Heap.none⟩) (rs := rs) hpre rfl).sliced (sz := 32) (p := 0) (q := es.length) (c := c) (by omega) (.inr (by rw [flat_length hh, hel]; omega))).rw_
      rwa [Nat.zero_mul, List.drop_zero, Nat.sub_zero, flat_take hh, List.take_left] at h
    rw [hel]
    refine R_skip ?_
    refine Q_then ?_
    refine R_seq ?_
    refine R_region ?_
    refine L_val rfl rfl rfl (OpP.v (P_move rfl rfl)) ?_
    refine L_op rfl (W_callV rfl rfl rfl rfl fn_ca_65 (rsplit_ok gl n (by omega)) (fun _ _ => trivial) ?_)
    refine L_val rfl rfl rfl (OpP.v (P_assign rfl rfl)) ?_
    refine L_nil ?_
    refine St.env (.cons (t := 0) rfl (.cons (t := 1) rfl (.cons (t := 2) rfl (.cons (t := 7) rfl (.cons (t := 8) rfl (.cons (t := 9) rfl .nil)))))) ?_
    refine Q_then ?_
    refine R_seq ?_
    refine R_region ?_
    subst hbe
    refine L_val rfl rfl rfl (OpP.v (P_move rfl rfl)) ?_
    refine L_val rfl rfl rfl (OpP.v (P_move rfl rfl)) ?_
    refine L_val rfl rfl rfl (OpP.v (P_len rfl ty_sl_55 rfl)) ?_
    first | (refine L_val rfl rfl rfl (OpP.v (P_subN rfl rfl rfl (by simp only [fits]; omega))) ?_) | (refine L_val rfl rfl rfl (OpP.v (P_sub rfl rfl rfl)) ?_)
    refine E_as (t := 22) (v' := .int .i64 ((es.length : Nat) : Int)) rfl (by congr 1; omega) ?_
    refine L_val rfl rfl rfl (OpP.v (P_ixs (es.length) rfl ty_sl_55 rfl rfl (by first | rfl | omega) (by omega))) ?_
    refine L_val rfl rfl rfl (V_loadAgg rfl rfl ty_ag_23 ((Rds.row hrow rfl).part (es.length * 32) fun j v hv => flat_at hh hax j v hv) (by rw [ints_length, hal])) ?_
    refine L_op rfl (W_alloc rfl rfl rfl ty_ze_23 fun b10 => ?_)
    refine L_op rfl (W_storeAll rfl rfl rfl rfl ty_ag_23 (by rw [ints_length, hal]) (ints_one) .h0 (by rw [ints_length, hal]; rfl) ?_)
    refine L_nil ?_
    refine St.env (.cons (t := 0) rfl (.cons (t := 1) rfl (.cons (t := 2) rfl (.cons (t := 7) rfl (.cons (t := 8) rfl (.cons (t := 9) rfl (.cons (t := 10) rfl .nil))))))) ?_
    refine Q_then ?_
    refine R_seq ?_
    refine R_region ?_
    refine L_val rfl rfl rfl (OpP.v (P_move rfl rfl)) ?_
    refine L_val rfl rfl rfl (OpP.v (P_move rfl rfl)) ?_
    refine L_val rfl rfl rfl (OpP.v (P_len rfl ty_sl_55 rfl)) ?_
    first | (refine L_val rfl rfl rfl (OpP.v (P_subN rfl rfl rfl (by simp only [fits]; omega))) ?_) | (refine L_val rfl rfl rfl (OpP.v (P_sub rfl rfl rfl)) ?_)
    refine E_as (t := 28) (v' := .int .i64 ((es.length : Nat) : Int)) rfl (by congr 1; omega) ?_
    refine L_val rfl rfl rfl (OpP.v (P_slice 0 es.length rfl ty_sl_55 rfl rfl ⟨_, rfl⟩ (by omega) (by omega))) ?_
    refine E_as (t := 29) (v' := .slice (if c = 0 then some ⟨pb, pj, none⟩ else (some (⟨pb, pj, none⟩ : Addr)).map (·.add (0 * 32))) es.length c) rfl (by unfold sliced; rw [Nat.sub_zero, Nat.sub_zero]) ?_
    refine L_val rfl rfl rfl (OpP.v (P_assign rfl rfl)) ?_
    refine L_nil ?_
    refine St.env (.cons (t := 0) rfl (.cons (t := 1) rfl (.cons (t := 7) rfl (.cons (t := 8) rfl (.cons (t := 9) rfl (.cons (t := 10) rfl (.cons (t := 11) rfl .nil))))))) ?_
    refine Q_then ?_
    refine R_seq ?_
    refine R_seq ?_
    refine R_region ?_
    refine L_val rfl rfl rfl (OpP.v (P_move rfl rfl)) ?_
    refine L_val rfl rfl rfl (OpP.v (P_move rfl rfl)) ?_
    refine L_val rfl rfl rfl (OpP.v (P_lss rfl rfl rfl)) ?_
    refine L_nil ?_
    refine St.env (.cons (t := 0) rfl (.cons (t := 1) rfl (.cons (t := 7) rfl (.cons (t := 8) rfl (.cons (t := 9) rfl (.cons (t := 10) rfl (.cons (t := 11) rfl (.cons (t := 32) rfl .nil)))))))) ?_
    refine Q_then ?_
    refine R_condP rfl (fun hk => ?_) (fun hk => ?_)
    · skip
      have hq : es.length = (turnsH (splitN n) i).length := by rw [hel, turnsH_left hn1 (by omega), List.length_cons] at hlen; omega
      refine R_seq ?_
      refine R_region ?_
      refine L_val rfl rfl rfl (OpP.v (P_move rfl rfl)) ?_
      refine L_val rfl rfl rfl (OpP.v (P_move rfl rfl)) ?_
      refine L_val rfl rfl rfl (OpP.v (P_move rfl rfl)) ?_
      refine L_val rfl rfl rfl (V_loadAgg rfl rfl ty_ag_23 (Rds.blk .h2) (by rw [ints_length, hlf])) ?_
      refine L_op rfl (W_callV rfl rfl rfl rfl fn_ca_54 (ih (splitN n) i _ _ es lf (by omega) hk2 (by omega) hq hes (by omega) hlf) (r1 _) ?_)
      refine L_op rfl (W_alloc rfl rfl rfl ty_ze_23 fun b12 => ?_)
      refine L_op rfl (W_storeAll rfl rfl rfl rfl ty_ag_23 (by rw [ints_length, leadH_length hlf]) (ints_one) .h0 (by rw [ints_length, leadH_length hlf]; rfl) ?_)
      refine L_nil ?_
      refine St.env (.cons (t := 0) rfl (.cons (t := 1) rfl (.cons (t := 7) rfl (.cons (t := 8) rfl (.cons (t := 9) rfl (.cons (t := 10) rfl (.cons (t := 11) rfl (.cons (t := 12) rfl .nil)))))))) ?_
      refine Q_then ?_
      refine R_seq ?_
      refine R_region ?_
      refine L_val rfl rfl rfl (V_loadAgg rfl rfl ty_ag_23 (Rds.blk .h0) (by rw [ints_length, leadH_length hlf])) ?_
      refine L_val rfl rfl rfl (V_loadAgg rfl rfl ty_ag_23 (Rds.blk .h1) (by rw [ints_length, hal])) ?_
      refine L_op rfl (W_callV rfl rfl rfl rfl fn_ca_13 (rinner_ok hG _ _ (leadH_length hlf) hal) (fun _ _ => trivial) ?_)
      refine L_op rfl (W_storeAll rfl rfl rfl rfl ty_ag_23 (by rw [ints_length, sha_length]) (ints_one) .h2 (by rw [ints_length, sha_length]; rfl) ?_)
      refine L_nil ?_
      refine St.env (.cons (t := 0) rfl (.cons (t := 1) rfl (.cons (t := 7) rfl (.cons (t := 8) rfl (.cons (t := 9) rfl (.cons (t := 10) rfl (.cons (t := 11) rfl .nil))))))) ?_
      refine Q_then ?_
      refine R_ret ?_
      refine Q_then_ret ?_
      exact R_endV rfl rfl (.cell rfl (Rds.loadVar ty_ag_23 (Rds.blk .h2) (by rw [ints_length, sha_length])) .nil) (by rw [leadH_left hn1 (by omega) _ _ hq]; rfl)
    · skip
      have hq : es.length = (turnsH (n - splitN n) (i - splitN n)).length := by rw [hel, turnsH_right hn1 (by omega), List.length_cons] at hlen; omega
      refine R_skip ?_
      refine Q_then ?_
      refine R_seq ?_
      refine R_region ?_
      refine L_val rfl rfl rfl (OpP.v (P_move rfl rfl)) ?_
      refine L_val rfl rfl rfl (OpP.v (P_move rfl rfl)) ?_
      first | (refine L_val rfl rfl rfl (OpP.v (P_subN rfl rfl rfl (by simp only [fits]; omega))) ?_) | (refine L_val rfl rfl rfl (OpP.v (P_sub rfl rfl rfl)) ?_)
      refine E_as (t := 43) (v' := .int .i64 ((n - splitN n : Nat) : Int)) rfl (by congr 1; omega) ?_
      refine L_val rfl rfl rfl (OpP.v (P_move rfl rfl)) ?_
      refine L_val rfl rfl rfl (OpP.v (P_move rfl rfl)) ?_
      first | (refine L_val rfl rfl rfl (OpP.v (P_subN rfl rfl rfl (by simp only [fits]; omega))) ?_) | (refine L_val rfl rfl rfl (OpP.v (P_sub rfl rfl rfl)) ?_)
      refine E_as (t := 46) (v' := .int .i64 ((i - splitN n : Nat) : Int)) rfl (by congr 1; omega) ?_
      refine L_val rfl rfl rfl (OpP.v (P_move rfl rfl)) ?_
      refine L_val rfl rfl rfl (V_loadAgg rfl rfl ty_ag_23 (Rds.blk .h2) (by rw [ints_length, hlf])) ?_
      refine L_op rfl (W_callV rfl rfl rfl rfl fn_ca_54 (ih (n - splitN n) (i - splitN n) _ _ es lf (by omega) (by omega) (by omega) hq hes (by omega) hlf) (r1 _) ?_)
      refine L_op rfl (W_alloc rfl rfl rfl ty_ze_23 fun b13 => ?_)
      refine L_op rfl (W_storeAll rfl rfl rfl rfl ty_ag_23 (by rw [ints_length, leadH_length hlf]) (ints_one) .h0 (by rw [ints_length, leadH_length hlf]; rfl) ?_)
      refine L_nil ?_
      refine St.env (.cons (t := 8) rfl (.cons (t := 10) rfl (.cons (t := 13) rfl .nil))) ?_
      refine Q_then ?_
      refine R_seq ?_
      refine R_region ?_
      refine L_val rfl rfl rfl (V_loadAgg rfl rfl ty_ag_23 (Rds.blk .h1) (by rw [ints_length, hal])) ?_
      refine L_val rfl rfl rfl (V_loadAgg rfl rfl ty_ag_23 (Rds.blk .h0) (by rw [ints_length, leadH_length hlf])) ?_
      refine L_op rfl (W_callV rfl rfl rfl rfl fn_ca_13 (rinner_ok hG _ _ hal (leadH_length hlf)) (fun _ _ => trivial) ?_)
      refine L_op rfl (W_storeAll rfl rfl rfl rfl ty_ag_23 (by rw [ints_length, sha_length]) (ints_one) .h2 (by rw [ints_length, sha_length]; rfl) ?_)
      refine L_nil ?_
      refine St.env (.cons (t := 8) rfl .nil) ?_
      refine Q_then ?_
      refine R_ret ?_
      exact R_endV rfl rfl (.cell rfl (Rds.loadVar ty_ag_23 (Rds.blk .h2) (by rw [ints_length, sha_length])) .nil) (by rw [leadH_right hn1 (by omega) _ _ hq]; rfl)
theorem up_ok {gl : Nat → Obj} (hG : GlobsR gl) : ∀ b, b ≤ 65537 → UpOk gl b
  | 0, _ => fun _ _ _ _ _ _ h => absurd h (by omega)
  | b + 1, hb => up_step hG b (by omega) (up_ok hG b (by omega))
theorem fits_ok {gl : Nat → Obj} (total index : Int) (base : Option Addr) (m c : Nat) (hm : m ≤ 70368744177664) : SpecV (cx gl) 35 [.agg [.int .i64 total, .int .i64 index, .slice base m c].toArray] noPre (.bool (fitsB total index m)) := by
  refine Spec.enter (C := cx gl) Tryd.func35 rfl 32 rfl rfl fun w0 h0 hsep hsub hpre => ?_
  obtain rfl : h0 = Heap.none := hsep
  show St (cx gl) _ [(0, .agg [.int .i64 total, .int .i64 index, .slice base m c].toArray)] _ _
  refine R_seq ?_
  refine R_region ?_
  refine L_op rfl (W_box ([.int .i64 total, .int .i64 index, .slice base m c]) rfl rfl rfl rfl rfl fun b1 => ?_)
  refine L_val rfl rfl rfl (OpP.v (P_assign rfl rfl)) ?_
  refine L_nil ?_
  refine St.env (.cons (t := 1) rfl (.cons (t := 2) rfl .nil)) ?_
  refine Q_then ?_
  refine R_seq ?_
  refine R_seq ?_
  refine R_region ?_
  refine L_val rfl rfl rfl (OpP.v (P_fld0 rfl ty_fl_57_0 rfl)) ?_
  refine L_val rfl rfl rfl (V_load rfl rfl ty_sc_3 (by first | exact Rd.blk .h0 rfl | exact Rd.blk .h1 rfl | exact Rd.blk .h2 rfl | exact Rd.blk .h3 rfl | exact Rd.blk .h4 rfl | exact Rd.blk .h5 rfl | exact Rd.blk .h6 rfl | exact Rd.blk .h7 rfl)) ?_
  refine L_val rfl rfl rfl (OpP.v (P_lss rfl rfl rfl)) ?_
  refine E_bool (t := 5) rfl (fun h1 => ?_) (fun h1 => ?_)
  · skip
    refine L_val rfl rfl rfl (OpP.v (P_move rfl rfl)) ?_
    refine L_no rfl rfl rfl ?_
    refine L_no rfl rfl rfl ?_
    refine L_no rfl rfl rfl ?_
    refine L_val rfl rfl rfl (OpP.v (P_pick rfl rfl rfl)) ?_
    refine L_val rfl rfl rfl (OpP.v (P_move rfl rfl)) ?_
    refine L_no rfl rfl rfl ?_
    refine L_no rfl rfl rfl ?_
    refine L_no rfl rfl rfl ?_
    refine L_val rfl rfl rfl (OpP.v (P_pick rfl rfl rfl)) ?_
    refine L_val rfl rfl rfl (OpP.v (P_move rfl rfl)) ?_
    refine L_no rfl rfl rfl ?_
    refine L_no rfl rfl rfl ?_
    refine L_no rfl rfl rfl ?_
    refine L_no rfl rfl rfl ?_
    refine L_no rfl rfl rfl ?_
    refine L_val rfl rfl rfl (OpP.v (P_pick rfl rfl rfl)) ?_
    refine L_nil ?_
    refine St.env (.cons (t := 1) rfl (.cons (t := 2) rfl (.cons (t := 22) rfl .nil))) ?_
    refine Q_then ?_
    refine R_condT rfl ?_
    refine R_seq ?_
    refine R_region ?_
    refine L_val rfl rfl rfl (OpP.v (P_assign rfl rfl)) ?_
    refine L_nil ?_
    refine St.env (.cons (t := 1) rfl (.cons (t := 2) rfl .nil)) ?_
    refine Q_then ?_
    refine R_ret ?_
    refine Q_then_ret ?_
    exact R_endV rfl rfl (.tmp rfl .nil) (congrArg Value.bool (fitsB_out fun hh => by have := of_decide_eq_true h1; omega).symm)
  · skip
    refine L_val rfl rfl rfl (OpP.v (P_move rfl rfl)) ?_
    refine L_val rfl rfl rfl (OpP.v (P_fld0 rfl ty_fl_57_0 rfl)) ?_
    refine L_val rfl rfl rfl (V_load rfl rfl ty_sc_3 (by first | exact Rd.blk .h0 rfl | exact Rd.blk .h1 rfl | exact Rd.blk .h2 rfl | exact Rd.blk .h3 rfl | exact Rd.blk .h4 rfl | exact Rd.blk .h5 rfl | exact Rd.blk .h6 rfl | exact Rd.blk .h7 rfl)) ?_
    refine L_val rfl rfl rfl (OpP.v (P_gtr rfl rfl rfl)) ?_
    refine E_bool (t := 9) rfl (fun h2 => ?_) (fun h2 => ?_)
    · skip
      refine L_val rfl rfl rfl (OpP.v (P_pick rfl rfl rfl)) ?_
      refine L_val rfl rfl rfl (OpP.v (P_move rfl rfl)) ?_
      refine L_no rfl rfl rfl ?_
      refine L_no rfl rfl rfl ?_
      refine L_no rfl rfl rfl ?_
      refine L_val rfl rfl rfl (OpP.v (P_pick rfl rfl rfl)) ?_
      refine L_val rfl rfl rfl (OpP.v (P_move rfl rfl)) ?_
      refine L_no rfl rfl rfl ?_
      refine L_no rfl rfl rfl ?_
      refine L_no rfl rfl rfl ?_
      refine L_no rfl rfl rfl ?_
      refine L_no rfl rfl rfl ?_
      refine L_val rfl rfl rfl (OpP.v (P_pick rfl rfl rfl)) ?_
      refine L_nil ?_
      refine St.env (.cons (t := 1) rfl (.cons (t := 2) rfl (.cons (t := 22) rfl .nil))) ?_
      refine Q_then ?_
      refine R_condT rfl ?_
      refine R_seq ?_
      refine R_region ?_
      refine L_val rfl rfl rfl (OpP.v (P_assign rfl rfl)) ?_
      refine L_nil ?_
      refine St.env (.cons (t := 1) rfl (.cons (t := 2) rfl .nil)) ?_
      refine Q_then ?_
      refine R_ret ?_
      refine Q_then_ret ?_
      exact R_endV rfl rfl (.tmp rfl .nil) (congrArg Value.bool (fitsB_out fun hh => by have := of_decide_eq_true h2; omega).symm)
    · skip
      refine L_val rfl rfl rfl (OpP.v (P_pick rfl rfl rfl)) ?_
      refine L_val rfl rfl rfl (OpP.v (P_move rfl rfl)) ?_
      refine L_val rfl rfl rfl (OpP.v (P_fld0 rfl ty_fl_57_1 rfl)) ?_
      refine L_val rfl rfl rfl (V_load rfl rfl ty_sc_3 (by first | exact Rd.blk .h0 rfl | exact Rd.blk .h1 rfl | exact Rd.blk .h2 rfl | exact Rd.blk .h3 rfl | exact Rd.blk .h4 rfl | exact Rd.blk .h5 rfl | exact Rd.blk .h6 rfl | exact Rd.blk .h7 rfl)) ?_
      refine L_val rfl rfl rfl (OpP.v (P_lss rfl rfl rfl)) ?_
      refine E_bool (t := 14) rfl (fun h3 => ?_) (fun h3 => ?_)
      · skip
        refine L_val rfl rfl rfl (OpP.v (P_pick rfl rfl rfl)) ?_
        refine L_val rfl rfl rfl (OpP.v (P_move rfl rfl)) ?_
        refine L_no rfl rfl rfl ?_
        refine L_no rfl rfl rfl ?_
        refine L_no rfl rfl rfl ?_
        refine L_no rfl rfl rfl ?_
        refine L_no rfl rfl rfl ?_
        refine L_val rfl rfl rfl (OpP.v (P_pick rfl rfl rfl)) ?_
        refine L_nil ?_
        refine St.env (.cons (t := 1) rfl (.cons (t := 2) rfl (.cons (t := 22) rfl .nil))) ?_
        refine Q_then ?_
        refine R_condT rfl ?_
        refine R_seq ?_
        refine R_region ?_
        refine L_val rfl rfl rfl (OpP.v (P_assign rfl rfl)) ?_
        refine L_nil ?_
        refine St.env (.cons (t := 1) rfl (.cons (t := 2) rfl .nil)) ?_
        refine Q_then ?_
        refine R_ret ?_
        refine Q_then_ret ?_
        exact R_endV rfl rfl (.tmp rfl .nil) (congrArg Value.bool (fitsB_out fun hh => by have := of_decide_eq_true h3; omega).symm)
      · skip
        refine L_val rfl rfl rfl (OpP.v (P_pick rfl rfl rfl)) ?_
        refine L_val rfl rfl rfl (OpP.v (P_move rfl rfl)) ?_
        refine L_val rfl rfl rfl (OpP.v (P_fld0 rfl ty_fl_57_1 rfl)) ?_
        refine L_val rfl rfl rfl (V_load rfl rfl ty_sc_3 (by first | exact Rd.blk .h0 rfl | exact Rd.blk .h1 rfl | exact Rd.blk .h2 rfl | exact Rd.blk .h3 rfl | exact Rd.blk .h4 rfl | exact Rd.blk .h5 rfl | exact Rd.blk .h6 rfl | exact Rd.blk .h7 rfl)) ?_
        refine L_val rfl rfl rfl (OpP.v (P_fld0 rfl ty_fl_57_0 rfl)) ?_
        refine L_val rfl rfl rfl (V_load rfl rfl ty_sc_3 (by first | exact Rd.blk .h0 rfl | exact Rd.blk .h1 rfl | exact Rd.blk .h2 rfl | exact Rd.blk .h3 rfl | exact Rd.blk .h4 rfl | exact Rd.blk .h5 rfl | exact Rd.blk .h6 rfl | exact Rd.blk .h7 rfl)) ?_
        refine L_val rfl rfl rfl (OpP.v (P_geq rfl rfl rfl)) ?_
        refine E_bool (t := 21) rfl (fun h4 => ?_) (fun h4 => ?_)
        · skip
          refine L_val rfl rfl rfl (OpP.v (P_pick rfl rfl rfl)) ?_
          refine L_nil ?_
          refine St.env (.cons (t := 1) rfl (.cons (t := 2) rfl (.cons (t := 22) rfl .nil))) ?_
          refine Q_then ?_
          refine R_condT rfl ?_
          refine R_seq ?_
          refine R_region ?_
          refine L_val rfl rfl rfl (OpP.v (P_assign rfl rfl)) ?_
          refine L_nil ?_
          refine St.env (.cons (t := 1) rfl (.cons (t := 2) rfl .nil)) ?_
          refine Q_then ?_
          refine R_ret ?_
          refine Q_then_ret ?_
          exact R_endV rfl rfl (.tmp rfl .nil) (congrArg Value.bool (fitsB_out fun hh => by have := of_decide_eq_true h4; omega).symm)
        · skip
          obtain ⟨n, i, rfl, rfl, hn1, hn2, hin⟩ := inB_of (total := total) (index := index) ⟨by have := of_decide_eq_false h1; omega, by have := of_decide_eq_false h2; omega, by have := of_decide_eq_false h3; omega, by have := of_decide_eq_false h4; omega⟩
          refine L_val rfl rfl rfl (OpP.v (P_pick rfl rfl rfl)) ?_
          refine L_nil ?_
          refine St.env (.cons (t := 1) rfl (.cons (t := 2) rfl (.cons (t := 22) rfl .nil))) ?_
          refine Q_then ?_
          refine R_condF rfl ?_
          refine R_skip ?_
          refine Q_then ?_
          refine R_seq ?_
          refine R_open [(0, 0), (1, 1), (2, 0), (3, 0), (4, 1), (5, 0), (6, 1), (7, 2), (8, 0), (9, 0)] mixed (by kernel_rfl) (QOk.then QOk.body) ?_
          refine O_pure rfl rfl rfl rfl (P_fld0 rfl ty_fl_57_2 rfl) ?_
          refine O_val rfl rfl rfl rfl (V_load rfl rfl ty_sc_55 (by first | exact Rd.blk .h0 rfl | exact Rd.blk .h1 rfl | exact Rd.blk .h2 rfl | exact Rd.blk .h3 rfl | exact Rd.blk .h4 rfl | exact Rd.blk .h5 rfl | exact Rd.blk .h6 rfl | exact Rd.blk .h7 rfl)) ?_
          refine O_pure rfl rfl rfl rfl (P_len rfl ty_sl_55 rfl) ?_
          refine O_pure rfl rfl rfl rfl (P_fld0 rfl ty_fl_57_0 rfl) ?_
          refine O_val rfl rfl rfl rfl (V_load rfl rfl ty_sc_3 (by first | exact Rd.blk .h0 rfl | exact Rd.blk .h1 rfl | exact Rd.blk .h2 rfl | exact Rd.blk .h3 rfl | exact Rd.blk .h4 rfl | exact Rd.blk .h5 rfl | exact Rd.blk .h6 rfl | exact Rd.blk .h7 rfl)) ?_
          refine O_pure rfl rfl rfl rfl (P_fld0 rfl ty_fl_57_1 rfl) ?_
          refine O_val rfl rfl rfl rfl (V_load rfl rfl ty_sc_3 (by first | exact Rd.blk .h0 rfl | exact Rd.blk .h1 rfl | exact Rd.blk .h2 rfl | exact Rd.blk .h3 rfl | exact Rd.blk .h4 rfl | exact Rd.blk .h5 rfl | exact Rd.blk .h6 rfl | exact Rd.blk .h7 rfl)) ?_
          refine O_keep rfl rfl (W_callV rfl rfl rfl rfl fn_ca_58 (length_ok (n + 1) (by omega) n i (by omega) (by omega)) (fun _ _ => trivial) (K_keep (Weak.refl _) ?_))
          refine O_pure rfl rfl rfl rfl (P_eql rfl rfl rfl) ?_
          refine O_pure rfl rfl rfl rfl (P_assign rfl rfl) ?_
          refine O_nil ?_
          refine St.env (.cons (t := 2) rfl .nil) ?_
          refine Q_then ?_
          refine R_ret ?_
          exact R_endV rfl rfl (.tmp rfl .nil) (congrArg Value.bool (by rw [fitsB_in hn1 hn2 hin]; exact decide_eq_decide.2 (by omega)))
end Go.Proofs.YtldndhekjhlbmaaDoor
