/- Walks: sound, shares, searches, New. Printed by gen.py. -/
import Derived.Test.YtjhhpagcejgclaaDoorC1
set_option linter.unusedVariables false
set_option linter.unusedSimpArgs false
set_option maxRecDepth 100000
namespace Go.Proofs.YtjhhpagcejgclaaDoor
open Go Go.RowKit Go.Proofs
theorem quo3 {x : Int} (h0 : 0 ≤ x) (h1 : x ≤ 18446744073709551615) : IntKind.u64.wrap (Int.tdiv x 3) = x / 3 := by
  rw [Int.tdiv_eq_ediv_of_nonneg h0, wrap_fits (by simp only [fits]; omega)]
def shareV (k : Int) (l : List Mem) : Int := if soundE l = 0 then k * sumP l / 3 + 1 else 0
theorem out_ok {gl : Nat → Obj} (m : Mem) (hm : m.ok) (T : Int) (hT0 : 0 ≤ T) (hT : T ≤ msK) (b : Nat) : SpecV (cx gl) 36 [.agg m.cells.toArray, .pointer (some ⟨b, 0, none⟩)] (fun w => Row w (some ⟨b, 0, none⟩) [.int .i64 (7 * T)]) (.bool (outQ T m)) := by
  refine Spec.enter (C := cx gl) Tryd.func36 rfl 15 rfl rfl fun w0 h0 hsep hsub hpre => ?_
  obtain rfl : h0 = Heap.none := hsep
  show St (cx gl) _ [(0, .agg m.cells.toArray), (1, .pointer (some ⟨b, 0, none⟩))] _ _
  have hms : msK = 1152921504606846975 := rfl
  obtain ⟨⟨ha1, ha2⟩, ⟨hp1, hp2⟩, hq1, hq2⟩ := hm
  refine R_seq ?_
  refine R_region ?_
  refine L_op rfl (W_box (m.cells) rfl rfl rfl rfl rfl fun b2 => ?_)
  refine L_val rfl rfl rfl (OpP.v (P_assign rfl rfl)) ?_
  refine L_nil ?_
  refine St.env (.cons (t := 1) rfl (.cons (t := 2) rfl (.cons (t := 3) rfl .nil))) ?_
  refine Q_then ?_
  refine R_seq ?_
  refine R_region ?_
  refine L_val rfl rfl rfl (OpP.v (P_fld0 rfl ty_fl_37_2 rfl)) ?_
  refine L_val rfl rfl rfl (V_load rfl rfl ty_sc_2 (Rd.blk .h0 rfl)) ?_
  refine L_val rfl rfl rfl (V_load rfl rfl ty_sc_2 (fun w nw => by obtain ⟨ad, e, h⟩ := (Sn.row hpre rfl).rw_ w nw 0 _ rfl; obtain rfl := Option.some.inj e; exact h)) ?_
  refine L_val rfl rfl rfl (OpP.v (P_neg rfl rfl)) ?_
  refine E_as (t := 7) (v' := .int .i64 (-(7 * T))) rfl (by rw [wrap_fits (by simp only [fits]; omega)]) ?_
  refine L_val rfl rfl rfl (OpP.v (P_lss rfl rfl rfl)) ?_
  refine E_bool (t := 8) rfl (fun h1 => ?_) (fun h1 => ?_)
  · skip
    have h1 := of_decide_eq_true h1
    refine L_val rfl rfl rfl (OpP.v (P_move rfl rfl)) ?_
    refine L_no rfl rfl rfl ?_
    refine L_no rfl rfl rfl ?_
    refine L_no rfl rfl rfl ?_
    refine L_no rfl rfl rfl ?_
    refine L_val rfl rfl rfl (OpP.v (P_pick rfl rfl rfl)) ?_
    refine L_val rfl rfl rfl (OpP.v (P_assign rfl rfl)) ?_
    refine L_nil ?_
    refine St.env (.cons (t := 3) rfl .nil) ?_
    refine Q_then ?_
    refine R_ret ?_
    exact R_endV rfl rfl (.tmp rfl .nil) (by unfold outQ; rw [decide_eq_true h1]; rfl)
  · skip
    have h1 := of_decide_eq_false h1
    refine L_val rfl rfl rfl (OpP.v (P_move rfl rfl)) ?_
    refine L_val rfl rfl rfl (OpP.v (P_fld0 rfl ty_fl_37_2 rfl)) ?_
    refine L_val rfl rfl rfl (V_load rfl rfl ty_sc_2 (Rd.blk .h0 rfl)) ?_
    refine L_val rfl rfl rfl (V_load rfl rfl ty_sc_2 (fun w nw => by obtain ⟨ad, e, h⟩ := (Sn.row hpre rfl).rw_ w nw 0 _ rfl; obtain rfl := Option.some.inj e; exact h)) ?_
    refine L_val rfl rfl rfl (OpP.v (P_gtr rfl rfl rfl)) ?_
    refine L_val rfl rfl rfl (OpP.v (P_pick rfl rfl rfl)) ?_
    refine L_val rfl rfl rfl (OpP.v (P_assign rfl rfl)) ?_
    refine L_nil ?_
    refine St.env (.cons (t := 3) rfl .nil) ?_
    refine Q_then ?_
    refine R_ret ?_
    exact R_endV rfl rfl (.tmp rfl .nil) (by unfold outQ; rw [decide_eq_false h1]; rfl)
theorem mindex_ok {gl : Nat → Obj} (base : Option Addr) (c : Nat) (l : List Mem) (hc : l.length ≤ c) (hmax : l.length ≤ 5864062014700) (hok : ∀ m ∈ l, m.ok) (fn : FuncId) (fi ca : List Value) (p : Mem → Bool) (ba : Option Addr) (cs : List Value) (hcal : callable (cx gl).P fn = true) (hs : ∀ m ∈ l, SpecV (cx gl) fn (fi ++ [.agg m.cells.toArray] ++ ca) (fun w => Row w ba cs) (.bool (p m))) : SpecV (cx gl) 53 [.slice base l.length c, .func (.func fn) fi.toArray ca.toArray] (fun w => Row w base (memC l) ∧ Row w ba cs) (.int .i64 (idxP p l)) := by
  refine Spec.enter (C := cx gl) Tryd.func53 rfl 19 rfl rfl fun w0 h0 hsep hsub hpre => ?_
  obtain rfl : h0 = Heap.none := hsep
  show St (cx gl) _ [(0, .slice base l.length c), (1, .func (.func fn) fi.toArray ca.toArray)] _ _
  refine R_seq ?_
  refine R_region ?_
  refine L_val rfl rfl rfl (OpP.v (P_assign rfl rfl)) ?_
  refine L_nil ?_
  refine Q_then ?_
  refine R_seq ?_
  refine R_seq ?_
  refine R_region ?_
  refine L_val rfl rfl rfl (OpP.v (P_move rfl rfl)) ?_
  refine L_val rfl rfl rfl (OpP.v (P_len rfl ty_sl_22 rfl)) ?_
  refine L_val rfl rfl rfl (OpP.v (P_move rfl rfl)) ?_
  refine L_nil ?_
  refine St.env (.cons (t := 0) rfl (.cons (t := 1) rfl (.cons (t := 4) rfl (.cons (t := 7) rfl (.cons (t := 8) rfl .nil))))) ?_
  refine Q_then ?_
  refine R_block ?_
  refine R_loopE (G := Nat) (.cons (t := 0) rfl (.cons (t := 1) rfl (.cons (t := 4) rfl (.cons (t := 7) rfl .nil)))) (fun g => [(8, .int .i64 (g : Int))]) (fun _ => _) (fun g => g ≤ l.length ∧ ∀ (j : Nat) (m' : Mem), j < g → l[j]? = some m' → p m' = false) (fun g => l.length - g) (0) (⟨Nat.zero_le _, fun j m' h => absurd h (Nat.not_lt_zero _)⟩) (by repeat (first | exact .nil | refine .cons rfl ?_ | refine .consE rfl (by first | rfl | (congr 1; omega) | (congr 1; push_cast; omega)) ?_)) (Weak.refl _) ?_
  intro i hinv
  replace hinv : i ≤ l.length ∧ ∀ (j : Nat) (m' : Mem), j < i → l[j]? = some m' → p m' = false := hinv
  show St (cx gl) _ ((8, .int .i64 (i : Int)) :: _) _ _
  obtain ⟨hi, hno⟩ := hinv
  refine R_seq ?_
  refine R_region ?_
  refine L_val rfl rfl rfl (OpP.v (P_lss rfl rfl rfl)) ?_
  refine L_nil ?_
  refine Q_then ?_
  refine R_seq ?_
  refine R_condP rfl (fun hlt => ?_) (fun hlt => ?_)
  · skip
    obtain ⟨m, hm⟩ : ∃ m, l[i]? = some m := ⟨_, List.getElem?_eq_getElem (by omega)⟩
    obtain ⟨pb, pj, rfl, hrow⟩ := hpre.1.some_ (by rw [memC_length]; omega)
    refine R_skip ?_
    refine Q_then ?_
    refine R_seq ?_
    refine R_block ?_
    refine R_seq ?_
    refine R_region ?_
    refine L_val rfl rfl rfl (OpP.v (P_move rfl rfl)) ?_
    refine L_val rfl rfl rfl (OpP.v (P_assign rfl rfl)) ?_
    refine L_nil ?_
    refine Q_then ?_
    refine R_seq ?_
    refine R_region ?_
    refine L_val rfl rfl rfl (OpP.v (P_move rfl rfl)) ?_
    refine L_val rfl rfl rfl (OpP.v (P_move rfl rfl)) ?_
    refine L_val rfl rfl rfl (OpP.v (P_move rfl rfl)) ?_
    refine L_val rfl rfl rfl (OpP.v (P_ixs (i) rfl ty_sl_22 rfl rfl (by first | rfl | omega) (by omega))) ?_
    refine L_val rfl rfl rfl (V_loadAgg rfl rfl ty_ag_37 (rds_mem hrow rfl hm) (rfl)) ?_
    refine L_op rfl (W_callFV (fi := fi) (ca := ca) rfl rfl rfl rfl rfl rfl hcal (hs m (List.mem_of_getElem? hm)) (fun w nw => (Sn.row hpre.2 rfl).rw_ w nw) ?_)
    refine E_bool (t := 16) rfl (fun hp => ?_) (fun hp => ?_)
    · skip
      refine L_nil ?_
      refine Q_then ?_
      refine R_condT rfl ?_
      refine R_seq ?_
      refine R_region ?_
      refine L_val rfl rfl rfl (OpP.v (P_move rfl rfl)) ?_
      refine L_val rfl rfl rfl (OpP.v (P_assign rfl rfl)) ?_
      refine L_nil ?_
      refine Q_then ?_
      refine R_ret ?_
      refine Q_block_ret ?_
      refine Q_then_ret ?_
      refine Q_then_ret ?_
      refine Q_block_ret ?_
      refine Q_then_ret ?_
      exact R_endV rfl rfl (.tmp rfl .nil) (by rw [idxP_hit hno hm hp]; rfl)
    · skip
      refine L_nil ?_
      refine Q_then ?_
      refine R_condF rfl ?_
      refine R_skip ?_
      refine Q_block ?_
      refine Q_then ?_
      refine R_region ?_
      first | (refine L_val rfl rfl rfl (OpP.v (P_addN rfl rfl rfl (by simp only [fits]; omega))) ?_) | (refine L_val rfl rfl rfl (OpP.v (P_add rfl rfl rfl)) ?_)
      refine L_val rfl rfl rfl (OpP.v (P_move rfl rfl)) ?_
      refine L_nil ?_
      exact Q_round (i + 1) (⟨by omega, fun j m' hj hm' => by rcases Nat.lt_or_ge j i with h | h; exact hno j m' h hm'; (obtain rfl : j = i := (by omega)); rw [hm] at hm'; obtain rfl := Option.some.inj hm'; exact hp⟩) (by show l.length - (i + 1) < l.length - i; omega) (by repeat (first | exact .nil | refine .cons rfl ?_ | refine .consE rfl (by first | rfl | (congr 1; omega) | (congr 1; push_cast; omega)) ?_)) (Weak.refl _)
  · skip
    refine R_exit ?_
    refine Q_then_exit ?_
    refine Q_then_exit ?_
    refine Q_block_eq ?_
    refine St.env (.cons (t := 4) rfl .nil) ?_
    refine Q_then ?_
    refine R_seq ?_
    refine R_region ?_
    refine L_val rfl rfl rfl (OpP.v (P_assign rfl rfl)) ?_
    refine L_nil ?_
    refine Q_then ?_
    refine R_ret ?_
    exact R_endV rfl rfl (.tmp rfl .nil) (by rw [idxP_none fun j m' hj hm' => hno j m' (by omega) hm']; rfl)
theorem mcontains_ok {gl : Nat → Obj} (base : Option Addr) (c : Nat) (l : List Mem) (hc : l.length ≤ c) (hmax : l.length ≤ 5864062014700) (hok : ∀ m ∈ l, m.ok) (fn : FuncId) (fi ca : List Value) (p : Mem → Bool) (ba : Option Addr) (cs : List Value) (hcal : callable (cx gl).P fn = true) (hs : ∀ m ∈ l, SpecV (cx gl) fn (fi ++ [.agg m.cells.toArray] ++ ca) (fun w => Row w ba cs) (.bool (p m))) : SpecV (cx gl) 35 [.slice base l.length c, .func (.func fn) fi.toArray ca.toArray] (fun w => Row w base (memC l) ∧ Row w ba cs) (.bool (l.any p)) := by
  refine Spec.enter (C := cx gl) Tryd.func35 rfl 9 rfl rfl fun w0 h0 hsep hsub hpre => ?_
  obtain rfl : h0 = Heap.none := hsep
  show St (cx gl) _ [(0, .slice base l.length c), (1, .func (.func fn) fi.toArray ca.toArray)] _ _
  refine R_seq ?_
  refine R_region ?_
  refine L_val rfl rfl rfl (OpP.v (P_assign rfl rfl)) ?_
  refine L_nil ?_
  refine Q_then ?_
  refine R_seq ?_
  refine R_region ?_
  refine L_val rfl rfl rfl (OpP.v (P_move rfl rfl)) ?_
  refine L_val rfl rfl rfl (OpP.v (P_move rfl rfl)) ?_
  refine L_op rfl (W_callV rfl rfl rfl rfl fn_ca_53 (mindex_ok base c l hc hmax hok fn fi ca p ba cs hcal hs) (fun w nw => ⟨(Sn.row hpre.1 rfl).rw_ w nw, (Sn.row hpre.2 rfl).rw_ w nw⟩) ?_)
  refine L_val rfl rfl rfl (OpP.v (P_geq rfl rfl rfl)) ?_
  refine L_val rfl rfl rfl (OpP.v (P_assign rfl rfl)) ?_
  refine L_nil ?_
  refine St.env (.cons (t := 4) rfl .nil) ?_
  refine Q_then ?_
  refine R_ret ?_
  exact R_endV rfl rfl (.tmp rfl .nil) (congrArg Value.bool (idxP_any p l))
theorem sound_ok {gl : Nat → Obj} (base : Option Addr) (c : Nat) (l : List Mem) (hc : l.length ≤ c) (hmax : l.length ≤ 5864062014700) (hok : ∀ m ∈ l, m.ok) : SpecV (cx gl) 20 [.agg [.slice base l.length c].toArray] (fun w => Row w base (memC l)) (.tuple #[.int .u64 (soundT l), .int .i64 (soundE l)]) := by
  refine Spec.enter (C := cx gl) Tryd.func20 rfl 24 rfl rfl fun w0 h0 hsep hsub hpre => ?_
  obtain rfl : h0 = Heap.none := hsep
  show St (cx gl) _ [(0, .agg [.slice base l.length c].toArray)] _ _
  have hms : msK = 1152921504606846975 := rfl
  have hp0 : ∀ m ∈ l, 0 ≤ m.p := fun m hm => (hok m hm).2.1.1
  have hT0 := sumP_nonneg hp0
  refine R_seq ?_
  refine R_region ?_
  refine L_op rfl (W_box ([.slice base l.length c]) rfl rfl rfl rfl rfl fun b1 => ?_)
  refine L_val rfl rfl rfl (OpP.v (P_assign rfl rfl)) ?_
  refine L_val rfl rfl rfl (OpP.v (P_assign rfl rfl)) ?_
  refine L_nil ?_
  refine St.env (.cons (t := 1) rfl (.cons (t := 2) rfl (.cons (t := 3) rfl .nil))) ?_
  refine Q_then ?_
  refine R_seq ?_
  refine R_region ?_
  refine L_val rfl rfl rfl (OpP.v (P_fld0 rfl ty_fl_24_0 rfl)) ?_
  refine L_val rfl rfl rfl (V_load rfl rfl ty_sc_22 (Rd.blk .h0 rfl)) ?_
  refine L_op rfl (W_callV rfl rfl rfl rfl fn_ca_18 (members_ok base c l hc hmax hok) ((Sn.row hpre rfl).rw_) ?_)
  refine L_val rfl rfl rfl (OpP.v (P_move rfl rfl)) ?_
  refine L_val rfl rfl rfl (OpP.v (P_extract rfl rfl rfl)) ?_
  refine L_val rfl rfl rfl (OpP.v (P_extract rfl rfl rfl)) ?_
  refine L_val rfl rfl rfl (OpP.v (P_assign rfl rfl)) ?_
  refine L_val rfl rfl rfl (OpP.v (P_assign rfl rfl)) ?_
  refine L_nil ?_
  refine St.env (.cons (t := 1) rfl (.cons (t := 2) rfl (.cons (t := 3) rfl (.cons (t := 4) rfl (.cons (t := 5) rfl .nil))))) ?_
  refine Q_then ?_
  refine R_seq ?_
  refine R_seq ?_
  refine R_region ?_
  refine L_val rfl rfl rfl (OpP.v (P_move rfl rfl)) ?_
  refine L_val rfl rfl rfl (OpP.v (P_neq rfl rfl rfl)) ?_
  refine L_nil ?_
  refine St.env (.cons (t := 1) rfl (.cons (t := 2) rfl (.cons (t := 3) rfl (.cons (t := 4) rfl (.cons (t := 5) rfl (.cons (t := 14) rfl .nil)))))) ?_
  refine Q_then ?_
  refine R_condP rfl (fun he => ?_) (fun he => ?_)
  · skip
    refine R_seq ?_
    refine R_region ?_
    refine L_val rfl rfl rfl (OpP.v (P_move rfl rfl)) ?_
    refine L_val rfl rfl rfl (OpP.v (P_assign rfl rfl)) ?_
    refine L_val rfl rfl rfl (OpP.v (P_assign rfl rfl)) ?_
    refine L_nil ?_
    refine St.env (.cons (t := 1) rfl (.cons (t := 2) rfl (.cons (t := 3) rfl (.cons (t := 4) rfl .nil)))) ?_
    refine Q_then ?_
    refine R_ret ?_
    refine Q_then_ret ?_
    exact R_endV rfl rfl (.tmp rfl (.tmp rfl .nil)) (by unfold soundT soundE; rw [if_pos he, if_neg he]; rfl)
  · skip
    have he : memE l = 0 := Classical.not_not.1 he
    have hF := fine_of he
    have hT := hF.tot
    refine R_skip ?_
    refine Q_then ?_
    refine R_seq ?_
    refine R_region ?_
    refine L_val rfl rfl rfl (OpP.v (P_move rfl rfl)) ?_
    have hmT : memT l = sumP l := by unfold memT; rw [if_pos he]
    rw [hmT]
    first | (refine L_val rfl rfl rfl (OpP.v (P_convN rfl ty_int_34 ty_int_2 rfl (by simp only [fits]; omega))) ?_) | (refine L_val rfl rfl rfl (OpP.v (P_conv rfl ty_int_34 ty_int_2 rfl)) ?_)
    first | (refine L_val rfl rfl rfl (OpP.v (P_mulN rfl rfl rfl (by simp only [fits]; omega))) ?_) | (refine L_val rfl rfl rfl (OpP.v (P_mul rfl rfl rfl)) ?_)
    refine L_op rfl (W_alloc rfl rfl rfl ty_ze_2 fun b6 => ?_)
    refine L_op rfl (W_store rfl rfl rfl rfl ty_sc_2 rfl .h0 (by first | decide | (simp [ints]; done) | (simp [ints]; omega)) ?_)
    refine L_nil ?_
    refine St.env (.cons (t := 1) rfl (.cons (t := 2) rfl (.cons (t := 3) rfl (.cons (t := 4) rfl (.cons (t := 6) rfl .nil))))) ?_
    refine Q_then ?_
    refine R_seq ?_
    refine R_seq ?_
    refine R_region ?_
    refine L_val rfl rfl rfl (OpP.v (P_fld0 rfl ty_fl_24_0 rfl)) ?_
    refine L_val rfl rfl rfl (V_load rfl rfl ty_sc_22 (Rd.blk .h1 rfl)) ?_
    refine L_val rfl rfl rfl (OpP.v (P_func rfl rfl rfl)) ?_
    refine L_op rfl (W_callV rfl rfl rfl rfl fn_ca_35 (mcontains_ok base c l hc hmax hok 36 [] [.pointer (some ⟨b6, 0, none⟩)] (outQ (sumP l)) (some ⟨b6, 0, none⟩) [.int .i64 (7 * sumP l)] fn_ca_36 (fun m hm => out_ok m (hok m hm) (sumP l) hT0 hT b6)) (fun w nw => ⟨(Sn.row hpre rfl).rw_ w nw, (Sn.ofBlk .h0).rw_ w nw⟩) ?_)
    refine E_bool (t := 22) rfl (fun hany => ?_) (fun hany => ?_)
    · skip
      refine L_nil ?_
      refine St.env (.cons (t := 2) rfl (.cons (t := 3) rfl (.cons (t := 4) rfl (.cons (t := 22) rfl .nil)))) ?_
      refine Q_then ?_
      refine R_condT rfl ?_
      refine R_seq ?_
      refine R_region ?_
      refine L_val rfl rfl rfl (OpP.v (P_assign rfl rfl)) ?_
      refine L_val rfl rfl rfl (OpP.v (P_assign rfl rfl)) ?_
      refine L_nil ?_
      refine St.env (.cons (t := 2) rfl (.cons (t := 3) rfl (.cons (t := 4) rfl .nil))) ?_
      refine Q_then ?_
      refine R_ret ?_
      refine Q_then_ret ?_
      exact R_endV rfl rfl (.tmp rfl (.tmp rfl .nil)) (by have h9 : soundE l = 2 := (by rw [soundE_mem he, hany]; rfl); unfold soundT; rw [h9]; rfl)
    · skip
      refine L_nil ?_
      refine St.env (.cons (t := 2) rfl (.cons (t := 3) rfl (.cons (t := 4) rfl (.cons (t := 22) rfl .nil)))) ?_
      refine Q_then ?_
      refine R_condF rfl ?_
      refine R_skip ?_
      refine Q_then ?_
      refine R_seq ?_
      refine R_region ?_
      refine L_val rfl rfl rfl (OpP.v (P_move rfl rfl)) ?_
      refine L_val rfl rfl rfl (OpP.v (P_assign rfl rfl)) ?_
      refine L_val rfl rfl rfl (OpP.v (P_assign rfl rfl)) ?_
      refine L_nil ?_
      refine St.env (.cons (t := 2) rfl (.cons (t := 3) rfl .nil)) ?_
      refine Q_then ?_
      refine R_ret ?_
      exact R_endV rfl rfl (.tmp rfl (.tmp rfl .nil)) (by have h9 : soundE l = 0 := (by rw [soundE_mem he, hany]; rfl); unfold soundT; rw [h9]; rfl)
theorem Sound_ok {gl : Nat → Obj} (base : Option Addr) (c : Nat) (l : List Mem) (hc : l.length ≤ c) (hmax : l.length ≤ 5864062014700) (hok : ∀ m ∈ l, m.ok) : SpecV (cx gl) 10 [.agg [.slice base l.length c].toArray] (fun w => Row w base (memC l)) (.int .i64 (soundE l)) := by
  refine Spec.enter (C := cx gl) Tryd.func10 rfl 11 rfl rfl fun w0 h0 hsep hsub hpre => ?_
  obtain rfl : h0 = Heap.none := hsep
  show St (cx gl) _ [(0, .agg [.slice base l.length c].toArray)] _ _
  refine R_seq ?_
  refine R_region ?_
  refine L_op rfl (W_box ([.slice base l.length c]) rfl rfl rfl rfl rfl fun b1 => ?_)
  refine L_val rfl rfl rfl (OpP.v (P_assign rfl rfl)) ?_
  refine L_nil ?_
  refine St.env (.cons (t := 1) rfl (.cons (t := 2) rfl .nil)) ?_
  refine Q_then ?_
  refine R_seq ?_
  refine R_region ?_
  refine L_val rfl rfl rfl (V_loadAgg rfl rfl ty_ag_24 (Rds.blk .h0) (rfl)) ?_
  refine L_op rfl (W_callV rfl rfl rfl rfl fn_ca_20 (sound_ok base c l hc hmax hok) ((Sn.row hpre rfl).rw_) ?_)
  refine L_val rfl rfl rfl (OpP.v (P_move rfl rfl)) ?_
  refine L_val rfl rfl rfl (OpP.v (P_extract rfl rfl rfl)) ?_
  refine L_val rfl rfl rfl (OpP.v (P_extract rfl rfl rfl)) ?_
  refine L_val rfl rfl rfl (OpP.v (P_assign rfl rfl)) ?_
  refine L_val rfl rfl rfl (OpP.v (P_assign rfl rfl)) ?_
  refine L_nil ?_
  refine St.env (.cons (t := 2) rfl (.cons (t := 4) rfl .nil)) ?_
  refine Q_then ?_
  refine R_seq ?_
  refine R_region ?_
  refine L_val rfl rfl rfl (OpP.v (P_move rfl rfl)) ?_
  refine L_val rfl rfl rfl (OpP.v (P_assign rfl rfl)) ?_
  refine L_nil ?_
  refine St.env (.cons (t := 2) rfl .nil) ?_
  refine Q_then ?_
  refine R_ret ?_
  exact R_endV rfl rfl (.tmp rfl .nil) (rfl)
theorem Total_ok {gl : Nat → Obj} (base : Option Addr) (c : Nat) (l : List Mem) (hc : l.length ≤ c) (hmax : l.length ≤ 5864062014700) (hok : ∀ m ∈ l, m.ok) : SpecV (cx gl) 9 [.agg [.slice base l.length c].toArray] (fun w => Row w base (memC l)) (.int .u64 (soundT l)) := by
  refine Spec.enter (C := cx gl) Tryd.func9 rfl 11 rfl rfl fun w0 h0 hsep hsub hpre => ?_
  obtain rfl : h0 = Heap.none := hsep
  show St (cx gl) _ [(0, .agg [.slice base l.length c].toArray)] _ _
  refine R_seq ?_
  refine R_region ?_
  refine L_op rfl (W_box ([.slice base l.length c]) rfl rfl rfl rfl rfl fun b1 => ?_)
  refine L_val rfl rfl rfl (OpP.v (P_assign rfl rfl)) ?_
  refine L_nil ?_
  refine St.env (.cons (t := 1) rfl (.cons (t := 2) rfl .nil)) ?_
  refine Q_then ?_
  refine R_seq ?_
  refine R_region ?_
  refine L_val rfl rfl rfl (V_loadAgg rfl rfl ty_ag_24 (Rds.blk .h0) (rfl)) ?_
  refine L_op rfl (W_callV rfl rfl rfl rfl fn_ca_20 (sound_ok base c l hc hmax hok) ((Sn.row hpre rfl).rw_) ?_)
  refine L_val rfl rfl rfl (OpP.v (P_move rfl rfl)) ?_
  refine L_val rfl rfl rfl (OpP.v (P_extract rfl rfl rfl)) ?_
  refine L_val rfl rfl rfl (OpP.v (P_extract rfl rfl rfl)) ?_
  refine L_val rfl rfl rfl (OpP.v (P_assign rfl rfl)) ?_
  refine L_val rfl rfl rfl (OpP.v (P_assign rfl rfl)) ?_
  refine L_nil ?_
  refine St.env (.cons (t := 2) rfl (.cons (t := 3) rfl .nil)) ?_
  refine Q_then ?_
  refine R_seq ?_
  refine R_region ?_
  refine L_val rfl rfl rfl (OpP.v (P_move rfl rfl)) ?_
  refine L_val rfl rfl rfl (OpP.v (P_assign rfl rfl)) ?_
  refine L_nil ?_
  refine St.env (.cons (t := 2) rfl .nil) ?_
  refine Q_then ?_
  refine R_ret ?_
  exact R_endV rfl rfl (.tmp rfl .nil) (rfl)
theorem clone_ok {gl : Nat → Obj} (base : Option Addr) (c : Nat) (l : List Mem) (hc : l.length ≤ c) (hmax : l.length ≤ 5864062014700) : Spec (cx gl) 34 [.slice base l.length c] (fun w _ => Row w base (memC l)) [] (fun v rs => rs = [ownS 37 3 (v) (l.length) (memC l)]) := by
  refine Spec.enter (C := cx gl) Tryd.func34 rfl 8 rfl rfl fun w0 h0 hsep hsub hpre => ?_
  obtain rfl : h0 = Heap.none := hsep
  show St (cx gl) _ [(0, .slice base l.length c)] _ _
  refine R_seq ?_
  refine R_region ?_
  refine L_val rfl rfl rfl (OpP.v (P_assign rfl rfl)) ?_
  refine L_nil ?_
  refine Q_then ?_
  refine R_seq ?_
  refine R_seq ?_
  refine R_region ?_
  refine L_val rfl rfl rfl (OpP.v (P_move rfl rfl)) ?_
  refine L_val rfl rfl rfl (OpP.v (P_eql_slice rfl ty_sl_22 rfl rfl)) ?_
  refine E_bool (t := 4) rfl (fun hb => ?_) (fun hb => ?_)
  · skip
    have hl0 : l.length = 0 := by
      rcases hpre.cases with h | ⟨b, j, h, _⟩
      · have := memC_length l; rw [h] at this; simp at this; omega
      · rw [h] at hb; cases hb
    refine L_nil ?_
    refine St.env (.cons (t := 0) rfl (.cons (t := 2) rfl (.cons (t := 4) rfl .nil))) ?_
    refine Q_then ?_
    refine R_condT rfl ?_
    refine R_seq ?_
    refine R_region ?_
    refine L_val rfl rfl rfl (OpP.v (P_assign rfl rfl)) ?_
    refine L_nil ?_
    refine St.env (.cons (t := 0) rfl (.cons (t := 2) rfl .nil)) ?_
    refine Q_then ?_
    refine R_ret ?_
    refine Q_then_ret ?_
    exact R_end (rs2 := _) rfl rfl (.tmp rfl .nil) (rfl) (Weak.trans (Weak.newNil (T := 37) (sz := 3)) (Weak.keep_to (fun h hh => by obtain rfl := List.eq_nil_of_length_eq_zero hl0; exact hh)))
  · skip
    refine L_nil ?_
    refine St.env (.cons (t := 0) rfl (.cons (t := 2) rfl (.cons (t := 4) rfl .nil))) ?_
    refine Q_then ?_
    refine R_condF rfl ?_
    refine R_skip ?_
    refine Q_then ?_
    refine R_seq ?_
    refine R_region ?_
    refine L_op rfl (W_lit0 rfl rfl rfl ty_sl_22 fun b5 => ?_)
    refine St.res (rs' := [ownS 37 3 (.slice (some ⟨b5, 0, none⟩) 0 0) (0) ([])]) (Weak.turn .h0 (ownS.of_blk rfl (by decide))) ?_
    refine L_val rfl rfl rfl (OpP.v (P_move rfl rfl)) ?_
    refine L_op rfl (W_append (p := []) rfl rfl rfl ty_sl_22 ty_ap_22 ty_src_22 rfl rfl rfl (Src.row (sz := 3) (Sn.row hpre rfl).rw_ (memC_length l) (memC_one l)) (by omega) (by simp only [maxLen]; omega) fun v7 => ?_)
    refine L_val rfl rfl rfl (OpP.v (P_assign rfl rfl)) ?_
    refine L_nil ?_
    refine St.env (.cons (t := 2) rfl .nil) ?_
    refine Q_then ?_
    refine R_ret ?_
    exact R_end (rs2 := _) rfl rfl (.tmp rfl .nil) (rfl) (ownS.to2 (by omega) (List.nil_append _))
end Go.Proofs.YtjhhpagcejgclaaDoor
