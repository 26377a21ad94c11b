/- Walks: tops of lists. Printed by gen.py. -/
import Derived.Test.YtjhhpagcejgclaaDoorD9
import Derived.Test.YtjhhpagcejgclaaDoorEngI
import Derived.Test.YtjhhpagcejgclaaDoorTree
set_option linter.unusedVariables false
set_option linter.unusedSimpArgs false
set_option maxRecDepth 100000
namespace Go.Proofs.YtjhhpagcejgclaaDoor
open Go Go.RowKit Go.Proofs
theorem BytesL.take {w : World} {vs : List Value} {xss : List (List Int)} (h : BytesL w vs xss) (n : Nat) : BytesL w (vs.take n) (xss.take n) :=
  ⟨by rw [List.length_take, List.length_take, h.1], fun i v x h1 h2 => by
    rw [List.getElem?_take] at h1 h2
    split at h1
    · rename_i hi
      rw [if_pos hi] at h2
      exact h.2 i v x h1 h2
    · cases h1⟩
theorem BytesL.drop {w : World} {vs : List Value} {xss : List (List Int)} (h : BytesL w vs xss) (n : Nat) : BytesL w (vs.drop n) (xss.drop n) :=
  ⟨by rw [List.length_drop, List.length_drop, h.1], fun i v x h1 h2 => by
    rw [List.getElem?_drop] at h1 h2
    exact h.2 _ v x h1 h2⟩
/-- A slice of slices of bytes, as items are. -/
def Items (w : World) (base : Option Addr) (vs : List Value) (xss : List (List Int)) : Prop := Row w base vs ∧ BytesL w vs xss
theorem BytesL.scalar {w : World} {vs : List Value} {xss : List (List Int)} (h : BytesL w vs xss) : ∀ v ∈ vs, v.oneCell' = true := fun v hv => by
  obtain ⟨i, hi, rfl⟩ := List.mem_iff_getElem.1 hv
  obtain ⟨b, c, e, _⟩ := h.2 i _ _ (List.getElem?_eq_getElem hi) (List.getElem?_eq_getElem (by rw [← h.1]; exact hi))
  rw [e]; rfl
theorem Items.row {C : Cx} {F : Fx} {rs : List HP} {base : Option Addr} {vs : List Value} {xss : List (List Int)} (h : Items F.w base vs xss) (hf : F.h = Heap.none) : ∀ w, Now C F rs w → Items w base vs xss := fun w n =>
  ⟨(Sn.row h.1 hf).rw_ w n, h.2.1, fun i v x h1 h2 => by
    obtain ⟨b, c, e, hc, hr⟩ := h.2.2 i v x h1 h2
    exact ⟨b, c, e, hc, (Sn.row hr hf).rw_ w n⟩⟩
theorem Items.sliced {w : World} {base : Option Addr} {vs : List Value} {xss : List (List Int)} (h : Items w base vs xss) {p q c : Nat} (hq : q ≤ c) (hqn : q ≤ vs.length) : Items w (if c = p then base else base.map (·.add (p * 1))) ((vs.drop p).take (q - p)) ((xss.drop p).take (q - p)) := by
  refine ⟨?_, (h.2.drop p).take _⟩
  have := Row.sliced (sz := 1) (p := p) (q := q) (c := c) h.1 hq (.inr (by omega))
  simpa using this
theorem take_sub {α : Type} (l : List α) (p : Nat) : (l.drop p).take (l.length - p) = l.drop p := List.take_of_length_le (by rw [List.length_drop]; omega)
theorem rsplit_ok (gl : Nat → Obj) (n : Nat) (hn : n ≤ 70368744177664) : SpecV (cx gl) 50 [.int .i64 (n : Int)] noPre (.int .i64 (splitN n : Nat)) := by
  refine Spec.enter (C := cx gl) Tryd.func50 rfl 12 rfl rfl fun w0 h0 hsep hsub hpre => ?_
  obtain rfl : h0 = Heap.none := hsep
  show St (cx gl) _ [(0, .int .i64 (n : Int))] _ _
  refine R_seq ?_
  refine R_region ?_
  refine L_val rfl rfl rfl (OpP.v (P_assign rfl rfl)) ?_
  refine L_nil ?_
  refine Q_then ?_
  refine R_seq ?_
  refine R_region ?_
  refine L_val rfl rfl rfl (OpP.v (P_assign rfl rfl)) ?_
  refine L_nil ?_
  refine Q_then ?_
  refine R_seq ?_
  refine R_block ?_
  refine R_loop (G := Nat) (fun k => [(0, .int .i64 (n : Int)), (2, .int .i64 0), (3, .int .i64 (k : Int))]) (fun k => []) (fun k => 0 < k ∧ k < n + 2 ∧ splitN n = splitF n k n) (fun k => n - k) (1) (⟨by omega, by omega, rfl⟩) (by repeat (first | exact .nil | refine .cons rfl ?_)) (Weak.refl _) ?_
  intro k hinv
  obtain ⟨hk, hk2, hs⟩ := hinv
  refine R_seq ?_
  refine R_seq ?_
  refine R_region ?_
  refine L_val rfl rfl rfl (OpP.v (P_move rfl rfl)) ?_
  refine L_val rfl rfl rfl (OpP.v (P_move rfl rfl)) ?_
  refine L_val rfl rfl rfl (OpP.v (P_move rfl rfl)) ?_
  first | (refine L_val rfl rfl rfl (OpP.v (P_subN rfl rfl rfl (by simp only [fits]; omega))) ?_) | (refine L_val rfl rfl rfl (OpP.v (P_sub rfl rfl rfl)) ?_)
  refine L_val rfl rfl rfl (OpP.v (P_lss rfl rfl rfl)) ?_
  refine L_nil ?_
  refine Q_then ?_
  refine R_condP rfl (fun hlt => ?_) (fun hlt => ?_)
  · skip
    refine R_skip ?_
    refine Q_then ?_
    refine R_block ?_
    refine R_region ?_
    refine L_val rfl rfl rfl (OpP.v (P_move rfl rfl)) ?_
    first | (refine L_val rfl rfl rfl (OpP.v (P_mulN rfl rfl rfl (by simp only [fits]; omega))) ?_) | (refine L_val rfl rfl rfl (OpP.v (P_mul rfl rfl rfl)) ?_)
    refine L_val rfl rfl rfl (OpP.v (P_assign rfl rfl)) ?_
    refine L_nil ?_
    refine Q_block ?_
    refine E_as (t := 3) (v' := .int .i64 ((2 * k : Nat) : Int)) rfl (by first | rfl | (congr 1; omega)) ?_
    exact Q_round (2 * k) (⟨by omega, by omega, by rw [hs, splitF_step hk (by omega), if_pos (by omega)]⟩) (by omega) (by repeat (first | exact .nil | refine .cons rfl ?_)) (Weak.refl _)
  · skip
    refine R_exit ?_
    refine Q_then_exit ?_
    refine Q_then_exit ?_
    refine Q_block_eq ?_
    refine St.env (.cons (t := 2) rfl (.cons (t := 3) rfl .nil)) ?_
    refine Q_then ?_
    refine R_seq ?_
    refine R_region ?_
    refine L_val rfl rfl rfl (OpP.v (P_move rfl rfl)) ?_
    refine L_val rfl rfl rfl (OpP.v (P_assign rfl rfl)) ?_
    refine L_nil ?_
    refine St.env (.cons (t := 2) rfl .nil) ?_
    refine Q_then ?_
    refine R_ret ?_
    exact R_endV rfl rfl (.tmp rfl .nil) (by rw [hs, splitF_step hk (by omega), if_neg (by omega)]; rfl)
theorem top_step {gl : Nat → Obj} (hG : Globs gl) (base : Option Addr) (c : Nat) (hs : List (List Int)) (hh : ∀ h ∈ hs, h.length = 32) (hc : hs.length ≤ c) (hmax : hs.length ≤ 70368744177664)
    (ih : ∀ (base : Option Addr) (c : Nat) (hs' : List (List Int)), hs'.length < hs.length → (∀ h ∈ hs', h.length = 32) → hs'.length ≤ c → SpecV (cx gl) 26 [.slice base hs'.length c] (fun w => Row w base (flat .u8 hs')) (.agg (ints .u8 (topH hs')).toArray)) :
    SpecV (cx gl) 26 [.slice base hs.length c] (fun w => Row w base (flat .u8 hs)) (.agg (ints .u8 (topH hs)).toArray) := by
  refine Spec.enter (C := cx gl) Tryd.func26 rfl 26 rfl rfl fun w0 h0 hsep hsub hpre => ?_
  obtain rfl : h0 = Heap.none := hsep
  show St (cx gl) _ [(0, .slice base hs.length c)] _ _
  refine R_seq ?_
  refine R_region ?_
  refine L_op rfl (W_alloc rfl rfl rfl ty_ze_27 fun b2 => ?_)
  refine L_nil ?_
  refine Q_then ?_
  refine R_seq ?_
  refine R_seq ?_
  refine R_region ?_
  refine L_val rfl rfl rfl (OpP.v (P_move rfl rfl)) ?_
  refine L_val rfl rfl rfl (OpP.v (P_len rfl ty_sl_60 rfl)) ?_
  refine L_nil ?_
  refine St.env (.cons (t := 0) rfl (.cons (t := 2) rfl (.cons (t := 5) rfl .nil))) ?_
  refine Q_then ?_
  refine R_block ?_
  refine R_seq ?_
  refine R_region ?_
  refine L_val rfl rfl rfl (OpP.v (P_eql rfl rfl rfl)) ?_
  refine L_val rfl rfl rfl (OpP.v (P_assign rfl rfl)) ?_
  refine L_nil ?_
  refine St.env (.cons (t := 0) rfl (.cons (t := 2) rfl (.cons (t := 5) rfl (.cons (t := 6) rfl .nil)))) ?_
  refine Q_then ?_
  refine R_condP rfl (fun h0 => ?_) (fun h0 => ?_)
  · skip
    refine R_seq ?_
    refine R_region ?_
    refine L_op rfl (W_callV rfl rfl rfl rfl fn_ca_46 (sum_ok hG none 0 [] (Nat.le_refl _)) (fun _ _ => Row.nil) ?_)
    refine L_op rfl (W_storeAll rfl rfl rfl rfl ty_ag_27 (by rw [ints_length, sha_length]) (ints_one) .h0 (by rw [ints_length, sha_length]; rfl) ?_)
    refine L_nil ?_
    refine St.env (.cons (t := 0) rfl (.cons (t := 2) rfl .nil)) ?_
    refine Q_then ?_
    refine R_ret ?_
    refine Q_block_ret ?_
    refine Q_then_ret ?_
    exact R_endV rfl rfl (.cell rfl (Rds.loadVar ty_ag_27 (Rds.blk .h0) (by rw [ints_length, sha_length])) .nil) (by rw [topH_zero (by omega)]; rfl)
  · skip
    refine R_seq ?_
    refine R_region ?_
    refine L_val rfl rfl rfl (OpP.v (P_eql rfl rfl rfl)) ?_
    refine L_val rfl rfl rfl (OpP.v (P_assign rfl rfl)) ?_
    refine L_nil ?_
    refine St.env (.cons (t := 0) rfl (.cons (t := 2) rfl (.cons (t := 9) rfl .nil))) ?_
    refine Q_then ?_
    refine R_condP rfl (fun h1 => ?_) (fun h1 => ?_)
    · skip
      obtain ⟨x, hx⟩ : ∃ x, hs[0]? = some x := ⟨_, List.getElem?_eq_getElem (by omega)⟩
      have hxl : x.length = 32 := hh x (List.mem_of_getElem? hx)
      obtain ⟨pb, pj, rfl, hrow⟩ := hpre.some_ (by rw [flat_length hh]; omega)
      refine R_seq ?_
      refine R_region ?_
      refine L_val rfl rfl rfl (OpP.v (P_move rfl rfl)) ?_
      refine L_val rfl rfl rfl (OpP.v (P_ixs (0) rfl ty_sl_60 rfl rfl (by first | rfl | omega) (by omega))) ?_
      refine L_val rfl rfl rfl (V_loadAgg rfl rfl ty_ag_27 ((Rds.row hrow rfl).part (0 * 32) fun j v hv => flat_at hh hx j v hv) (by rw [ints_length, hxl])) ?_
      refine L_op rfl (W_storeAll rfl rfl rfl rfl ty_ag_27 (by rw [ints_length, hxl]) (ints_one) .h0 (by rw [ints_length, hxl]; rfl) ?_)
      refine L_nil ?_
      refine St.env (.cons (t := 0) rfl (.cons (t := 2) rfl .nil)) ?_
      refine Q_then ?_
      refine R_ret ?_
      refine Q_block_ret ?_
      refine Q_then_ret ?_
      exact R_endV rfl rfl (.cell rfl (Rds.loadVar ty_ag_27 (Rds.blk .h0) (by rw [ints_length, hxl])) .nil) (by rw [topH_one (by omega) hx]; rfl)
    · skip
      have hn : 1 < hs.length := by omega
      have hk1 := splitN_lt hn
      have hk2 := splitN_pos hn
      have e1 : (hs.take (splitN hs.length)).length = splitN hs.length := by rw [List.length_take]; omega
      have e2 : (hs.drop (splitN hs.length)).length = hs.length - splitN hs.length := by rw [List.length_drop]
      have hh1 : ∀ h ∈ (hs.take (splitN hs.length)), h.length = 32 := fun h hm => hh h (List.mem_of_mem_take hm)
      have hh2 : ∀ h ∈ (hs.drop (splitN hs.length)), h.length = 32 := fun h hm => hh h (List.mem_of_mem_drop hm)
      have r1 : ∀ rs, Rw (cx gl) ⟨26, [], w0, Heap.none⟩ rs (if c = 0 then base else base.map (·.add (0 * 32))) (flat .u8 (hs.take (splitN hs.length))) := fun rs => by
            have h := ((Sn.row (C := cx gl) (F := ⟨26, [], w0, Heap.none⟩) (rs := rs) hpre rfl).sliced (sz := 32) (p := 0) (q := splitN hs.length) (c := c) (by omega) (.inr (by rw [flat_length hh]; omega))).rw_
            rwa [Nat.zero_mul, List.drop_zero, Nat.sub_zero, flat_take hh] at h
      have r2 : ∀ rs, Rw (cx gl) ⟨26, [], w0, Heap.none⟩ rs (if c = splitN hs.length then base else base.map (·.add (splitN hs.length * 32))) (flat .u8 (hs.drop (splitN hs.length))) := fun rs => by
            have h := ((Sn.row (C := cx gl) (F := ⟨26, [], w0, Heap.none⟩) (rs := rs) hpre rfl).sliced (sz := 32) (p := splitN hs.length) (q := hs.length) (c := c) hc (.inr (by rw [flat_length hh]; omega))).rw_
            rwa [flat_drop hh, flat_take hh2, ← e2, List.take_length] at h
      refine R_skip ?_
      refine Q_block ?_
      refine Q_then ?_
      refine R_seq ?_
      refine R_region ?_
      refine L_val rfl rfl rfl (OpP.v (P_move rfl rfl)) ?_
      refine L_val rfl rfl rfl (OpP.v (P_len rfl ty_sl_60 rfl)) ?_
      refine L_op rfl (W_callV rfl rfl rfl rfl fn_ca_47 (split_ok gl hs.length (by omega)) (fun _ _ => trivial) ?_)
      refine L_val rfl rfl rfl (OpP.v (P_assign rfl rfl)) ?_
      refine L_nil ?_
      refine St.env (.cons (t := 0) rfl (.cons (t := 2) rfl (.cons (t := 3) rfl .nil))) ?_
      refine Q_then ?_
      refine R_seq ?_
      refine R_open [(0, 0), (1, 0), (2, 0), (4, 0), (5, 0), (6, 0), (3, 2), (7, 2), (8, 2), (9, 3)] mixed (by kernel_rfl) (QOk.then QOk.body) ?_
      refine O_pure rfl rfl rfl rfl (P_move rfl rfl) ?_
      refine O_pure rfl rfl rfl rfl (P_move rfl rfl) ?_
      refine O_pure rfl rfl rfl rfl (P_slice 0 (splitN hs.length) rfl ty_sl_60 rfl rfl ⟨_, rfl⟩ (by omega) (by omega)) ?_
      refine E_as (t := 19) (v' := .slice (if c = 0 then base else base.map (·.add (0 * 32))) (hs.take (splitN hs.length)).length c) rfl (by unfold sliced; rw [e1, Nat.sub_zero, Nat.sub_zero]) ?_
      refine O_pure rfl rfl rfl rfl (P_move rfl rfl) ?_
      refine O_pure rfl rfl rfl rfl (P_move rfl rfl) ?_
      refine O_pure rfl rfl rfl rfl (P_slice (splitN hs.length) hs.length rfl ty_sl_60 rfl ⟨_, rfl⟩ rfl (by omega) (by omega)) ?_
      refine E_as (t := 23) (v' := .slice (if c = splitN hs.length then base else base.map (·.add (splitN hs.length * 32))) (hs.drop (splitN hs.length)).length (c - splitN hs.length)) rfl (by unfold sliced; rw [e2]) ?_
      refine O_keep rfl rfl (W_callV rfl rfl rfl rfl fn_ca_26 (ih _ _ (hs.take (splitN hs.length)) (by omega) hh1 (by omega)) (r1 _) (K_keep (Weak.refl _) ?_))
      refine O_keep rfl rfl (W_callV rfl rfl rfl rfl fn_ca_26 (ih _ _ (hs.drop (splitN hs.length)) (by omega) hh2 (by omega)) (r2 _) (K_keep (Weak.refl _) ?_))
      refine O_keep rfl rfl (W_callV rfl rfl rfl rfl fn_ca_48 (inner_ok hG (topH (hs.take (splitN hs.length))) (topH (hs.drop (splitN hs.length))) (topH_length hh1) (topH_length hh2)) (fun _ _ => trivial) (K_keep (Weak.refl _) ?_))
      refine O_new rfl rfl (W_storeAll rfl rfl rfl rfl ty_ag_27 (by rw [ints_length, sha_length]) (ints_one) .h0 (by rw [ints_length, sha_length]; rfl) (K_new ?_))
      refine O_nil ?_
      refine St.env (.cons (t := 2) rfl .nil) ?_
      refine Q_then ?_
      refine R_ret ?_
      exact R_endV rfl rfl (.cell rfl (Rds.loadVar ty_ag_27 (Rds.blk .h0) (by rw [ints_length, sha_length])) .nil) (by rw [topH_two hn]; rfl)
theorem top_ok {gl : Nat → Obj} (hG : Globs gl) : ∀ (n : Nat) (base : Option Addr) (c : Nat) (hs : List (List Int)), hs.length ≤ n → n ≤ 70368744177664 → (∀ h ∈ hs, h.length = 32) → hs.length ≤ c →
    SpecV (cx gl) 26 [.slice base hs.length c] (fun w => Row w base (flat .u8 hs)) (.agg (ints .u8 (topH hs)).toArray)
  | 0, base, c, hs, hn, hm, hh, hc => top_step hG base c hs hh hc (by omega) fun _ _ hs' hl => absurd hl (by omega)
  | n + 1, base, c, hs, hn, hm, hh, hc => top_step hG base c hs hh hc (by omega) fun base' c' hs' hl hh' hc' => top_ok hG n base' c' hs' (by omega) (by omega) hh' hc'
theorem rtop_step {gl : Nat → Obj} (hG : GlobsR gl) (base : Option Addr) (c : Nat) (vs : List Value) (xss : List (List Int)) (hvx : vs.length = xss.length) (hb : ∀ x ∈ xss, x.length ≤ 140737488355000) (hc : vs.length ≤ c) (hmax : vs.length ≤ 70368744177664)
    (ih : ∀ (base : Option Addr) (c : Nat) (vs' : List Value) (xss' : List (List Int)), vs'.length < vs.length → vs'.length = xss'.length → (∀ x ∈ xss', x.length ≤ 140737488355000) → vs'.length ≤ c → SpecV (cx gl) 29 [.slice base vs'.length c] (fun w => Items w base vs' xss') (.agg (ints .u8 (topH (leaves xss'))).toArray)) :
    SpecV (cx gl) 29 [.slice base vs.length c] (fun w => Items w base vs xss) (.agg (ints .u8 (topH (leaves xss))).toArray) := by
  refine Spec.enter (C := cx gl) Tryd.func29 rfl 31 rfl rfl fun w0 h0 hsep hsub hpre => ?_
  obtain rfl : h0 = Heap.none := hsep
  show St (cx gl) _ [(0, .slice base vs.length c)] _ _
  have hll : (leaves xss).length = vs.length := by rw [leaves_length, hvx]
  refine R_seq ?_
  refine R_region ?_
  refine L_op rfl (W_alloc rfl rfl rfl ty_ze_27 fun b2 => ?_)
  refine L_nil ?_
  refine Q_then ?_
  refine R_seq ?_
  refine R_seq ?_
  refine R_region ?_
  refine L_val rfl rfl rfl (OpP.v (P_move rfl rfl)) ?_
  refine L_val rfl rfl rfl (OpP.v (P_len rfl ty_sl_42 rfl)) ?_
  refine L_val rfl rfl rfl (OpP.v (P_eql rfl rfl rfl)) ?_
  refine L_nil ?_
  refine St.env (.cons (t := 0) rfl (.cons (t := 2) rfl (.cons (t := 8) rfl .nil))) ?_
  refine Q_then ?_
  refine R_condP rfl (fun h0 => ?_) (fun h0 => ?_)
  · skip
    refine R_seq ?_
    refine R_region ?_
    refine L_op rfl (W_callV rfl rfl rfl rfl fn_ca_30 (rsum_ok hG none 0 [] (Nat.le_refl _) (by decide)) (fun _ _ => Row.nil) ?_)
    refine L_op rfl (W_storeAll rfl rfl rfl rfl ty_ag_27 (by rw [ints_length, sha_length]) (ints_one) .h0 (by rw [ints_length, sha_length]; rfl) ?_)
    refine L_nil ?_
    refine St.env (.cons (t := 0) rfl (.cons (t := 2) rfl .nil)) ?_
    refine Q_then ?_
    refine R_ret ?_
    refine Q_then_ret ?_
    exact R_endV rfl rfl (.cell rfl (Rds.loadVar ty_ag_27 (Rds.blk .h0) (by rw [ints_length, sha_length])) .nil) (by rw [topH_zero (by omega)]; rfl)
  · skip
    refine R_skip ?_
    refine Q_then ?_
    refine R_seq ?_
    refine R_seq ?_
    refine R_region ?_
    refine L_val rfl rfl rfl (OpP.v (P_move rfl rfl)) ?_
    refine L_val rfl rfl rfl (OpP.v (P_len rfl ty_sl_42 rfl)) ?_
    refine L_val rfl rfl rfl (OpP.v (P_eql rfl rfl rfl)) ?_
    refine L_nil ?_
    refine St.env (.cons (t := 0) rfl (.cons (t := 2) rfl (.cons (t := 12) rfl .nil))) ?_
    refine Q_then ?_
    refine R_condP rfl (fun h1 => ?_) (fun h1 => ?_)
    · skip
      obtain ⟨bb, bc, ys, hvk, hxk, hbc, hbr⟩ := hpre.2.at_ (k := 0) (by omega)
      obtain ⟨pb, pj, rfl, hrow⟩ := hpre.1.some_ (by omega)
      have hys := hb ys (List.mem_of_getElem? hxk)
      refine R_seq ?_
      refine R_region ?_
      refine L_val rfl rfl rfl (OpP.v (P_move rfl rfl)) ?_
      refine L_val rfl rfl rfl (OpP.v (P_ixs (0) rfl ty_sl_42 rfl rfl (by first | rfl | omega) (by omega))) ?_
      refine L_val rfl rfl rfl (V_load rfl rfl ty_sc_46 (Rd.row hrow rfl hvk)) ?_
      refine L_op rfl (W_callV rfl rfl rfl rfl fn_ca_49 (rleaf_ok hG bb bc ys hys) (fun w nw => (Sn.row hbr rfl).rw_ w nw) ?_)
      refine L_op rfl (W_storeAll rfl rfl rfl rfl ty_ag_27 (by rw [ints_length, sha_length]) (ints_one) .h0 (by rw [ints_length, sha_length]; rfl) ?_)
      refine L_nil ?_
      refine St.env (.cons (t := 0) rfl (.cons (t := 2) rfl .nil)) ?_
      refine Q_then ?_
      refine R_ret ?_
      refine Q_then_ret ?_
      exact R_endV rfl rfl (.cell rfl (Rds.loadVar ty_ag_27 (Rds.blk .h0) (by rw [ints_length, sha_length])) .nil) (by rw [topH_one (x := sha (0 :: ys)) (by omega) (by unfold leaves; rw [List.getElem?_map, hxk]; rfl)]; rfl)
    · skip
      have hn : 1 < vs.length := by omega
      have hk1 := splitN_lt hn
      have hk2 := splitN_pos hn
      have e1 : (vs.take (splitN vs.length)).length = splitN vs.length := by rw [List.length_take]; omega
      have e2 : (vs.drop (splitN vs.length)).length = vs.length - splitN vs.length := by rw [List.length_drop]
      have r1 : ∀ rs w, Now (cx gl) ⟨31, [], w0, Heap.none⟩ rs w → Items w (if c = 0 then base else base.map (·.add (0 * 1))) (vs.take (splitN vs.length)) (xss.take (splitN vs.length)) := fun rs w nw => by
            have h := (Items.row (C := cx gl) (F := ⟨31, [], w0, Heap.none⟩) (rs := rs) hpre rfl w nw).sliced (p := 0) (q := splitN vs.length) (c := c) (by omega) (by omega)
            rwa [List.drop_zero, List.drop_zero, Nat.sub_zero] at h
      have r2 : ∀ rs w, Now (cx gl) ⟨31, [], w0, Heap.none⟩ rs w → Items w (if c = splitN vs.length then base else base.map (·.add (splitN vs.length * 1))) (vs.drop (splitN vs.length)) (xss.drop (splitN vs.length)) := fun rs w nw => by
            have h := (Items.row (C := cx gl) (F := ⟨31, [], w0, Heap.none⟩) (rs := rs) hpre rfl w nw).sliced (p := splitN vs.length) (q := vs.length) (c := c) hc (Nat.le_refl _)
            rw [take_sub] at h
            rw [hvx] at h ⊢
            rwa [take_sub] at h
      have hb1 : ∀ x ∈ (xss.take (splitN vs.length)), x.length ≤ 140737488355000 := fun x hm => hb x (List.mem_of_mem_take hm)
      have hb2 : ∀ x ∈ (xss.drop (splitN vs.length)), x.length ≤ 140737488355000 := fun x hm => hb x (List.mem_of_mem_drop hm)
      refine R_skip ?_
      refine Q_then ?_
      refine R_seq ?_
      refine R_region ?_
      refine L_val rfl rfl rfl (OpP.v (P_move rfl rfl)) ?_
      refine L_val rfl rfl rfl (OpP.v (P_len rfl ty_sl_42 rfl)) ?_
      refine L_op rfl (W_callV rfl rfl rfl rfl fn_ca_50 (rsplit_ok gl vs.length (by omega)) (fun _ _ => trivial) ?_)
      refine L_val rfl rfl rfl (OpP.v (P_assign rfl rfl)) ?_
      refine L_nil ?_
      refine St.env (.cons (t := 0) rfl (.cons (t := 2) rfl (.cons (t := 3) rfl .nil))) ?_
      refine Q_then ?_
      refine R_seq ?_
      refine R_region ?_
      refine L_val rfl rfl rfl (OpP.v (P_move rfl rfl)) ?_
      refine L_val rfl rfl rfl (OpP.v (P_move rfl rfl)) ?_
      refine L_val rfl rfl rfl (OpP.v (P_slice 0 (splitN vs.length) rfl ty_sl_42 rfl rfl ⟨_, rfl⟩ (by omega) (by omega))) ?_
      refine E_as (t := 22) (v' := .slice (if c = 0 then base else base.map (·.add (0 * 1))) (vs.take (splitN vs.length)).length c) rfl (by unfold sliced; rw [e1, Nat.sub_zero, Nat.sub_zero]) ?_
      refine L_op rfl (W_callV rfl rfl rfl rfl fn_ca_29 (ih _ _ (vs.take (splitN vs.length)) (xss.take (splitN vs.length)) (by omega) (by rw [List.length_take, List.length_take, hvx]) hb1 (by omega)) (r1 _) ?_)
      refine L_op rfl (W_alloc rfl rfl rfl ty_ze_27 fun b4 => ?_)
      refine L_op rfl (W_storeAll rfl rfl rfl rfl ty_ag_27 (by rw [ints_length, topH_length (leaves_len _)]) (ints_one) .h0 (by rw [ints_length, topH_length (leaves_len _)]; rfl) ?_)
      refine L_nil ?_
      refine St.env (.cons (t := 0) rfl (.cons (t := 2) rfl (.cons (t := 3) rfl (.cons (t := 4) rfl .nil)))) ?_
      refine Q_then ?_
      refine R_seq ?_
      refine R_region ?_
      refine L_val rfl rfl rfl (OpP.v (P_move rfl rfl)) ?_
      refine L_val rfl rfl rfl (OpP.v (P_move rfl rfl)) ?_
      refine L_val rfl rfl rfl (OpP.v (P_slice (splitN vs.length) vs.length rfl ty_sl_42 rfl ⟨_, rfl⟩ rfl (by omega) (by omega))) ?_
      refine E_as (t := 26) (v' := .slice (if c = splitN vs.length then base else base.map (·.add (splitN vs.length * 1))) (vs.drop (splitN vs.length)).length (c - splitN vs.length)) rfl (by unfold sliced; rw [e2]) ?_
      refine L_op rfl (W_callV rfl rfl rfl rfl fn_ca_29 (ih _ _ (vs.drop (splitN vs.length)) (xss.drop (splitN vs.length)) (by omega) (by rw [List.length_drop, List.length_drop, hvx]) hb2 (by omega)) (r2 _) ?_)
      refine L_op rfl (W_alloc rfl rfl rfl ty_ze_27 fun b5 => ?_)
      refine L_op rfl (W_storeAll rfl rfl rfl rfl ty_ag_27 (by rw [ints_length, topH_length (leaves_len _)]) (ints_one) .h0 (by rw [ints_length, topH_length (leaves_len _)]; rfl) ?_)
      refine L_nil ?_
      refine St.env (.cons (t := 2) rfl (.cons (t := 4) rfl (.cons (t := 5) rfl .nil))) ?_
      refine Q_then ?_
      refine R_seq ?_
      refine R_region ?_
      refine L_val rfl rfl rfl (V_loadAgg rfl rfl ty_ag_27 (Rds.blk .h1) (by rw [ints_length, topH_length (leaves_len _)])) ?_
      refine L_val rfl rfl rfl (V_loadAgg rfl rfl ty_ag_27 (Rds.blk .h0) (by rw [ints_length, topH_length (leaves_len _)])) ?_
      refine L_op rfl (W_callV rfl rfl rfl rfl fn_ca_51 (rinner_ok hG (topH (leaves (xss.take (splitN vs.length)))) (topH (leaves (xss.drop (splitN vs.length)))) (topH_length (leaves_len _)) (topH_length (leaves_len _))) (fun _ _ => trivial) ?_)
      refine L_op rfl (W_storeAll rfl rfl rfl rfl ty_ag_27 (by rw [ints_length, sha_length]) (ints_one) .h2 (by rw [ints_length, sha_length]; rfl) ?_)
      refine L_nil ?_
      refine St.env (.cons (t := 2) rfl .nil) ?_
      refine Q_then ?_
      refine R_ret ?_
      exact R_endV rfl rfl (.cell rfl (Rds.loadVar ty_ag_27 (Rds.blk .h2) (by rw [ints_length, sha_length])) .nil) (by rw [topH_two (l := leaves xss) (by omega), hll, ← leaves_take, ← leaves_drop]; rfl)
theorem rtop_ok {gl : Nat → Obj} (hG : GlobsR gl) : ∀ (n : Nat) (base : Option Addr) (c : Nat) (vs : List Value) (xss : List (List Int)), vs.length ≤ n → n ≤ 70368744177664 → vs.length = xss.length → (∀ x ∈ xss, x.length ≤ 140737488355000) → vs.length ≤ c →
    SpecV (cx gl) 29 [.slice base vs.length c] (fun w => Items w base vs xss) (.agg (ints .u8 (topH (leaves xss))).toArray)
  | 0, base, c, vs, xss, hn, hm, hv, hb, hc => rtop_step hG base c vs xss hv hb hc (by omega) fun _ _ vs' _ hl => absurd hl (by omega)
  | n + 1, base, c, vs, xss, hn, hm, hv, hb, hc => rtop_step hG base c vs xss hv hb hc (by omega) fun base' c' vs' xss' hl hv' hb' hc' => rtop_ok hG n base' c' vs' xss' (by omega) (by omega) hv' hb' hc'
end Go.Proofs.YtjhhpagcejgclaaDoor
