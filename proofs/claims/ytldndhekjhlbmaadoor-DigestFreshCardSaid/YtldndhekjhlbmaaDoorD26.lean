/- Walks: listKept, DigestProves. Printed by gen.py. -/
import Derived.Test.YtldndhekjhlbmaaDoorD25
import Derived.Test.YtldndhekjhlbmaaDoorD15
set_option linter.unusedVariables false
set_option linter.unusedSimpArgs false
set_option maxRecDepth 100000
namespace Go.Proofs.YtldndhekjhlbmaaDoor
open Go Go.RowKit Go.Proofs
theorem wayH_le : ∀ (m : Nat) (l : List (List Int)) (i : Nat), l.length ≤ m → (wayH l i).length ≤ l.length := by
  intro m
  induction m with
  | zero => intro l i h; rw [wayH_one (by omega)]; simp
  | succ m ih =>
    intro l i h
    by_cases h1 : l.length ≤ 1
    · rw [wayH_one h1]; simp
    · have h2 := splitN_lt (n := l.length) (by omega)
      have h3 := splitN_pos (n := l.length) (by omega)
      by_cases hk : i < splitN l.length
      · rw [wayH_left (by omega) hk, List.length_append, List.length_singleton]
        have := ih (l.take (splitN l.length)) i (by rw [List.length_take]; omega)
        rw [List.length_take] at this; omega
      · rw [wayH_right (by omega) hk, List.length_append, List.length_singleton]
        have := ih (l.drop (splitN l.length)) (i - splitN l.length) (by rw [List.length_drop]; omega)
        rw [List.length_drop] at this; omega
theorem proveA_le (xss : List (List Int)) (at_ : Int) (h : xss.length ≤ 1048576) : (proveA xss at_).length ≤ 1048576 := by
  unfold proveA
  split
  · have := wayH_le _ (leaves xss) at_.toNat (Nat.le_refl _)
    rw [leaves_length] at this; omega
  · exact Nat.zero_le _
theorem proveA_len (xss : List (List Int)) (at_ : Int) : ∀ h ∈ proveA xss at_, h.length = 32 := by
  unfold proveA
  split
  · exact wayH_len (leaves_len xss) _
  · exact fun _ h => by cases h
theorem prove_verifies {xss : List (List Int)} {i : Nat} {x : List Int} (hk : proveE xss (i : Int) = 0) (hx : xss[i]? = some x) : verE (rootD xss) (proveT xss i) (proveI xss i) (proveA xss i) x = 0 := by
  have hB : bigL xss = false := by
    cases hq : bigL xss with
    | false => rfl
    | true => rw [proveE_big hq] at hk; cases hk
  obtain ⟨g1, _, g3⟩ := bigL_false hB
  have hlt := (List.getElem?_eq_some_iff.1 hx).1
  have hT : proveT xss i = (xss.length : Int) := by unfold proveT; rw [if_pos hk]
  have hI : proveI xss i = (i : Int) := by unfold proveI; rw [if_pos hk]
  have hA : proveA xss i = wayH (leaves xss) i := by unfold proveA; rw [if_pos hk]; simp
  rw [hT, hI, hA]
  have hl : (wayH (leaves xss) i).length = (turnsH xss.length i).length := by rw [wayH_length _ _ _ (Nat.le_refl _), leaves_length]
  have hpe : pathE (xss.length : Int) (i : Int) (wayH (leaves xss) i) x = 0 := by
    unfold pathE
    rw [if_neg (by have := g3 x (List.mem_of_getElem? hx); omega), fitsB_in (by omega) g1 hlt, decide_eq_true hl, if_pos rfl]
  have hlead := lead_way _ (leaves xss) i (leafH x) (Nat.le_refl _) (by unfold leaves; rw [List.getElem?_map, hx]; rfl)
  rw [leaves_length] at hlead
  unfold verE pathD
  rw [if_pos hpe, if_pos hpe]
  simp only [Int.toNat_natCast, hlead]
  rw [if_pos (by unfold rootD rootH; rw [hB]; rfl)]
theorem listKept_ok {gl : Nat → Obj} (fb : Option Addr) (fc lb lc m1 m2 : Nat) (qs : List Rm) (base : Option Addr) (c : Nat) (vs : List Value) (xss : List (List Int)) (hvx : vs.length = xss.length) (hc : vs.length ≤ c) (hmax : vs.length ≤ 1048576) (hbs : ∀ x ∈ xss, x.length ≤ 1048576) (hB : ∀ x ∈ xss, IsB x) (hqx : qs.map Rm.x = xss) (hqo : ∀ q ∈ qs, q.x.length + 2 ≤ q.cap) : SpecV (cx gl) 38 [.slice fb qs.length fc, .slice (some ⟨lb, 0, none⟩) (qs.length + 2) lc, .slice base vs.length c] (fun w => Row w fb (qs.map Rm.full) ∧ RowAt w ⟨lb, 0, none⟩ (qs.map Rm.item ++ [.slice (some ⟨m1, 0, none⟩) 4 4, .slice (some ⟨m2, 0, none⟩) 4 4]) ∧ RowAt w ⟨m1, 0, none⟩ markC ∧ RowAt w ⟨m2, 0, none⟩ markC ∧ (∀ (i : Nat) (q : Rm), qs[i]? = some q → RowAt w ⟨q.b, 0, none⟩ (ints .u8 (q.x ++ [201, 202]))) ∧ Items w base vs xss) (.bool true) := by
  refine Spec.enter (C := cx gl) Tryd.func38 rfl 54 rfl rfl fun w0 h0 hsep hsub hpre => ?_
  obtain rfl : h0 = Heap.none := hsep
  show St (cx gl) _ [(0, .slice fb qs.length fc), (1, .slice (some ⟨lb, 0, none⟩) (qs.length + 2) lc), (2, .slice base vs.length c)] _ _
  obtain ⟨hfr, hlr, hm1, hm2, hqr, hit⟩ := hpre
  have hqn : qs.length = vs.length := by rw [hvx, ← hqx, List.length_map]
  have hl1 : (qs.map Rm.item ++ [.slice (some ⟨m1, 0, none⟩) 4 4, .slice (some ⟨m2, 0, none⟩) 4 4])[vs.length]? = some (.slice (some ⟨m1, 0, none⟩) 4 4) := by rw [List.getElem?_append_right (by simp [hqn]), List.length_map, hqn, Nat.sub_self]; rfl
  have hl2 : (qs.map Rm.item ++ [.slice (some ⟨m1, 0, none⟩) 4 4, .slice (some ⟨m2, 0, none⟩) 4 4])[vs.length + 1]? = some (.slice (some ⟨m2, 0, none⟩) 4 4) := by rw [List.getElem?_append_right (by simp [hqn]), List.length_map, hqn, Nat.add_sub_cancel_left]; rfl
  refine R_seq ?_
  refine R_region ?_
  refine L_val rfl rfl rfl (OpP.v (P_assign rfl rfl)) ?_
  refine L_nil ?_
  refine Q_then ?_
  refine R_seq ?_
  refine R_region ?_
  refine L_val rfl rfl rfl (OpP.v (P_move rfl rfl)) ?_
  refine L_val rfl rfl rfl (OpP.v (P_len rfl ty_sl_36 rfl)) ?_
  refine L_val rfl rfl rfl (OpP.v (P_assign rfl rfl)) ?_
  refine L_nil ?_
  refine St.env (.cons (t := 0) rfl (.cons (t := 1) rfl (.cons (t := 2) rfl (.cons (t := 6) rfl (.cons (t := 7) rfl .nil))))) ?_
  refine Q_then ?_
  refine R_seq ?_
  refine R_seq ?_
  refine R_region ?_
  refine L_val rfl rfl rfl (OpP.v (P_move rfl rfl)) ?_
  refine L_val rfl rfl rfl (OpP.v (P_move rfl rfl)) ?_
  refine L_val rfl rfl rfl (OpP.v (P_ixs (vs.length) rfl ty_sl_36 rfl rfl (by first | rfl | omega) (by omega))) ?_
  refine L_val rfl rfl rfl (V_load rfl rfl ty_sc_26 (Rd.row hlr rfl hl1)) ?_
  refine L_val rfl rfl rfl (V_strN (rfl) rfl (slB_spec ty_sl_26).1 ty_int_5 ty_str_9 rfl ((Sn.row (RowAt.row hm1) rfl).rw_)) ?_
  refine L_val rfl rfl rfl (OpP.v (P_neStr (ys := [109, 97, 114, 107]) rfl rfl rfl (fun x hx => by simp at hx; omega) (fun x hx => by simp at hx; omega))) ?_
  refine E_false (t := 16) rfl (rfl) ?_
  refine L_val rfl rfl rfl (OpP.v (P_move rfl rfl)) ?_
  refine L_val rfl rfl rfl (OpP.v (P_move rfl rfl)) ?_
  refine L_val rfl rfl rfl (OpP.v (P_move rfl rfl)) ?_
  first | (refine L_val rfl rfl rfl (OpP.v (P_addN rfl rfl rfl (by simp only [fits]; omega))) ?_) | (refine L_val rfl rfl rfl (OpP.v (P_add rfl rfl rfl)) ?_)
  refine L_val rfl rfl rfl (OpP.v (P_ixs (vs.length + 1) rfl ty_sl_36 rfl rfl (by first | rfl | omega) (by omega))) ?_
  refine L_val rfl rfl rfl (V_load rfl rfl ty_sc_26 (Rd.row hlr rfl hl2)) ?_
  refine L_val rfl rfl rfl (V_strN (rfl) rfl (slB_spec ty_sl_26).1 ty_int_5 ty_str_9 rfl ((Sn.row (RowAt.row hm2) rfl).rw_)) ?_
  refine L_val rfl rfl rfl (OpP.v (P_neStr (ys := [109, 97, 114, 107]) rfl rfl rfl (fun x hx => by simp at hx; omega) (fun x hx => by simp at hx; omega))) ?_
  refine E_false (t := 24) rfl (rfl) ?_
  refine L_val rfl rfl rfl (OpP.v (P_pick rfl rfl rfl)) ?_
  refine L_nil ?_
  refine St.env (.cons (t := 0) rfl (.cons (t := 1) rfl (.cons (t := 2) rfl (.cons (t := 6) rfl (.cons (t := 7) rfl (.cons (t := 25) rfl .nil)))))) ?_
  refine Q_then ?_
  refine R_condF rfl ?_
  refine R_skip ?_
  refine Q_then ?_
  refine R_seq ?_
  refine R_seq ?_
  refine R_region ?_
  refine L_val rfl rfl rfl (OpP.v (P_assign rfl rfl)) ?_
  refine L_nil ?_
  refine St.env (.cons (t := 0) rfl (.cons (t := 1) rfl (.cons (t := 2) rfl (.cons (t := 6) rfl (.cons (t := 7) rfl (.cons (t := 8) rfl .nil)))))) ?_
  refine Q_then ?_
  refine R_block ?_
  refine R_loopE (G := Nat) (.cons (t := 0) rfl (.cons (t := 1) rfl (.cons (t := 2) rfl (.cons (t := 6) rfl (.cons (t := 7) rfl .nil))))) (fun g => [(8, .int .i64 (g : Int))]) (fun _ => _) (fun g => g ≤ vs.length) (fun g => vs.length - g) (0) (Nat.zero_le _) (by repeat (first | exact .nil | refine .cons rfl ?_ | refine .consE rfl (by first | rfl | (congr 1; omega) | (congr 1; push_cast; omega)) ?_)) (Weak.refl _) ?_
  intro i hinv
  replace hinv : i ≤ vs.length := hinv
  show St (cx gl) _ ((8, .int .i64 (i : Int)) :: _) _ _
  refine R_seq ?_
  refine R_seq ?_
  refine R_region ?_
  refine L_val rfl rfl rfl (OpP.v (P_move rfl rfl)) ?_
  refine L_val rfl rfl rfl (OpP.v (P_move rfl rfl)) ?_
  refine L_val rfl rfl rfl (OpP.v (P_lss rfl rfl rfl)) ?_
  refine L_nil ?_
  refine Q_then ?_
  refine R_condP rfl (fun hlt => ?_) (fun hlt => ?_)
  · skip
    obtain ⟨q, hq⟩ : ∃ q, qs[i]? = some q := ⟨_, List.getElem?_eq_getElem (by omega)⟩
    have hx : xss[i]? = some q.x := by rw [← hqx, List.getElem?_map, hq]; rfl
    obtain ⟨u, hu⟩ : ∃ u, vs[i]? = some u := ⟨_, List.getElem?_eq_getElem (by omega)⟩
    obtain ⟨ib, ic, rfl, hic, hri⟩ := hit.2.2 _ u _ hu hx
    obtain ⟨pb, pj, rfl, hrow⟩ := hit.1.some_ (by omega)
    obtain ⟨fb, fj, rfl, hfrow⟩ := hfr.some_ (by rw [List.length_map]; omega)
    have hxl := hbs _ (List.mem_of_getElem? hx)
    have hxb := hB _ (List.mem_of_getElem? hx)
    have hqc := hqo q (List.mem_of_getElem? hq)
    have hff : (qs.map Rm.full)[i]? = some (.slice (some ⟨q.b, 0, none⟩) (q.x.length + 2) q.cap) := by rw [List.getElem?_map, hq]; rfl
    have hll : (qs.map Rm.item ++ [.slice (some ⟨m1, 0, none⟩) 4 4, .slice (some ⟨m2, 0, none⟩) 4 4])[i]? = some (.slice (some ⟨q.b, 0, none⟩) q.x.length q.cap) := by rw [List.getElem?_append_left (by rw [List.length_map]; omega), List.getElem?_map, hq]; rfl
    have hqq := hqr i q hq
    refine R_skip ?_
    refine Q_then ?_
    refine R_seq ?_
    refine R_block ?_
    refine R_seq ?_
    refine R_open [(0, 0), (1, 0), (2, 0), (3, 1), (4, 0), (5, 0), (6, 0), (7, 1), (8, 2), (9, 0), (10, 0), (11, 0), (12, 0), (13, 0), (14, 1), (15, 1), (16, 0), (17, 0), (18, 0), (19, 1), (20, 1), (21, 0), (22, 0)] mixed (by kernel_rfl) (QOk.then (QOk.block (QOk.then (QOk.then (QOk.block (QOk.then QOk.body)))))) ?_
    refine O_pure rfl rfl rfl rfl (P_move rfl rfl) ?_
    refine O_pure rfl rfl rfl rfl (P_move rfl rfl) ?_
    refine O_pure rfl rfl rfl rfl (P_ixs (i) rfl ty_sl_36 rfl rfl (by first | rfl | omega) (by omega)) ?_
    refine O_val rfl rfl rfl rfl (V_load rfl rfl ty_sc_26 (Rd.row hfrow rfl hff)) ?_
    refine O_pure rfl rfl rfl rfl (P_move rfl rfl) ?_
    refine O_pure rfl rfl rfl rfl (P_move rfl rfl) ?_
    refine O_pure rfl rfl rfl rfl (P_ixs (i) rfl ty_sl_36 rfl rfl (by first | rfl | omega) (by omega)) ?_
    refine O_val rfl rfl rfl rfl (V_load rfl rfl ty_sc_26 (Rd.row hrow rfl hu)) ?_
    refine O_keep rfl rfl (W_callV rfl rfl rfl rfl fn_ca_19 (kept_ok q.b 0 q.cap ib ic q.x hqc (by omega) hxb) (fun w nw => ⟨by have h := (Sn.row hqq.row rfl).rowAt 0 (fun i v h => by rwa [Nat.zero_add]) w nw; rwa [Nat.zero_add] at h, (Sn.row hri rfl).rw_ w nw⟩) (K_keep (Weak.refl _) ?_))
    refine E_true (t := 39) rfl (rfl) ?_
    refine O_pure rfl rfl rfl rfl (P_not rfl rfl) ?_
    refine O_pure rfl rfl rfl rfl (P_move rfl rfl) ?_
    refine O_pure rfl rfl rfl rfl (P_move rfl rfl) ?_
    refine O_pure rfl rfl rfl rfl (P_move rfl rfl) ?_
    refine O_pure rfl rfl rfl rfl (P_ixs (i) rfl ty_sl_36 rfl rfl (by first | rfl | omega) (by omega)) ?_
    refine O_val rfl rfl rfl rfl (V_load rfl rfl ty_sc_26 (Rd.row hlr rfl hll)) ?_
    refine O_val rfl rfl rfl rfl (V_str rfl (slB_spec ty_sl_26).1 ty_int_5 ty_str_9 rfl (((Sn.row hqq.row rfl).part fun j v hv => ⟨_, _, rfl, rfl, rfl, j, rfl, by rw [← ints_append, List.getElem?_append_left (List.getElem?_eq_some_iff.1 hv).1]; exact hv⟩).rw_)) ?_
    refine O_pure rfl rfl rfl rfl (P_move rfl rfl) ?_
    refine O_pure rfl rfl rfl rfl (P_move rfl rfl) ?_
    refine O_pure rfl rfl rfl rfl (P_ixs (i) rfl ty_sl_36 rfl rfl (by first | rfl | omega) (by omega)) ?_
    refine O_val rfl rfl rfl rfl (V_load rfl rfl ty_sc_26 (Rd.row hrow rfl hu)) ?_
    refine O_val rfl rfl rfl rfl (V_str rfl (slB_spec ty_sl_26).1 ty_int_5 ty_str_9 rfl ((Sn.row hri rfl).rw_)) ?_
    refine O_pure rfl rfl rfl rfl (P_neStr rfl rfl rfl hxb hxb) ?_
    refine E_false (t := 52) rfl (decide_eq_false (by simp)) ?_
    refine O_pure rfl rfl rfl rfl (P_pick rfl rfl rfl) ?_
    refine O_nil ?_
    refine Q_then ?_
    refine R_condF rfl ?_
    refine R_skip ?_
    refine Q_block ?_
    refine Q_then ?_
    refine R_region ?_
    refine L_val rfl rfl rfl (OpP.v (P_move rfl rfl)) ?_
    first | (refine L_val rfl rfl rfl (OpP.v (P_addN rfl rfl rfl (by simp only [fits]; omega))) ?_) | (refine L_val rfl rfl rfl (OpP.v (P_add rfl rfl rfl)) ?_)
    refine L_val rfl rfl rfl (OpP.v (P_assign rfl rfl)) ?_
    refine L_nil ?_
    exact Q_round (i + 1) (by show (i + 1) ≤ vs.length; omega) (by show vs.length - (i + 1) < vs.length - i; omega) (by repeat (first | exact .nil | refine .cons rfl ?_ | refine .consE rfl (by first | rfl | (congr 1; omega) | (congr 1; push_cast; omega)) ?_)) (Weak.refl _)
  · skip
    refine R_exit ?_
    refine Q_then_exit ?_
    refine Q_then_exit ?_
    refine Q_block_eq ?_
    refine St.env (.cons (t := 6) rfl .nil) ?_
    refine Q_then ?_
    refine R_seq ?_
    refine R_region ?_
    refine L_val rfl rfl rfl (OpP.v (P_assign rfl rfl)) ?_
    refine L_nil ?_
    refine Q_then ?_
    refine R_ret ?_
    exact R_endV rfl rfl (.tmp rfl .nil) (rfl)
theorem digestProves_walk {gl : Nat → Obj} (hG : GlobsR gl) (base : Option Addr) (c : Nat) (vs : List Value) (xss : List (List Int)) (hvx : vs.length = xss.length) (hc : vs.length ≤ c) (hmax : vs.length ≤ 1048576) (hbs : ∀ x ∈ xss, x.length ≤ 1048576) (hB : ∀ x ∈ xss, IsB x) (at_ : Int) : SpecV (cx gl) 11 [.slice base vs.length c, .int .i64 at_] (fun w => Items w base vs xss) (.bool true) := by
  refine Spec.enter (C := cx gl) Tryd.func11 rfl 90 rfl rfl fun w0 h0 hsep hsub hpre => ?_
  obtain rfl : h0 = Heap.none := hsep
  show St (cx gl) _ [(0, .slice base vs.length c), (1, .int .i64 at_)] _ _
  refine R_seq ?_
  refine R_region ?_
  refine L_val rfl rfl rfl (OpP.v (P_assign rfl rfl)) ?_
  refine L_nil ?_
  refine Q_then ?_
  refine R_seq ?_
  refine R_region ?_
  refine L_op rfl (W_callV rfl rfl rfl rfl fn_ca_20 (alive_ok hG.toGlobs) (fun _ _ => trivial) ?_)
  refine E_true (t := 17) rfl (rfl) ?_
  refine L_val rfl rfl rfl (OpP.v (P_assign rfl rfl)) ?_
  refine L_nil ?_
  refine St.env (.cons (t := 0) rfl (.cons (t := 1) rfl (.cons (t := 4) rfl (.cons (t := 5) rfl .nil)))) ?_
  refine Q_then ?_
  refine R_seq ?_
  refine R_seq ?_
  refine R_region ?_
  refine L_val rfl rfl rfl (OpP.v (P_move rfl rfl)) ?_
  refine L_val rfl rfl rfl (OpP.v (P_not rfl rfl)) ?_
  refine L_nil ?_
  refine St.env (.cons (t := 0) rfl (.cons (t := 1) rfl (.cons (t := 4) rfl (.cons (t := 19) rfl .nil)))) ?_
  refine Q_then ?_
  refine R_condF rfl ?_
  refine R_skip ?_
  refine Q_then ?_
  refine R_seq ?_
  refine R_region ?_
  refine L_val rfl rfl rfl (OpP.v (P_move rfl rfl)) ?_
  refine L_op rfl (W_call rfl rfl rfl rfl fn_ca_37 (list_ok base c vs xss hvx hc hmax hbs) (Split.nil _) (fun w a b _ hb dj m => Items.row hpre rfl w ⟨_, hb, m.le (Heap.le_join_right dj)⟩) fun v22 rs1 ⟨fv, lv, m1, m2, qs, e1, hqx, hqo, e2⟩ => ?_)
  subst e1; subst e2
  have hqn : qs.length = vs.length := by rw [hvx, ← hqx, List.length_map]
  refine St.ownSome (p := []) (by omega) fun lb lc hlv hlc => ?_
  refine St.ownForm (p := [_, _, _, _]) fun fb fc hfv hfc => ?_
  subst hlv; subst hfv
  refine L_val rfl rfl rfl (OpP.v (P_move rfl rfl)) ?_
  refine L_val rfl rfl rfl (OpP.v (P_extract rfl rfl rfl)) ?_
  refine L_val rfl rfl rfl (OpP.v (P_extract rfl rfl rfl)) ?_
  refine L_val rfl rfl rfl (OpP.v (P_assign rfl rfl)) ?_
  refine L_val rfl rfl rfl (OpP.v (P_assign rfl rfl)) ?_
  refine L_nil ?_
  refine St.env (.cons (t := 0) rfl (.cons (t := 1) rfl (.cons (t := 4) rfl (.cons (t := 6) rfl (.cons (t := 7) rfl .nil))))) ?_
  refine Q_then ?_
  refine R_seq ?_
  refine R_region ?_
  refine L_val rfl rfl rfl (OpP.v (P_move rfl rfl)) ?_
  refine L_val rfl rfl rfl (OpP.v (P_move rfl rfl)) ?_
  refine L_val rfl rfl rfl (OpP.v (P_len rfl ty_sl_36 rfl)) ?_
  refine L_val rfl rfl rfl (OpP.v (P_slice 0 vs.length rfl ty_sl_36 rfl rfl ⟨_, rfl⟩ (by omega) (by omega))) ?_
  refine E_as (t := 29) (v' := .slice (some ⟨lb, 0, none⟩) (qs.map Rm.item).length lc) rfl (by unfold sliced; rw [if_neg (by omega), List.length_map, hqn]; simp [add_zero_off]) ?_
  refine L_op rfl (W_callV rfl rfl rfl rfl fn_ca_25 (root_ok hG.toGlobs (some ⟨lb, 0, none⟩) lc (qs.map Rm.item) xss (by rw [List.length_map]; omega) (by rw [List.length_map]; omega) (by rw [List.length_map]; omega)) (Rm.items .h3 .h0 rfl hqx hqo) ?_)
  refine L_val rfl rfl rfl (OpP.v (P_move rfl rfl)) ?_
  refine L_val rfl rfl rfl (OpP.v (P_extract rfl rfl rfl)) ?_
  refine L_val rfl rfl rfl (OpP.v (P_extract rfl rfl rfl)) ?_
  refine L_op rfl (W_alloc rfl rfl rfl ty_ze_23 fun b8 => ?_)
  refine L_op rfl (W_storeAll rfl rfl rfl rfl ty_ag_23 (by rw [ints_length, rootD_length]) (ints_one) .h0 (by rw [ints_length, rootD_length]; rfl) ?_)
  refine L_val rfl rfl rfl (OpP.v (P_assign rfl rfl)) ?_
  refine L_nil ?_
  refine St.env (.cons (t := 0) rfl (.cons (t := 1) rfl (.cons (t := 4) rfl (.cons (t := 6) rfl (.cons (t := 7) rfl (.cons (t := 8) rfl (.cons (t := 9) rfl .nil))))))) ?_
  refine Q_then ?_
  refine R_seq ?_
  refine R_region ?_
  refine L_val rfl rfl rfl (OpP.v (P_move rfl rfl)) ?_
  refine L_val rfl rfl rfl (OpP.v (P_move rfl rfl)) ?_
  refine L_val rfl rfl rfl (OpP.v (P_len rfl ty_sl_36 rfl)) ?_
  refine L_val rfl rfl rfl (OpP.v (P_slice 0 vs.length rfl ty_sl_36 rfl rfl ⟨_, rfl⟩ (by omega) (by omega))) ?_
  refine E_as (t := 37) (v' := .slice (some ⟨lb, 0, none⟩) (qs.map Rm.item).length lc) rfl (by unfold sliced; rw [if_neg (by omega), List.length_map, hqn]; simp [add_zero_off]) ?_
  refine L_val rfl rfl rfl (OpP.v (P_move rfl rfl)) ?_
  refine L_op rfl (W_call rfl rfl rfl rfl fn_ca_33 (prove_ok hG.toGlobs (some ⟨lb, 0, none⟩) lc (qs.map Rm.item) xss at_ (by rw [List.length_map]; omega) (by rw [List.length_map]; omega) (by rw [List.length_map]; omega)) (Split.nil _) (fun w a b _ hb dj m => Rm.items .h4 .h1 rfl hqx hqo w ⟨_, hb, m.le (Heap.le_join_right dj)⟩) fun v39 rs1 ⟨u1, e1, e2⟩ => ?_)
  subst e1; subst e2
  refine St.ownForm (p := []) fun ub1 uc1 he1 huc1 => ?_
  subst he1
  refine L_val rfl rfl rfl (OpP.v (P_move rfl rfl)) ?_
  refine L_val rfl rfl rfl (OpP.v (P_extract rfl rfl rfl)) ?_
  refine L_val rfl rfl rfl (OpP.v (P_extract rfl rfl rfl)) ?_
  refine L_op rfl (W_alloc rfl rfl rfl ty_ze_57 fun b10 => ?_)
  refine L_op rfl (W_storeAll rfl rfl rfl rfl ty_ag_57 (rfl) (by intro v hv; simp at hv; rcases hv with rfl | rfl | rfl <;> rfl) .h0 (rfl) ?_)
  refine L_val rfl rfl rfl (OpP.v (P_assign rfl rfl)) ?_
  refine L_nil ?_
  refine St.env (.cons (t := 0) rfl (.cons (t := 1) rfl (.cons (t := 4) rfl (.cons (t := 6) rfl (.cons (t := 7) rfl (.cons (t := 8) rfl (.cons (t := 9) rfl (.cons (t := 10) rfl (.cons (t := 11) rfl .nil))))))))) ?_
  refine Q_then ?_
  refine R_seq ?_
  refine R_region ?_
  refine L_val rfl rfl rfl (OpP.v (P_move rfl rfl)) ?_
  refine L_op rfl (W_callV rfl rfl rfl rfl fn_ca_26 (rroot_ok hG base c vs xss hvx hc (by omega)) (Items.row hpre rfl) ?_)
  refine L_val rfl rfl rfl (OpP.v (P_move rfl rfl)) ?_
  refine L_val rfl rfl rfl (OpP.v (P_extract rfl rfl rfl)) ?_
  refine L_val rfl rfl rfl (OpP.v (P_extract rfl rfl rfl)) ?_
  refine L_op rfl (W_alloc rfl rfl rfl ty_ze_23 fun b12 => ?_)
  refine L_op rfl (W_storeAll rfl rfl rfl rfl ty_ag_23 (by rw [ints_length, rootD_length]) (ints_one) .h0 (by rw [ints_length, rootD_length]; rfl) ?_)
  refine L_val rfl rfl rfl (OpP.v (P_assign rfl rfl)) ?_
  refine L_nil ?_
  refine St.env (.cons (t := 0) rfl (.cons (t := 1) rfl (.cons (t := 4) rfl (.cons (t := 6) rfl (.cons (t := 7) rfl (.cons (t := 8) rfl (.cons (t := 9) rfl (.cons (t := 10) rfl (.cons (t := 11) rfl (.cons (t := 12) rfl (.cons (t := 13) rfl .nil))))))))))) ?_
  refine Q_then ?_
  refine R_seq ?_
  refine R_region ?_
  refine L_val rfl rfl rfl (OpP.v (P_move rfl rfl)) ?_
  refine L_val rfl rfl rfl (OpP.v (P_move rfl rfl)) ?_
  refine L_op rfl (W_call rfl rfl rfl rfl fn_ca_34 (rprove_ok hG base c vs xss at_ hvx hc (by omega)) (Split.nil _) (fun w a b _ hb dj m => Items.row hpre rfl w ⟨_, hb, m.le (Heap.le_join_right dj)⟩) fun v50 rs1 ⟨u2, e1, e2⟩ => ?_)
  subst e1; subst e2
  refine St.ownForm (p := []) fun ub2 uc2 he2 huc2 => ?_
  subst he2
  refine L_val rfl rfl rfl (OpP.v (P_move rfl rfl)) ?_
  refine L_val rfl rfl rfl (OpP.v (P_extract rfl rfl rfl)) ?_
  refine L_val rfl rfl rfl (OpP.v (P_extract rfl rfl rfl)) ?_
  refine L_op rfl (W_alloc rfl rfl rfl ty_ze_57 fun b14 => ?_)
  refine L_op rfl (W_storeAll rfl rfl rfl rfl ty_ag_57 (rfl) (by intro v hv; simp at hv; rcases hv with rfl | rfl | rfl <;> rfl) .h0 (rfl) ?_)
  refine L_val rfl rfl rfl (OpP.v (P_assign rfl rfl)) ?_
  refine L_nil ?_
  refine St.env (.cons (t := 0) rfl (.cons (t := 1) rfl (.cons (t := 4) rfl (.cons (t := 6) rfl (.cons (t := 7) rfl (.cons (t := 8) rfl (.cons (t := 9) rfl (.cons (t := 10) rfl (.cons (t := 11) rfl (.cons (t := 12) rfl (.cons (t := 13) rfl (.cons (t := 14) rfl (.cons (t := 15) rfl .nil))))))))))))) ?_
  refine Q_then ?_
  refine R_seq ?_
  refine R_seq ?_
  refine R_region ?_
  refine L_val rfl rfl rfl (V_loadAgg rfl rfl ty_ag_23 (Rds.blk .h5) (by rw [ints_length, rootD_length])) ?_
  refine L_val rfl rfl rfl (V_loadAgg rfl rfl ty_ag_23 (Rds.blk .h2) (by rw [ints_length, rootD_length])) ?_
  refine L_val rfl rfl rfl (OpP.v (P_neArr rfl rfl rfl ty_un_23 ty_int_5 ty_sc_5 ty_eg_23 (rootD_length _) (rootD_length _))) ?_
  refine E_false (t := 55) rfl (decide_eq_false (by simp)) ?_
  refine L_val rfl rfl rfl (OpP.v (P_move rfl rfl)) ?_
  refine L_val rfl rfl rfl (OpP.v (P_move rfl rfl)) ?_
  refine L_val rfl rfl rfl (OpP.v (P_move rfl rfl)) ?_
  refine L_val rfl rfl rfl (OpP.v (P_neq rfl rfl rfl)) ?_
  refine E_false (t := 59) rfl (decide_eq_false (by simp)) ?_
  refine L_val rfl rfl rfl (OpP.v (P_pick rfl rfl rfl)) ?_
  refine L_val rfl rfl rfl (OpP.v (P_move rfl rfl)) ?_
  refine L_val rfl rfl rfl (OpP.v (P_move rfl rfl)) ?_
  refine L_val rfl rfl rfl (OpP.v (P_move rfl rfl)) ?_
  refine L_val rfl rfl rfl (OpP.v (P_neq rfl rfl rfl)) ?_
  refine E_false (t := 64) rfl (decide_eq_false (by simp)) ?_
  refine L_val rfl rfl rfl (OpP.v (P_pick rfl rfl rfl)) ?_
  refine L_val rfl rfl rfl (OpP.v (P_move rfl rfl)) ?_
  refine L_val rfl rfl rfl (V_loadAgg rfl rfl ty_ag_57 (Rds.blk .h3) (rfl)) ?_
  refine L_val rfl rfl rfl (V_loadAgg rfl rfl ty_ag_57 (Rds.blk .h0) (rfl)) ?_
  refine L_op rfl (W_callV rfl rfl rfl rfl fn_ca_32 (same_ok (proveT xss at_) (proveI xss at_) ub1 uc1 ub2 uc2 (proveA xss at_) (proveA_len xss at_) (by have := proveA_le xss at_ (by omega); omega)) (fun w nw => ⟨(Sn.own .h4 rfl).rw_ w nw, (Sn.own .h1 rfl).rw_ w nw⟩) ?_)
  refine E_true (t := 69) rfl (rfl) ?_
  refine L_val rfl rfl rfl (OpP.v (P_not rfl rfl)) ?_
  refine L_val rfl rfl rfl (OpP.v (P_pick rfl rfl rfl)) ?_
  refine L_val rfl rfl rfl (OpP.v (P_move rfl rfl)) ?_
  refine L_val rfl rfl rfl (OpP.v (P_move rfl rfl)) ?_
  refine L_val rfl rfl rfl (OpP.v (P_move rfl rfl)) ?_
  refine L_val rfl rfl rfl (OpP.v (P_move rfl rfl)) ?_
  refine L_op rfl (W_callV rfl rfl rfl rfl fn_ca_38 (listKept_ok fb fc lb lc m1 m2 qs base c vs xss hvx hc hmax hbs hB hqx hqo) (fun w nw => ⟨(Sn.own (.cons .h9) rfl).rw_ w nw, by have h := (Sn.own (.h6) rfl).rowAt 0 (fun i v h => by rwa [Nat.zero_add]) w nw; rwa [Nat.zero_add] at h, by have h := (Sn.ofBlk .h8).rowAt 0 (fun i v h => by rwa [Nat.zero_add]) w nw; rwa [Nat.zero_add] at h, by have h := (Sn.ofBlk .h7).rowAt 0 (fun i v h => by rwa [Nat.zero_add]) w nw; rwa [Nat.zero_add] at h, fun i q hq => by have h := (Rm.bytes .h9 hq).rowAt 0 (fun i v h => by rw [Nat.zero_add, List.getElem?_append_left (List.getElem?_eq_some_iff.1 h).1]; exact h) w nw; rwa [Nat.zero_add] at h, Items.row hpre rfl w nw⟩) ?_)
  refine E_true (t := 76) rfl (rfl) ?_
  refine L_val rfl rfl rfl (OpP.v (P_not rfl rfl)) ?_
  refine L_val rfl rfl rfl (OpP.v (P_pick rfl rfl rfl)) ?_
  refine L_nil ?_
  refine St.env (.cons (t := 0) rfl (.cons (t := 1) rfl (.cons (t := 4) rfl (.cons (t := 8) rfl (.cons (t := 10) rfl (.cons (t := 15) rfl (.cons (t := 78) rfl .nil))))))) ?_
  refine Q_then ?_
  refine R_condF rfl ?_
  refine R_skip ?_
  refine Q_then ?_
  refine R_seq ?_
  refine R_seq ?_
  refine R_region ?_
  refine L_val rfl rfl rfl (OpP.v (P_move rfl rfl)) ?_
  refine L_val rfl rfl rfl (OpP.v (P_neq rfl rfl rfl)) ?_
  refine E_bool (t := 80) rfl (fun hk => ?_) (fun hk => ?_)
  · skip
    refine L_nil ?_
    refine St.env (.cons (t := 0) rfl (.cons (t := 1) rfl (.cons (t := 4) rfl (.cons (t := 8) rfl (.cons (t := 10) rfl (.cons (t := 80) rfl .nil)))))) ?_
    refine Q_then ?_
    refine R_condT rfl ?_
    refine R_seq ?_
    refine R_region ?_
    refine L_val rfl rfl rfl (OpP.v (P_assign rfl rfl)) ?_
    refine L_nil ?_
    refine St.env (.cons (t := 0) rfl (.cons (t := 1) rfl (.cons (t := 4) rfl (.cons (t := 8) rfl (.cons (t := 10) rfl .nil))))) ?_
    refine Q_then ?_
    refine R_ret ?_
    refine Q_then_ret ?_
    exact R_endV rfl rfl (.tmp rfl .nil) (rfl)
  · skip
    have hk0 : proveE xss at_ = 0 := by simpa using hk
    obtain ⟨i, rfl, hi⟩ : ∃ i : Nat, at_ = i ∧ i < xss.length := by
      have h := hk0
      unfold proveE at h
      split at h
      · cases h
      · split at h
        · rename_i hh; exact ⟨at_.toNat, by omega, by omega⟩
        · cases h
    obtain ⟨x, hx⟩ : ∃ x, xss[i]? = some x := ⟨_, List.getElem?_eq_getElem hi⟩
    obtain ⟨u, hu⟩ : ∃ u, vs[i]? = some u := ⟨_, List.getElem?_eq_getElem (by omega)⟩
    obtain ⟨ib, ic, rfl, hic, hri⟩ := hpre.2.2 _ u _ hu hx
    obtain ⟨pb, pj, rfl, hrow⟩ := hpre.1.some_ (by omega)
    refine L_nil ?_
    refine St.env (.cons (t := 0) rfl (.cons (t := 1) rfl (.cons (t := 4) rfl (.cons (t := 8) rfl (.cons (t := 10) rfl (.cons (t := 80) rfl .nil)))))) ?_
    refine Q_then ?_
    refine R_condF rfl ?_
    refine R_skip ?_
    refine Q_then ?_
    refine R_seq ?_
    refine R_open [(0, 1), (1, 1), (2, 0), (3, 0), (4, 0), (5, 1), (6, 2), (7, 0)] mixed (by kernel_rfl) (QOk.then QOk.body) ?_
    refine O_val rfl rfl rfl rfl (V_loadAgg rfl rfl ty_ag_23 (Rds.blk .h5) (by rw [ints_length, rootD_length])) ?_
    refine O_val rfl rfl rfl rfl (V_loadAgg rfl rfl ty_ag_57 (Rds.blk .h3) (rfl)) ?_
    refine O_pure rfl rfl rfl rfl (P_move rfl rfl) ?_
    refine O_pure rfl rfl rfl rfl (P_move rfl rfl) ?_
    refine O_pure rfl rfl rfl rfl (P_ixs (i) rfl ty_sl_36 rfl rfl (by first | rfl | omega) (by omega)) ?_
    refine O_val rfl rfl rfl rfl (V_load rfl rfl ty_sc_26 (Rd.row hrow rfl hu)) ?_
    refine O_keep rfl rfl (W_callV rfl rfl rfl rfl fn_ca_29 (verify_ok hG.toGlobs (rootD xss) (rootD_length _) (proveT xss i) (proveI xss i) ub1 uc1 (proveA xss i) ib ic x (proveA_len xss i) (huc1) (by have := proveA_le xss i (by omega); omega) hic) (fun w nw => ⟨(Sn.own .h4 rfl).rw_ w nw, (Sn.row hri rfl).rw_ w nw⟩) (K_keep (Weak.refl _) ?_))
    refine O_pure rfl rfl rfl rfl (P_assign rfl rfl) ?_
    refine O_nil ?_
    refine St.env (.cons (t := 4) rfl (.cons (t := 16) rfl .nil)) ?_
    refine Q_then ?_
    refine R_seq ?_
    refine R_region ?_
    refine L_val rfl rfl rfl (OpP.v (P_move rfl rfl)) ?_
    refine L_val rfl rfl rfl (OpP.v (P_eql rfl rfl rfl)) ?_
    refine E_true (t := 89) rfl (decide_eq_true (prove_verifies hk0 hx)) ?_
    refine L_val rfl rfl rfl (OpP.v (P_assign rfl rfl)) ?_
    refine L_nil ?_
    refine St.env (.cons (t := 4) rfl .nil) ?_
    refine Q_then ?_
    refine R_ret ?_
    exact R_endV rfl rfl (.tmp rfl .nil) (rfl)
end Go.Proofs.YtldndhekjhlbmaaDoor
