/- SealLimits: the walk. Printed by gen.py. -/
import Derived.Test.YtnaadddnbfnahaaDoorZ2
import Derived.Test.YtnaadddnbfnahaaDoorSStr
set_option linter.unusedVariables false
set_option linter.unusedSimpArgs false
set_option maxRecDepth 100000
namespace Go.Proofs.YtnaadddnbfnahaaDoor
open Go Go.RowKit Go.Proofs
attribute [local irreducible] OpW
theorem made_zeros2 (n : Nat) : madeL [.int .u8 0] (n * 1) = ints .u8 (List.replicate n 0) := by
  rw [Nat.mul_one, show [Value.int .u8 0] = List.replicate 1 (Value.int .u8 0) from rfl, madeL_rep 1 n _ (by omega)]
  simp [ints]
theorem sn_take2 {C : Cx} {F : Fx} {rs : List HP} {base : Option Addr} {k : IntKind} {xs : List Int} (n : Nat) (h : Sn C F rs base (ints k xs)) : Sn C F rs base (ints k (xs.take n)) := by
  have h := h.take n
  rwa [ints_take] at h
theorem lim_not {n : Nat} {zs : List Int} {rc : List Rcd} (hz : zs.length = 1048577) (h : (n = 1048576 ∧ rc = []) ∨ (n = 1048575 ∧ rc = [(7, zs.take 1048576)])) : (7, zs.take n) ∉ rc := by
  rcases h with ⟨_, rfl⟩ | ⟨rfl, rfl⟩
  · exact List.not_mem_nil
  · intro h
    have h := congrArg (fun x : Rcd => x.2.length) (List.mem_singleton.1 h)
    dsimp only at h
    rw [List.length_take, List.length_take] at h
    omega
theorem lim_more {n : Nat} {zs : List Int} {rc : List Rcd} (hz : zs.length = 1048577) (hs : sealH 7 (zs.take 1048575) ≠ sealH 7 (zs.take 1048576)) (h : (n = 1048576 ∧ rc = []) ∨ (n = 1048575 ∧ rc = [(7, zs.take 1048576)])) : (decide ((7, zs.take (n + 1)) ∈ rc ++ [(7, zs.take n)]) && decide (sealH 7 (zs.take n) = sealH 7 (zs.take (n + 1)))) = false := by
  rcases h with ⟨rfl, rfl⟩ | ⟨rfl, rfl⟩
  · rw [Bool.and_eq_false_iff]
    left
    apply decide_eq_false
    intro h
    have h := congrArg (fun x : Rcd => x.2.length) (List.mem_singleton.1 h)
    dsimp only at h
    rw [List.length_take, List.length_take] at h
    omega
  · rw [Bool.and_eq_false_iff]
    right
    exact decide_eq_false hs
theorem lim_good {n : Nat} {zs : List Int} {rc : List Rcd} : (decide ((7, zs.take n) ∈ rc ++ [(7, zs.take n)]) && decide (sealH 7 (zs.take n) = sealH 7 (zs.take n))) = true := by
  rw [Bool.and_eq_true]
  exact ⟨decide_eq_true (List.mem_append_right _ (List.mem_singleton.2 rfl)), decide_eq_true rfl⟩
theorem lim_next {n : Nat} {zs : List Int} {rc : List Rcd} (h : (n = 1048576 ∧ rc = []) ∨ (n = 1048575 ∧ rc = [(7, zs.take 1048576)])) : (n - 1 = 1048576 ∧ rc ++ [(7, zs.take n)] = []) ∨ (n - 1 = 1048575 ∧ rc ++ [(7, zs.take n)] = [(7, zs.take 1048576)]) ∨ n - 1 = 1048574 := by
  rcases h with ⟨rfl, rfl⟩ | ⟨rfl, rfl⟩
  · exact .inr (.inl ⟨rfl, rfl⟩)
  · exact .inr (.inr rfl)
theorem lim_len {n : Nat} {zs : List Int} {rc : List Rcd} (h : (n = 1048576 ∧ rc = []) ∨ (n = 1048575 ∧ rc = [(7, zs.take 1048576)])) : rc.length + n = 1048576 := by
  rcases h with ⟨rfl, rfl⟩ | ⟨rfl, rfl⟩ <;> rfl
theorem sealLimits_walk {gl : Nat → Obj} (hG : Globs gl) : SpecV (cx gl) 5 [] noPre (.bool true) := by
  refine Spec.enter (C := cx gl) Tryd.func5 rfl 94 rfl rfl fun w0 h0 hsep hsub hpre => ?_
  obtain rfl : h0 = Heap.none := hsep
  show St (cx gl) _ [] _ _
  refine R_seq ?_
  refine R_region ?_
  refine L_val rfl rfl rfl (OpP.v (P_assign rfl rfl)) ?_
  refine L_nil ?_
  refine Q_then ?_
  refine R_seq ?_
  refine R_region ?_
  refine L_op rfl (W_call rfl rfl rfl rfl fn_ca_15 (snew_ok) (Split.nil _) (fun _ _ _ _ _ _ _ => trivial) fun v9 rs1 ⟨p, e1, e2⟩ => ?_)
  subst e1; subst e2
  refine St.res (rs' := [REG p [] []]) (Weak.refl _) ?_
  refine L_val rfl rfl rfl (OpP.v (P_assign rfl rfl)) ?_
  refine L_nil ?_
  refine St.env (.cons (t := 0) rfl (.cons (t := 1) rfl .nil)) ?_
  refine Q_then ?_
  refine R_seq ?_
  refine R_region ?_
  refine L_val rfl rfl rfl (OpP.v (P_move rfl rfl)) ?_
  refine L_op rfl (W_call rfl rfl rfl rfl fn_ca_16 (enter_new p [] [] 7 (by decide) rfl) (Split.one (p := [])) (fun _ _ _ _ _ _ _ => trivial) fun v12 rs2 ⟨s, e3, e4⟩ => ?_)
  subst e3; subst e4
  refine St.res (rs' := [REG p [(7, s)] ([])]) (Weak.refl _) ?_
  refine L_val rfl rfl rfl (OpP.v (P_move rfl rfl)) ?_
  refine L_val rfl rfl rfl (OpP.v (P_extract rfl rfl rfl)) ?_
  refine L_val rfl rfl rfl (OpP.v (P_extract rfl rfl rfl)) ?_
  refine L_val rfl rfl rfl (OpP.v (P_assign rfl rfl)) ?_
  refine L_val rfl rfl rfl (OpP.v (P_assign rfl rfl)) ?_
  refine L_nil ?_
  refine St.env (.cons (t := 0) rfl (.cons (t := 1) rfl (.cons (t := 2) rfl (.cons (t := 3) rfl .nil)))) ?_
  refine Q_then ?_
  refine R_seq ?_
  refine R_seq ?_
  refine R_region ?_
  refine L_val rfl rfl rfl (OpP.v (P_move rfl rfl)) ?_
  refine L_val rfl rfl rfl (OpP.v (P_eqNil rfl ty_ptr_25 rfl rfl)) ?_
  refine L_val rfl rfl rfl (OpP.v (P_move rfl rfl)) ?_
  refine L_val rfl rfl rfl (OpP.v (P_move rfl rfl)) ?_
  refine L_val rfl rfl rfl (OpP.v (P_eqNil rfl ty_ptr_27 rfl rfl)) ?_
  refine L_val rfl rfl rfl (OpP.v (P_pick rfl rfl rfl)) ?_
  refine L_val rfl rfl rfl (OpP.v (P_move rfl rfl)) ?_
  refine L_val rfl rfl rfl (OpP.v (P_move rfl rfl)) ?_
  refine L_op rfl (W_callV rfl rfl rfl rfl fn_ca_17 (num_ok 0) (fun _ _ => trivial) ?_)
  refine L_val rfl rfl rfl (OpP.v (P_neq rfl rfl rfl)) ?_
  refine E_false (t := 24) rfl (rfl) ?_
  refine L_val rfl rfl rfl (OpP.v (P_pick rfl rfl rfl)) ?_
  refine L_nil ?_
  refine St.env (.cons (t := 0) rfl (.cons (t := 1) rfl (.cons (t := 2) rfl (.cons (t := 3) rfl (.cons (t := 25) rfl .nil))))) ?_
  refine Q_then ?_
  refine R_condF rfl ?_
  refine R_skip ?_
  refine Q_then ?_
  refine R_seq ?_
  obtain ⟨N, hN⟩ : ∃ N : Nat, N = 1048577 := ⟨_, rfl⟩
  refine R_region ?_
  refine L_op rfl (W_make (n := N) rfl rfl rfl ty_sl_24 ty_ze_5 (by rw [hN]; rfl) (by rw [hN]; rfl) (by omega) (by omega) fun b26 => ?_)
  rw [made_zeros2]
  obtain ⟨zs, hzs⟩ : ∃ zs, zs = List.replicate N (0 : Int) := ⟨_, rfl⟩
  rw [← hzs]
  have hzl : zs.length = 1048577 := by rw [hzs, List.length_replicate]; exact hN
  have hzb : IsB zs := fun x hx => by rw [hzs] at hx; rw [(List.mem_replicate.1 hx).2]; omega
  have hsd : sealH 7 (zs.take 1048575) ≠ sealH 7 (zs.take 1048576) := by rw [hzs, List.take_replicate, List.take_replicate, Nat.min_eq_left (by omega), Nat.min_eq_left (by omega)]; exact seals_differ
  clear hzs
  refine E_as (t := 26) (v' := .slice (some ⟨b26, 0, none⟩) zs.length zs.length) rfl (by rw [hzl, hN]) ?_
  refine L_val rfl rfl rfl (OpP.v (P_assign rfl rfl)) ?_
  refine L_nil ?_
  refine St.env (.cons (t := 0) rfl (.cons (t := 1) rfl (.cons (t := 2) rfl (.cons (t := 3) rfl (.cons (t := 4) rfl .nil))))) ?_
  refine Q_then ?_
  refine R_seq ?_
  refine R_region ?_
  refine L_val rfl rfl rfl (OpP.v (P_move rfl rfl)) ?_
  refine L_val rfl rfl rfl (OpP.v (P_move rfl rfl)) ?_
  refine L_op rfl (W_callR rfl rfl rfl rfl fn_ca_18 (sign_big p [(7, s)] [] 0 7 s rfl (some ⟨b26, 0, none⟩) zs.length zs (by omega)) (Split.one (p := [_])) (fun _ _ _ _ _ _ _ => trivial) ?_)
  refine St.res (rs' := [blk b26 (ints .u8 zs) 5, REG p [(7, s)] ([])]) (Weak.swap) ?_
  refine L_val rfl rfl rfl (OpP.v (P_move rfl rfl)) ?_
  refine L_val rfl rfl rfl (OpP.v (P_extract rfl rfl rfl)) ?_
  refine L_val rfl rfl rfl (OpP.v (P_extract rfl rfl rfl)) ?_
  refine L_op rfl (W_alloc rfl rfl rfl ty_ze_33 fun b5 => ?_)
  refine L_op rfl (W_storeAll rfl rfl rfl rfl ty_ag_33 (rfl) (ints_one) .h0 (rfl) ?_)
  refine L_val rfl rfl rfl (OpP.v (P_assign rfl rfl)) ?_
  refine L_nil ?_
  refine St.env (.cons (t := 0) rfl (.cons (t := 1) rfl (.cons (t := 2) rfl (.cons (t := 3) rfl (.cons (t := 4) rfl (.cons (t := 5) rfl .nil)))))) ?_
  refine Q_then ?_
  refine R_seq ?_
  refine R_seq ?_
  refine St.res (rs' := [blk b5 (ints .u8 (List.replicate 16 0)) 33, blk b26 (ints .u8 zs) 5, REG p [(7, s)] ([])]) (Weak.refl _) ?_
  refine R_region ?_
  refine L_val rfl rfl rfl (OpP.v (P_move rfl rfl)) ?_
  refine L_op rfl (W_callV rfl rfl rfl rfl fn_ca_17 (num_ok 4) (fun _ _ => trivial) ?_)
  refine L_val rfl rfl rfl (OpP.v (P_neq rfl rfl rfl)) ?_
  refine E_false (t := 35) rfl (rfl) ?_
  refine L_val rfl rfl rfl (OpP.v (P_move rfl rfl)) ?_
  refine L_val rfl rfl rfl (V_loadAgg rfl rfl ty_ag_33 (Rds.blk .h0) (by rw [ints_length, List.length_replicate])) ?_
  refine L_val rfl rfl rfl (OpP.v (P_buildArrR rfl ty_ar_33 ty_ze_33 rfl rfl rfl (by first | decide | (simp only [List.length_cons, List.length_nil]; omega)) (by simp [Value.oneCell']))) ?_
  refine E_as (t := 38) (v' := .agg (ints .u8 (List.replicate 16 0)).toArray) rfl (rfl) ?_
  refine L_val rfl rfl rfl (OpP.v (P_neArr rfl rfl rfl ty_un_33 ty_int_5 ty_sc_5 ty_eg_33 (List.length_replicate) (List.length_replicate))) ?_
  refine E_false (t := 39) rfl (decide_eq_false (fun h => h rfl)) ?_
  refine L_val rfl rfl rfl (OpP.v (P_pick rfl rfl rfl)) ?_
  refine L_val rfl rfl rfl (OpP.v (P_move rfl rfl)) ?_
  refine L_val rfl rfl rfl (OpP.v (P_move rfl rfl)) ?_
  refine L_op rfl (W_callR rfl rfl rfl rfl fn_ca_23 (count_ok p [(7, s)] []) (Split.one (p := [_, _])) (fun _ _ _ _ _ _ _ => trivial) ?_)
  refine St.res (rs' := [blk b5 (ints .u8 (List.replicate 16 0)) 33, blk b26 (ints .u8 zs) 5, REG p [(7, s)] ([])]) (Weak.pick (p := [_]) (Weak.pick (p := [_]) (Weak.keep (Weak.nil _)))) ?_
  refine L_val rfl rfl rfl (OpP.v (P_neq rfl rfl rfl)) ?_
  refine E_false (t := 44) rfl (rfl) ?_
  refine L_val rfl rfl rfl (OpP.v (P_pick rfl rfl rfl)) ?_
  refine L_val rfl rfl rfl (OpP.v (P_move rfl rfl)) ?_
  refine L_val rfl rfl rfl (OpP.v (P_move rfl rfl)) ?_
  refine L_val rfl rfl rfl (OpP.v (P_move rfl rfl)) ?_
  refine L_val rfl rfl rfl (V_loadAgg rfl rfl ty_ag_33 (Rds.blk .h0) (by rw [ints_length, List.length_replicate])) ?_
  refine L_op rfl (W_callR rfl rfl rfl rfl fn_ca_19 (check_ok hG p [(7, s)] ([]) 7 (some ⟨b26, 0, none⟩) zs.length (zs) (List.replicate 16 0) (hzb) (by omega) (rfl)) (Split.one (p := [_, _])) (Sn.pre (Sn.ofBlk .h1)) ?_)
  refine St.res (rs' := [blk b5 (ints .u8 (List.replicate 16 0)) 33, blk b26 (ints .u8 zs) 5, REG p [(7, s)] ([])]) (Weak.pick (p := [_]) (Weak.pick (p := [_]) (Weak.keep (Weak.nil _)))) ?_
  refine E_false (t := 50) rfl (by rw [decide_eq_false List.not_mem_nil]; rfl) ?_
  refine L_val rfl rfl rfl (OpP.v (P_pick rfl rfl rfl)) ?_
  refine L_nil ?_
  refine St.env (.cons (t := 0) rfl (.cons (t := 1) rfl (.cons (t := 2) rfl (.cons (t := 3) rfl (.cons (t := 4) rfl (.cons (t := 5) rfl (.cons (t := 51) rfl .nil))))))) ?_
  refine Q_then ?_
  refine R_condF rfl ?_
  refine R_skip ?_
  refine Q_then ?_
  refine R_seq ?_
  refine R_seq ?_
  refine R_region ?_
  refine L_val rfl rfl rfl (OpP.v (P_assign rfl rfl)) ?_
  refine L_nil ?_
  refine St.env (.cons (t := 0) rfl (.cons (t := 1) rfl (.cons (t := 2) rfl (.cons (t := 3) rfl (.cons (t := 4) rfl (.cons (t := 5) rfl (.cons (t := 6) rfl .nil))))))) ?_
  refine Q_then ?_
  refine R_block ?_
  refine R_loopE (G := Nat × List Rcd × List Int × Int) (.cons (t := 0) rfl (.cons (t := 1) rfl (.cons (t := 2) rfl (.cons (t := 4) rfl (.cons (t := 5) rfl .nil))))) (fun g => [(3, .int .i64 g.2.2.2), (6, .int .i64 (g.1 : Int))]) (fun g => [blk b5 (ints .u8 (g.2.2.1)) 33, blk b26 (ints .u8 zs) 5, REG p [(7, s)] (g.2.1)]) (fun g => ((g.1 = 1048576 ∧ g.2.1 = []) ∨ (g.1 = 1048575 ∧ g.2.1 = [(7, zs.take 1048576)]) ∨ g.1 = 1048574) ∧ g.2.2.1.length = 16) (fun g => g.1) (1048576, [], (List.replicate 16 0), 4) (⟨.inl ⟨rfl, rfl⟩, rfl⟩) (by repeat (first | exact .nil | refine .cons rfl ?_ | refine .consE rfl (by first | rfl | (congr 1; omega) | (congr 1; push_cast; omega)) ?_)) (Weak.refl _) ?_
  rintro ⟨n, rc, sl, er⟩ hinv
  replace hinv : ((n = 1048576 ∧ rc = []) ∨ (n = 1048575 ∧ rc = [(7, zs.take 1048576)]) ∨ n = 1048574) ∧ sl.length = 16 := hinv
  show St (cx gl) _ ((3, .int .i64 er) :: (6, .int .i64 (n : Int)) :: _) [blk b5 (ints .u8 (sl)) 33, blk b26 (ints .u8 zs) 5, REG p [(7, s)] (rc)] _
  obtain ⟨hcase, hsl⟩ := hinv
  refine R_seq ?_
  refine R_seq ?_
  refine R_region ?_
  refine L_val rfl rfl rfl (OpP.v (P_move rfl rfl)) ?_
  refine L_val rfl rfl rfl (OpP.v (P_geq rfl rfl rfl)) ?_
  refine L_nil ?_
  refine Q_then ?_
  refine R_condP rfl (fun hn0 => ?_) (fun hn0 => ?_)
  · skip
    have hn : 1048575 ≤ n := by omega
    have hc : (n = 1048576 ∧ rc = []) ∨ (n = 1048575 ∧ rc = [(7, zs.take 1048576)]) := by rcases hcase with h | h | h; exact .inl h; exact .inr h; omega
    have hrl := lim_len hc
    have htb : ∀ m, IsB (zs.take m) := fun m x hx => hzb x (List.mem_of_mem_take hx)
    have htl : ∀ m, m ≤ 1048577 → (zs.take m).length = m := fun m hm => by rw [List.length_take, Nat.min_eq_left (by omega)]
    have hn1 := htl n (by omega)
    have hn2 := htl (n + 1) (by omega)
    refine R_skip ?_
    refine Q_then ?_
    refine R_seq ?_
    refine R_block ?_
    refine R_seq ?_
    refine R_region ?_
    refine L_val rfl rfl rfl (OpP.v (P_move rfl rfl)) ?_
    refine L_val rfl rfl rfl (OpP.v (P_move rfl rfl)) ?_
    refine L_val rfl rfl rfl (OpP.v (P_move rfl rfl)) ?_
    refine L_val rfl rfl rfl (OpP.v (P_slice 0 n rfl ty_sl_24 rfl rfl ⟨_, rfl⟩ (by omega) (by omega))) ?_
    refine E_as (t := 60) (v' := .slice (some ⟨b26, 0, none⟩) (zs.take (n)).length zs.length) rfl (by rw [List.length_take, Nat.min_eq_left (by omega)]; unfold sliced; split <;> simp [Addr.add]) ?_
    refine L_op rfl (W_callR rfl rfl rfl rfl fn_ca_18 (sign_new hG p [(7, s)] rc 0 7 s rfl (some ⟨b26, 0, none⟩) zs.length (zs.take n) (htb n) (by omega) (by omega) (lim_not hzl hc)) (Split.one (p := [_, _])) (Sn.pre (sn_take2 n (Sn.ofBlk .h1))) ?_)
    refine St.res (rs' := [blk b5 (ints .u8 (sl)) 33, blk b26 (ints .u8 zs) 5, REG p [(7, s)] (rc ++ [(7, zs.take n)])]) (Weak.pick (p := [_]) (Weak.pick (p := [_]) (Weak.keep (Weak.nil _)))) ?_
    refine L_val rfl rfl rfl (OpP.v (P_move rfl rfl)) ?_
    refine L_val rfl rfl rfl (OpP.v (P_extract rfl rfl rfl)) ?_
    refine L_val rfl rfl rfl (OpP.v (P_extract rfl rfl rfl)) ?_
    refine L_op rfl (W_storeAll rfl rfl rfl rfl ty_ag_33 (by rw [ints_length, sealH_length]) (ints_one) .h0 (by rw [ints_length, ints_length, sealH_length, hsl]) ?_)
    refine L_val rfl rfl rfl (OpP.v (P_assign rfl rfl)) ?_
    refine L_nil ?_
    refine Q_then ?_
    refine R_seq ?_
    refine St.res (rs' := [blk b5 (ints .u8 (sealH 7 (zs.take n))) 33, blk b26 (ints .u8 zs) 5, REG p [(7, s)] (rc ++ [(7, zs.take n)])]) (Weak.refl _) ?_
    refine R_open [(0, 0), (1, 0), (2, 0), (3, 0), (4, 1), (5, 2), (6, 0)] mixed (by kernel_rfl) (QOk.then (QOk.block (QOk.then (QOk.then (QOk.block (QOk.then QOk.body)))))) ?_
    refine O_pure rfl rfl rfl rfl (P_move rfl rfl) ?_
    refine O_pure rfl rfl rfl rfl (P_move rfl rfl) ?_
    refine O_pure rfl rfl rfl rfl (P_move rfl rfl) ?_
    refine O_pure rfl rfl rfl rfl (P_slice 0 n rfl ty_sl_24 rfl rfl ⟨_, rfl⟩ (by omega) (by omega)) ?_
    refine E_as (t := 67) (v' := .slice (some ⟨b26, 0, none⟩) (zs.take (n)).length zs.length) rfl (by rw [List.length_take, Nat.min_eq_left (by omega)]; unfold sliced; split <;> simp [Addr.add]) ?_
    refine O_val rfl rfl rfl rfl (V_loadAgg rfl rfl ty_ag_33 (Rds.blk .h0) (by rw [ints_length, sealH_length])) ?_
    refine O_keep rfl rfl (W_callR rfl rfl rfl rfl fn_ca_19 (check_ok hG p [(7, s)] (rc ++ [(7, zs.take n)]) 7 (some ⟨b26, 0, none⟩) zs.length (zs.take n) (sealH 7 (zs.take n)) (htb n) (by omega) (sealH_length _ _)) (Split.one (p := [_, _])) (Sn.pre (sn_take2 n (Sn.ofBlk .h1))) (K_keep (Weak.pick (p := [_]) (Weak.pick (p := [_]) (Weak.keep (Weak.nil _)))) ?_))
    refine E_true (t := 69) rfl (lim_good) ?_
    refine O_pure rfl rfl rfl rfl (P_assign rfl rfl) ?_
    refine O_nil ?_
    refine Q_then ?_
    refine R_seq ?_
    refine St.res (rs' := [blk b5 (ints .u8 (sealH 7 (zs.take n))) 33, blk b26 (ints .u8 zs) 5, REG p [(7, s)] (rc ++ [(7, zs.take n)])]) (Weak.pick (p := [_]) (Weak.pick (p := [_]) (Weak.keep (Weak.nil _)))) ?_
    refine R_open [(0, 0), (1, 0), (2, 0), (3, 0), (4, 0), (5, 1), (6, 2), (7, 0)] mixed (by kernel_rfl) (QOk.then (QOk.block (QOk.then (QOk.then (QOk.block (QOk.then QOk.body)))))) ?_
    refine O_pure rfl rfl rfl rfl (P_move rfl rfl) ?_
    refine O_pure rfl rfl rfl rfl (P_move rfl rfl) ?_
    refine O_pure rfl rfl rfl rfl (P_move rfl rfl) ?_
    first | (refine O_pure rfl rfl rfl rfl (P_addN rfl rfl rfl (by simp only [fits]; omega)) ?_) | (refine O_pure rfl rfl rfl rfl (P_add rfl rfl rfl) ?_)
    refine O_pure rfl rfl rfl rfl (P_slice 0 (n + 1) rfl ty_sl_24 rfl rfl ⟨_, rfl⟩ (by omega) (by omega)) ?_
    refine E_as (t := 74) (v' := .slice (some ⟨b26, 0, none⟩) (zs.take (n + 1)).length zs.length) rfl (by rw [List.length_take, Nat.min_eq_left (by omega)]; unfold sliced; split <;> simp [Addr.add]) ?_
    refine O_val rfl rfl rfl rfl (V_loadAgg rfl rfl ty_ag_33 (Rds.blk .h0) (by rw [ints_length, sealH_length])) ?_
    refine O_keep rfl rfl (W_callR rfl rfl rfl rfl fn_ca_19 (check_ok hG p [(7, s)] (rc ++ [(7, zs.take n)]) 7 (some ⟨b26, 0, none⟩) zs.length (zs.take (n + 1)) (sealH 7 (zs.take n)) (htb (n + 1)) (by omega) (sealH_length _ _)) (Split.one (p := [_, _])) (Sn.pre (sn_take2 (n + 1) (Sn.ofBlk .h1))) (K_keep (Weak.pick (p := [_]) (Weak.pick (p := [_]) (Weak.keep (Weak.nil _)))) ?_))
    refine E_false (t := 76) rfl (lim_more hzl hsd hc) ?_
    refine O_pure rfl rfl rfl rfl (P_assign rfl rfl) ?_
    refine O_nil ?_
    refine Q_then ?_
    refine R_seq ?_
    refine St.res (rs' := [blk b5 (ints .u8 (sealH 7 (zs.take n))) 33, blk b26 (ints .u8 zs) 5, REG p [(7, s)] (rc ++ [(7, zs.take n)])]) (Weak.pick (p := [_]) (Weak.pick (p := [_]) (Weak.keep (Weak.nil _)))) ?_
    refine R_region ?_
    refine L_val rfl rfl rfl (OpP.v (P_move rfl rfl)) ?_
    refine L_op rfl (W_callV rfl rfl rfl rfl fn_ca_17 (num_ok 0) (fun _ _ => trivial) ?_)
    refine L_val rfl rfl rfl (OpP.v (P_neq rfl rfl rfl)) ?_
    refine E_false (t := 79) rfl (rfl) ?_
    refine L_val rfl rfl rfl (OpP.v (P_move rfl rfl)) ?_
    refine L_val rfl rfl rfl (OpP.v (P_move rfl rfl)) ?_
    refine L_val rfl rfl rfl (OpP.v (P_not rfl rfl)) ?_
    refine L_val rfl rfl rfl (OpP.v (P_pick rfl rfl rfl)) ?_
    refine L_val rfl rfl rfl (OpP.v (P_move rfl rfl)) ?_
    refine L_val rfl rfl rfl (OpP.v (P_move rfl rfl)) ?_
    refine L_val rfl rfl rfl (OpP.v (P_pick rfl rfl rfl)) ?_
    refine L_val rfl rfl rfl (OpP.v (P_move rfl rfl)) ?_
    refine L_val rfl rfl rfl (OpP.v (P_move rfl rfl)) ?_
    refine L_op rfl (W_callR rfl rfl rfl rfl fn_ca_23 (count_ok p [(7, s)] (rc ++ [(7, zs.take n)])) (Split.one (p := [_, _])) (fun _ _ _ _ _ _ _ => trivial) ?_)
    refine St.res (rs' := [blk b5 (ints .u8 (sealH 7 (zs.take n))) 33, blk b26 (ints .u8 zs) 5, REG p [(7, s)] (rc ++ [(7, zs.take n)])]) (Weak.pick (p := [_]) (Weak.pick (p := [_]) (Weak.keep (Weak.nil _)))) ?_
    refine L_val rfl rfl rfl (OpP.v (P_move rfl rfl)) ?_
    first | (refine L_val rfl rfl rfl (OpP.v (P_subN rfl rfl rfl (by simp only [fits]; omega))) ?_) | (refine L_val rfl rfl rfl (OpP.v (P_sub rfl rfl rfl)) ?_)
    refine L_val rfl rfl rfl (OpP.v (P_neq rfl rfl rfl)) ?_
    refine E_false (t := 92) rfl (decide_eq_false (fun h => h (by rw [List.length_append, List.length_singleton]; omega))) ?_
    refine L_val rfl rfl rfl (OpP.v (P_pick rfl rfl rfl)) ?_
    refine L_nil ?_
    refine Q_then ?_
    refine R_condF rfl ?_
    refine R_skip ?_
    refine Q_block ?_
    refine Q_then ?_
    refine R_region ?_
    refine L_val rfl rfl rfl (OpP.v (P_move rfl rfl)) ?_
    first | (refine L_val rfl rfl rfl (OpP.v (P_subN rfl rfl rfl (by simp only [fits]; omega))) ?_) | (refine L_val rfl rfl rfl (OpP.v (P_sub rfl rfl rfl)) ?_)
    refine E_nat (t := 55) (n := n - 1) rfl (by omega) ?_
    refine L_val rfl rfl rfl (OpP.v (P_assign rfl rfl)) ?_
    refine L_nil ?_
    exact Q_round (n - 1, rc ++ [(7, zs.take n)], sealH 7 (zs.take n), 0) (⟨lim_next hc, sealH_length _ _⟩) (by show (n - 1) < n; omega) (by repeat (first | exact .nil | refine .cons rfl ?_ | refine .consE rfl (by first | rfl | (congr 1; omega) | (congr 1; push_cast; omega)) ?_)) (Weak.refl _)
  · skip
    refine R_exit ?_
    refine Q_then_exit ?_
    refine Q_then_exit ?_
    refine Q_block_eq ?_
    refine St.env (.cons (t := 0) rfl .nil) ?_
    refine Q_then ?_
    refine R_seq ?_
    refine R_region ?_
    refine L_val rfl rfl rfl (OpP.v (P_assign rfl rfl)) ?_
    refine L_nil ?_
    refine Q_then ?_
    refine R_ret ?_
    exact R_endV rfl rfl (.tmp rfl .nil) (rfl)
end Go.Proofs.YtnaadddnbfnahaaDoor
