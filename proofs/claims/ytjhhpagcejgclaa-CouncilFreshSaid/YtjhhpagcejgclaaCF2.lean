/- The walk of CouncilFresh. Printed by gen.py. -/
import Derived.Test.YtjhhpagcejgclaaCF1
set_option linter.unusedVariables false
set_option linter.unusedSimpArgs false
set_option maxRecDepth 100000
namespace Go.Proofs.Ytjhhpagcejgclaa
open Go Go.RowKit Go.Proofs
/-- What the i-th list holds. -/
def wantE (N X Y : List Mem) (i : Nat) : List Mem := if i % 4 = 1 then X else if i % 4 = 3 then Y else N
structure FInv (N X Y : List Mem) (C : Ow) (us ws : List Ow) (wv : List Value) (i : Nat) : Prop where
  c0 : ws[0]? = some C
  lu : us.length = 4 * i
  lv : wv.length = 4 * i
  at_ : ∀ idx, idx < 4 * i → ∃ (u : Ow) (j : Nat) (w : Ow), us[idx]? = some u ∧ ws[j]? = some w ∧ wv[idx]? = some w.val ∧ w.hs = wantE N X Y idx ∧ u.hs = wantE N X Y idx
theorem FInv.start (N X Y : List Mem) (C : Ow) : FInv N X Y C [] [C] [] 0 := ⟨rfl, rfl, rfl, fun idx h => absurd h (by omega)⟩
theorem get_app {α : Type} {l r : List α} {i : Nat} {x : α} (h : l[i]? = some x) : (l ++ r)[i]? = some x := by rw [List.getElem?_append_left (List.getElem?_eq_some_iff.1 h).1]; exact h
theorem get_new {α : Type} {l r : List α} {n i : Nat} {x : α} (hn : l.length = n) (h : r[i]? = some x) : (l ++ r)[n + i]? = some x := by rw [List.getElem?_append_right (by omega), hn, Nat.add_sub_cancel_left]; exact h
theorem FInv.step {N X Y : List Mem} {C a b d r x y : Ow} {us ws : List Ow} {wv : List Value} {i : Nat} (h : FInv N X Y C us ws wv i) (hC : C.hs = N) (ha : a.hs = N) (hb : b.hs = X) (hd : d.hs = N) (hr : r.hs = Y) (hx : x.hs = X) (hy : y.hs = Y) :
    FInv N X Y C (us ++ [a, b, d, r]) (ws ++ [x, y]) (wv ++ [C.val, x.val, C.val, y.val]) (i + 1) := by
  obtain ⟨h1, h2, h3, h4⟩ := h
  refine ⟨get_app h1, by rw [List.length_append, h2]; simp; omega, by rw [List.length_append, h3]; simp; omega, fun idx hi => ?_⟩
  by_cases hlt : idx < 4 * i
  · obtain ⟨u, j, w, e1, e2, e3, e4, e5⟩ := h4 idx hlt
    exact ⟨u, j, w, get_app e1, get_app e2, get_app e3, e4, e5⟩
  · have hc : idx = 4 * i + 0 ∨ idx = 4 * i + 1 ∨ idx = 4 * i + 2 ∨ idx = 4 * i + 3 := by omega
    rcases hc with rfl | rfl | rfl | rfl
    · exact ⟨a, 0, C, get_new h2 rfl, get_app h1, get_new h3 rfl, by unfold wantE; rw [if_neg (by omega), if_neg (by omega)]; exact hC, by unfold wantE; rw [if_neg (by omega), if_neg (by omega)]; exact ha⟩
    · exact ⟨b, ws.length + 0, x, get_new h2 rfl, get_new rfl rfl, get_new h3 rfl, by unfold wantE; rw [if_pos (by omega)]; exact hx, by unfold wantE; rw [if_pos (by omega)]; exact hb⟩
    · exact ⟨d, 0, C, get_new h2 rfl, get_app h1, get_new h3 rfl, by unfold wantE; rw [if_neg (by omega), if_neg (by omega)]; exact hC, by unfold wantE; rw [if_neg (by omega), if_neg (by omega)]; exact hd⟩
    · exact ⟨r, ws.length + 1, y, get_new h2 rfl, get_new rfl rfl, get_new h3 rfl, by unfold wantE; rw [if_neg (by omega), if_pos (by omega)]; exact hy, by unfold wantE; rw [if_neg (by omega), if_pos (by omega)]; exact hr⟩
theorem wantE_small {N X Y : List Mem} {m : Nat} (hN : N.length ≤ m) (hX : X.length ≤ m) (hY : Y.length ≤ m) (i : Nat) : (wantE N X Y i).length ≤ m := by unfold wantE; split <;> (try split) <;> assumption
theorem ren_few (c l : List Mem) : (renM c l).length ≤ 64 := by
  unfold renM
  split
  · rename_i h
    rw [renL_length]
    unfold renE at h
    split at h
    · rename_i h2; exact absurd h h2
    · exact (fine_of h).few
  · exact Nat.zero_le _
theorem renM_len {c l : List Mem} {n : Nat} (h : l.length ≤ n) : (renM c l).length ≤ n := by unfold renM; split; rw [renL_length]; exact h; exact Nat.zero_le _
set_option maxHeartbeats 4000000 in
theorem councilFresh_walk {gl : Nat → Obj} (base : Option Addr) (c : Nat) (l : List Mem) (hc : l.length ≤ c) (hmax : l.length ≤ 5864062014700) (hok : ∀ m ∈ l, m.ok) (k : Int) (hk0 : -9223372036854775808 ≤ k) (hk1 : k ≤ 9223372036854775807) (base2 : Option Addr) (c2 : Nat) (l2 : List Mem) (hc2 : l2.length ≤ c2) (hmax2 : l2.length ≤ 5864062014700) (hok2 : ∀ m ∈ l2, m.ok) : SpecV (cx gl) 13 [.slice base l.length c, .int .i64 k, .slice base2 l2.length c2] (fun w => Row w base (memC l) ∧ Row w base2 (memC l2)) (.bool true) := by
  refine Spec.enter (C := cx gl) Try.func13 rfl 149 rfl rfl fun w0 h0 hsep hsub hpre => ?_
  obtain rfl : h0 = Heap.none := hsep
  show St (cx gl) _ [(0, .slice base l.length c), (1, .int .i64 k), (2, .slice base2 l2.length c2)] _ _
  refine R_seq ?_
  refine R_region ?_
  refine L_val rfl rfl rfl (OpP.v (P_assign rfl rfl)) ?_
  refine L_nil ?_
  refine Q_then ?_
  refine R_seq ?_
  refine R_region ?_
  refine L_op rfl (W_callV rfl rfl rfl rfl fn_ca_17 (alive_ok) (fun _ _ => trivial) ?_)
  refine L_val rfl rfl rfl (OpP.v (P_assign rfl rfl)) ?_
  refine L_nil ?_
  refine St.env (.cons (t := 0) rfl (.cons (t := 1) rfl (.cons (t := 2) rfl (.cons (t := 6) rfl (.cons (t := 7) rfl .nil))))) ?_
  refine Q_then ?_
  refine R_seq ?_
  refine R_seq ?_
  refine R_region ?_
  refine L_val rfl rfl rfl (OpP.v (P_move rfl rfl)) ?_
  refine L_val rfl rfl rfl (OpP.v (P_not rfl rfl)) ?_
  refine E_false (t := 33) rfl (rfl) ?_
  refine L_nil ?_
  refine St.env (.cons (t := 0) rfl (.cons (t := 1) rfl (.cons (t := 2) rfl (.cons (t := 6) rfl (.cons (t := 7) rfl (.cons (t := 33) rfl .nil)))))) ?_
  refine Q_then ?_
  refine R_condF rfl ?_
  refine R_skip ?_
  refine Q_then ?_
  refine R_seq ?_
  refine R_region ?_
  refine L_val rfl rfl rfl (OpP.v (P_move rfl rfl)) ?_
  refine L_op rfl (W_call rfl rfl rfl rfl fn_ca_16 (rNew_ok base c l hc hmax hok) (Split.nil _) (fun w a b _ hb dj m => (Sn.row hpre.1 rfl).rw_ w ⟨_, hb, m.le (Heap.le_join_right dj)⟩) fun v1 rs1 ⟨u1, e1, e2⟩ => ?_)
  subst e1; subst e2
  refine St.ownForm (p := []) fun cb cc huv hcc => ?_
  subst huv
  refine L_val rfl rfl rfl (OpP.v (P_move rfl rfl)) ?_
  refine L_val rfl rfl rfl (OpP.v (P_extract rfl rfl rfl)) ?_
  refine L_val rfl rfl rfl (OpP.v (P_extract rfl rfl rfl)) ?_
  refine L_op rfl (W_alloc rfl rfl rfl ty_ze_25 fun b8 => ?_)
  refine L_op rfl (W_storeAll rfl rfl rfl rfl ty_ag_25 (rfl) (by intro v hv; simp only [List.mem_singleton] at hv; subst hv; rfl) .h0 (rfl) ?_)
  refine L_val rfl rfl rfl (OpP.v (P_assign rfl rfl)) ?_
  refine L_nil ?_
  refine St.env (.cons (t := 0) rfl (.cons (t := 1) rfl (.cons (t := 2) rfl (.cons (t := 6) rfl (.cons (t := 7) rfl (.cons (t := 8) rfl (.cons (t := 9) rfl .nil))))))) ?_
  refine Q_then ?_
  refine R_seq ?_
  refine R_seq ?_
  refine R_region ?_
  refine L_val rfl rfl rfl (OpP.v (P_move rfl rfl)) ?_
  refine L_val rfl rfl rfl (OpP.v (P_neq rfl rfl rfl)) ?_
  refine L_nil ?_
  refine St.env (.cons (t := 0) rfl (.cons (t := 1) rfl (.cons (t := 2) rfl (.cons (t := 6) rfl (.cons (t := 7) rfl (.cons (t := 8) rfl (.cons (t := 40) rfl .nil))))))) ?_
  refine Q_then ?_
  refine R_condP rfl (fun he => ?_) (fun he => ?_)
  · skip
    refine R_seq ?_
    refine R_region ?_
    refine L_val rfl rfl rfl (OpP.v (P_assign rfl rfl)) ?_
    refine L_nil ?_
    refine St.env (.cons (t := 0) rfl (.cons (t := 1) rfl (.cons (t := 2) rfl (.cons (t := 6) rfl (.cons (t := 7) rfl (.cons (t := 8) rfl .nil)))))) ?_
    refine Q_then ?_
    refine R_ret ?_
    refine Q_then_ret ?_
    exact R_endV rfl rfl (.tmp rfl .nil) (rfl)
  · skip
    have he : memE l = 0 := Classical.not_not.1 he
    obtain ⟨NL, hNL⟩ : ∃ x, x = newL l := ⟨_, rfl⟩
    have hnm : newM l = NL := by rw [newM_fine he, hNL]
    rw [hnm]
    rw [hnm] at hcc
    have hGN : Good NL := by rw [hNL]; exact good_new hok he
    have hNok := hGN.ok
    have hN64 := hGN.play.few
    have hX64 : (turnM NL (tnV k)).length ≤ 64 := turnM_len hN64
    have hY64 := ren_few NL l2
    have hT0 : turnM NL 0 = NL := by rw [turnM_fine (turn_a hGN.sound (by omega) (by omega))]; rfl
    refine St.res (rs' := [blk b8 [.slice cb NL.length cc] 25, Ow.own (Ow.mk cb cc NL)]) (Weak.refl _) ?_
    refine St.res (Weak.trans Weak.swap (Weak.trans Weak.famOne (Weak.trans (Weak.famNil (f := Ow.own)) (Weak.trans (Weak.newNil (T := 22) (sz := 1)) (Weak.newNil (T := 22) (sz := 1)))))) ?_
    refine St.res (rs' := [fam Ow.own ([] : List Ow), fam Ow.own [(Ow.mk cb cc NL)], ownS 22 1 (.slice none 0 0) (4 * 0) (([] : List Ow).map Ow.val), ownS 22 1 (.slice none 0 0) (4 * 0) ([]), blk b8 [.slice cb NL.length cc] 25]) (Weak.pick (p := [_, _]) (Weak.pick (p := [_, _]) (Weak.keep (Weak.keep (Weak.keep (Weak.nil _)))))) ?_
    refine R_skip ?_
    refine Q_then ?_
    refine R_seq ?_
    refine R_region ?_
    refine L_val rfl rfl rfl (OpP.v (P_move rfl rfl)) ?_
    refine L_op rfl (W_callV rfl rfl rfl rfl fn_ca_36 (tn_ok k hk0 hk1) (fun _ _ => trivial) ?_)
    refine L_val rfl rfl rfl (OpP.v (P_assign rfl rfl)) ?_
    refine L_nil ?_
    refine St.env (.cons (t := 0) rfl (.cons (t := 2) rfl (.cons (t := 6) rfl (.cons (t := 7) rfl (.cons (t := 8) rfl (.cons (t := 10) rfl .nil)))))) ?_
    refine Q_then ?_
    refine R_seq ?_
    refine R_region ?_
    refine L_val rfl rfl rfl (OpP.v (P_assign rfl rfl)) ?_
    refine L_nil ?_
    refine Q_then ?_
    refine R_seq ?_
    refine R_region ?_
    refine L_val rfl rfl rfl (OpP.v (P_assign rfl rfl)) ?_
    refine L_nil ?_
    refine Q_then ?_
    refine R_seq ?_
    refine R_seq ?_
    refine R_region ?_
    refine L_val rfl rfl rfl (OpP.v (P_assign rfl rfl)) ?_
    refine L_nil ?_
    refine Q_then ?_
    refine R_block ?_
    refine R_loopE (G := Nat × List Ow × List Ow × List Value × Value × Value) (.cons (t := 0) rfl (.cons (t := 2) rfl (.cons (t := 6) rfl (.cons (t := 7) rfl (.cons (t := 8) rfl (.cons (t := 10) rfl .nil)))))) (fun g => [(11, g.2.2.2.2.1), (12, g.2.2.2.2.2), (13, .int .i64 (g.1 : Int))]) (fun g => [fam Ow.own g.2.1, fam Ow.own g.2.2.1, ownS 22 1 (g.2.2.2.2.1) (4 * g.1) (g.2.1.map Ow.val), ownS 22 1 (g.2.2.2.2.2) (4 * g.1) (g.2.2.2.1), blk b8 [.slice cb NL.length cc] 25]) (fun g => FInv NL (turnM NL (tnV k)) (renM NL l2) (Ow.mk cb cc NL) g.2.1 g.2.2.1 g.2.2.2.1 g.1 ∧ g.1 ≤ 2) (fun g => 2 - g.1) (0, [], [(Ow.mk cb cc NL)], [], .slice none 0 0, .slice none 0 0) (⟨FInv.start _ _ _ _, by omega⟩) (by repeat (first | exact .nil | refine .cons rfl ?_ | refine .consE rfl (by first | rfl | (congr 1; omega) | (congr 1; push_cast; omega)) ?_)) (Weak.refl _) ?_
    rintro ⟨i, us, ws, wv, av, qv⟩ hinv
    replace hinv : FInv NL (turnM NL (tnV k)) (renM NL l2) (Ow.mk cb cc NL) us ws wv i ∧ i ≤ 2 := hinv
    show St (cx gl) _ ((11, av) :: (12, qv) :: (13, .int .i64 (i : Int)) :: _) [fam Ow.own us, fam Ow.own ws, ownS 22 1 (av) (4 * i) (us.map Ow.val), ownS 22 1 (qv) (4 * i) (wv), blk b8 [.slice cb NL.length cc] 25] _
    obtain ⟨hI, hi2⟩ := hinv
    refine R_seq ?_
    refine R_seq ?_
    refine R_region ?_
    refine L_val rfl rfl rfl (OpP.v (P_move rfl rfl)) ?_
    refine L_val rfl rfl rfl (OpP.v (P_lss rfl rfl rfl)) ?_
    refine L_nil ?_
    refine Q_then ?_
    refine R_condP rfl (fun hi => ?_) (fun hi => ?_)
    · skip
      refine R_skip ?_
      refine Q_then ?_
      refine R_seq ?_
      refine R_block ?_
      refine R_seq ?_
      refine R_region ?_
      refine L_val rfl rfl rfl (OpP.v (P_move rfl rfl)) ?_
      refine L_op rfl (W_call rfl rfl rfl rfl fn_ca_15 (New_ok base c l hc hmax hok) (Split.nil _) (fun w a b _ hb dj m => (Sn.row hpre.1 rfl).rw_ w ⟨_, hb, m.le (Heap.le_join_right dj)⟩) fun v2 rs2 ⟨u2, e1, e2⟩ => ?_)
      rw [hnm] at e2
      subst e1; subst e2
      refine St.ownForm (p := []) fun ab ac huv hac => ?_
      subst huv
      refine L_val rfl rfl rfl (OpP.v (P_move rfl rfl)) ?_
      refine L_val rfl rfl rfl (OpP.v (P_extract rfl rfl rfl)) ?_
      refine L_val rfl rfl rfl (OpP.v (P_extract rfl rfl rfl)) ?_
      refine L_op rfl (W_alloc rfl rfl rfl ty_ze_25 fun b14 => ?_)
      refine L_op rfl (W_storeAll rfl rfl rfl rfl ty_ag_25 (rfl) (by intro v hv; simp only [List.mem_singleton] at hv; subst hv; rfl) .h0 (rfl) ?_)
      refine L_val rfl rfl rfl (OpP.v (P_assign rfl rfl)) ?_
      refine L_nil ?_
      refine St.env (.cons (t := 0) rfl (.cons (t := 2) rfl (.cons (t := 6) rfl (.cons (t := 7) rfl (.cons (t := 8) rfl (.cons (t := 10) rfl (.cons (t := 11) rfl (.cons (t := 12) rfl (.cons (t := 13) rfl (.cons (t := 14) rfl (.cons (t := 43) rfl (.cons (t := 44) rfl (.cons (t := 47) rfl (.cons (t := 48) rfl (.cons (t := 49) rfl (.cons (t := 50) rfl (.cons (t := 51) rfl .nil))))))))))))))))) ?_
      refine Q_then ?_
      refine R_seq ?_
      refine R_region ?_
      refine L_val rfl rfl rfl (V_loadAgg rfl rfl ty_ag_25 (Rds.blk .h6) (rfl)) ?_
      refine L_val rfl rfl rfl (OpP.v (P_move rfl rfl)) ?_
      refine L_op rfl (W_call rfl rfl rfl rfl fn_ca_26 (Turn_ok cb cc NL hcc (by omega) hNok (tnV k)) (Split.nil _) (fun w a b _ hb dj m => (Sn.fam .h3 hI.c0 fun rs m => Sn.own m rfl).rw_ w ⟨_, hb, m.le (Heap.le_join_right dj)⟩) fun v3 rs3 ⟨u3, e1, e2⟩ => ?_)
      subst e1; subst e2
      refine St.ownForm (p := []) fun bb bc huv hbc => ?_
      subst huv
      refine L_val rfl rfl rfl (OpP.v (P_move rfl rfl)) ?_
      refine L_val rfl rfl rfl (OpP.v (P_extract rfl rfl rfl)) ?_
      refine L_val rfl rfl rfl (OpP.v (P_extract rfl rfl rfl)) ?_
      refine L_op rfl (W_alloc rfl rfl rfl ty_ze_25 fun b16 => ?_)
      refine L_op rfl (W_storeAll rfl rfl rfl rfl ty_ag_25 (rfl) (by intro v hv; simp only [List.mem_singleton] at hv; subst hv; rfl) .h0 (rfl) ?_)
      refine L_val rfl rfl rfl (OpP.v (P_assign rfl rfl)) ?_
      refine L_nil ?_
      refine St.env (.cons (t := 0) rfl (.cons (t := 2) rfl (.cons (t := 6) rfl (.cons (t := 7) rfl (.cons (t := 8) rfl (.cons (t := 10) rfl (.cons (t := 11) rfl (.cons (t := 12) rfl (.cons (t := 13) rfl (.cons (t := 14) rfl (.cons (t := 16) rfl (.cons (t := 43) rfl (.cons (t := 44) rfl (.cons (t := 47) rfl (.cons (t := 48) rfl (.cons (t := 49) rfl (.cons (t := 50) rfl (.cons (t := 51) rfl (.cons (t := 52) rfl (.cons (t := 53) rfl (.cons (t := 54) rfl (.cons (t := 55) rfl (.cons (t := 56) rfl (.cons (t := 57) rfl .nil)))))))))))))))))))))))) ?_
      refine Q_then ?_
      refine R_seq ?_
      refine R_region ?_
      refine L_val rfl rfl rfl (V_loadAgg rfl rfl ty_ag_25 (Rds.blk .h8) (rfl)) ?_
      refine L_op rfl (W_call rfl rfl rfl rfl fn_ca_26 (Turn_ok cb cc NL hcc (by omega) hNok 0) (Split.nil _) (fun w a b _ hb dj m => (Sn.fam .h5 hI.c0 fun rs m => Sn.own m rfl).rw_ w ⟨_, hb, m.le (Heap.le_join_right dj)⟩) fun v4 rs4 ⟨u4, e1, e2⟩ => ?_)
      rw [hT0] at e2
      subst e1; subst e2
      refine St.ownForm (p := []) fun db dc huv hdc => ?_
      subst huv
      refine L_val rfl rfl rfl (OpP.v (P_move rfl rfl)) ?_
      refine L_val rfl rfl rfl (OpP.v (P_extract rfl rfl rfl)) ?_
      refine L_val rfl rfl rfl (OpP.v (P_extract rfl rfl rfl)) ?_
      refine L_op rfl (W_alloc rfl rfl rfl ty_ze_25 fun b18 => ?_)
      refine L_op rfl (W_storeAll rfl rfl rfl rfl ty_ag_25 (rfl) (by intro v hv; simp only [List.mem_singleton] at hv; subst hv; rfl) .h0 (rfl) ?_)
      refine L_val rfl rfl rfl (OpP.v (P_assign rfl rfl)) ?_
      refine L_nil ?_
      refine St.env (.cons (t := 0) rfl (.cons (t := 2) rfl (.cons (t := 6) rfl (.cons (t := 7) rfl (.cons (t := 8) rfl (.cons (t := 10) rfl (.cons (t := 11) rfl (.cons (t := 12) rfl (.cons (t := 13) rfl (.cons (t := 14) rfl (.cons (t := 16) rfl (.cons (t := 18) rfl (.cons (t := 43) rfl (.cons (t := 44) rfl (.cons (t := 47) rfl (.cons (t := 48) rfl (.cons (t := 49) rfl (.cons (t := 50) rfl (.cons (t := 51) rfl (.cons (t := 52) rfl (.cons (t := 53) rfl (.cons (t := 54) rfl (.cons (t := 55) rfl (.cons (t := 56) rfl (.cons (t := 57) rfl (.cons (t := 58) rfl (.cons (t := 59) rfl (.cons (t := 60) rfl (.cons (t := 61) rfl (.cons (t := 62) rfl .nil)))))))))))))))))))))))))))))) ?_
      refine Q_then ?_
      refine R_seq ?_
      refine R_region ?_
      refine L_val rfl rfl rfl (V_loadAgg rfl rfl ty_ag_25 (Rds.blk (.cons .h9)) (rfl)) ?_
      refine L_val rfl rfl rfl (OpP.v (P_move rfl rfl)) ?_
      refine L_op rfl (W_call rfl rfl rfl rfl fn_ca_37 (Renew_ok cb cc NL hcc (by omega) hNok base2 c2 l2 hc2 hmax2 hok2) (Split.nil _) (fun w a b _ hb dj m => ⟨(Sn.fam .h7 hI.c0 fun rs m => Sn.own m rfl).rw_ w ⟨_, hb, m.le (Heap.le_join_right dj)⟩, (Sn.row hpre.2 rfl).rw_ w ⟨_, hb, m.le (Heap.le_join_right dj)⟩⟩) fun v5 rs5 ⟨u5, e1, e2⟩ => ?_)
      subst e1; subst e2
      refine St.ownForm (p := []) fun rb rc huv hrc => ?_
      subst huv
      refine L_val rfl rfl rfl (OpP.v (P_move rfl rfl)) ?_
      refine L_val rfl rfl rfl (OpP.v (P_extract rfl rfl rfl)) ?_
      refine L_val rfl rfl rfl (OpP.v (P_extract rfl rfl rfl)) ?_
      refine L_op rfl (W_alloc rfl rfl rfl ty_ze_25 fun b20 => ?_)
      refine L_op rfl (W_storeAll rfl rfl rfl rfl ty_ag_25 (rfl) (by intro v hv; simp only [List.mem_singleton] at hv; subst hv; rfl) .h0 (rfl) ?_)
      refine L_val rfl rfl rfl (OpP.v (P_assign rfl rfl)) ?_
      refine L_nil ?_
      refine St.env (.cons (t := 0) rfl (.cons (t := 2) rfl (.cons (t := 6) rfl (.cons (t := 7) rfl (.cons (t := 8) rfl (.cons (t := 10) rfl (.cons (t := 11) rfl (.cons (t := 12) rfl (.cons (t := 13) rfl (.cons (t := 14) rfl (.cons (t := 16) rfl (.cons (t := 18) rfl (.cons (t := 20) rfl (.cons (t := 43) rfl (.cons (t := 44) rfl (.cons (t := 47) rfl (.cons (t := 48) rfl (.cons (t := 49) rfl (.cons (t := 50) rfl (.cons (t := 51) rfl (.cons (t := 52) rfl (.cons (t := 53) rfl (.cons (t := 54) rfl (.cons (t := 55) rfl (.cons (t := 56) rfl (.cons (t := 57) rfl (.cons (t := 58) rfl (.cons (t := 59) rfl (.cons (t := 60) rfl (.cons (t := 61) rfl (.cons (t := 62) rfl (.cons (t := 63) rfl (.cons (t := 64) rfl (.cons (t := 65) rfl (.cons (t := 66) rfl (.cons (t := 67) rfl (.cons (t := 68) rfl .nil))))))))))))))))))))))))))))))))))))) ?_
      refine Q_then ?_
      refine R_seq ?_
      refine R_region ?_
      refine L_val rfl rfl rfl (OpP.v (P_move rfl rfl)) ?_
      refine L_val rfl rfl rfl (OpP.v (P_fld0 rfl ty_fl_25_0 rfl)) ?_
      refine L_val rfl rfl rfl (V_load rfl rfl ty_sc_22 (Rd.blk .h6 rfl)) ?_
      refine L_val rfl rfl rfl (OpP.v (P_fld0 rfl ty_fl_25_0 rfl)) ?_
      refine L_val rfl rfl rfl (V_load rfl rfl ty_sc_22 (Rd.blk .h4 rfl)) ?_
      refine L_val rfl rfl rfl (OpP.v (P_fld0 rfl ty_fl_25_0 rfl)) ?_
      refine L_val rfl rfl rfl (V_load rfl rfl ty_sc_22 (Rd.blk .h2 rfl)) ?_
      refine L_val rfl rfl rfl (OpP.v (P_fld0 rfl ty_fl_25_0 rfl)) ?_
      refine L_val rfl rfl rfl (V_load rfl rfl ty_sc_22 (Rd.blk .h0 rfl)) ?_
      refine L_op rfl (W_lit (z := .nilIface) ([.slice ab NL.length ac, .slice bb (turnM NL (tnV k)).length bc, .slice db NL.length dc, .slice rb (renM NL l2).length rc]) rfl rfl rfl ty_sl_60 ty_lz_60 rfl rfl rfl (by decide) (by decide) (by simp [Value.cells]) (rfl) fun b78 => ?_)
      refine L_op rfl (W_append (p := [_, _, _, _, _, _, _, _, _, _, _]) rfl rfl rfl ty_sl_60 ty_ap_60 ty_src_60 rfl rfl rfl (Src.slice (sz := 1) (m := 4) (news := [.slice ab NL.length ac, .slice bb (turnM NL (tnV k)).length bc, .slice db NL.length dc, .slice rb (renM NL l2).length rc]) (Rds.blk .h0) rfl (by intro v hv; simp only [List.mem_cons, List.not_mem_nil, or_false] at hv; rcases hv with rfl | rfl | rfl | rfl <;> rfl)) (by omega) (by simp only [maxLen]; omega) fun v79 => ?_)
      refine St.res (Weak.pick (p := [_, _]) (Weak.pick (p := [_, _, _]) (Weak.pick (p := [_, _, _, _]) (Weak.pick (p := [_, _, _, _, _]) (Weak.pick (p := [_, _, _, _, _]) (Weak.pick (p := [_, _, _, _, _]) (Weak.pick (p := [_, _, _, _, _]) (Weak.pick (p := [_, _, _, _, _]) (Weak.pick (p := [_, _, _, _, _]) (Weak.nil _)))))))))) ?_
      refine St.res (rs' := [Ow.own (Ow.mk rb rc (renM NL l2)), Ow.own (Ow.mk db dc NL), Ow.own (Ow.mk bb bc (turnM NL (tnV k))), Ow.own (Ow.mk ab ac NL), _, _, _, _, _]) (Weak.refl _) ?_
      refine St.res (Weak.trans (Weak.keep (Weak.keep (Weak.keep Weak.famAdd))) (Weak.trans (Weak.keep (Weak.keep Weak.famAdd)) (Weak.trans (Weak.keep Weak.famAdd) Weak.famAdd))) ?_
      refine L_val rfl rfl rfl (OpP.v (P_assign rfl rfl)) ?_
      refine L_nil ?_
      refine Q_then ?_
      refine R_seq ?_
      refine R_region ?_
      refine L_val rfl rfl rfl (V_loadAgg rfl rfl ty_ag_25 (Rds.blk .h4) (rfl)) ?_
      refine L_val rfl rfl rfl (OpP.v (P_move rfl rfl)) ?_
      refine L_op rfl (W_call rfl rfl rfl rfl fn_ca_28 (rTurn_ok cb cc NL hcc (by omega) hNok (tnV k)) (Split.nil _) (fun w a b _ hb dj m => (Sn.fam .h1 hI.c0 fun rs m => Sn.own m rfl).rw_ w ⟨_, hb, m.le (Heap.le_join_right dj)⟩) fun v6 rs6 ⟨u6, e1, e2⟩ => ?_)
      subst e1; subst e2
      refine St.ownForm (p := []) fun xb xc huv hxc => ?_
      subst huv
      refine L_val rfl rfl rfl (OpP.v (P_move rfl rfl)) ?_
      refine L_val rfl rfl rfl (OpP.v (P_extract rfl rfl rfl)) ?_
      refine L_val rfl rfl rfl (OpP.v (P_extract rfl rfl rfl)) ?_
      refine L_op rfl (W_alloc rfl rfl rfl ty_ze_25 fun b22 => ?_)
      refine L_op rfl (W_storeAll rfl rfl rfl rfl ty_ag_25 (rfl) (by intro v hv; simp only [List.mem_singleton] at hv; subst hv; rfl) .h0 (rfl) ?_)
      refine L_val rfl rfl rfl (OpP.v (P_assign rfl rfl)) ?_
      refine L_nil ?_
      refine St.env (.cons (t := 0) rfl (.cons (t := 2) rfl (.cons (t := 6) rfl (.cons (t := 7) rfl (.cons (t := 8) rfl (.cons (t := 10) rfl (.cons (t := 11) rfl (.cons (t := 12) rfl (.cons (t := 13) rfl (.cons (t := 14) rfl (.cons (t := 16) rfl (.cons (t := 18) rfl (.cons (t := 20) rfl (.cons (t := 22) rfl (.cons (t := 43) rfl (.cons (t := 44) rfl (.cons (t := 47) rfl (.cons (t := 48) rfl (.cons (t := 49) rfl (.cons (t := 50) rfl (.cons (t := 51) rfl (.cons (t := 52) rfl (.cons (t := 53) rfl (.cons (t := 54) rfl (.cons (t := 55) rfl (.cons (t := 56) rfl (.cons (t := 57) rfl (.cons (t := 58) rfl (.cons (t := 59) rfl (.cons (t := 60) rfl (.cons (t := 61) rfl (.cons (t := 62) rfl (.cons (t := 63) rfl (.cons (t := 64) rfl (.cons (t := 65) rfl (.cons (t := 66) rfl (.cons (t := 67) rfl (.cons (t := 68) rfl (.cons (t := 69) rfl (.cons (t := 70) rfl (.cons (t := 71) rfl (.cons (t := 72) rfl (.cons (t := 73) rfl (.cons (t := 74) rfl (.cons (t := 75) rfl (.cons (t := 76) rfl (.cons (t := 77) rfl (.cons (t := 78) rfl (.cons (t := 79) rfl (.cons (t := 80) rfl (.cons (t := 81) rfl (.cons (t := 82) rfl (.cons (t := 83) rfl (.cons (t := 84) rfl (.cons (t := 85) rfl .nil))))))))))))))))))))))))))))))))))))))))))))))))))))))) ?_
      refine Q_then ?_
      refine R_seq ?_
      refine R_region ?_
      refine L_val rfl rfl rfl (V_loadAgg rfl rfl ty_ag_25 (Rds.blk .h6) (rfl)) ?_
      refine L_val rfl rfl rfl (OpP.v (P_move rfl rfl)) ?_
      refine L_op rfl (W_call rfl rfl rfl rfl fn_ca_38 (rRenew_ok cb cc NL hcc (by omega) hNok base2 c2 l2 hc2 hmax2 hok2) (Split.nil _) (fun w a b _ hb dj m => ⟨(Sn.fam .h3 hI.c0 fun rs m => Sn.own m rfl).rw_ w ⟨_, hb, m.le (Heap.le_join_right dj)⟩, (Sn.row hpre.2 rfl).rw_ w ⟨_, hb, m.le (Heap.le_join_right dj)⟩⟩) fun v7 rs7 ⟨u7, e1, e2⟩ => ?_)
      subst e1; subst e2
      refine St.ownForm (p := []) fun yb yc huv hyc => ?_
      subst huv
      refine L_val rfl rfl rfl (OpP.v (P_move rfl rfl)) ?_
      refine L_val rfl rfl rfl (OpP.v (P_extract rfl rfl rfl)) ?_
      refine L_val rfl rfl rfl (OpP.v (P_extract rfl rfl rfl)) ?_
      refine L_op rfl (W_alloc rfl rfl rfl ty_ze_25 fun b24 => ?_)
      refine L_op rfl (W_storeAll rfl rfl rfl rfl ty_ag_25 (rfl) (by intro v hv; simp only [List.mem_singleton] at hv; subst hv; rfl) .h0 (rfl) ?_)
      refine L_val rfl rfl rfl (OpP.v (P_assign rfl rfl)) ?_
      refine L_nil ?_
      refine St.env (.cons (t := 0) rfl (.cons (t := 2) rfl (.cons (t := 6) rfl (.cons (t := 7) rfl (.cons (t := 8) rfl (.cons (t := 10) rfl (.cons (t := 11) rfl (.cons (t := 12) rfl (.cons (t := 13) rfl (.cons (t := 14) rfl (.cons (t := 16) rfl (.cons (t := 18) rfl (.cons (t := 20) rfl (.cons (t := 22) rfl (.cons (t := 24) rfl (.cons (t := 43) rfl (.cons (t := 44) rfl (.cons (t := 47) rfl (.cons (t := 48) rfl (.cons (t := 49) rfl (.cons (t := 50) rfl (.cons (t := 51) rfl (.cons (t := 52) rfl (.cons (t := 53) rfl (.cons (t := 54) rfl (.cons (t := 55) rfl (.cons (t := 56) rfl (.cons (t := 57) rfl (.cons (t := 58) rfl (.cons (t := 59) rfl (.cons (t := 60) rfl (.cons (t := 61) rfl (.cons (t := 62) rfl (.cons (t := 63) rfl (.cons (t := 64) rfl (.cons (t := 65) rfl (.cons (t := 66) rfl (.cons (t := 67) rfl (.cons (t := 68) rfl (.cons (t := 69) rfl (.cons (t := 70) rfl (.cons (t := 71) rfl (.cons (t := 72) rfl (.cons (t := 73) rfl (.cons (t := 74) rfl (.cons (t := 75) rfl (.cons (t := 76) rfl (.cons (t := 77) rfl (.cons (t := 78) rfl (.cons (t := 79) rfl (.cons (t := 80) rfl (.cons (t := 81) rfl (.cons (t := 82) rfl (.cons (t := 83) rfl (.cons (t := 84) rfl (.cons (t := 85) rfl (.cons (t := 86) rfl (.cons (t := 87) rfl (.cons (t := 88) rfl (.cons (t := 89) rfl (.cons (t := 90) rfl (.cons (t := 91) rfl .nil)))))))))))))))))))))))))))))))))))))))))))))))))))))))))))))) ?_
      refine Q_then ?_
      refine R_region ?_
      refine L_val rfl rfl rfl (OpP.v (P_move rfl rfl)) ?_
      refine L_val rfl rfl rfl (OpP.v (P_fld0 rfl ty_fl_25_0 rfl)) ?_
      refine L_val rfl rfl rfl (V_load rfl rfl ty_sc_22 (Rd.blk .h8 rfl)) ?_
      refine L_val rfl rfl rfl (OpP.v (P_fld0 rfl ty_fl_25_0 rfl)) ?_
      refine L_val rfl rfl rfl (V_load rfl rfl ty_sc_22 (Rd.blk .h2 rfl)) ?_
      refine L_val rfl rfl rfl (OpP.v (P_fld0 rfl ty_fl_25_0 rfl)) ?_
      refine L_val rfl rfl rfl (V_load rfl rfl ty_sc_22 (Rd.blk .h8 rfl)) ?_
      refine L_val rfl rfl rfl (OpP.v (P_fld0 rfl ty_fl_25_0 rfl)) ?_
      refine L_val rfl rfl rfl (V_load rfl rfl ty_sc_22 (Rd.blk .h0 rfl)) ?_
      refine L_op rfl (W_lit (z := .nilIface) ([.slice cb NL.length cc, .slice xb (turnM NL (tnV k)).length xc, .slice cb NL.length cc, .slice yb (renM NL l2).length yc]) rfl rfl rfl ty_sl_60 ty_lz_60 rfl rfl rfl (by decide) (by decide) (by simp [Value.cells]) (rfl) fun b101 => ?_)
      refine L_op rfl (W_append (p := [_, _, _, _, _, _, _, _]) rfl rfl rfl ty_sl_60 ty_ap_60 ty_src_60 rfl rfl rfl (Src.slice (sz := 1) (m := 4) (news := [.slice cb NL.length cc, .slice xb (turnM NL (tnV k)).length xc, .slice cb NL.length cc, .slice yb (renM NL l2).length yc]) (Rds.blk .h0) rfl (by intro v hv; simp only [List.mem_cons, List.not_mem_nil, or_false] at hv; rcases hv with rfl | rfl | rfl | rfl <;> rfl)) (by omega) (by simp only [maxLen]; omega) fun v102 => ?_)
      refine St.res (Weak.pick (p := [_, _]) (Weak.pick (p := [_, _, _]) (Weak.pick (p := [_, _, _, _]) (Weak.pick (p := [_, _, _]) (Weak.pick (p := [_, _, _]) (Weak.pick (p := [_, _, _]) (Weak.pick (p := [_, _, _]) (Weak.nil _)))))))) ?_
      refine St.res (rs' := [Ow.own (Ow.mk yb yc (renM NL l2)), Ow.own (Ow.mk xb xc (turnM NL (tnV k))), _, _, _, _, _]) (Weak.refl _) ?_
      refine St.res (Weak.trans (Weak.keep Weak.famAdd) (Weak.trans Weak.famAdd Weak.swap)) ?_
      refine L_val rfl rfl rfl (OpP.v (P_assign rfl rfl)) ?_
      refine L_nil ?_
      refine Q_block ?_
      refine Q_then ?_
      refine R_region ?_
      refine L_val rfl rfl rfl (OpP.v (P_move rfl rfl)) ?_
      first | (refine L_val rfl rfl rfl (OpP.v (P_addN rfl rfl rfl (by simp only [fits]; omega))) ?_) | (refine L_val rfl rfl rfl (OpP.v (P_add rfl rfl rfl)) ?_)
      refine L_val rfl rfl rfl (OpP.v (P_assign rfl rfl)) ?_
      refine L_nil ?_
      exact Q_round (i + 1, (us ++ [(Ow.mk ab ac NL), (Ow.mk bb bc (turnM NL (tnV k))), (Ow.mk db dc NL), (Ow.mk rb rc (renM NL l2))]), (ws ++ [(Ow.mk xb xc (turnM NL (tnV k))), (Ow.mk yb yc (renM NL l2))]), wv ++ [.slice cb NL.length cc, .slice xb (turnM NL (tnV k)).length xc, .slice cb NL.length cc, .slice yb (renM NL l2).length yc], v79, v102) (⟨hI.step rfl rfl rfl rfl rfl rfl rfl, by omega⟩) (by show 2 - (i + 1) < 2 - i; omega) (by repeat (first | exact .nil | refine .cons rfl ?_ | refine .consE rfl (by first | rfl | (congr 1; omega) | (congr 1; push_cast; omega)) ?_)) (by show Weak _ [fam Ow.own (us ++ [(Ow.mk ab ac NL), (Ow.mk bb bc (turnM NL (tnV k))), (Ow.mk db dc NL), (Ow.mk rb rc (renM NL l2))]), fam Ow.own (ws ++ [(Ow.mk xb xc (turnM NL (tnV k))), (Ow.mk yb yc (renM NL l2))]), ownS 22 1 (v79) (4 * (i + 1)) ((us ++ [(Ow.mk ab ac NL), (Ow.mk bb bc (turnM NL (tnV k))), (Ow.mk db dc NL), (Ow.mk rb rc (renM NL l2))]).map Ow.val), ownS 22 1 (v102) (4 * (i + 1)) (wv ++ [.slice cb NL.length cc, .slice xb (turnM NL (tnV k)).length xc, .slice cb NL.length cc, .slice yb (renM NL l2).length yc]), blk b8 [.slice cb NL.length cc] 25]; rw [show (us ++ [(Ow.mk ab ac NL), (Ow.mk bb bc (turnM NL (tnV k))), (Ow.mk db dc NL), (Ow.mk rb rc (renM NL l2))]) = (us ++ [(Ow.mk ab ac NL)] ++ [(Ow.mk bb bc (turnM NL (tnV k)))] ++ [(Ow.mk db dc NL)] ++ [(Ow.mk rb rc (renM NL l2))]) by simp, show (ws ++ [(Ow.mk xb xc (turnM NL (tnV k))), (Ow.mk yb yc (renM NL l2))]) = (ws ++ [(Ow.mk xb xc (turnM NL (tnV k)))] ++ [(Ow.mk yb yc (renM NL l2))]) by simp]; simp only [List.map_append]; exact Weak.keep (Weak.keep (Weak.trans (ownS.to1 rfl (by simp [Ow.val])) (Weak.refl _))))
    · skip
      obtain rfl : i = 2 := by omega
      refine St.ownSome (p := [_, _]) (by omega) fun mb mc hmv hmc => ?_
      subst hmv
      refine St.ownSome (p := [_, _, _]) (by omega) fun qb qc hqv hqc => ?_
      subst hqv
      refine R_exit ?_
      refine Q_then_exit ?_
      refine Q_then_exit ?_
      refine Q_block_eq ?_
      refine St.env (.cons (t := 2) rfl (.cons (t := 6) rfl (.cons (t := 7) rfl (.cons (t := 8) rfl (.cons (t := 10) rfl (.cons (t := 11) rfl (.cons (t := 12) rfl .nil))))))) ?_
      refine Q_then ?_
      refine R_seq ?_
      refine R_seq ?_
      refine R_region ?_
      refine L_val rfl rfl rfl (OpP.v (P_assign rfl rfl)) ?_
      refine L_nil ?_
      refine Q_then ?_
      refine R_block ?_
      refine R_loopE (G := Nat) (.cons (t := 2) rfl (.cons (t := 6) rfl (.cons (t := 7) rfl (.cons (t := 8) rfl (.cons (t := 10) rfl (.cons (t := 11) rfl (.cons (t := 12) rfl .nil))))))) (fun g => [(26, .int .i64 (g : Int))]) (fun _ => _) (fun g => g ≤ 8) (fun g => 8 - g) (0) (Nat.zero_le _) (by repeat (first | exact .nil | refine .cons rfl ?_ | refine .consE rfl (by first | rfl | (congr 1; omega) | (congr 1; push_cast; omega)) ?_)) (Weak.refl _) ?_
      intro i3 hinv
      replace hinv : i3 ≤ 8 := hinv
      show St (cx gl) _ ((26, .int .i64 (i3 : Int)) :: _) _ _
      refine R_seq ?_
      refine R_seq ?_
      refine R_region ?_
      refine L_val rfl rfl rfl (OpP.v (P_move rfl rfl)) ?_
      refine L_val rfl rfl rfl (OpP.v (P_move rfl rfl)) ?_
      refine L_val rfl rfl rfl (OpP.v (P_len rfl ty_sl_60 rfl)) ?_
      refine L_val rfl rfl rfl (OpP.v (P_lss rfl rfl rfl)) ?_
      refine L_nil ?_
      refine Q_then ?_
      refine R_condP rfl (fun hi3 => ?_) (fun hi3 => ?_)
      · skip
        obtain ⟨⟨ub, uc, uh⟩, j, ⟨wb, wc, wh⟩, hu, hw, hv, h1, h2⟩ := hI.at_ i3 (by omega)
        have h1 : wh = _ := h1
        have h2 : uh = _ := h2
        have e9 : wh = uh := h1.trans h2.symm
        subst e9
        have huv : (us.map Ow.val)[i3]? = some (.slice ub wh.length uc) := by rw [List.getElem?_map, hu]; rfl
        have hv : wv[i3]? = some (.slice wb wh.length wc) := hv
        have hws : wh.length ≤ 64 := by rw [h1]; exact wantE_small hN64 hX64 hY64 i3
        refine R_skip ?_
        refine Q_then ?_
        refine R_seq ?_
        refine R_block ?_
        refine R_seq ?_
        refine R_open [(0, 0), (1, 0), (2, 0), (3, 1), (4, 0), (5, 0), (6, 0), (7, 1), (8, 2), (9, 0)] mixed (by kernel_rfl) (QOk.then (QOk.block (QOk.then (QOk.then (QOk.block (QOk.then QOk.body)))))) ?_
        refine O_pure rfl rfl rfl rfl (P_move rfl rfl) ?_
        refine O_pure rfl rfl rfl rfl (P_move rfl rfl) ?_
        refine O_pure rfl rfl rfl rfl (P_ixs (i3) rfl ty_sl_60 rfl rfl (by first | rfl | omega) (by omega)) ?_
        refine O_val rfl rfl rfl rfl (V_load rfl rfl ty_sc_22 (rd_own1 .h2 huv)) ?_
        refine O_pure rfl rfl rfl rfl (P_move rfl rfl) ?_
        refine O_pure rfl rfl rfl rfl (P_move rfl rfl) ?_
        refine O_pure rfl rfl rfl rfl (P_ixs (i3) rfl ty_sl_60 rfl rfl (by first | rfl | omega) (by omega)) ?_
        refine O_val rfl rfl rfl rfl (V_load rfl rfl ty_sc_22 (rd_own1 .h3 hv)) ?_
        refine O_keep rfl rfl (W_callV rfl rfl rfl rfl fn_ca_18 (same_ok ub uc wb wc wh (by omega)) (fun w nw => ⟨(Sn.fam .h0 hu fun rs m => Sn.own m rfl).rw_ w nw, (Sn.fam .h1 hw fun rs m => Sn.own m rfl).rw_ w nw⟩) (K_keep (Weak.refl _) ?_))
        refine O_pure rfl rfl rfl rfl (P_not rfl rfl) ?_
        refine E_false (t := 118) rfl (rfl) ?_
        refine O_nil ?_
        refine Q_then ?_
        refine R_condF rfl ?_
        refine R_skip ?_
        refine Q_block ?_
        refine Q_then ?_
        refine R_region ?_
        refine L_val rfl rfl rfl (OpP.v (P_move rfl rfl)) ?_
        first | (refine L_val rfl rfl rfl (OpP.v (P_addN rfl rfl rfl (by simp only [fits]; omega))) ?_) | (refine L_val rfl rfl rfl (OpP.v (P_add rfl rfl rfl)) ?_)
        refine L_val rfl rfl rfl (OpP.v (P_assign rfl rfl)) ?_
        refine L_nil ?_
        exact Q_round (i3 + 1) (by omega) (by show 8 - (i3 + 1) < 8 - i3; omega) (by repeat (first | exact .nil | refine .cons rfl ?_ | refine .consE rfl (by first | rfl | (congr 1; omega) | (congr 1; push_cast; omega)) ?_)) (Weak.refl _)
      · skip
        refine R_exit ?_
        refine Q_then_exit ?_
        refine Q_then_exit ?_
        refine Q_block_eq ?_
        refine St.env (.cons (t := 2) rfl (.cons (t := 6) rfl (.cons (t := 7) rfl (.cons (t := 8) rfl (.cons (t := 10) rfl (.cons (t := 11) rfl (.cons (t := 12) rfl .nil))))))) ?_
        refine Q_then ?_
        refine R_seq ?_
        refine St.res (Weak.keep (Weak.pick (p := [_]) (Weak.keep (Weak.keep (Weak.keep (Weak.nil _)))))) ?_
        have hu8 : ∀ u ∈ us, u.hs.length ≤ 65536 := fun u hu => by
          obtain ⟨idx, hlt, e⟩ := List.mem_iff_getElem.1 hu
          obtain ⟨u', _, _, hu', _, _, _, h2⟩ := hI.at_ idx (by have := hI.lu; omega)
          rw [List.getElem?_eq_getElem hlt, Option.some.injEq] at hu'
          rw [← e, hu', h2]; have := wantE_small hN64 hX64 hY64 idx; omega
        refine R_region ?_
        refine L_val rfl rfl rfl (OpP.v (P_move rfl rfl)) ?_
        refine L_op rfl (W_callR rfl rfl rfl rfl fn_ca_42 (apart_ok mb mc us (by rw [hI.lu]) hu8) (Weak.refl _) (fun _ _ _ _ _ _ _ => trivial) ?_)
        refine L_val rfl rfl rfl (OpP.v (P_assign rfl rfl)) ?_
        refine L_nil ?_
        refine St.env (.cons (t := 2) rfl (.cons (t := 6) rfl (.cons (t := 7) rfl (.cons (t := 8) rfl (.cons (t := 10) rfl (.cons (t := 12) rfl .nil)))))) ?_
        refine Q_then ?_
        refine R_seq ?_
        refine R_seq ?_
        refine R_region ?_
        refine L_val rfl rfl rfl (OpP.v (P_move rfl rfl)) ?_
        refine L_val rfl rfl rfl (OpP.v (P_not rfl rfl)) ?_
        refine E_false (t := 122) rfl (rfl) ?_
        refine L_nil ?_
        refine St.env (.cons (t := 2) rfl (.cons (t := 6) rfl (.cons (t := 8) rfl (.cons (t := 10) rfl (.cons (t := 12) rfl (.cons (t := 122) rfl .nil)))))) ?_
        refine Q_then ?_
        refine R_condF rfl ?_
        refine R_skip ?_
        refine Q_then ?_
        refine R_seq ?_
        refine R_region ?_
        refine L_val rfl rfl rfl (V_loadAgg rfl rfl ty_ag_25 (Rds.blk .h2) (rfl)) ?_
        refine L_val rfl rfl rfl (OpP.v (P_move rfl rfl)) ?_
        refine L_op rfl (W_call rfl rfl rfl rfl fn_ca_26 (Turn_ok cb cc NL hcc (by omega) hNok (tnV k)) (Split.nil _) (fun w a b _ hb dj m => (Sn.fam .h0 hI.c0 fun rs m => Sn.own m rfl).rw_ w ⟨_, hb, m.le (Heap.le_join_right dj)⟩) fun v8 rs8 ⟨u8, e1, e2⟩ => ?_)
        subst e1; subst e2
        refine St.ownForm (p := []) fun pb pc huv hpc => ?_
        subst huv
        refine L_val rfl rfl rfl (OpP.v (P_move rfl rfl)) ?_
        refine L_val rfl rfl rfl (OpP.v (P_extract rfl rfl rfl)) ?_
        refine L_val rfl rfl rfl (OpP.v (P_extract rfl rfl rfl)) ?_
        refine L_op rfl (W_alloc rfl rfl rfl ty_ze_25 fun b27 => ?_)
        refine L_op rfl (W_storeAll rfl rfl rfl rfl ty_ag_25 (rfl) (by intro v hv; simp only [List.mem_singleton] at hv; subst hv; rfl) .h0 (rfl) ?_)
        refine L_val rfl rfl rfl (OpP.v (P_assign rfl rfl)) ?_
        refine L_nil ?_
        refine St.env (.cons (t := 2) rfl (.cons (t := 6) rfl (.cons (t := 8) rfl (.cons (t := 12) rfl (.cons (t := 27) rfl .nil))))) ?_
        refine Q_then ?_
        refine R_seq ?_
        refine R_region ?_
        refine L_val rfl rfl rfl (V_loadAgg rfl rfl ty_ag_25 (Rds.blk .h4) (rfl)) ?_
        refine L_val rfl rfl rfl (OpP.v (P_move rfl rfl)) ?_
        refine L_op rfl (W_call rfl rfl rfl rfl fn_ca_37 (Renew_ok cb cc NL hcc (by omega) hNok base2 c2 l2 hc2 hmax2 hok2) (Split.nil _) (fun w a b _ hb dj m => ⟨(Sn.fam .h2 hI.c0 fun rs m => Sn.own m rfl).rw_ w ⟨_, hb, m.le (Heap.le_join_right dj)⟩, (Sn.row hpre.2 rfl).rw_ w ⟨_, hb, m.le (Heap.le_join_right dj)⟩⟩) fun v9 rs9 ⟨u9, e1, e2⟩ => ?_)
        subst e1; subst e2
        refine St.ownForm (p := []) fun sb sc huv hsc => ?_
        subst huv
        refine L_val rfl rfl rfl (OpP.v (P_move rfl rfl)) ?_
        refine L_val rfl rfl rfl (OpP.v (P_extract rfl rfl rfl)) ?_
        refine L_val rfl rfl rfl (OpP.v (P_extract rfl rfl rfl)) ?_
        refine L_op rfl (W_alloc rfl rfl rfl ty_ze_25 fun b29 => ?_)
        refine L_op rfl (W_storeAll rfl rfl rfl rfl ty_ag_25 (rfl) (by intro v hv; simp only [List.mem_singleton] at hv; subst hv; rfl) .h0 (rfl) ?_)
        refine L_val rfl rfl rfl (OpP.v (P_assign rfl rfl)) ?_
        refine L_nil ?_
        refine St.env (.cons (t := 6) rfl (.cons (t := 12) rfl (.cons (t := 27) rfl (.cons (t := 29) rfl .nil)))) ?_
        refine Q_then ?_
        refine R_seq ?_
        obtain ⟨_, j1, ⟨wb1, wc1, wh1⟩, _, hw1, hv1, h1, _⟩ := hI.at_ 1 (by omega)
        have h1 : wh1 = (turnM NL (tnV k)) := h1
        subst h1
        have hv1 : wv[1]? = some (.slice wb1 (turnM NL (tnV k)).length wc1) := hv1
        obtain ⟨_, j3, ⟨wb3, wc3, wh3⟩, _, hw3, hv3, h3, _⟩ := hI.at_ 3 (by omega)
        have h3 : wh3 = (renM NL l2) := h3
        subst h3
        have hv3 : wv[3]? = some (.slice wb3 (renM NL l2).length wc3) := hv3
        refine R_open [(0, 0), (1, 1), (2, 0), (3, 0), (4, 1), (5, 2), (6, 0), (7, 0), (8, 1), (9, 0), (10, 0), (11, 1), (12, 2), (13, 0), (14, 0)] mixed (by kernel_rfl) (QOk.then QOk.body) ?_
        refine O_pure rfl rfl rfl rfl (P_fld0 rfl ty_fl_25_0 rfl) ?_
        refine O_val rfl rfl rfl rfl (V_load rfl rfl ty_sc_22 (Rd.blk .h2 rfl)) ?_
        refine O_pure rfl rfl rfl rfl (P_move rfl rfl) ?_
        refine O_pure rfl rfl rfl rfl (P_ixs (1) rfl ty_sl_60 rfl rfl (by first | rfl | omega) (by omega)) ?_
        refine O_val rfl rfl rfl rfl (V_load rfl rfl ty_sc_22 (rd_own1 .h5 hv1)) ?_
        refine O_keep rfl rfl (W_callV rfl rfl rfl rfl fn_ca_18 (same_ok pb pc wb1 wc1 (turnM NL (tnV k)) (by omega)) (fun w nw => ⟨(Sn.own .h3 rfl).rw_ w nw, (Sn.fam .h4 hw1 fun rs m => Sn.own m rfl).rw_ w nw⟩) (K_keep (Weak.refl _) ?_))
        refine E_true (t := 140) rfl (rfl) ?_
        refine O_pure rfl rfl rfl rfl (P_move rfl rfl) ?_
        refine O_pure rfl rfl rfl rfl (P_fld0 rfl ty_fl_25_0 rfl) ?_
        refine O_val rfl rfl rfl rfl (V_load rfl rfl ty_sc_22 (Rd.blk .h0 rfl)) ?_
        refine O_pure rfl rfl rfl rfl (P_move rfl rfl) ?_
        refine O_pure rfl rfl rfl rfl (P_ixs (3) rfl ty_sl_60 rfl rfl (by first | rfl | omega) (by omega)) ?_
        refine O_val rfl rfl rfl rfl (V_load rfl rfl ty_sc_22 (rd_own1 .h5 hv3)) ?_
        refine O_keep rfl rfl (W_callV rfl rfl rfl rfl fn_ca_18 (same_ok sb sc wb3 wc3 (renM NL l2) (by omega)) (fun w nw => ⟨(Sn.own .h1 rfl).rw_ w nw, (Sn.fam .h4 hw3 fun rs m => Sn.own m rfl).rw_ w nw⟩) (K_keep (Weak.refl _) ?_))
        refine E_true (t := 147) rfl (rfl) ?_
        refine O_pure rfl rfl rfl rfl (P_pick rfl rfl rfl) ?_
        refine O_pure rfl rfl rfl rfl (P_assign rfl rfl) ?_
        refine O_nil ?_
        refine St.env (.cons (t := 6) rfl .nil) ?_
        refine Q_then ?_
        refine R_ret ?_
        exact R_endV rfl rfl (.tmp rfl .nil) (rfl)
end Go.Proofs.Ytjhhpagcejgclaa
