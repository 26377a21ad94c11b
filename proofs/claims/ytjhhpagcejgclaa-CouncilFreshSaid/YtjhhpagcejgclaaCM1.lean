/- Walks: turns, made, bounded. Printed by gen.py. -/
import Derived.Test.YtjhhpagcejgclaaCR4
import Derived.Test.YtjhhpagcejgclaaActs
set_option linter.unusedVariables false
set_option linter.unusedSimpArgs false
set_option maxRecDepth 100000
namespace Go.Proofs.Ytjhhpagcejgclaa
open Go Go.RowKit Go.Proofs
theorem tn_ok {gl : Nat → Obj} (k : Int) (hk0 : -9223372036854775808 ≤ k) (hk1 : k ≤ 9223372036854775807) : SpecV (cx gl) 36 [.int .i64 k] noPre (.int .i64 (tnV k)) := by
  refine Spec.enter (C := cx gl) Try.func36 rfl 10 rfl rfl fun w0 h0 hsep hsub hpre => ?_
  obtain rfl : h0 = Heap.none := hsep
  show St (cx gl) _ [(0, .int .i64 k)] _ _
  refine R_seq ?_
  refine R_region ?_
  refine L_val rfl rfl rfl (OpP.v (P_assign rfl rfl)) ?_
  refine L_nil ?_
  refine Q_then ?_
  refine R_seq ?_
  refine R_seq ?_
  refine R_region ?_
  refine L_val rfl rfl rfl (OpP.v (P_move rfl rfl)) ?_
  refine L_val rfl rfl rfl (OpP.v (P_lss rfl rfl rfl)) ?_
  refine L_nil ?_
  refine St.env (.cons (t := 0) rfl (.cons (t := 2) rfl (.cons (t := 4) rfl .nil))) ?_
  refine Q_then ?_
  refine R_condP rfl (fun hk => ?_) (fun hk => ?_)
  · skip
    have hk : k < 0 := hk
    refine R_region ?_
    refine L_val rfl rfl rfl (OpP.v (P_move rfl rfl)) ?_
    refine L_val rfl rfl rfl (OpP.v (P_addN rfl rfl rfl (by simp only [fits]; omega))) ?_
    refine L_val rfl rfl rfl (OpP.v (P_neg rfl rfl)) ?_
    refine E_as (t := 7) (v' := .int .i64 (-(k + 1))) rfl (by rw [wrap_fits (by simp only [fits]; omega)]) ?_
    refine L_val rfl rfl rfl (OpP.v (P_assign rfl rfl)) ?_
    refine L_nil ?_
    refine St.env (.cons (t := 0) rfl (.cons (t := 2) rfl .nil)) ?_
    refine Q_then ?_
    refine R_seq ?_
    refine R_region ?_
    refine L_val rfl rfl rfl (OpP.v (P_move rfl rfl)) ?_
    refine L_val rfl rfl rfl (OpP.v (P_rem rfl rfl rfl (by decide))) ?_
    refine L_val rfl rfl rfl (OpP.v (P_assign rfl rfl)) ?_
    refine L_nil ?_
    refine St.env (.cons (t := 2) rfl .nil) ?_
    refine Q_then ?_
    refine R_ret ?_
    exact R_endV rfl rfl (.tmp rfl .nil) (by unfold tnV; first | (rw [if_pos hk, Int.tmod_eq_emod_of_nonneg (by omega)]; rfl) | (rw [if_neg hk, Int.tmod_eq_emod_of_nonneg (by omega)]; rfl))
  · skip
    have hk : ¬ k < 0 := hk
    refine R_skip ?_
    refine Q_then ?_
    refine R_seq ?_
    refine R_region ?_
    refine L_val rfl rfl rfl (OpP.v (P_move rfl rfl)) ?_
    refine L_val rfl rfl rfl (OpP.v (P_rem rfl rfl rfl (by decide))) ?_
    refine L_val rfl rfl rfl (OpP.v (P_assign rfl rfl)) ?_
    refine L_nil ?_
    refine St.env (.cons (t := 2) rfl .nil) ?_
    refine Q_then ?_
    refine R_ret ?_
    exact R_endV rfl rfl (.tmp rfl .nil) (by unfold tnV; first | (rw [if_pos hk, Int.tmod_eq_emod_of_nonneg (by omega)]; rfl) | (rw [if_neg hk, Int.tmod_eq_emod_of_nonneg (by omega)]; rfl))
def acC (az : List Ac) : List Value := az.flatMap Ac.cells
theorem acC_length (az : List Ac) : (acC az).length = az.length * 2 := rows_length (ac_len az)
theorem rd_ac {C : Cx} {F : Fx} {rs : List HP} {b j i k : Nat} {az : List Ac} {a : Ac} {v : Value} (hp : RowAt F.w ⟨b, j, none⟩ (acC az)) (hf : F.h b = none) (hm : az[i]? = some a) (hv : a.cells[k]? = some v) : Rd C F rs ⟨b, j + i * 2 + k, none⟩ v := by
  have := hp (i * 2 + k) v (rows_at (ac_len az) hm k v hv)
  rw [add_zero_off, ← Nat.add_assoc] at this
  exact Rd.old this hf
structure AcOk (a : Ac) : Prop where
  cap : a.l.length ≤ a.c
  max : a.l.length ≤ 5864062014700
  ok : ∀ m ∈ a.l, m.ok
  lo : -9223372036854775808 ≤ a.n
  hi : a.n ≤ 9223372036854775807
theorem sn_acs {C : Cx} {F : Fx} {rs : List HP} {b : Option Addr} {az : List Ac} (s : Sn C F rs b (acC az)) (i : Nat) : Sn C F rs b (acC (az.take i)) := by
  have h := s.take (i * 2)
  unfold acC at h ⊢
  rw [rows_take (ac_len az)] at h; exact h
theorem good_len {l : List Mem} {az : List Ac} (hok : ∀ m ∈ l, m.ok) (he : memE l = 0) (ha : ∀ a ∈ az, AcOk a) (i : Nat) (hi : i ≤ az.length) : Good (mkL l (az.take i)) ∧ (mkL l (az.take i)).length ≤ 64 := by
  have hg := good_mk hok he (fun a h => (ha a h).ok) i hi
  exact ⟨hg, hg.play.few⟩
theorem made_ok {gl : Nat → Obj} (base : Option Addr) (c : Nat) (l : List Mem) (hc : l.length ≤ c) (hmax : l.length ≤ 5864062014700) (hok : ∀ m ∈ l, m.ok) (he : memE l = 0) (ab : Option Addr) (ac : Nat) (az : List Ac) (hac : az.length ≤ ac) (haz : ∀ a ∈ az, AcOk a) (hamax : az.length ≤ 9223372036854775806) : Spec (cx gl) 39 [.slice base l.length c, .slice ab az.length ac] (fun w _ => Row w base (memC l) ∧ Row w ab (acC az) ∧ ∀ a ∈ az, Row w a.b (memC a.l)) [] (fun v rs => ∃ u, v = .tuple #[.agg [u].toArray, .bool true] ∧ rs = [ownS 48 3 (u) ((mkL l az).length) (memC (mkL l az))]) := by
  refine Spec.enter (C := cx gl) Try.func39 rfl 64 rfl rfl fun w0 h0 hsep hsub hpre => ?_
  obtain rfl : h0 = Heap.none := hsep
  show St (cx gl) _ [(0, .slice base l.length c), (1, .slice ab az.length ac)] _ _
  refine R_seq ?_
  refine R_region ?_
  refine L_op rfl (W_alloc rfl rfl rfl ty_ze_25 fun b4 => ?_)
  refine L_val rfl rfl rfl (OpP.v (P_assign rfl rfl)) ?_
  refine L_nil ?_
  refine Q_then ?_
  refine R_seq ?_
  refine R_region ?_
  refine L_val rfl rfl rfl (OpP.v (P_move rfl rfl)) ?_
  refine L_op rfl (W_call rfl rfl rfl rfl fn_ca_15 (New_ok base c l hc hmax hok) (Split.nil _) (fun w a b _ hb dj m => (Sn.row hpre.1 rfl).rw_ w ⟨_, hb, m.le (Heap.le_join_right dj)⟩) fun v1 rs1 ⟨u, e1, e2⟩ => ?_)
  subst e1; subst e2
  refine St.ownForm (p := []) fun ub uc huv huc => ?_
  subst huv
  refine L_val rfl rfl rfl (OpP.v (P_move rfl rfl)) ?_
  refine L_val rfl rfl rfl (OpP.v (P_extract rfl rfl rfl)) ?_
  refine L_val rfl rfl rfl (OpP.v (P_extract rfl rfl rfl)) ?_
  refine L_op rfl (W_alloc rfl rfl rfl ty_ze_25 fun b6 => ?_)
  refine L_op rfl (W_storeAll rfl rfl rfl rfl ty_ag_25 (rfl) (by intro v hv; simp only [List.mem_singleton] at hv; subst hv; rfl) .h0 (rfl) ?_)
  refine L_val rfl rfl rfl (OpP.v (P_assign rfl rfl)) ?_
  refine L_nil ?_
  refine St.env (.cons (t := 1) rfl (.cons (t := 4) rfl (.cons (t := 5) rfl (.cons (t := 6) rfl (.cons (t := 7) rfl .nil))))) ?_
  refine Q_then ?_
  refine R_seq ?_
  refine R_seq ?_
  refine R_region ?_
  refine L_val rfl rfl rfl (OpP.v (P_move rfl rfl)) ?_
  refine L_val rfl rfl rfl (OpP.v (P_neq rfl rfl rfl)) ?_
  refine L_nil ?_
  refine St.env (.cons (t := 1) rfl (.cons (t := 4) rfl (.cons (t := 5) rfl (.cons (t := 6) rfl (.cons (t := 7) rfl (.cons (t := 17) rfl .nil)))))) ?_
  refine Q_then ?_
  refine R_condP rfl (fun hne => ?_) (fun hne => ?_)
  · skip
    exact absurd he hne
  · skip
    refine R_skip ?_
    refine Q_then ?_
    refine R_seq ?_
    refine R_seq ?_
    rw [newM_fine he, show newL l = mkL l (az.take 0) from rfl]
    have huc : (mkL l (az.take 0)).length ≤ uc := by rw [newM_fine he] at huc; exact huc
    refine R_region ?_
    refine L_val rfl rfl rfl (OpP.v (P_assign rfl rfl)) ?_
    refine L_nil ?_
    refine St.env (.cons (t := 1) rfl (.cons (t := 4) rfl (.cons (t := 5) rfl (.cons (t := 6) rfl (.cons (t := 7) rfl (.cons (t := 8) rfl .nil)))))) ?_
    refine Q_then ?_
    refine R_block ?_
    refine R_loopE (G := Nat × Option Addr × Nat) (.cons (t := 1) rfl (.cons (t := 4) rfl (.cons (t := 5) rfl (.cons (t := 6) rfl (.cons (t := 7) rfl .nil))))) (fun g => [(8, .int .i64 (g.1 : Int))]) (fun g => [blk b6 [.slice g.2.1 (mkL l (az.take g.1)).length g.2.2] 25, ownS 48 3 (.slice g.2.1 (mkL l (az.take g.1)).length g.2.2) ((mkL l (az.take g.1)).length) (memC (mkL l (az.take g.1))), blk b4 [.slice none 0 0] 25]) (fun g => g.1 ≤ az.length ∧ (mkL l (az.take g.1)).length ≤ g.2.2) (fun g => az.length - g.1) (0, ub, uc) (⟨Nat.zero_le _, huc⟩) (by repeat (first | exact .nil | refine .cons rfl ?_ | refine .consE rfl (by first | rfl | (congr 1; omega) | (congr 1; push_cast; omega)) ?_)) (Weak.refl _) ?_
    rintro ⟨i, ub, uc⟩ hinv
    replace hinv : i ≤ az.length ∧ (mkL l (az.take i)).length ≤ uc := hinv
    show St (cx gl) _ ((8, .int .i64 (i : Int)) :: _) [blk b6 [.slice ub (mkL l (az.take i)).length uc] 25, ownS 48 3 (.slice ub (mkL l (az.take i)).length uc) ((mkL l (az.take i)).length) (memC (mkL l (az.take i))), blk b4 [.slice none 0 0] 25] _
    obtain ⟨hi, huc⟩ := hinv
    refine R_seq ?_
    refine R_seq ?_
    refine R_region ?_
    refine L_val rfl rfl rfl (OpP.v (P_move rfl rfl)) ?_
    refine L_val rfl rfl rfl (OpP.v (P_move rfl rfl)) ?_
    refine L_val rfl rfl rfl (OpP.v (P_len rfl ty_sl_52 rfl)) ?_
    refine L_val rfl rfl rfl (OpP.v (P_lss rfl rfl rfl)) ?_
    refine L_nil ?_
    refine Q_then ?_
    refine R_condP rfl (fun hlt => ?_) (fun hlt => ?_)
    · skip
      have hlt' : i < az.length := by omega
      obtain ⟨a, ha⟩ : ∃ a, az[i]? = some a := ⟨_, List.getElem?_eq_getElem hlt'⟩
      have ham := List.mem_of_getElem? ha
      obtain ⟨hA1, hA2, hA3, hA4, hA5⟩ := haz a ham
      obtain ⟨hG, hG64⟩ := good_len hok he haz i (by omega)
      have hT := hG.turnE a
      have hGY := good_turnA hG a
      have hY64 := hGY.play.few
      obtain ⟨pb, pj, rfl, harow⟩ := hpre.2.1.some_ (by rw [acC_length]; omega)
      have hrow := hpre.2.2 a ham
      have hst : mkL l (az.take (i + 1)) = stepA (mkL l (az.take i)) a := mkL_snoc ha
      refine R_skip ?_
      refine Q_then ?_
      refine R_seq ?_
      refine R_block ?_
      refine R_seq ?_
      refine R_open [(0, 1), (1, 0), (2, 0), (3, 0), (4, 0), (5, 1), (6, 2), (7, 2), (8, 0), (9, 0), (10, 0), (11, 3), (12, 0)] mixed (by kernel_rfl) (QOk.then (QOk.block (QOk.then (QOk.then (QOk.block (QOk.then QOk.body)))))) ?_
      refine O_val rfl rfl rfl rfl (V_loadAgg rfl rfl ty_ag_25 (Rds.blk .h0) (rfl)) ?_
      refine O_pure rfl rfl rfl rfl (P_move rfl rfl) ?_
      refine O_pure rfl rfl rfl rfl (P_move rfl rfl) ?_
      refine O_pure rfl rfl rfl rfl (P_ixs (i) rfl ty_sl_52 rfl rfl (by first | rfl | omega) (by omega)) ?_
      refine O_pure rfl rfl rfl rfl (P_fld rfl ty_fl_79_0 rfl) ?_
      refine O_val rfl rfl rfl rfl (V_load rfl rfl ty_sc_3 (rd_ac harow rfl ha rfl)) ?_
      refine O_keep rfl rfl (W_callV rfl rfl rfl rfl fn_ca_36 (tn_ok a.n hA4 hA5) (fun _ _ => trivial) (K_keep (Weak.refl _) ?_))
      refine O_keep rfl rfl (W_call rfl rfl rfl rfl fn_ca_26 (Turn_ok ub uc (mkL l (az.take i)) huc (by omega) hG.ok (tnV a.n)) (Split.nil _) (fun w a b _ hb dj m => (Sn.own .h1 rfl).rw_ w ⟨_, hb, m.le (Heap.le_join_right dj)⟩) fun v3 rs3 ⟨u3, e1, e2⟩ => ?_)
      rw [hT.2] at e2
      rw [hT.1] at e1
      subst e1; subst e2
      refine St.ownForm (p := []) fun vb vc huv hvc => ?_
      subst huv
      refine K_keep (Weak.drop (Weak.refl _)) ?_
      refine O_pure rfl rfl rfl rfl (P_move rfl rfl) ?_
      refine O_pure rfl rfl rfl rfl (P_extract rfl rfl rfl) ?_
      refine O_pure rfl rfl rfl rfl (P_extract rfl rfl rfl) ?_
      refine O_new rfl rfl (W_storeAll rfl rfl rfl rfl ty_ag_25 (rfl) (by intro v hv; simp only [List.mem_singleton] at hv; subst hv; rfl) .h1 (rfl) (K_new ?_))
      refine O_pure rfl rfl rfl rfl (P_assign rfl rfl) ?_
      refine O_nil ?_
      refine Q_then ?_
      refine R_seq ?_
      refine R_seq ?_
      refine St.res (rs' := [blk b6 [.slice vb (turnA (mkL l (az.take i)) a).length vc] 25, ownS 48 3 (.slice vb (turnA (mkL l (az.take i)) a).length vc) ((turnA (mkL l (az.take i)) a).length) (memC (turnA (mkL l (az.take i)) a)), blk b4 [.slice none 0 0] 25]) (Weak.pick (p := [_]) (Weak.keep (Weak.pick (p := [_]) (Weak.nil _)))) ?_
      refine R_region ?_
      refine L_val rfl rfl rfl (OpP.v (P_move rfl rfl)) ?_
      refine L_val rfl rfl rfl (OpP.v (P_neq rfl rfl rfl)) ?_
      refine E_false (t := 37) rfl (rfl) ?_
      refine L_nil ?_
      refine Q_then ?_
      refine R_condF rfl ?_
      refine R_skip ?_
      refine Q_then ?_
      refine R_seq ?_
      refine R_region ?_
      refine L_val rfl rfl rfl (OpP.v (P_move rfl rfl)) ?_
      refine L_val rfl rfl rfl (OpP.v (P_move rfl rfl)) ?_
      refine L_val rfl rfl rfl (OpP.v (P_ixs (i) rfl ty_sl_52 rfl rfl (by first | rfl | omega) (by omega))) ?_
      refine L_val rfl rfl rfl (OpP.v (P_fld rfl ty_fl_79_1 rfl)) ?_
      refine L_val rfl rfl rfl (V_load rfl rfl ty_sc_22 (rd_ac harow rfl ha rfl)) ?_
      refine L_op rfl (W_call rfl rfl rfl rfl fn_ca_16 (rNew_ok a.b a.c a.l hA1 hA2 hA3) (Split.nil _) (fun w a b _ hb dj m => (Sn.row hrow rfl).rw_ w ⟨_, hb, m.le (Heap.le_join_right dj)⟩) fun v4 rs4 ⟨u4, e1, e2⟩ => ?_)
      subst e1; subst e2
      refine St.ownForm (p := []) fun xb xc huv hxc => ?_
      subst huv
      refine L_val rfl rfl rfl (OpP.v (P_move rfl rfl)) ?_
      refine L_val rfl rfl rfl (OpP.v (P_extract rfl rfl rfl)) ?_
      refine L_val rfl rfl rfl (OpP.v (P_extract rfl rfl rfl)) ?_
      refine L_op rfl (W_alloc rfl rfl rfl ty_ze_25 fun b9 => ?_)
      refine L_op rfl (W_storeAll rfl rfl rfl rfl ty_ag_25 (rfl) (by intro v hv; simp only [List.mem_singleton] at hv; subst hv; rfl) .h0 (rfl) ?_)
      refine L_val rfl rfl rfl (OpP.v (P_assign rfl rfl)) ?_
      refine L_nil ?_
      refine Q_then ?_
      refine R_seq ?_
      refine R_region ?_
      refine L_val rfl rfl rfl (OpP.v (P_move rfl rfl)) ?_
      refine L_val rfl rfl rfl (OpP.v (P_eql rfl rfl rfl)) ?_
      refine L_nil ?_
      refine Q_then ?_
      refine R_condP rfl (fun hae => ?_) (fun hae => ?_)
      · skip
        have hae : memE a.l = 0 := hae
        have hR := good_renE hGY hae
        have hst1 : mkL l (az.take (i + 1)) = renL (turnA (mkL l (az.take i)) a) a.l := by rw [hst]; unfold stepA; rw [if_pos hae]
        refine R_seq ?_
        refine St.res (rs' := [blk b6 [.slice vb (turnA (mkL l (az.take i)) a).length vc] 25, ownS 48 3 (.slice vb (turnA (mkL l (az.take i)) a).length vc) ((turnA (mkL l (az.take i)) a).length) (memC (turnA (mkL l (az.take i)) a)), blk b4 [.slice none 0 0] 25]) (Weak.pick (p := [_, _]) (Weak.pick (p := [_, _]) (Weak.pick (p := [_, _]) (Weak.nil _)))) ?_
        refine R_open [(0, 1), (1, 0), (2, 0), (3, 0), (4, 0), (5, 1), (6, 2), (7, 0), (8, 0), (9, 0), (10, 3), (11, 0)] mixed (by kernel_rfl) (QOk.then (QOk.block (QOk.then (QOk.then (QOk.block (QOk.then QOk.body)))))) ?_
        refine O_val rfl rfl rfl rfl (V_loadAgg rfl rfl ty_ag_25 (Rds.blk .h0) (rfl)) ?_
        refine O_pure rfl rfl rfl rfl (P_move rfl rfl) ?_
        refine O_pure rfl rfl rfl rfl (P_move rfl rfl) ?_
        refine O_pure rfl rfl rfl rfl (P_ixs (i) rfl ty_sl_52 rfl rfl (by first | rfl | omega) (by omega)) ?_
        refine O_pure rfl rfl rfl rfl (P_fld rfl ty_fl_79_1 rfl) ?_
        refine O_val rfl rfl rfl rfl (V_load rfl rfl ty_sc_22 (rd_ac harow rfl ha rfl)) ?_
        refine O_keep rfl rfl (W_call rfl rfl rfl rfl fn_ca_37 (Renew_ok vb vc (turnA (mkL l (az.take i)) a) hvc (by omega) hGY.ok a.b a.c a.l hA1 hA2 hA3) (Split.nil _) (fun w a b _ hb dj m => ⟨(Sn.own .h1 rfl).rw_ w ⟨_, hb, m.le (Heap.le_join_right dj)⟩, (Sn.row hrow rfl).rw_ w ⟨_, hb, m.le (Heap.le_join_right dj)⟩⟩) fun v5 rs5 ⟨u5, e1, e2⟩ => ?_)
        rw [hR.2, ← hst1] at e2
        rw [hR.1] at e1
        subst e1; subst e2
        refine St.ownForm (p := []) fun wb wc huv hwc => ?_
        subst huv
        refine K_keep (Weak.drop (Weak.refl _)) ?_
        refine O_pure rfl rfl rfl rfl (P_move rfl rfl) ?_
        refine O_pure rfl rfl rfl rfl (P_extract rfl rfl rfl) ?_
        refine O_pure rfl rfl rfl rfl (P_extract rfl rfl rfl) ?_
        refine O_new rfl rfl (W_storeAll rfl rfl rfl rfl ty_ag_25 (rfl) (by intro v hv; simp only [List.mem_singleton] at hv; subst hv; rfl) .h1 (rfl) (K_new ?_))
        refine O_pure rfl rfl rfl rfl (P_assign rfl rfl) ?_
        refine O_nil ?_
        refine Q_then ?_
        refine R_seq ?_
        refine St.res (rs' := [blk b6 [.slice wb (mkL l (az.take (i + 1))).length wc] 25, ownS 48 3 (.slice wb (mkL l (az.take (i + 1))).length wc) ((mkL l (az.take (i + 1))).length) (memC (mkL l (az.take (i + 1)))), blk b4 [.slice none 0 0] 25]) (Weak.pick (p := [_]) (Weak.keep (Weak.pick (p := [_]) (Weak.nil _)))) ?_
        refine R_region ?_
        refine L_val rfl rfl rfl (OpP.v (P_move rfl rfl)) ?_
        refine L_val rfl rfl rfl (OpP.v (P_neq rfl rfl rfl)) ?_
        refine E_false (t := 61) rfl (rfl) ?_
        refine L_nil ?_
        refine Q_then ?_
        refine R_condF rfl ?_
        refine R_skip ?_
        refine Q_block ?_
        refine Q_then ?_
        refine R_region ?_
        refine L_val rfl rfl rfl (OpP.v (P_move rfl rfl)) ?_
        first | (refine L_val rfl rfl rfl (OpP.v (P_addN rfl rfl rfl (by simp only [fits]; omega))) ?_) | (refine L_val rfl rfl rfl (OpP.v (P_add rfl rfl rfl)) ?_)
        refine L_val rfl rfl rfl (OpP.v (P_assign rfl rfl)) ?_
        refine L_nil ?_
        exact Q_round (i + 1, wb, wc) (⟨by omega, hwc⟩) (by show az.length - (i + 1) < az.length - i; omega) (by repeat (first | exact .nil | refine .cons rfl ?_ | refine .consE rfl (by first | rfl | (congr 1; omega) | (congr 1; push_cast; omega)) ?_)) (Weak.refl _)
      · skip
        have hae : ¬ memE a.l = 0 := hae
        have hst2 : mkL l (az.take (i + 1)) = (turnA (mkL l (az.take i)) a) := by rw [hst]; unfold stepA; rw [if_neg hae]
        refine R_skip ?_
        refine Q_block ?_
        refine Q_then ?_
        refine R_region ?_
        refine L_val rfl rfl rfl (OpP.v (P_move rfl rfl)) ?_
        first | (refine L_val rfl rfl rfl (OpP.v (P_addN rfl rfl rfl (by simp only [fits]; omega))) ?_) | (refine L_val rfl rfl rfl (OpP.v (P_add rfl rfl rfl)) ?_)
        refine L_val rfl rfl rfl (OpP.v (P_assign rfl rfl)) ?_
        refine L_nil ?_
        rw [← hst2]
        exact Q_round (i + 1, vb, vc) (⟨by omega, by show (mkL l (az.take (i + 1))).length ≤ vc; rw [hst2]; exact hvc⟩) (by show az.length - (i + 1) < az.length - i; omega) (by repeat (first | exact .nil | refine .cons rfl ?_ | refine .consE rfl (by first | rfl | (congr 1; omega) | (congr 1; push_cast; omega)) ?_)) (Weak.pick (p := [_, _]) (Weak.pick (p := [_, _]) (Weak.pick (p := [_, _]) (Weak.nil _))))
    · skip
      have hin : i = az.length := by omega
      rw [hin, List.take_length]
      refine R_exit ?_
      refine Q_then_exit ?_
      refine Q_then_exit ?_
      refine Q_block_eq ?_
      refine St.env (.cons (t := 4) rfl (.cons (t := 5) rfl (.cons (t := 6) rfl .nil))) ?_
      refine Q_then ?_
      refine R_seq ?_
      refine R_region ?_
      refine L_val rfl rfl rfl (V_loadAgg rfl rfl ty_ag_25 (Rds.blk .h0) (rfl)) ?_
      refine L_op rfl (W_storeAll rfl rfl rfl rfl ty_ag_25 (rfl) (by intro v hv; simp only [List.mem_singleton] at hv; subst hv; rfl) .h2 (rfl) ?_)
      refine L_val rfl rfl rfl (OpP.v (P_assign rfl rfl)) ?_
      refine L_nil ?_
      refine St.env (.cons (t := 4) rfl (.cons (t := 5) rfl .nil)) ?_
      refine Q_then ?_
      refine R_ret ?_
      exact R_end (rs2 := [ownS 48 3 (.slice ub (mkL l az).length uc) ((mkL l az).length) (memC (mkL l az))]) rfl rfl (.cell rfl (Rds.loadVar ty_ag_25 (Rds.blk .h2) rfl) (.tmp rfl .nil)) (⟨_, rfl, rfl⟩) (Weak.drop (Weak.keep (Weak.nil _)))
end Go.Proofs.Ytjhhpagcejgclaa
