/- Go's stable sort: exchanges and rotations. Printed by gen.py. -/
import Derived.Test.YtfhjhaogmdaepaaSrtA
set_option linter.unusedVariables false
set_option linter.unusedSimpArgs false
set_option maxRecDepth 100000
namespace Go.Proofs.Ytfhjhaogmdaepaa
open Go Go.RowKit Go.Proofs Go.Sort
theorem swR_ok {gl : Nat → Obj} (b0 cap : Nat) (d : Array Mem) (a b n : Nat) (h1 : a + n ≤ b) (h2 : b + n ≤ d.size) (hsz : d.size ≤ 4611686018427387) (hcap : d.size ≤ cap) (fv : Value) : SpecR (cx gl) 66 [.slice (some ⟨b0, 0, none⟩) d.size cap, .int .i64 ((a : Nat) : Int), .int .i64 ((b : Nat) : Int), .int .i64 ((n : Nat) : Int), fv] (fun _ _ => True) [ownS 37 3 (.slice (some ⟨b0, 0, none⟩) d.size cap) d.size (rc (d).toList)] (.tuple #[]) [ownS 37 3 (.slice (some ⟨b0, 0, none⟩) d.size cap) d.size (rc (swR d a b n).toList)] := by
  refine Spec.enter (C := cx gl) Try.func66 rfl 38 rfl rfl fun w0 h0 hsep hsub hpre => ?_
  show St (cx gl) _ [(0, .slice (some ⟨b0, 0, none⟩) d.size cap), (1, .int .i64 ((a : Nat) : Int)), (2, .int .i64 ((b : Nat) : Int)), (3, .int .i64 ((n : Nat) : Int)), (4, fv)] _ _
  refine R_seq ?_
  refine R_region ?_
  refine L_val rfl rfl rfl (OpP.v (P_assign rfl rfl)) ?_
  refine L_nil ?_
  refine St.env (.cons (t := 0) rfl (.cons (t := 1) rfl (.cons (t := 2) rfl (.cons (t := 3) rfl (.cons (t := 10) rfl .nil))))) ?_
  refine Q_then ?_
  refine R_block ?_
  refine R_loopE (G := Nat) (.cons (t := 0) rfl (.cons (t := 1) rfl (.cons (t := 2) rfl (.cons (t := 3) rfl .nil)))) (fun g => [(10, .int .i64 (g : Int))]) (fun g => [ownS 37 3 (.slice (some ⟨b0, 0, none⟩) d.size cap) d.size (rc (swR d a b g).toList)]) (fun g => g ≤ n) (fun g => n - g) (0) (Nat.zero_le _) (by repeat (first | exact .nil | refine .cons rfl ?_ | refine .consE rfl (by first | rfl | (congr 1; omega) | (congr 1; push_cast; omega)) ?_)) (Weak.refl _) ?_
  intro i hinv
  replace hinv : i ≤ n := hinv
  show St (cx gl) _ ((10, .int .i64 (i : Int)) :: _) [ownS 37 3 (.slice (some ⟨b0, 0, none⟩) d.size cap) d.size (rc (swR d a b i).toList)] _
  refine R_seq ?_
  refine R_seq ?_
  refine R_region ?_
  refine L_val rfl rfl rfl (OpP.v (P_move rfl rfl)) ?_
  refine L_val rfl rfl rfl (OpP.v (P_move rfl rfl)) ?_
  refine L_val rfl rfl rfl (OpP.v (P_lss rfl rfl rfl)) ?_
  refine L_nil ?_
  refine Q_then ?_
  refine R_condP rfl (fun hlt => ?_) (fun hlt => ?_)
  · skip
    have hs := swR_size d a b i
    have hgj := arr_get (d := swR d a b i) (i := b + i) (by omega)
    have hgi := arr_get (d := swR d a b i) (i := a + i) (by omega)
    refine R_skip ?_
    refine Q_then ?_
    refine R_seq ?_
    refine R_block ?_
    refine R_open [(0, 0), (1, 0), (2, 0), (3, 0), (4, 0), (5, 0), (6, 0), (7, 0), (8, 0), (9, 0), (10, 0), (11, 0), (12, 0), (13, 1), (14, 0), (15, 0), (16, 0), (17, 0), (18, 0), (19, 1), (20, 0), (21, 3), (22, 0), (23, 3)] mixed (by kernel_rfl) (QOk.block (QOk.then (QOk.then (QOk.block QOk.body)))) ?_
    refine O_pure rfl rfl rfl rfl (P_move rfl rfl) ?_
    refine O_pure rfl rfl rfl rfl (P_move rfl rfl) ?_
    refine O_pure rfl rfl rfl rfl (P_move rfl rfl) ?_
    first | (refine O_pure rfl rfl rfl rfl (P_addN rfl rfl rfl (by simp only [fits]; omega)) ?_) | (refine O_pure rfl rfl rfl rfl (P_add rfl rfl rfl) ?_)
    refine O_pure rfl rfl rfl rfl (P_move rfl rfl) ?_
    refine O_pure rfl rfl rfl rfl (P_move rfl rfl) ?_
    refine O_pure rfl rfl rfl rfl (P_move rfl rfl) ?_
    first | (refine O_pure rfl rfl rfl rfl (P_addN rfl rfl rfl (by simp only [fits]; omega)) ?_) | (refine O_pure rfl rfl rfl rfl (P_add rfl rfl rfl) ?_)
    refine O_pure rfl rfl rfl rfl (P_move rfl rfl) ?_
    refine O_pure rfl rfl rfl rfl (P_move rfl rfl) ?_
    refine O_pure rfl rfl rfl rfl (P_move rfl rfl) ?_
    first | (refine O_pure rfl rfl rfl rfl (P_addN rfl rfl rfl (by simp only [fits]; omega)) ?_) | (refine O_pure rfl rfl rfl rfl (P_add rfl rfl rfl) ?_)
    refine O_pure rfl rfl rfl rfl (P_ixs (b + i) rfl ty_sl_33 rfl rfl (by first | rfl | omega) (by omega)) ?_
    refine O_val rfl rfl rfl rfl (V_loadAgg rfl rfl ty_ag_37 (rds_rc (rds_own .h0) hgj) (rfl)) ?_
    refine O_pure rfl rfl rfl rfl (P_move rfl rfl) ?_
    refine O_pure rfl rfl rfl rfl (P_move rfl rfl) ?_
    refine O_pure rfl rfl rfl rfl (P_move rfl rfl) ?_
    first | (refine O_pure rfl rfl rfl rfl (P_addN rfl rfl rfl (by simp only [fits]; omega)) ?_) | (refine O_pure rfl rfl rfl rfl (P_add rfl rfl rfl) ?_)
    refine O_pure rfl rfl rfl rfl (P_ixs (a + i) rfl ty_sl_33 rfl rfl (by first | rfl | omega) (by omega)) ?_
    refine O_val rfl rfl rfl rfl (V_loadAgg rfl rfl ty_ag_37 (rds_rc (rds_own .h0) hgi) (rfl)) ?_
    refine O_pure rfl rfl rfl rfl (P_ixs (a + i) rfl ty_sl_33 rfl rfl (by first | rfl | omega) (by omega)) ?_
    refine O_new rfl rfl (W_storeOwn (T := 37) (sz := 3) (n := d.size) (c := cap) (cs := rc (swR d a b i).toList) rfl rfl rfl rfl ty_ag_37 rfl (Mem.cells_one _) .h0 (by rw [rc_length]; simp only [Array.length_toList]; show 0 + (a + i) * 3 + 3 ≤ _ * 3; omega) ?_)
    refine St.res (rs' := [ownS 37 3 (.slice (some ⟨b0, 0, none⟩) d.size cap) d.size (rc ((swR d a b i).toList.set (a + i) (swR d a b i)[b + i]!))]) ((by have h9 := rc_splice (l := (swR d a b i).toList) (i := a + i) (swR d a b i)[b + i]! (by simp only [Array.length_toList]; omega); rw [show Rec.n Mem = 3 from rfl] at h9; rw [Nat.zero_add, h9]; exact Weak.refl _)) ?_
    refine K_new ?_
    refine O_pure rfl rfl rfl rfl (P_ixs (b + i) rfl ty_sl_33 rfl rfl (by first | rfl | omega) (by omega)) ?_
    refine O_new rfl rfl (W_storeOwn (T := 37) (sz := 3) (n := d.size) (c := cap) (cs := rc ((swR d a b i).toList.set (a + i) (swR d a b i)[b + i]!)) rfl rfl rfl rfl ty_ag_37 rfl (Mem.cells_one _) .h0 (by rw [rc_length]; rw [List.length_set]; simp only [Array.length_toList]; show 0 + (b + i) * 3 + 3 ≤ _ * 3; omega) ?_)
    refine St.res (rs' := [ownS 37 3 (.slice (some ⟨b0, 0, none⟩) d.size cap) d.size (rc (swp (swR d a b i) (a + i) (b + i)).toList)]) ((by have h9 := rc_splice (l := (swR d a b i).toList.set (a + i) (swR d a b i)[b + i]!) (i := b + i) (swR d a b i)[a + i]! (by rw [List.length_set]; simp only [Array.length_toList]; omega); rw [show Rec.n Mem = 3 from rfl] at h9; rw [Nat.zero_add, h9, ← swp_toList]; exact Weak.refl _)) ?_
    refine K_new ?_
    refine O_nil ?_
    refine Q_block ?_
    refine Q_then ?_
    refine R_region ?_
    refine L_val rfl rfl rfl (OpP.v (P_move rfl rfl)) ?_
    first | (refine L_val rfl rfl rfl (OpP.v (P_addN rfl rfl rfl (by simp only [fits]; omega))) ?_) | (refine L_val rfl rfl rfl (OpP.v (P_add rfl rfl rfl)) ?_)
    refine L_val rfl rfl rfl (OpP.v (P_assign rfl rfl)) ?_
    refine L_nil ?_
    exact Q_round (i + 1) (by omega) (by show n - (i + 1) < n - i; omega) (by repeat (first | exact .nil | refine .cons rfl ?_ | refine .consE rfl (by first | rfl | (congr 1; omega) | (congr 1; push_cast; omega)) ?_)) (Weak.refl _)
  · skip
    have hin : i = n := by omega
    rw [hin]
    refine R_exit ?_
    refine Q_then_exit ?_
    refine Q_then_exit ?_
    refine Q_block_eq ?_
    refine St.env (.nil) ?_
    exact R_end0 (rs2 := _) rfl rfl (.nil) (⟨rfl, rfl⟩) (Weak.refl _)
theorem rot_ok {gl : Nat → Obj} (b0 cap : Nat) (d : Array Mem) (a m b : Nat) (ham : a < m) (hmb : m < b) (hb : b ≤ d.size) (hsz : d.size ≤ 4611686018427387) (hcap : d.size ≤ cap) (fv : Value) : Spec (cx gl) 60 [.slice (some ⟨b0, 0, none⟩) d.size cap, .int .i64 ((a : Nat) : Int), .int .i64 ((m : Nat) : Int), .int .i64 ((b : Nat) : Int), fv] (fun _ _ => True) [ownS 37 3 (.slice (some ⟨b0, 0, none⟩) d.size cap) d.size (rc (d).toList)] (fun u rs => u = .tuple #[] ∧ ∃ d' : Array Mem, (Rot a m b d d' ∧ PermIn a b d d') ∧ rs = [ownS 37 3 (.slice (some ⟨b0, 0, none⟩) d.size cap) d.size (rc (d').toList)]) := by
  refine Spec.enter (C := cx gl) Try.func60 rfl 58 rfl rfl fun w0 h0 hsep hsub hpre => ?_
  show St (cx gl) _ [(0, .slice (some ⟨b0, 0, none⟩) d.size cap), (1, .int .i64 ((a : Nat) : Int)), (2, .int .i64 ((m : Nat) : Int)), (3, .int .i64 ((b : Nat) : Int)), (4, fv)] _ _
  refine R_seq ?_
  refine R_region ?_
  refine L_val rfl rfl rfl (OpP.v (P_move rfl rfl)) ?_
  refine L_val rfl rfl rfl (OpP.v (P_move rfl rfl)) ?_
  first | (refine L_val rfl rfl rfl (OpP.v (P_subN rfl rfl rfl (by simp only [fits]; omega))) ?_) | (refine L_val rfl rfl rfl (OpP.v (P_sub rfl rfl rfl)) ?_)
  refine E_as (t := 14) (v' := .int .i64 ((m - a : Nat) : Int)) rfl (by congr 1; omega) ?_
  refine L_val rfl rfl rfl (OpP.v (P_assign rfl rfl)) ?_
  refine L_nil ?_
  refine St.env (.cons (t := 0) rfl (.cons (t := 2) rfl (.cons (t := 3) rfl (.cons (t := 4) rfl (.cons (t := 10) rfl .nil))))) ?_
  refine Q_then ?_
  refine R_seq ?_
  refine R_region ?_
  refine L_val rfl rfl rfl (OpP.v (P_move rfl rfl)) ?_
  refine L_val rfl rfl rfl (OpP.v (P_move rfl rfl)) ?_
  first | (refine L_val rfl rfl rfl (OpP.v (P_subN rfl rfl rfl (by simp only [fits]; omega))) ?_) | (refine L_val rfl rfl rfl (OpP.v (P_sub rfl rfl rfl)) ?_)
  refine E_as (t := 17) (v' := .int .i64 ((b - m : Nat) : Int)) rfl (by congr 1; omega) ?_
  refine L_val rfl rfl rfl (OpP.v (P_assign rfl rfl)) ?_
  refine L_nil ?_
  refine St.env (.cons (t := 0) rfl (.cons (t := 2) rfl (.cons (t := 4) rfl (.cons (t := 10) rfl (.cons (t := 11) rfl .nil))))) ?_
  refine Q_then ?_
  refine R_seq ?_
  refine R_block ?_
  refine R_loopE (G := Nat × Nat × Array Mem) (.cons (t := 0) rfl (.cons (t := 2) rfl (.cons (t := 4) rfl .nil))) (fun g => [(10, .int .i64 ((g.1 : Nat) : Int)), (11, .int .i64 ((g.2.1 : Nat) : Int))]) (fun g => [ownS 37 3 (.slice (some ⟨b0, 0, none⟩) d.size cap) d.size (rc (g.2.2).toList)]) (fun g => 0 < g.1 ∧ 0 < g.2.1 ∧ a + g.1 ≤ m ∧ m + g.2.1 ≤ b ∧ g.2.2.size = d.size ∧ PermIn a b d g.2.2 ∧ ∀ d', Rot (m - g.1) m (m + g.2.1) g.2.2 d' → Rot a m b d d') (fun g => g.1 + g.2.1) (m - a, b - m, d) (by show 0 < (m - a) ∧ 0 < (b - m) ∧ a + (m - a) ≤ m ∧ m + (b - m) ≤ b ∧ (d).size = d.size ∧ PermIn a b d (d) ∧ ∀ d', Rot (m - (m - a)) m (m + (b - m)) (d) d' → Rot a m b d d'; exact ⟨by omega, by omega, by omega, by omega, rfl, permIn_refl _ _ _, fun d' h => by rwa [show m - (m - a) = a by omega, show m + (b - m) = b by omega] at h⟩) (by repeat (first | exact .nil | refine .cons rfl ?_ | refine .consE rfl (by first | rfl | (congr 1; omega) | (congr 1; push_cast; omega)) ?_)) (Weak.refl _) ?_
  rintro ⟨i, j, e⟩ hinv
  replace hinv : 0 < i ∧ 0 < j ∧ a + i ≤ m ∧ m + j ≤ b ∧ e.size = d.size ∧ PermIn a b d e ∧ ∀ d', Rot (m - i) m (m + j) e d' → Rot a m b d d' := hinv
  show St (cx gl) _ ((10, .int .i64 ((i : Nat) : Int)) :: (11, .int .i64 ((j : Nat) : Int)) :: _) [ownS 37 3 (.slice (some ⟨b0, 0, none⟩) d.size cap) d.size (rc (e).toList)] _
  obtain ⟨hi0, hj0, hai, hbj, hes, hpe, hrot⟩ := hinv
  refine R_seq ?_
  refine R_seq ?_
  refine R_region ?_
  refine L_val rfl rfl rfl (OpP.v (P_move rfl rfl)) ?_
  refine L_val rfl rfl rfl (OpP.v (P_move rfl rfl)) ?_
  refine L_val rfl rfl rfl (OpP.v (P_neq rfl rfl rfl)) ?_
  refine L_nil ?_
  refine Q_then ?_
  refine R_condP rfl (fun hne => ?_) (fun hne => ?_)
  · skip
    have hne : i ≠ j := by intro h; apply hne; rw [h]
    have hsw : ∀ x y n, x + n ≤ y → y + n ≤ d.size → SpecR (cx gl) 66 [.slice (some ⟨b0, 0, none⟩) d.size cap, .int .i64 ((x : Nat) : Int), .int .i64 ((y : Nat) : Int), .int .i64 ((n : Nat) : Int), fv] (fun _ _ => True) [ownS 37 3 (.slice (some ⟨b0, 0, none⟩) d.size cap) d.size (rc (e).toList)] (.tuple #[]) [ownS 37 3 (.slice (some ⟨b0, 0, none⟩) d.size cap) d.size (rc (swR e x y n).toList)] := fun x y n hx hy => by have h9 := swR_ok (gl := gl) b0 cap e x y n hx (by omega) (by omega) (by omega) fv; rw [hes] at h9; exact h9
    refine R_skip ?_
    refine Q_then ?_
    refine R_block ?_
    refine R_seq ?_
    refine R_region ?_
    refine L_val rfl rfl rfl (OpP.v (P_move rfl rfl)) ?_
    refine L_val rfl rfl rfl (OpP.v (P_move rfl rfl)) ?_
    refine L_val rfl rfl rfl (OpP.v (P_gtr rfl rfl rfl)) ?_
    refine L_nil ?_
    refine Q_then ?_
    refine R_condP rfl (fun hgt => ?_) (fun hgt => ?_)
    · skip
      have hgt : j < i := by omega
      refine R_seq ?_
      refine R_region ?_
      refine L_val rfl rfl rfl (OpP.v (P_move rfl rfl)) ?_
      refine L_val rfl rfl rfl (OpP.v (P_move rfl rfl)) ?_
      refine L_val rfl rfl rfl (OpP.v (P_move rfl rfl)) ?_
      first | (refine L_val rfl rfl rfl (OpP.v (P_subN rfl rfl rfl (by simp only [fits]; omega))) ?_) | (refine L_val rfl rfl rfl (OpP.v (P_sub rfl rfl rfl)) ?_)
      refine E_as (t := 27) (v' := .int .i64 ((m - i : Nat) : Int)) rfl (by congr 1; omega) ?_
      refine L_val rfl rfl rfl (OpP.v (P_move rfl rfl)) ?_
      refine L_val rfl rfl rfl (OpP.v (P_move rfl rfl)) ?_
      refine L_val rfl rfl rfl (OpP.v (P_move rfl rfl)) ?_
      refine L_op rfl (W_call rfl rfl rfl rfl fn_ca_66 (hsw (m - i) (m) (j) (by omega) (by omega)) (Split.one (p := [])) (fun _ _ _ _ _ _ _ => trivial) fun vv rs1 ⟨e1, e2⟩ => ?_)
      subst e1; subst e2
      refine St.res (rs' := [ownS 37 3 (.slice (some ⟨b0, 0, none⟩) d.size cap) d.size (rc (swR e (m - i) (m) (j)).toList)]) (Weak.refl _) ?_
      refine L_nil ?_
      refine St.env (.cons (t := 0) rfl (.cons (t := 2) rfl (.cons (t := 4) rfl (.cons (t := 10) rfl (.cons (t := 11) rfl (.cons (t := 18) rfl (.cons (t := 19) rfl (.cons (t := 20) rfl (.cons (t := 21) rfl (.cons (t := 22) rfl (.cons (t := 23) rfl (.cons (t := 24) rfl (.cons (t := 25) rfl (.cons (t := 26) rfl (.cons (t := 27) rfl (.cons (t := 28) rfl (.cons (t := 29) rfl (.cons (t := 30) rfl .nil)))))))))))))))))) ?_
      refine Q_then ?_
      refine R_region ?_
      refine L_val rfl rfl rfl (OpP.v (P_move rfl rfl)) ?_
      refine L_val rfl rfl rfl (OpP.v (P_move rfl rfl)) ?_
      first | (refine L_val rfl rfl rfl (OpP.v (P_subN rfl rfl rfl (by simp only [fits]; omega))) ?_) | (refine L_val rfl rfl rfl (OpP.v (P_sub rfl rfl rfl)) ?_)
      refine E_as (t := 34) (v' := .int .i64 ((i - j : Nat) : Int)) rfl (by congr 1; omega) ?_
      refine L_val rfl rfl rfl (OpP.v (P_assign rfl rfl)) ?_
      refine L_nil ?_
      refine Q_block ?_
      exact Q_round (i - j, j, swR e (m - i) m j) (by show 0 < (i - j) ∧ 0 < (j) ∧ a + (i - j) ≤ m ∧ m + (j) ≤ b ∧ (swR e (m - i) m j).size = d.size ∧ PermIn a b d (swR e (m - i) m j) ∧ ∀ d', Rot (m - (i - j)) m (m + (j)) (swR e (m - i) m j) d' → Rot a m b d d'; exact ⟨by omega, hj0, by omega, hbj, by rw [swR_size]; exact hes, permTr hpe (swR_perm e (m - i) m a b (by omega) (by omega) j (by omega) (by omega)), fun d' h => hrot d' (Rot.left hj0 (by omega) (by omega) (by omega) h)⟩) (by show i - j + j < i + j; omega) (by repeat (first | exact .nil | refine .cons rfl ?_ | refine .consE rfl (by first | rfl | (congr 1; omega) | (congr 1; push_cast; omega)) ?_)) (Weak.refl _)
    · skip
      have hgt : i < j := by omega
      refine R_seq ?_
      refine R_region ?_
      refine L_val rfl rfl rfl (OpP.v (P_move rfl rfl)) ?_
      refine L_val rfl rfl rfl (OpP.v (P_move rfl rfl)) ?_
      refine L_val rfl rfl rfl (OpP.v (P_move rfl rfl)) ?_
      first | (refine L_val rfl rfl rfl (OpP.v (P_subN rfl rfl rfl (by simp only [fits]; omega))) ?_) | (refine L_val rfl rfl rfl (OpP.v (P_sub rfl rfl rfl)) ?_)
      refine E_as (t := 38) (v' := .int .i64 ((m - i : Nat) : Int)) rfl (by congr 1; omega) ?_
      refine L_val rfl rfl rfl (OpP.v (P_move rfl rfl)) ?_
      refine L_val rfl rfl rfl (OpP.v (P_move rfl rfl)) ?_
      first | (refine L_val rfl rfl rfl (OpP.v (P_addN rfl rfl rfl (by simp only [fits]; omega))) ?_) | (refine L_val rfl rfl rfl (OpP.v (P_add rfl rfl rfl)) ?_)
      refine L_val rfl rfl rfl (OpP.v (P_move rfl rfl)) ?_
      first | (refine L_val rfl rfl rfl (OpP.v (P_subN rfl rfl rfl (by simp only [fits]; omega))) ?_) | (refine L_val rfl rfl rfl (OpP.v (P_sub rfl rfl rfl)) ?_)
      refine E_as (t := 43) (v' := .int .i64 ((m + j - i : Nat) : Int)) rfl (by congr 1; omega) ?_
      refine L_val rfl rfl rfl (OpP.v (P_move rfl rfl)) ?_
      refine L_val rfl rfl rfl (OpP.v (P_move rfl rfl)) ?_
      refine L_op rfl (W_call rfl rfl rfl rfl fn_ca_66 (hsw (m - i) (m + j - i) (i) (by omega) (by omega)) (Split.one (p := [])) (fun _ _ _ _ _ _ _ => trivial) fun vv rs1 ⟨e1, e2⟩ => ?_)
      subst e1; subst e2
      refine St.res (rs' := [ownS 37 3 (.slice (some ⟨b0, 0, none⟩) d.size cap) d.size (rc (swR e (m - i) (m + j - i) (i)).toList)]) (Weak.refl _) ?_
      refine L_nil ?_
      refine St.env (.cons (t := 0) rfl (.cons (t := 2) rfl (.cons (t := 4) rfl (.cons (t := 10) rfl (.cons (t := 11) rfl (.cons (t := 18) rfl (.cons (t := 19) rfl (.cons (t := 20) rfl (.cons (t := 21) rfl (.cons (t := 22) rfl (.cons (t := 23) rfl (.cons (t := 35) rfl (.cons (t := 36) rfl (.cons (t := 37) rfl (.cons (t := 38) rfl (.cons (t := 39) rfl (.cons (t := 40) rfl (.cons (t := 41) rfl (.cons (t := 42) rfl (.cons (t := 43) rfl (.cons (t := 44) rfl (.cons (t := 45) rfl .nil)))))))))))))))))))))) ?_
      refine Q_then ?_
      refine R_region ?_
      refine L_val rfl rfl rfl (OpP.v (P_move rfl rfl)) ?_
      refine L_val rfl rfl rfl (OpP.v (P_move rfl rfl)) ?_
      first | (refine L_val rfl rfl rfl (OpP.v (P_subN rfl rfl rfl (by simp only [fits]; omega))) ?_) | (refine L_val rfl rfl rfl (OpP.v (P_sub rfl rfl rfl)) ?_)
      refine E_as (t := 49) (v' := .int .i64 ((j - i : Nat) : Int)) rfl (by congr 1; omega) ?_
      refine L_val rfl rfl rfl (OpP.v (P_assign rfl rfl)) ?_
      refine L_nil ?_
      refine Q_block ?_
      exact Q_round (i, j - i, swR e (m - i) (m + j - i) i) (by show 0 < (i) ∧ 0 < (j - i) ∧ a + (i) ≤ m ∧ m + (j - i) ≤ b ∧ (swR e (m - i) (m + j - i) i).size = d.size ∧ PermIn a b d (swR e (m - i) (m + j - i) i) ∧ ∀ d', Rot (m - (i)) m (m + (j - i)) (swR e (m - i) (m + j - i) i) d' → Rot a m b d d'; exact ⟨hi0, by omega, hai, by omega, by rw [swR_size]; exact hes, permTr hpe (swR_perm e (m - i) (m + j - i) a b (by omega) (by omega) i (by omega) (by omega)), fun d' h => hrot d' (Rot.right hi0 (by omega) (by omega) (by omega) h)⟩) (by show i + (j - i) < i + j; omega) (by repeat (first | exact .nil | refine .cons rfl ?_ | refine .consE rfl (by first | rfl | (congr 1; omega) | (congr 1; push_cast; omega)) ?_)) (Weak.refl _)
  · skip
    have hij : i = j := by omega
    rw [← hij]
    have hsw : ∀ x y n, x + n ≤ y → y + n ≤ d.size → SpecR (cx gl) 66 [.slice (some ⟨b0, 0, none⟩) d.size cap, .int .i64 ((x : Nat) : Int), .int .i64 ((y : Nat) : Int), .int .i64 ((n : Nat) : Int), fv] (fun _ _ => True) [ownS 37 3 (.slice (some ⟨b0, 0, none⟩) d.size cap) d.size (rc (e).toList)] (.tuple #[]) [ownS 37 3 (.slice (some ⟨b0, 0, none⟩) d.size cap) d.size (rc (swR e x y n).toList)] := fun x y n hx hy => by have h9 := swR_ok (gl := gl) b0 cap e x y n hx (by omega) (by omega) (by omega) fv; rw [hes] at h9; exact h9
    refine R_exit ?_
    refine Q_then_exit ?_
    refine Q_then_exit ?_
    refine Q_block_eq ?_
    refine St.env (.cons (t := 0) rfl (.cons (t := 2) rfl (.cons (t := 4) rfl (.cons (t := 10) rfl .nil)))) ?_
    refine Q_then ?_
    refine R_region ?_
    refine L_val rfl rfl rfl (OpP.v (P_move rfl rfl)) ?_
    refine L_val rfl rfl rfl (OpP.v (P_move rfl rfl)) ?_
    refine L_val rfl rfl rfl (OpP.v (P_move rfl rfl)) ?_
    first | (refine L_val rfl rfl rfl (OpP.v (P_subN rfl rfl rfl (by simp only [fits]; omega))) ?_) | (refine L_val rfl rfl rfl (OpP.v (P_sub rfl rfl rfl)) ?_)
    refine E_as (t := 53) (v' := .int .i64 ((m - i : Nat) : Int)) rfl (by congr 1; omega) ?_
    refine L_val rfl rfl rfl (OpP.v (P_move rfl rfl)) ?_
    refine L_val rfl rfl rfl (OpP.v (P_move rfl rfl)) ?_
    refine L_val rfl rfl rfl (OpP.v (P_move rfl rfl)) ?_
    refine L_op rfl (W_call rfl rfl rfl rfl fn_ca_66 (hsw (m - i) (m) (i) (by omega) (by omega)) (Split.one (p := [])) (fun _ _ _ _ _ _ _ => trivial) fun vv rs1 ⟨e1, e2⟩ => ?_)
    subst e1; subst e2
    refine St.res (rs' := [ownS 37 3 (.slice (some ⟨b0, 0, none⟩) d.size cap) d.size (rc (swR e (m - i) (m) (i)).toList)]) (Weak.refl _) ?_
    refine L_nil ?_
    refine St.env (.nil) ?_
    exact R_end0 (rs2 := _) rfl rfl (.nil) (⟨rfl, _, ⟨hrot _ (by rw [← hij]; exact Rot.same (by omega) (by omega)), permTr hpe (swR_perm e (m - i) m a b (by omega) (by omega) i (by omega) (by omega))⟩, rfl⟩) (Weak.refl _)
end Go.Proofs.Ytfhjhaogmdaepaa
