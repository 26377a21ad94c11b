/- Texts that ledgerKeeps_holds leans on, part 3: each says at its head what it holds; no condition beyond its theorems' own. -/
import Derived.Test.YtcngmkjdpoiiaaaGreatDoorMk2
set_option linter.unusedVariables false
set_option linter.unusedSimpArgs false
set_option linter.unusedSectionVars false
/- Go's stable sort of members. Printed by gen.py. -/
set_option maxRecDepth 100000
namespace Go.Proofs.YtcngmkjdpoiiaaaGreatDoor
open Go Go.RowKit Go.Proofs Go.Sort
theorem blk_keep {a b x y : Nat} {d d' : Array Mem} (h : SortedIn bt x y d) (hp : PermIn a b d d') (hd : y ≤ a ∨ b ≤ x) : SortedIn bt x y d' := sortEq h fun k h1 h2 => hp.2.1 k (by omega)
theorem dvd_apart {sz x a : Nat} (h1 : sz ∣ x) (h2 : sz ∣ a) (h : x < a) : x + sz ≤ a := by
 obtain ⟨p, rfl⟩ := h1
 obtain ⟨q, rfl⟩ := h2
 have hpq : p < q := Nat.lt_of_mul_lt_mul_left h
 calc sz * p + sz = sz * (p + 1) := (Nat.mul_succ sz p).symm
  _ ≤ sz * q := Nat.mul_le_mul_left sz hpq
theorem dvd_apart' {sz x a : Nat} (h1 : sz ∣ x) (h2 : sz ∣ a) (h : x ≠ a) : x + sz ≤ a ∨ a + sz ≤ x := by
 rcases Nat.lt_or_gt_of_ne h with h | h
 ·exact .inl (dvd_apart h1 h2 h)
 ·exact .inr (dvd_apart h2 h1 h)
theorem dvd_two {sz a : Nat} (h : 2 * sz ∣ a) : sz ∣ a := Nat.dvd_trans (Nat.dvd_mul_left sz 2) h
theorem ins_next {a : Nat} {e e1 : Array Mem} (hdv : 20 ∣ a) (hdo : ∀ x, 20 ∣ x → x + 20 ≤ a → SortedIn bt x (x + 20) e) (hp : PermIn a (a + 20) e e1) (hs : SortedIn bt a (a + 20) e1) : ∀ x, 20 ∣ x → x + 20 ≤ a + 20 → SortedIn bt x (x + 20) e1 := fun x hx hx2 => by
 by_cases he : x = a
 ·subst he; exact hs
 ·rcases dvd_apart' hx hdv he with h | h
  ·exact blk_keep (hdo x hx h) hp (.inl h)
  ·omega
/-- All blocks of that size are in order. -/
def Blk (sz n : Nat) (d : Array Mem) : Prop := ∀ x, sz ∣ x → SortedIn bt x (min (x + sz) n) d
theorem blk_first {n a : Nat} {d d' : Array Mem} (ha : 20 ∣ a) (han : a ≤ n) (hbn : n < a + 20) (h : ∀ x, 20 ∣ x → x + 20 ≤ a → SortedIn bt x (x + 20) d) (hp : PermIn a n d d') (hs : SortedIn bt a n d') : Blk 20 n d' := fun x hx => by
 by_cases he : x = a
 ·subst he; rw [Nat.min_eq_right (by omega)]; exact hs
 ·rcases dvd_apart' hx ha he with h1 | h1
  ·rw [Nat.min_eq_left (by omega)]; exact blk_keep (h x hx h1) hp (.inl h1)
  ·exact sorted_one (by omega)
structure Half (sz n a : Nat) (e : Array Mem) : Prop where
 dv : 2 * sz ∣ a
 le : a ≤ n
 done : ∀ x, 2 * sz ∣ x → x + 2 * sz ≤ a → SortedIn bt x (x + 2 * sz) e
 todo : ∀ x, sz ∣ x → a ≤ x → SortedIn bt x (min (x + sz) n) e
theorem Half.start {sz n : Nat} {d : Array Mem} (h : Blk sz n d) (hp : 0 < sz) : Half sz n 0 d := ⟨⟨0, rfl⟩, Nat.zero_le _, fun x _ hx => by omega, fun x hx _ => h x hx⟩
theorem Half.left {sz n a : Nat} {e : Array Mem} (h : Half sz n a e) (hn : a + sz ≤ n) : SortedIn bt a (a + sz) e := by
 have := h.todo a (dvd_two h.dv) (Nat.le_refl _)
 rwa [Nat.min_eq_left hn] at this
theorem Half.right {sz n a y : Nat} {e : Array Mem} (h : Half sz n a e) (hy : y ≤ n) (h2 : y ≤ a + 2 * sz) : SortedIn bt (a + sz) y e := by
 have := h.todo (a + sz) (Nat.dvd_add (dvd_two h.dv) (Nat.dvd_refl _)) (by omega)
 exact sortSub this (Nat.le_refl _) (by omega)
theorem Half.next {sz n a : Nat} {e e' : Array Mem} (h : Half sz n a e) (hp : 0 < sz) (hn : a + 2 * sz ≤ n) (hpm : PermIn a (a + 2 * sz) e e') (hs : SortedIn bt a (a + 2 * sz) e') : Half sz n (a + 2 * sz) e' := by
 refine ⟨Nat.dvd_add h.dv (Nat.dvd_refl _), hn, fun x hx hx2 => ?_, fun x hx hx2 => ?_⟩
 ·by_cases he : x = a
  ·subst he; exact hs
  ·rcases dvd_apart' hx h.dv he with h1 | h1
   ·exact blk_keep (h.done x hx h1) hpm (.inl h1)
   ·omega
 ·exact blk_keep (h.todo x hx (by omega)) hpm (.inr hx2)
theorem Half.full {sz n a : Nat} {e : Array Mem} (h : Half sz n a e) (hp : 0 < sz) (hn : n < a + 2 * sz) (hs : SortedIn bt a n e) : Blk (2 * sz) n e := fun x hx => by
 by_cases he : x = a
 ·subst he; rw [Nat.min_eq_right (by omega)]; exact hs
 ·rcases dvd_apart' hx h.dv he with h1 | h1
  ·have := h.le; rw [Nat.min_eq_left (by omega)]; exact h.done x hx h1
  ·exact sorted_one (by omega)
theorem Half.keep {sz n a : Nat} {e e' : Array Mem} (h : Half sz n a e) (hp : PermIn a n e e') (hs : SortedIn bt a n e') (hz : 0 < sz) (hn : n < a + 2 * sz) : Blk (2 * sz) n e' := fun x hx => by
 by_cases he : x = a
 ·subst he; rw [Nat.min_eq_right (by omega)]; exact hs
 ·rcases dvd_apart' hx h.dv he with h1 | h1
  ·have := h.le; rw [Nat.min_eq_left (by omega)]; exact blk_keep (h.done x hx h1) hp (.inl h1)
  ·exact sorted_one (by omega)
set_option maxHeartbeats 1000000 in
theorem st_pos {gl : Nat → Obj} (b0 cap : Nat) (d : Array Mem) (hsz : d.size ≤ 1000000000000) (hcap : d.size ≤ cap) : Spec (cx gl) 167 [.slice (some ⟨b0, 0, none⟩) d.size cap, .int .i64 ((d.size : Nat) : Int), .func (.func 92) #[] #[]] (fun _ _ => True) [ownS 55 3 (.slice (some ⟨b0, 0, none⟩) d.size cap) d.size (rc (d).toList)] (fun u rs => u = .tuple #[] ∧ ∃ d' : Array Mem, (PermIn 0 d.size d d' ∧ SortedIn bt 0 d.size d') ∧ rs = [ownS 55 3 (.slice (some ⟨b0, 0, none⟩) d.size cap) d.size (rc (d').toList)]) := by
 have hin : ∀ (e : Array Mem), e.size = d.size → ∀ a b, a ≤ b → b ≤ d.size → Spec (cx gl) 221 [.slice (some ⟨b0, 0, none⟩) d.size cap, .int .i64 ((a : Nat) : Int), .int .i64 ((b : Nat) : Int), .func (.func 92) #[] #[]] (fun _ _ => True) [ownS 55 3 (.slice (some ⟨b0, 0, none⟩) d.size cap) d.size (rc (e).toList)] (fun u rs => u = .tuple #[] ∧ ∃ d' : Array Mem, PermIn a b e d' ∧ SortedIn bt a b d' ∧ rs = [ownS 55 3 (.slice (some ⟨b0, 0, none⟩) d.size cap) d.size (rc (d').toList)]) := fun e he a b h1 h2 => by have h9 := insM_ok (gl := gl) (some ⟨b0, 0, none⟩) cap e a b h1 (by omega) (by omega); rw [he] at h9; exact h9
 have hsy : ∀ (e : Array Mem), e.size = d.size → ∀ a m b, a < m → m < b → b ≤ d.size → SortedIn bt a m e → SortedIn bt m b e → Spec (cx gl) 222 [.slice (some ⟨b0, 0, none⟩) d.size cap, .int .i64 ((a : Nat) : Int), .int .i64 ((m : Nat) : Int), .int .i64 ((b : Nat) : Int), .func (.func 92) #[] #[]] (fun _ _ => True) [ownS 55 3 (.slice (some ⟨b0, 0, none⟩) d.size cap) d.size (rc (e).toList)] (fun u rs => u = .tuple #[] ∧ ∃ d' : Array Mem, (PermIn a b e d' ∧ SortedIn bt a b d') ∧ rs = [ownS 55 3 (.slice (some ⟨b0, 0, none⟩) d.size cap) d.size (rc (d').toList)]) := fun e he a m b h2 h3 h4 h5 h6 => by have h9 := sym_ok (gl := gl) (b - a) b0 cap e a m b (Nat.le_refl _) h2 h3 (by omega) (by omega) (by omega) h5 h6; rw [he] at h9; exact h9
 refine Spec.enter (C := cx gl) Tryz.func167 rfl 63 rfl rfl fun w0 h0 hsep hsub hpre => ?_
 show St (cx gl) _ [(0, .slice (some ⟨b0, 0, none⟩) d.size cap), (1, .int .i64 ((d.size : Nat) : Int)), (2, .func (.func 92) #[] #[])] _ _
 refine rT (lA (k:=?_))
 refine L_nil (qT (rT (lM (k:=lA (k:=lA (k:=?_))))))
 refine lQ (cE 0 rfl (cE 1 rfl (cE 2 rfl (cE 6 rfl (cE 7 rfl (cE 8 rfl .nil)))))) (rS (R_block ?_))
 refine R_loopE (G := Nat × Array Mem) (cE 0 rfl (cE 1 rfl (cE 2 rfl (cE 6 rfl .nil)))) (fun g => [(7, .int .i64 ((g.1 : Nat) : Int)), (8, .int .i64 ((g.1 + 20 : Nat) : Int))]) (fun g => [ownS 55 3 (.slice (some ⟨b0, 0, none⟩) d.size cap) d.size (rc (g.2).toList)]) (fun g => g.1 ≤ d.size ∧ 20 ∣ g.1 ∧ g.2.size = d.size ∧ PermIn 0 d.size d g.2 ∧ ∀ x, 20 ∣ x → x + 20 ≤ g.1 → SortedIn bt x (x + 20) g.2) (fun g => d.size - g.1) (0, d) (by show (0) ≤ d.size ∧ 20 ∣ (0) ∧ (d).size = d.size ∧ PermIn 0 d.size d (d) ∧ ∀ x, 20 ∣ x → x + 20 ≤ (0) → SortedIn bt x (x + 20) (d); exact ⟨Nat.zero_le _, ⟨0, rfl⟩, rfl, permIn_refl _ _ _, fun x _ h => by omega⟩) (by repeat (first | exact .nil | refine .cons rfl ?_ | refine .consE rfl (by first | rfl | (congr 1; omega) | (congr 1; push_cast; omega)) ?_)) (Weak.refl _) ?_
 rintro ⟨a, e⟩ hinv
 replace hinv : a ≤ d.size ∧ 20 ∣ a ∧ e.size = d.size ∧ PermIn 0 d.size d e ∧ ∀ x, 20 ∣ x → x + 20 ≤ a → SortedIn bt x (x + 20) e := hinv
 show St (cx gl) _ ((7, .int .i64 ((a : Nat) : Int)) :: (8, .int .i64 ((a + 20 : Nat) : Int)) :: _) [ownS 55 3 (.slice (some ⟨b0, 0, none⟩) d.size cap) d.size (rc (e).toList)] _
 obtain ⟨han, hdv, hes, hpe, hdo⟩ := hinv
 refine rS (rT (lM (k:=lM (k:=lP pLe (k:=?_)))))
 refine L_nil (qT ?_)
 refine R_condP rfl (fun hle => ?_) (fun hle => ?_)
 ·skip
  have hle : a + 20 ≤ d.size := by omega
  refine R_skip (qT (R_block (rT (lM (k:=lM (k:=lM (k:=lM (k:=?_))))))))
  refine lO (W_call rfl rfl rfl rfl fn_ca_221 (hin e hes a (a + 20) (by omega) (by omega)) (Split.one (p := [])) (fun _ _ _ _ _ _ _ => trivial) fun vv rs1 ⟨z1, e1, hp_e1, hs_e1, z2⟩ => ?_)
  subst z1; subst z2
  refine St.res (rs' := [ownS 55 3 (.slice (some ⟨b0, 0, none⟩) d.size cap) d.size (rc (e1).toList)]) (Weak.refl _) ?_
  refine lQ (cE 0 rfl (cE 1 rfl (cE 2 rfl (cE 6 rfl (cE 7 rfl (cE 8 rfl (cE 11 rfl (cE 12 rfl (cE 13 rfl (cE 14 rfl (cE 15 rfl (cE 16 rfl (cE 17 rfl .nil))))))))))))) (rT (lM (k:=lA (k:=?_))))
  refine L_nil (qT (rR (lM (k:=lM (k:=?_)))))
  first | (refine L_val rfl rfl rfl (OpP.v (P_addN rfl rfl rfl (by simp only [fits]; omega))) ?_) | (refine L_val rfl rfl rfl (OpP.v (P_add rfl rfl rfl)) ?_)
  refine lA (k:=?_)
  refine L_nil (Q_block ?_)
  exact Q_round (a + 20, e1) (by show (a + 20) ≤ d.size ∧ 20 ∣ (a + 20) ∧ (e1).size = d.size ∧ PermIn 0 d.size d (e1) ∧ ∀ x, 20 ∣ x → x + 20 ≤ (a + 20) → SortedIn bt x (x + 20) (e1); exact ⟨by omega, Nat.dvd_add hdv (Nat.dvd_refl _), by rw [hp_e1.1, hes], permTr hpe (permMono hp_e1 (Nat.zero_le _) (by omega) (by omega)), ins_next hdv hdo hp_e1 hs_e1⟩) (by show d.size - (a + 20) < d.size - a; omega) (by repeat (first | exact .nil | refine .cons rfl ?_ | refine .consE rfl (by first | rfl | (congr 1; omega) | (congr 1; push_cast; omega)) ?_)) (Weak.refl _)
 ·skip
  have hle : d.size < a + 20 := by omega
  refine R_exit (Q_then_exit (Q_then_exit (Q_block_eq ?_)))
  refine St.env (cE 0 rfl (cE 1 rfl (cE 2 rfl (cE 6 rfl (cE 7 rfl (cE 8 rfl .nil)))))) (qT (rT (lM (k:=lM (k:=lM (k:=lM (k:=?_)))))))
  refine lO (W_call rfl rfl rfl rfl fn_ca_221 (hin e hes a d.size (by omega) (Nat.le_refl _)) (Split.one (p := [])) (fun _ _ _ _ _ _ _ => trivial) fun vv rs1 ⟨z1, e2, hp_e2, hs_e2, z2⟩ => ?_)
  subst z1; subst z2
  refine St.res (rs' := [ownS 55 3 (.slice (some ⟨b0, 0, none⟩) d.size cap) d.size (rc (e2).toList)]) (Weak.refl _) ?_
  have hB := blk_first hdv han hle hdo hp_e2 hs_e2
  have hP2 := permTr hpe (permMono hp_e2 (Nat.zero_le _) (Nat.le_refl _) (by omega))
  refine lQ (cE 0 rfl (cE 1 rfl (cE 2 rfl (cE 6 rfl (cE 7 rfl (cE 8 rfl .nil)))))) (R_block ?_)
  refine R_loopE (G := Nat × Array Mem) (cE 0 rfl (cE 1 rfl (cE 2 rfl .nil))) (fun g => [(6, .int .i64 ((g.1 : Nat) : Int))]) (fun g => [ownS 55 3 (.slice (some ⟨b0, 0, none⟩) d.size cap) d.size (rc (g.2).toList)]) (fun g => 0 < g.1 ∧ g.1 ≤ 2 * d.size + 20 ∧ g.2.size = d.size ∧ PermIn 0 d.size d g.2 ∧ Blk g.1 d.size g.2) (fun g => d.size - g.1) (20, e2) (by show 0 < (20) ∧ (20) ≤ 2 * d.size + 20 ∧ (e2).size = d.size ∧ PermIn 0 d.size d (e2) ∧ Blk (20) d.size (e2); exact ⟨by omega, by omega, by rw [hp_e2.1, hes], hP2, hB⟩) (by repeat (first | exact .nil | refine .cons rfl ?_ | refine .consE rfl (by first | rfl | (congr 1; omega) | (congr 1; push_cast; omega)) ?_)) (Weak.refl _) ?_
  rintro ⟨z, g⟩ hinv
  replace hinv : 0 < z ∧ z ≤ 2 * d.size + 20 ∧ g.size = d.size ∧ PermIn 0 d.size d g ∧ Blk z d.size g := hinv
  show St (cx gl) _ ((6, .int .i64 ((z : Nat) : Int)) :: _) [ownS 55 3 (.slice (some ⟨b0, 0, none⟩) d.size cap) d.size (rc (g).toList)] _
  obtain ⟨hz, hzm, hgs, hpg, hBg⟩ := hinv
  refine rS (rT (lM (k:=lM (k:=lP pLt (k:=?_)))))
  refine L_nil (qT ?_)
  refine R_condP rfl (fun hlt => ?_) (fun hlt => ?_)
  ·skip
   have hlt : z < d.size := by omega
   refine R_skip (qT (R_block (rT (lM (k:=?_)))))
   first | (refine L_val rfl rfl rfl (OpP.v (P_mulN rfl rfl rfl (by simp only [fits]; omega))) ?_) | (refine L_val rfl rfl rfl (OpP.v (P_mul rfl rfl rfl)) ?_)
   refine lA (k:=lA (k:=?_))
   refine L_nil (qT (rS (R_block ?_)))
   refine R_loopE (G := Nat × Array Mem) (cE 0 rfl (cE 1 rfl (cE 2 rfl (cE 6 rfl (cE 28 rfl (cE 29 rfl (cE 30 rfl (cE 31 rfl (cE 32 rfl .nil))))))))) (fun g => [(7, .int .i64 ((g.1 : Nat) : Int)), (8, .int .i64 ((g.1 + 2 * z : Nat) : Int))]) (fun g => [ownS 55 3 (.slice (some ⟨b0, 0, none⟩) d.size cap) d.size (rc (g.2).toList)]) (fun g => g.2.size = d.size ∧ PermIn 0 d.size d g.2 ∧ Half z d.size g.1 g.2) (fun g => d.size - g.1) (0, g) (by show (g).size = d.size ∧ PermIn 0 d.size d (g) ∧ Half z d.size (0) (g); exact ⟨hgs, hpg, Half.start hBg hz⟩) (by repeat (first | exact .nil | refine .cons rfl ?_ | refine .consE rfl (by first | rfl | (congr 1; omega) | (congr 1; push_cast; omega)) ?_)) (Weak.refl _) ?_
   rintro ⟨a, h⟩ hinv
   replace hinv : h.size = d.size ∧ PermIn 0 d.size d h ∧ Half z d.size a h := hinv
   show St (cx gl) _ ((7, .int .i64 ((a : Nat) : Int)) :: (8, .int .i64 ((a + 2 * z : Nat) : Int)) :: _) [ownS 55 3 (.slice (some ⟨b0, 0, none⟩) d.size cap) d.size (rc (h).toList)] _
   obtain ⟨hhs, hph, hH⟩ := hinv
   refine rS (rT (lM (k:=lM (k:=lP pLe (k:=?_)))))
   refine L_nil (qT ?_)
   refine R_condP rfl (fun hle2 => ?_) (fun hle2 => ?_)
   ·skip
    have hle2 : a + 2 * z ≤ d.size := by omega
    refine R_skip (qT (R_block (rT (lM (k:=lM (k:=lM (k:=lM (k:=?_))))))))
    first | (refine L_val rfl rfl rfl (OpP.v (P_addN rfl rfl rfl (by simp only [fits]; omega))) ?_) | (refine L_val rfl rfl rfl (OpP.v (P_add rfl rfl rfl)) ?_)
    refine lM (k:=lM (k:=?_))
    refine lO (W_call rfl rfl rfl rfl fn_ca_222 (hsy h hhs a (a + z) (a + 2 * z) (by omega) (by omega) (by omega) (hH.left (by omega)) (hH.right (by omega) (Nat.le_refl _))) (Split.one (p := [])) (fun _ _ _ _ _ _ _ => trivial) fun vv rs1 ⟨z1, h1, ⟨hp_h1, hs_h1⟩, z2⟩ => ?_)
    subst z1; subst z2
    refine St.res (rs' := [ownS 55 3 (.slice (some ⟨b0, 0, none⟩) d.size cap) d.size (rc (h1).toList)]) (Weak.refl _) ?_
    refine lQ (cE 0 rfl (cE 1 rfl (cE 2 rfl (cE 6 rfl (cE 7 rfl (cE 8 rfl (cE 28 rfl (cE 29 rfl (cE 30 rfl (cE 31 rfl (cE 32 rfl (cE 33 rfl (cE 34 rfl (cE 35 rfl (cE 36 rfl (cE 37 rfl (cE 38 rfl (cE 39 rfl (cE 40 rfl (cE 41 rfl (cE 42 rfl .nil))))))))))))))))))))) (rT (lM (k:=lA (k:=?_))))
    refine L_nil (qT (rR (lM (k:=lM (k:=?_)))))
    first | (refine L_val rfl rfl rfl (OpP.v (P_mulN rfl rfl rfl (by simp only [fits]; omega))) ?_) | (refine L_val rfl rfl rfl (OpP.v (P_mul rfl rfl rfl)) ?_)
    first | (refine L_val rfl rfl rfl (OpP.v (P_addN rfl rfl rfl (by simp only [fits]; omega))) ?_) | (refine L_val rfl rfl rfl (OpP.v (P_add rfl rfl rfl)) ?_)
    refine lA (k:=?_)
    refine L_nil (Q_block ?_)
    exact Q_round (a + 2 * z, h1) (by show (h1).size = d.size ∧ PermIn 0 d.size d (h1) ∧ Half z d.size (a + 2 * z) (h1); exact ⟨by rw [hp_h1.1, hhs], permTr hph (permMono hp_h1 (Nat.zero_le _) (by omega) (by omega)), hH.next hz (by omega) hp_h1 hs_h1⟩) (by show d.size - (a + 2 * z) < d.size - a; omega) (by repeat (first | exact .nil | refine .cons rfl ?_ | refine .consE rfl (by first | rfl | (congr 1; omega) | (congr 1; push_cast; omega)) ?_)) (Weak.refl _)
   ·skip
    have hle2 : d.size < a + 2 * z := by omega
    have haz := hH.le
    refine R_exit (Q_then_exit (Q_then_exit (Q_block_eq (qT (rS (rT (lM (k:=lM (k:=?_)))))))))
    first | (refine L_val rfl rfl rfl (OpP.v (P_addN rfl rfl rfl (by simp only [fits]; omega))) ?_) | (refine L_val rfl rfl rfl (OpP.v (P_add rfl rfl rfl)) ?_)
    refine lA (k:=?_)
    refine L_nil (qT (rT (lM (k:=lM (k:=lP pLt (k:=?_))))))
    refine L_nil (qT ?_)
    refine R_condP rfl (fun hlt3 => ?_) (fun hlt3 => ?_)
    ·skip
     have hlt3 : a + z < d.size := by omega
     refine rR (lM (k:=lM (k:=lM (k:=lM (k:=lM (k:=?_))))))
     refine lO (W_call rfl rfl rfl rfl fn_ca_222 (hsy h hhs a (a + z) d.size (by omega) (by omega) (by omega) (hH.left (by omega)) (hH.right (by omega) (by omega))) (Split.one (p := [])) (fun _ _ _ _ _ _ _ => trivial) fun vv rs1 ⟨z1, g3, ⟨hp_g3, hs_g3⟩, z2⟩ => ?_)
     subst z1; subst z2
     refine St.res (rs' := [ownS 55 3 (.slice (some ⟨b0, 0, none⟩) d.size cap) d.size (rc (g3).toList)]) (Weak.refl _) ?_
     refine lQ (cE 0 rfl (cE 1 rfl (cE 2 rfl (cE 6 rfl (cE 7 rfl (cE 8 rfl (cE 9 rfl (cE 28 rfl (cE 29 rfl (cE 30 rfl (cE 31 rfl (cE 32 rfl (cE 33 rfl (cE 34 rfl (cE 35 rfl (cE 49 rfl (cE 50 rfl (cE 51 rfl (cE 52 rfl (cE 53 rfl (cE 54 rfl (cE 55 rfl (cE 56 rfl (cE 57 rfl (cE 58 rfl (cE 59 rfl .nil)))))))))))))))))))))))))) (rR (lM (k:=?_)))
     first | (refine L_val rfl rfl rfl (OpP.v (P_mulN rfl rfl rfl (by simp only [fits]; omega))) ?_) | (refine L_val rfl rfl rfl (OpP.v (P_mul rfl rfl rfl)) ?_)
     refine lA (k:=?_)
     refine L_nil (Q_block ?_)
     exact Q_round (z * 2, g3) (by show 0 < (z * 2) ∧ (z * 2) ≤ 2 * d.size + 20 ∧ (g3).size = d.size ∧ PermIn 0 d.size d (g3) ∧ Blk (z * 2) d.size (g3); exact ⟨by omega, by omega, by rw [hp_g3.1, hhs], permTr hph (permMono hp_g3 (Nat.zero_le _) (Nat.le_refl _) (by omega)), by rw [Nat.mul_comm]; exact hH.keep hp_g3 hs_g3 hz (by omega)⟩) (by show d.size - z * 2 < d.size - z; omega) (by repeat (first | exact .nil | refine .cons rfl ?_ | refine .consE rfl (by first | rfl | (congr 1; omega) | (congr 1; push_cast; omega)) ?_)) (Weak.refl _)
    ·skip
     have hlt3 : d.size ≤ a + z := by omega
     refine R_skip (qT (rR (lM (k:=?_))))
     first | (refine L_val rfl rfl rfl (OpP.v (P_mulN rfl rfl rfl (by simp only [fits]; omega))) ?_) | (refine L_val rfl rfl rfl (OpP.v (P_mul rfl rfl rfl)) ?_)
     refine lA (k:=?_)
     refine L_nil (Q_block ?_)
     exact Q_round (z * 2, h) (by show 0 < (z * 2) ∧ (z * 2) ≤ 2 * d.size + 20 ∧ (h).size = d.size ∧ PermIn 0 d.size d (h) ∧ Blk (z * 2) d.size (h); exact ⟨by omega, by omega, hhs, hph, by rw [Nat.mul_comm]; exact hH.full hz (by omega) (by have := hH.todo a (dvd_two hH.dv) (Nat.le_refl _); rwa [Nat.min_eq_right (by omega)] at this)⟩) (by show d.size - z * 2 < d.size - z; omega) (by repeat (first | exact .nil | refine .cons rfl ?_ | refine .consE rfl (by first | rfl | (congr 1; omega) | (congr 1; push_cast; omega)) ?_)) (Weak.refl _)
  ·skip
   have hge : d.size ≤ z := by omega
   have hfin := hBg 0 ⟨0, rfl⟩
   rw [Nat.zero_add, Nat.min_eq_right hge] at hfin
   refine R_exit (Q_then_exit (Q_then_exit (Q_block_eq ?_)))
   refine St.env (.nil) ?_
   exact R_end0 (rs2 := _) rfl rfl (.nil) (⟨rfl, _, ⟨hpg, hfin⟩, rfl⟩) (Weak.refl _)
theorem st_zero {gl : Nat → Obj} (base : Option Addr) (cap : Nat) : SpecR (cx gl) 167 [.slice base 0 cap, .int .i64 0, .func (.func 92) #[] #[]] (fun _ _ => True) [ownS 55 3 (.slice base 0 cap) 0 (rc ([] : List Mem))] (.tuple #[]) [ownS 55 3 (.slice base 0 cap) 0 (rc ([] : List Mem))] := by
 refine Spec.enter (C := cx gl) Tryz.func167 rfl 63 rfl rfl fun w0 h0 hsep hsub hpre => ?_
 show St (cx gl) _ [(0, .slice base 0 cap), (1, .int .i64 0), (2, .func (.func 92) #[] #[])] _ _
 refine rT (lA (k:=?_))
 refine L_nil (qT (rT (lM (k:=lA (k:=lA (k:=?_))))))
 refine lQ (cE 0 rfl (cE 1 rfl (cE 2 rfl (cE 6 rfl (cE 7 rfl (cE 8 rfl .nil)))))) (rS (R_block ?_))
 refine R_loopE (G := Unit) (cE 0 rfl (cE 1 rfl (cE 2 rfl (cE 6 rfl .nil)))) (fun g => [(7, .int .i64 0), (8, .int .i64 20)]) (fun g => [ownS 55 3 (.slice base 0 cap) 0 (rc ([] : List Mem))]) (fun g => True) (fun g => 0) () (trivial) (by repeat (first | exact .nil | refine .cons rfl ?_ | refine .consE rfl (by first | rfl | (congr 1; omega) | (congr 1; push_cast; omega)) ?_)) (Weak.refl _) ?_
 rintro ⟨⟩ hinv
 replace hinv : True := hinv
 show St (cx gl) _ ((7, .int .i64 0) :: (8, .int .i64 20) :: _) [ownS 55 3 (.slice base 0 cap) 0 (rc ([] : List Mem))] _
 refine rS (rT (lM (k:=lM (k:=lP pLe (k:=?_)))))
 refine L_nil (qT (kF (k:=R_exit (Q_then_exit (Q_then_exit (Q_block_eq ?_))))))
 refine St.env (cE 0 rfl (cE 1 rfl (cE 2 rfl (cE 6 rfl (cE 7 rfl (cE 8 rfl .nil)))))) (qT (rT (lM (k:=lM (k:=lM (k:=lM (k:=?_)))))))
 refine lO (W_call rfl rfl rfl rfl fn_ca_221 (insM_ok base cap (#[] : Array Mem) 0 0 (Nat.le_refl _) (Nat.le_refl _) (by decide)) (Split.one (p := [])) (fun _ _ _ _ _ _ _ => trivial) fun vv rs1 ⟨z1, e1, hp1, hs1, z2⟩ => ?_)
 subst z1; subst z2
 obtain rfl : e1 = #[] := Array.eq_empty_of_size_eq_zero hp1.1
 refine St.res (rs' := [ownS 55 3 (.slice base 0 cap) 0 (rc ([] : List Mem))]) (Weak.refl _) ?_
 refine lQ (cE 0 rfl (cE 1 rfl (cE 2 rfl (cE 6 rfl (cE 7 rfl (cE 8 rfl .nil)))))) (R_block ?_)
 refine R_loopE (G := Unit) (cE 0 rfl (cE 1 rfl (cE 2 rfl (cE 7 rfl (cE 8 rfl .nil))))) (fun g => [(6, .int .i64 20)]) (fun g => [ownS 55 3 (.slice base 0 cap) 0 (rc ([] : List Mem))]) (fun g => True) (fun g => 0) () (trivial) (by repeat (first | exact .nil | refine .cons rfl ?_ | refine .consE rfl (by first | rfl | (congr 1; omega) | (congr 1; push_cast; omega)) ?_)) (Weak.refl _) ?_
 rintro ⟨⟩ hinv
 replace hinv : True := hinv
 show St (cx gl) _ ((6, .int .i64 20) :: _) [ownS 55 3 (.slice base 0 cap) 0 (rc ([] : List Mem))] _
 refine rS (rT (lM (k:=lM (k:=lP pLt (k:=?_)))))
 refine L_nil (qT (kF (k:=R_exit (Q_then_exit (Q_then_exit (Q_block_eq ?_))))))
 refine St.env (.nil) ?_
 exact R_end0 (rs2 := _) rfl rfl (.nil) (⟨rfl, rfl⟩) (Weak.refl _)
theorem ss_pos {gl : Nat → Obj} (b0 cap : Nat) (d : Array Mem) (hsz : d.size ≤ 1000000000000) (hcap : d.size ≤ cap) : Spec (cx gl) 91 [.slice (some ⟨b0, 0, none⟩) d.size cap, .func (.func 92) #[] #[]] (fun _ _ => True) [ownS 55 3 (.slice (some ⟨b0, 0, none⟩) d.size cap) d.size (rc (d).toList)] (fun u rs => u = .tuple #[] ∧ ∃ d' : Array Mem, (PermIn 0 d.size d d' ∧ SortedIn bt 0 d.size d') ∧ rs = [ownS 55 3 (.slice (some ⟨b0, 0, none⟩) d.size cap) d.size (rc (d').toList)]) := by
 refine Spec.enter (C := cx gl) Tryz.func91 rfl 9 rfl rfl fun w0 h0 hsep hsub hpre => ?_
 show St (cx gl) _ [(0, .slice (some ⟨b0, 0, none⟩) d.size cap), (1, .func (.func 92) #[] #[])] _ _
 refine rR (lM (k:=lM (k:=lP (pL ty_sl_37) (k:=lM (k:=?_)))))
 refine lO (W_call rfl rfl rfl rfl fn_ca_167 (st_pos b0 cap d hsz hcap) (Split.one (p := [])) (fun _ _ _ _ _ _ _ => trivial) fun vv rs1 ⟨z1, e1, he1, z2⟩ => ?_)
 subst z1; subst z2
 refine St.res (rs' := [ownS 55 3 (.slice (some ⟨b0, 0, none⟩) d.size cap) d.size (rc (e1).toList)]) (Weak.refl _) ?_
 refine lE (.nil) ?_
 exact R_end0 (rs2 := _) rfl rfl (.nil) (⟨rfl, _, he1, rfl⟩) (Weak.refl _)
theorem ss_zero {gl : Nat → Obj} (base : Option Addr) (cap : Nat) : SpecR (cx gl) 91 [.slice base 0 cap, .func (.func 92) #[] #[]] (fun _ _ => True) [ownS 55 3 (.slice base 0 cap) 0 (rc ([] : List Mem))] (.tuple #[]) [ownS 55 3 (.slice base 0 cap) 0 (rc ([] : List Mem))] := by
 refine Spec.enter (C := cx gl) Tryz.func91 rfl 9 rfl rfl fun w0 h0 hsep hsub hpre => ?_
 show St (cx gl) _ [(0, .slice base 0 cap), (1, .func (.func 92) #[] #[])] _ _
 refine rR (lM (k:=lM (k:=lP (pL ty_sl_37) (k:=lM (k:=?_)))))
 refine lO (W_callR rfl rfl rfl rfl fn_ca_167 (st_zero base cap) (Split.one (p := [])) (fun _ _ _ _ _ _ _ => trivial) ?_)
 refine lE (.nil) ?_
 exact R_end0 (rs2 := _) rfl rfl (.nil) (⟨rfl, rfl⟩) (Weak.refl _)
theorem ssM_ok {gl : Nat → Obj} (base : Option Addr) (cap : Nat) (d : Array Mem) (hsz : d.size ≤ 1000000000000) : Spec (cx gl) 91 [.slice base d.size cap, .func (.func 92) #[] #[]] (fun _ _ => True) [ownS 55 3 (.slice base d.size cap) d.size (rc (d).toList)] (fun u rs => u = .tuple #[] ∧ ∃ d' : Array Mem, (PermIn 0 d.size d d' ∧ SortedIn bt 0 d.size d') ∧ rs = [ownS 55 3 (.slice base d.size cap) d.size (rc (d').toList)]) := by
 intro w h hsep sub hp
 rcases Nat.eq_zero_or_pos d.size with h0 | hpos
 ·obtain rfl : d = #[] := Array.eq_empty_of_size_eq_zero h0
  refine (ss_zero base cap w h hsep sub hp).mono ?_
  rintro e w' ⟨v, rs, h', rfl, ⟨rfl, rfl⟩, hs, mv⟩
  exact ⟨_, _, h', rfl, ⟨rfl, #[], ⟨permIn_refl _ _ _, sorted_one (by decide)⟩, rfl⟩, hs, mv⟩
 ·obtain hown := Sep.single.1 hsep
  obtain ⟨b, hb, hc⟩ : ∃ b, base = some ⟨b, 0, none⟩ ∧ d.size ≤ cap := by
   rcases hown.2 with ⟨_, h0, _⟩ | ⟨b', cap', junk, e, hc, _⟩
   ·omega
   ·simp only [Value.slice.injEq] at e; exact ⟨b', e.1, by omega⟩
  subst hb
  exact ss_pos b cap d hsz hc w h hsep sub hp
end Go.Proofs.YtcngmkjdpoiiaaaGreatDoor

/- Places, Sound. Printed by gen.py. -/
set_option maxRecDepth 100000
namespace Go.Proofs.YtcngmkjdpoiiaaaGreatDoor
open Go Go.RowKit Go.Proofs
theorem cmpI_pos (x y : Int) : 0 < cmpI x y ↔ y < x := by
 unfold cmpI; split
 ·exact ⟨fun h => absurd h (by decide), fun h => by omega⟩
 ·split
  ·exact ⟨fun _ => by assumption, fun _ => by decide⟩
  ·exact ⟨fun h => absurd h (by decide), fun h => by omega⟩
theorem laterI_pos (x y : Rel) : ¬ 0 < laterI x y ↔ laterB x y = false := by
 have h : 0 < laterI x y ↔ laterB x y = true := by
  unfold laterI laterB orI
  rw [Bool.or_eq_true, Bool.and_eq_true, decide_eq_true_eq, decide_eq_true_eq, decide_eq_true_eq]
  split
  ·rename_i h; rw [cmpI_pos]; rw [ne_eq, cmpI_zero] at h; omega
  ·rename_i h; rw [cmpI_pos]; rw [ne_eq, cmpI_zero, Classical.not_not] at h; omega
 rw [h, Bool.not_eq_true]
theorem place_neg (l : List Acc) (a : Int) : placeI l a < 0 ↔ spotB l a = false := by
 unfold placeI
 cases spotB l a with
 | true => rw [if_pos rfl]; exact ⟨fun h => by omega, fun h => by cases h⟩
 | false => rw [if_neg (by decide)]; exact ⟨fun _ => rfl, fun _ => by decide⟩
theorem lsoundE_big {l : Led} (h : 65536 < l.acc.length ∨ 65536 < l.rel.length) : lsoundE l = 86 := by unfold lsoundE; rw [if_pos h]
theorem lsoundE_acc {l : Led} (h1 : ¬ 65536 < l.acc.length) (h2 : ¬ 65536 < l.rel.length) (h : accE l.acc ≠ 0) : lsoundE l = accE l.acc := by unfold lsoundE; rw [if_neg (by omega), if_pos h]
theorem lsoundE_rel {l : Led} (h1 : ¬ 65536 < l.acc.length) (h2 : ¬ 65536 < l.rel.length) (h : accE l.acc = 0) {e : Int} (hr : relE l.acc l.rel = e) (he : e ≠ 0) : lsoundE l = e := by
 subst hr; unfold lsoundE; rw [if_neg (by omega), if_neg (by rw [h]; simp), if_pos he]
theorem lsoundE_sum {l : Led} (h1 : ¬ 65536 < l.acc.length) (h2 : ¬ 65536 < l.rel.length) (h : accE l.acc = 0) (hr : relE l.acc l.rel = 0) (hs : MS < l.sup ∨ l.burnt + sumA l.acc + sumR l.rel ≠ l.sup) : lsoundE l = 87 := by
 unfold lsoundE; rw [if_neg (by omega), if_neg (by rw [h]; simp), if_neg (by rw [hr]; simp), if_pos hs]
theorem lsoundE_fine {l : Led} (h1 : ¬ 65536 < l.acc.length) (h2 : ¬ 65536 < l.rel.length) (h : accE l.acc = 0) (hr : relE l.acc l.rel = 0) (h3 : ¬ MS < l.sup) (hs : l.burnt + sumA l.acc + sumR l.rel = l.sup) : lsoundE l = 0 := by
 unfold lsoundE; rw [if_neg (by omega), if_neg (by rw [h]; simp), if_neg (by rw [hr]; simp), if_neg (by omega)]
theorem sumC_eq {S x : Int} (h0 : 0 ≤ S) (hx : u64 x) : decide (S ≠ x) = false ↔ sumC S = [.int .u64 0, .int .u64 x] := by
 obtain ⟨h1, h2⟩ := hx
 rw [decide_eq_false_iff_not, Classical.not_not]
 unfold sumC
 simp only [List.cons.injEq, Value.int.injEq, true_and, and_true]
 omega
theorem sumC_kind (S x : Int) : ∀ (i : Nat) (u v : Value), (sumC S)[i]? = some u → ([.int .u64 0, .int .u64 x] : List Value)[i]? = some v → ∃ k a b, u = .int k a ∧ v = .int k b
 | 0, _, _, h, h' => by cases h; cases h'; exact ⟨_, _, _, rfl, rfl⟩
 | 1, _, _, h, h' => by cases h; cases h'; exact ⟨_, _, _, rfl, rfl⟩
 | _ + 2, _, _, h, _ => by cases h
theorem spot1_ok {gl : Nat → Obj} (x : Acc) (a : Int) : SpecV (cx gl) 177 [.agg x.cells.toArray, .int .u64 a] noPre (.int .i64 (cmpI x.a a)) := by
 refine Spec.enter (C := cx gl) Tryz.func177 rfl 9 rfl rfl fun w0 h0 hsep hsub hpre => ?_
 obtain rfl : h0 = Heap.none := hsep
 show St (cx gl) _ [(0, .agg x.cells.toArray), (1, .int .u64 a)] _ _
 refine rT ?_
 refine lO (W_box (x.cells) rfl rfl rfl rfl rfl fun b2 => lA (k:=?_))
 refine lQ (cE 1 rfl (cE 2 rfl (cE 4 rfl .nil))) (rT (lP (pF ty_fl_50_0) (k:=lV (vB ty_sc_26 .h0) (k:=lM (k:=?_)))))
 refine lO (W_callV rfl rfl rfl rfl fn_ca_95 (cmpa_ok _ _) (fun _ _ => trivial) (lA (k:=?_)))
 refine lQ (cE 4 rfl .nil) (R_ret ?_)
 exact R_endV rfl rfl (.tmp rfl .nil) (rfl)
theorem bsA_ok {gl : Nat → Obj} (a : Int) (base : Option Addr) (c : Nat) (l : List Acc) (hc : l.length ≤ c) (hm : l.length ≤ 3518437208883) : SpecV (cx gl) 176 [.slice base l.length c, .int .u64 a, .func (.func 177) #[] #[]] (fun w => Row w base (rc l)) (.tuple #[.int .i64 (spotI l a), .bool (spotB l a)]) := by
 refine Spec.enter (C := cx gl) Tryz.func176 rfl 49 rfl rfl fun w0 h0 hsep hsub hpre => ?_
 obtain rfl : h0 = Heap.none := hsep
 show St (cx gl) _ [(0, .slice base l.length c), (1, .int .u64 a), (2, .func (.func 177) #[] #[])] _ _
 refine rT (lA (k:=lA (k:=?_)))
 refine L_nil (qT (rT (lM (k:=lP (pL ty_sl_22) (k:=lA (k:=?_))))))
 refine lQ (cE 0 rfl (cE 1 rfl (cE 2 rfl (cE 6 rfl (cE 7 rfl (cE 8 rfl .nil)))))) (rT (lM (k:=lA (k:=lA (k:=?_)))))
 refine lQ (cE 0 rfl (cE 1 rfl (cE 2 rfl (cE 6 rfl (cE 7 rfl (cE 8 rfl (cE 9 rfl (cE 10 rfl .nil)))))))) (rS (R_block ?_))
 refine R_loopE (G := Nat × Nat) (cE 0 rfl (cE 1 rfl (cE 2 rfl (cE 6 rfl (cE 7 rfl (cE 8 rfl .nil)))))) (fun g => [(9, .int .i64 ((g.1 : Nat) : Int)), (10, .int .i64 ((g.2 : Nat) : Int))]) (fun _ => _) (fun g => g.1 ≤ g.2 ∧ g.2 ≤ l.length ∧ spotI l a = bsN (fun i => decide ((accAt l i).a < a)) g.1 g.2) (fun g => g.2 - g.1) (0, l.length) (by show (0) ≤ (l.length) ∧ (l.length) ≤ l.length ∧ spotI l a = bsN (fun i => decide ((accAt l i).a < a)) (0) (l.length); exact ⟨Nat.zero_le _, Nat.le_refl _, rfl⟩) (by repeat (first | exact .nil | refine .cons rfl ?_ | refine .consE rfl (by first | rfl | (congr 1; omega) | (congr 1; push_cast; omega)) ?_)) (Weak.refl _) ?_
 rintro ⟨lo, hi⟩ hinv
 replace hinv : lo ≤ hi ∧ hi ≤ l.length ∧ spotI l a = bsN (fun i => decide ((accAt l i).a < a)) lo hi := hinv
 show St (cx gl) _ ((9, .int .i64 ((lo : Nat) : Int)) :: (10, .int .i64 ((hi : Nat) : Int)) :: _) _ _
 obtain ⟨h1, h2, h3⟩ := hinv
 refine rS (rT (lM (k:=lM (k:=lP pLt (k:=?_)))))
 refine L_nil (qT ?_)
 refine R_condP rfl (fun hlt => ?_) (fun hlt => ?_)
 ·skip
  have hx := accAt_get (l := l) (i := (lo + hi) / 2) (by omega)
  obtain ⟨pb, pj, rfl, hrow⟩ := hpre.some_ (by rw [rc_length]; show 0 < _ * 5; omega)
  refine R_skip (qT (R_block (rT (lM (k:=lM (k:=?_))))))
  first | (refine L_val rfl rfl rfl (OpP.v (P_addN rfl rfl rfl (by simp only [fits]; omega))) ?_) | (refine L_val rfl rfl rfl (OpP.v (P_add rfl rfl rfl)) ?_)
  first | (refine L_val rfl rfl rfl (OpP.v (P_convN rfl ty_int_3 ty_int_271 rfl (by simp only [fits]; omega))) ?_) | (refine L_val rfl rfl rfl (OpP.v (P_conv rfl ty_int_3 ty_int_271 rfl)) ?_)
  refine lP (P_shr rfl rfl rfl (by omega)) (k:=?_)
  refine E_as (t := 22) (v' := .int .u64 (((lo + hi) / 2 : Nat) : Int)) rfl (by have h9 := half_nat (lo + hi); push_cast at h9 ⊢; rw [h9]) ?_
  first | (refine L_val rfl rfl rfl (OpP.v (P_convN rfl ty_int_271 ty_int_3 rfl (by simp only [fits]; omega))) ?_) | (refine L_val rfl rfl rfl (OpP.v (P_conv rfl ty_int_271 ty_int_3 rfl)) ?_)
  refine lA (k:=?_)
  refine L_nil (qT (rT (lM (k:=lM (k:=lM (k:=?_))))))
  refine lP (P_ixs ((lo + hi) / 2) rfl ty_sl_22 rfl rfl (by first | rfl | omega) (by omega)) (k:=?_)
  refine lV (V_loadAgg rfl rfl ty_ag_50 (rds_rc (Rds.row hrow rfl) hx) (rfl)) (k:=lM (k:=?_))
  refine lO (W_callFV (fi := []) (ca := []) rfl rfl rfl rfl rfl rfl fn_ca_177 (spot1_ok (accAt l ((lo + hi) / 2)) a) (fun _ _ => trivial) (lP pLt (k:=?_)))
  refine L_nil (qT ?_)
  refine R_condP rfl (fun hb => ?_) (fun hb => ?_)
  ·skip
   refine rR (lM (k:=?_))
   first | (refine L_val rfl rfl rfl (OpP.v (P_addN rfl rfl rfl (by simp only [fits]; omega))) ?_) | (refine L_val rfl rfl rfl (OpP.v (P_add rfl rfl rfl)) ?_)
   refine lA (k:=?_)
   refine L_nil (Q_block ?_)
   exact Q_round ((lo + hi) / 2 + 1, hi) (by show ((lo + hi) / 2 + 1) ≤ (hi) ∧ (hi) ≤ l.length ∧ spotI l a = bsN (fun i => decide ((accAt l i).a < a)) ((lo + hi) / 2 + 1) (hi); exact ⟨by omega, h2, by rw [h3]; exact bsN_up (by omega) (decide_eq_true ((cmpI_neg _ _).1 hb))⟩) (by show hi - ((lo + hi) / 2 + 1) < hi - lo; omega) (by repeat (first | exact .nil | refine .cons rfl ?_ | refine .consE rfl (by first | rfl | (congr 1; omega) | (congr 1; push_cast; omega)) ?_)) (Weak.refl _)
  ·skip
   refine rR (lM (k:=lA (k:=?_)))
   refine L_nil (Q_block ?_)
   exact Q_round (lo, (lo + hi) / 2) (by show (lo) ≤ ((lo + hi) / 2) ∧ ((lo + hi) / 2) ≤ l.length ∧ spotI l a = bsN (fun i => decide ((accAt l i).a < a)) (lo) ((lo + hi) / 2); exact ⟨by omega, by omega, by rw [h3]; exact bsN_down (by omega) (decide_eq_false fun h9 => hb ((cmpI_neg _ _).2 h9))⟩) (by show (lo + hi) / 2 - lo < hi - lo; omega) (by repeat (first | exact .nil | refine .cons rfl ?_ | refine .consE rfl (by first | rfl | (congr 1; omega) | (congr 1; push_cast; omega)) ?_)) (Weak.refl _)
 ·skip
  have hin : hi = lo := by omega
  have hsp : spotI l a = lo := by rw [h3]; exact bsN_end (by omega)
  refine R_exit (Q_then_exit (Q_then_exit (Q_block_eq ?_)))
  refine St.env (cE 0 rfl (cE 1 rfl (cE 2 rfl (cE 6 rfl (cE 7 rfl (cE 8 rfl (cE 9 rfl .nil))))))) (qT (rT (lM (k:=lM (k:=lM (k:=lP pLt (k:=?_)))))))
  refine E_bool (t := 38) rfl (fun hl2 => ?_) (fun hl2 => ?_)
  ·skip
   have hl2 : lo < l.length := by have := of_decide_eq_true hl2; omega
   have hx := accAt_get hl2
   obtain ⟨pb, pj, rfl, hrow⟩ := hpre.some_ (by rw [rc_length]; show 0 < _ * 5; omega)
   refine lM (k:=lM (k:=lM (k:=lM (k:=?_))))
   refine lP (P_ixs (lo) rfl ty_sl_22 rfl rfl (by first | rfl | omega) (by omega)) (k:=?_)
   refine lV (V_loadAgg rfl rfl ty_ag_50 (rds_rc (Rds.row hrow rfl) hx) (rfl)) (k:=lM (k:=?_))
   refine lO (W_callFV (fi := []) (ca := []) rfl rfl rfl rfl rfl rfl fn_ca_177 (spot1_ok (accAt l lo) a) (fun _ _ => trivial) (lP pEq (k:=lP pK (k:=lA (k:=lA (k:=?_))))))
   refine lQ (cE 6 rfl (cE 7 rfl .nil)) (R_ret ?_)
   exact R_endV rfl rfl (.tmp rfl (.tmp rfl .nil)) (by unfold spotB; rw [hsp]; first | (rw [decide_eq_false hl2]; rfl) | (rw [decide_eq_true hl2, Bool.true_and, show decide ((accAt l lo).a = a) = decide (cmpI (accAt l lo).a a = 0) from decide_eq_decide.2 (cmpI_zero _ _).symm]; rfl))
  ·skip
   have hl2 : ¬ lo < l.length := by have := of_decide_eq_false hl2; omega
   refine lM (k:=lN (k:=lN (k:=lN (k:=lN (k:=lN (k:=lN (k:=lN (k:=lN (k:=lP pK (k:=lA (k:=lA (k:=?_))))))))))))
   refine lQ (cE 6 rfl (cE 7 rfl .nil)) (R_ret ?_)
   exact R_endV rfl rfl (.tmp rfl (.tmp rfl .nil)) (by unfold spotB; rw [hsp]; first | (rw [decide_eq_false hl2]; rfl) | (rw [decide_eq_true hl2, Bool.true_and, show decide ((accAt l lo).a = a) = decide (cmpI (accAt l lo).a a = 0) from decide_eq_decide.2 (cmpI_zero _ _).symm]; rfl))
theorem spot_ok {gl : Nat → Obj} (base : Option Addr) (c : Nat) (l : List Acc) (hc : l.length ≤ c) (hm : l.length ≤ 3518437208883) (r : Value) (hr : r.oneCell' = true) (bu su a : Int) : SpecV (cx gl) 99 [.agg (ledV (.slice base l.length c) r bu su).toArray, .int .u64 a] (fun w => Row w base (rc l)) (.tuple #[.int .i64 (spotI l a), .bool (spotB l a)]) := by
 refine Spec.enter (C := cx gl) Tryz.func99 rfl 12 rfl rfl fun w0 h0 hsep hsub hpre => ?_
 obtain rfl : h0 = Heap.none := hsep
 show St (cx gl) _ [(0, .agg (ledV (.slice base l.length c) r bu su).toArray), (1, .int .u64 a)] _ _
 refine rT ?_
 refine lO (W_box (ledV (.slice base l.length c) r bu su) rfl rfl rfl rfl rfl fun b2 => lA (k:=lA (k:=?_)))
 refine lQ (cE 1 rfl (cE 2 rfl (cE 4 rfl (cE 5 rfl .nil)))) (rT (lP (pF ty_fl_30_0) (k:=lV (vB ty_sc_22 .h0) (k:=lM (k:=?_)))))
 refine lO (W_callV rfl rfl rfl rfl fn_ca_176 (bsA_ok a base c l hc hm) (fun w nw => (Sn.row hpre rfl).rw_ w nw) (lP pX (k:=lP pX (k:=lA (k:=lA (k:=?_))))))
 refine lQ (cE 4 rfl (cE 5 rfl .nil)) (R_ret ?_)
 exact R_endV rfl rfl (.tmp rfl (.tmp rfl .nil)) (rfl)
theorem place_ok {gl : Nat → Obj} (base : Option Addr) (c : Nat) (l : List Acc) (hc : l.length ≤ c) (hm : l.length ≤ 3518437208883) (r : Value) (hr : r.oneCell' = true) (bu su a : Int) : SpecV (cx gl) 83 [.agg (ledV (.slice base l.length c) r bu su).toArray, .int .u64 a] (fun w => Row w base (rc l)) (.int .i64 (placeI l a)) := by
 refine Spec.enter (C := cx gl) Tryz.func83 rfl 15 rfl rfl fun w0 h0 hsep hsub hpre => ?_
 obtain rfl : h0 = Heap.none := hsep
 show St (cx gl) _ [(0, .agg (ledV (.slice base l.length c) r bu su).toArray), (1, .int .u64 a)] _ _
 refine rT ?_
 refine lO (W_box (ledV (.slice base l.length c) r bu su) rfl rfl rfl rfl rfl fun b2 => lA (k:=?_))
 refine lQ (cE 1 rfl (cE 2 rfl (cE 4 rfl .nil))) (rS (rT (lV (vG ty_ag_30 .h0) (k:=lM (k:=?_)))))
 refine lO (W_callV rfl rfl rfl rfl fn_ca_99 (spot_ok base c l hc hm r hr bu su a) (fun w nw => (Sn.row hpre rfl).rw_ w nw) (lM (k:=lP pX (k:=lP pX (k:=lA (k:=lA (k:=?_)))))))
 refine lQ (cE 4 rfl (cE 5 rfl (cE 6 rfl .nil))) (rT (lM (k:=?_)))
 refine lQ (cE 4 rfl (cE 5 rfl (cE 13 rfl .nil))) ?_
 refine R_cond rfl (fun hb => ?_) (fun hb => ?_)
 ·skip
  refine rT (lM (k:=lA (k:=?_)))
  refine lQ (cE 4 rfl .nil) (R_ret (Q_then_ret ?_))
  exact R_endV rfl rfl (.tmp rfl .nil) (by unfold placeI; rw [if_pos hb]; rfl)
 ·skip
  refine R_skip (qT (rT (lA (k:=?_))))
  refine lQ (cE 4 rfl .nil) (R_ret ?_)
  exact R_endV rfl rfl (.tmp rfl .nil) (by unfold placeI; rw [if_neg (by rw [hb]; decide)]; rfl)
theorem se_sum : seB Tryz.prog 169 2 = true := by kernel_rfl
theorem lsound_ok {gl : Nat → Obj} (base : Option Addr) (c : Nat) (l : List Acc) (hc : l.length ≤ c)(hok : ∀ x ∈ l, x.ok)(base' : Option Addr) (c' : Nat) (r : List Rel) (hc' : r.length ≤ c') (hok' : ∀ x ∈ r, x.ok) (bu su : Int) (hbu : u64 bu) (hsu : u64 su) : SpecV (cx gl) 69 [.agg (ledV (.slice base l.length c) (.slice base' r.length c') bu su).toArray] (fun w => Row w base (rc l) ∧ Row w base' (rc r)) (.int .i64 (lsoundE ⟨l, r, bu, su⟩)) := by
 refine Spec.enter (C := cx gl) Tryz.func69 rfl 98 rfl rfl fun w0 h0 hsep hsub hpre => ?_
 obtain rfl : h0 = Heap.none := hsep
 show St (cx gl) _ [(0, .agg (ledV (.slice base l.length c) (.slice base' r.length c') bu su).toArray)] _ _
 have hms : MS = 1152921504606846975 := rfl
 refine rT ?_
 refine lO (W_box (_) rfl rfl rfl rfl rfl fun b1 => lA (k:=?_))
 refine lQ (cE 1 rfl (cE 2 rfl .nil)) (rS (rT (lP (pF ty_fl_30_0) (k:=?_))))
 refine lV (V_load rfl rfl ty_sc_22 (by first | exact Rd.blk .h0 rfl | exact Rd.blk .h1 rfl | exact Rd.blk .h2 rfl | exact Rd.blk .h3 rfl | exact Rd.blk .h4 rfl | exact Rd.blk .h5 rfl | exact Rd.blk .h6 rfl | exact Rd.blk .h7 rfl)) (k:=lP (pL ty_sl_22) (k:=lP pGt (k:=?_)))
 refine E_bool (t := 10) rfl (fun hA => ?_) (fun hA => ?_)
 ·skip
  have hA := of_decide_eq_true hA
  refine lM (k:=lN (k:=lN (k:=lN (k:=lN (k:=lP pK (k:=?_))))))
  refine lQ (cE 1 rfl (cE 2 rfl (cE 16 rfl .nil))) (kT (k:=rT (lA (k:=?_))))
  refine lQ (cE 1 rfl (cE 2 rfl .nil)) (R_ret (Q_then_ret ?_))
  exact R_endV rfl rfl (.tmp rfl .nil) (by rw [show lsoundE ⟨l, r, bu, su⟩ = 86 from lsoundE_big (by show 65536 < l.length ∨ 65536 < r.length; omega)]; rfl)
 ·skip
  have hA := of_decide_eq_false hA
  have hA : ¬ 65536 < l.length := by omega
  refine lM (k:=lP (pF ty_fl_30_1) (k:=?_))
  refine lV (V_load rfl rfl ty_sc_28 (by first | exact Rd.blk .h0 rfl | exact Rd.blk .h1 rfl | exact Rd.blk .h2 rfl | exact Rd.blk .h3 rfl | exact Rd.blk .h4 rfl | exact Rd.blk .h5 rfl | exact Rd.blk .h6 rfl | exact Rd.blk .h7 rfl)) (k:=lP (pL ty_sl_28) (k:=lP pGt (k:=lP pK (k:=?_))))
  refine lQ (cE 1 rfl (cE 2 rfl (cE 16 rfl .nil))) ?_
  refine R_condP rfl (fun hB => ?_) (fun hB => ?_)
  ·skip
   refine rT (lA (k:=?_))
   refine lQ (cE 1 rfl (cE 2 rfl .nil)) (R_ret (Q_then_ret ?_))
   exact R_endV rfl rfl (.tmp rfl .nil) (by rw [show lsoundE ⟨l, r, bu, su⟩ = 86 from lsoundE_big (by show 65536 < l.length ∨ 65536 < r.length; omega)]; rfl)
  ·skip
   have hB : ¬ 65536 < r.length := by omega
   refine R_skip (qT (rT (lP (pF ty_fl_30_0) (k:=?_))))
   refine lV (V_load rfl rfl ty_sc_22 (by first | exact Rd.blk .h0 rfl | exact Rd.blk .h1 rfl | exact Rd.blk .h2 rfl | exact Rd.blk .h3 rfl | exact Rd.blk .h4 rfl | exact Rd.blk .h5 rfl | exact Rd.blk .h6 rfl | exact Rd.blk .h7 rfl)) (k:=?_)
   refine lO (W_callV rfl rfl rfl rfl fn_ca_78 (soundAcc_ok base c l hc (by omega) hok) (fun w nw => (Sn.row hpre.1 rfl).rw_ w nw) ?_)
   rw [show soundV l = .tuple #[.agg (sumC (if accE l = 0 then sumA l else 0)).toArray, .int .i64 (accE l)] from rfl]
   refine lM (k:=lP pX (k:=lP pX (k:=?_)))
   refine lO (W_alloc rfl rfl rfl ty_ze_169 fun b3 => ?_)
   refine lO (W_storeAll rfl rfl rfl rfl ty_ag_169 (rfl) (sumC_one _) .h0 (rfl) (lA (k:=?_)))
   refine lQ (cE 1 rfl (cE 2 rfl (cE 3 rfl (cE 4 rfl .nil)))) (rS (rT (lM (k:=lP pNe (k:=?_)))))
   refine lQ (cE 1 rfl (cE 2 rfl (cE 3 rfl (cE 4 rfl (cE 24 rfl .nil))))) ?_
   refine R_condP rfl (fun he => ?_) (fun he => ?_)
   ·skip
    refine rT (lM (k:=lA (k:=?_)))
    refine lQ (cE 1 rfl (cE 2 rfl (cE 3 rfl .nil))) (R_ret (Q_then_ret ?_))
    exact R_endV rfl rfl (.tmp rfl .nil) (by rw [show lsoundE ⟨l, r, bu, su⟩ = accE l from lsoundE_acc hA hB he]; rfl)
   ·skip
    have he : accE l = 0 := Classical.not_not.1 he
    have hSn := sumA_nn hok
    have hS := sumA_le l.length (Nat.le_refl _) he
    rw [List.take_length, hms] at hS
    rw [if_pos he]
    refine R_skip (qT (rS (rT (lP (pF ty_fl_30_1) (k:=?_)))))
    refine lV (V_load rfl rfl ty_sc_28 (by first | exact Rd.blk .h0 rfl | exact Rd.blk .h1 rfl | exact Rd.blk .h2 rfl | exact Rd.blk .h3 rfl | exact Rd.blk .h4 rfl | exact Rd.blk .h5 rfl | exact Rd.blk .h6 rfl | exact Rd.blk .h7 rfl)) (k:=lP (pL ty_sl_28) (k:=lM (k:=?_)))
    refine lQ (cE 1 rfl (cE 2 rfl (cE 3 rfl (cE 27 rfl (cE 28 rfl (cE 29 rfl .nil)))))) (R_block ?_)
    refine R_loopE (G := Nat) (cE 1 rfl (cE 2 rfl (cE 3 rfl (cE 27 rfl (cE 28 rfl .nil))))) (fun g => [(29, .int .i64 (g : Int))]) (fun g => [blk b3 (sumC (sumA l + sumR (r.take g))) 169, blk b1 (ledV (.slice base l.length c) (.slice base' r.length c') bu su) 30]) (fun g => g ≤ r.length ∧ firstE (relBad l r) g = 0) (fun g => r.length - g) (0) (by show (0) ≤ r.length ∧ firstE (relBad l r) (0) = 0; exact ⟨Nat.zero_le _, rfl⟩) (by repeat (first | exact .nil | refine .cons rfl ?_ | refine .consE rfl (by first | rfl | (congr 1; omega) | (congr 1; push_cast; omega)) ?_)) (by rw [show sumR (r.take 0) = 0 from rfl, Int.add_zero]; exact Weak.refl _) ?_
    intro i hinv
    replace hinv : i ≤ r.length ∧ firstE (relBad l r) i = 0 := hinv
    show St (cx gl) _ ((29, .int .i64 (i : Int)) :: _) [blk b3 (sumC (sumA l + sumR (r.take i))) 169, blk b1 (ledV (.slice base l.length c) (.slice base' r.length c') bu su) 30] _
    obtain ⟨hi, h0⟩ := hinv
    refine rT (lP pLt (k:=?_))
    refine L_nil (qT (rS ?_))
    refine R_condP rfl (fun hlt => ?_) (fun hlt => ?_)
    ·skip
     have hx0 := relAt_get (l := r) (i := i) (by omega)
     obtain ⟨x, ex⟩ : ∃ x, x = relAt r i := ⟨_, rfl⟩
     have hx : r[i]? = some x := by rw [ex]; exact hx0
     obtain ⟨pb, pj, rfl, hrow⟩ := hpre.2.some_ (by rw [rc_length]; show 0 < _ * 4; omega)
     obtain ⟨hx1, hx2, hx3, hx4⟩ := hok' x (List.mem_of_getElem? hx)
     have hR := sumR_le i hi h0
     rw [hms] at hR
     have hRn : 0 ≤ sumR (r.take i) := sumR_nn fun y hy => hok' y (List.mem_of_mem_take hy)
     refine R_skip (qT (rS (R_block (rT (lM (k:=?_))))))
     refine lP (P_ixs (i) rfl ty_sl_28 rfl rfl (by first | rfl | omega) (by omega)) (k:=?_)
     refine lV (V_loadAgg rfl rfl ty_ag_175 (rds_rc (Rds.row hrow rfl) hx) (rfl)) (k:=?_)
     refine lO (W_alloc rfl rfl rfl ty_ze_175 fun b6 => lA (k:=?_))
     refine lO (W_storeAll rfl rfl rfl rfl ty_ag_175 (rfl) (Rec.one x) .h0 (rfl) ?_)
     refine L_nil (qT (rS (R_block (rT (lV (vG ty_ag_30 .h2) (k:=lP (pF ty_fl_175_1) (k:=lV (vB ty_sc_26 .h0) (k:=?_))))))))
     refine lO (W_callV rfl rfl rfl rfl fn_ca_83 (place_ok base c l hc (by omega) _ rfl bu su x.a) (fun w nw => (Sn.row hpre.1 rfl).rw_ w nw) (lP pLt (k:=lA (k:=?_))))
     refine L_nil (qT ?_)
     refine R_condP rfl (fun hp => ?_) (fun hp => ?_)
     ·skip
      have hpt := (place_neg _ _).1 hp
      refine rT (lA (k:=?_))
      refine L_nil (qT (R_ret (Q_block_ret (Q_then_ret (Q_block_ret (Q_then_ret (Q_then_ret (Q_block_ret (Q_then_ret ?_)))))))))
      exact R_endV rfl rfl (.tmp rfl .nil) (by rw [show lsoundE ⟨l, r, bu, su⟩ = 85 from lsoundE_rel hA hB he (firstE_hit h0 (show relBad l r i = 85 by unfold relBad; rw [← ex]; rw [if_pos hpt]) (by decide) (show i < r.length by omega)) (by decide)]; rfl)
     ·skip
      have hpt : spotB l x.a = true := by cases h9 : spotB l x.a with | true => rfl | false => exact absurd ((place_neg _ _).2 h9) hp
      refine rT (lP (pF ty_fl_175_2) (k:=lV (vB ty_sc_23 .h0) (k:=lP pGt (k:=?_))))
      refine E_bool (t := 43) rfl (fun q1 => ?_) (fun q1 => ?_)
      ·skip
       have q1 := of_decide_eq_true q1
       refine lM (k:=lN (k:=lN (k:=lN (k:=lN (k:=lN (k:=lP pK (k:=lM (k:=lN (k:=lN (k:=lN (k:=lP pK (k:=lA (k:=?_)))))))))))))
       refine L_nil (qT (kT (k:=rT (lA (k:=?_)))))
       refine L_nil (qT (R_ret (Q_block_ret (Q_then_ret (Q_block_ret (Q_then_ret (Q_then_ret (Q_block_ret (Q_then_ret ?_)))))))))
       exact R_endV rfl rfl (.tmp rfl .nil) (by rw [show lsoundE ⟨l, r, bu, su⟩ = 2 from lsoundE_rel hA hB he (firstE_hit h0 (show relBad l r i = 2 by unfold relBad; rw [← ex]; rw [if_neg (by rw [hpt]; decide), if_pos (by omega)]) (by decide) (show i < r.length by omega)) (by decide)]; rfl)
      ·skip
       have q1 := of_decide_eq_false q1
       refine lM (k:=lP (pF ty_fl_175_0) (k:=lV (vB ty_sc_23 .h0) (k:=lP (pF ty_fl_175_2) (k:=lV (vB ty_sc_23 .h0) (k:=lP pLt (k:=?_))))))
       refine E_bool (t := 49) rfl (fun q2 => ?_) (fun q2 => ?_)
       ·skip
        have q2 := of_decide_eq_true q2
        refine lP pK (k:=lM (k:=lN (k:=lN (k:=lN (k:=lP pK (k:=lA (k:=?_)))))))
        refine L_nil (qT (kT (k:=rT (lA (k:=?_)))))
        refine L_nil (qT (R_ret (Q_block_ret (Q_then_ret (Q_block_ret (Q_then_ret (Q_then_ret (Q_block_ret (Q_then_ret ?_)))))))))
        exact R_endV rfl rfl (.tmp rfl .nil) (by rw [show lsoundE ⟨l, r, bu, su⟩ = 2 from lsoundE_rel hA hB he (firstE_hit h0 (show relBad l r i = 2 by unfold relBad; rw [← ex]; rw [if_neg (by rw [hpt]; decide), if_pos (by omega)]) (by decide) (show i < r.length by omega)) (by decide)]; rfl)
       ·skip
        have q2 := of_decide_eq_false q2
        refine lP pK (k:=lM (k:=lP (pF ty_fl_175_0) (k:=lV (vB ty_sc_23 .h0) (k:=lP pGt (k:=lP pK (k:=lA (k:=?_)))))))
        refine L_nil (qT ?_)
        refine R_condP rfl (fun q3 => ?_) (fun q3 => ?_)
        ·skip
         refine rT (lA (k:=?_))
         refine L_nil (qT (R_ret (Q_block_ret (Q_then_ret (Q_block_ret (Q_then_ret (Q_then_ret (Q_block_ret (Q_then_ret ?_)))))))))
         exact R_endV rfl rfl (.tmp rfl .nil) (by rw [show lsoundE ⟨l, r, bu, su⟩ = 2 from lsoundE_rel hA hB he (firstE_hit h0 (show relBad l r i = 2 by unfold relBad; rw [← ex]; rw [if_neg (by rw [hpt]; decide), if_pos (by omega)]) (by decide) (show i < r.length by omega)) (by decide)]; rfl)
        ·skip
         refine rS ?_
         refine R_open [(0, 0), (1, 0), (2, 0), (3, 1), (4, 0), (5, 1), (6, 0), (7, 0), (8, 0), (9, 1), (10, 2), (11, 0), (12, 0), (13, 0)] mixed (by kernel_rfl) (QOk.then (QOk.block (QOk.then (QOk.block (QOk.then (QOk.then (QOk.block (QOk.then QOk.body)))))))) (oP rfl pM (k:=oP rfl pGt (k:=?_)))
         refine E_bool (t := 58) rfl (fun q4 => ?_) (fun q4 => ?_)
         ·skip
          have q4 : 0 < i := by have := of_decide_eq_true q4; omega
          obtain ⟨y, ey⟩ : ∃ y, y = relAt r (i - 1) := ⟨_, rfl⟩
          have hy : r[i - 1]? = some y := by rw [ey]; exact relAt_get (by omega)
          refine oP rfl pM (k:=oV rfl (vG ty_ag_175 .h0) (k:=oP rfl (pF ty_fl_30_1) (k:=oV rfl (vB ty_sc_28 .h2) (k:=oP rfl pM (k:=?_)))))
          first | (refine O_pure rfl rfl rfl rfl (P_subN rfl rfl rfl (by simp only [fits]; omega)) ?_) | (refine O_pure rfl rfl rfl rfl (P_sub rfl rfl rfl) ?_)
          refine oP rfl (P_ixs (i - 1) rfl ty_sl_28 rfl rfl (by first | rfl | omega) (by omega)) (k:=?_)
          refine oV rfl (V_loadAgg rfl rfl ty_ag_175 (rds_rc (Rds.row hrow rfl) hy) (rfl)) (k:=?_)
          refine O_keep rfl rfl (W_callV rfl rfl rfl rfl fn_ca_156 (later_ok x y) (fun _ _ => trivial) (K_keep (Weak.refl _) (oP rfl pLe (k:=oP rfl pK (k:=oP rfl pA (k:=O_nil (qT ?_)))))))
          refine R_condP rfl (fun q5 => ?_) (fun q5 => ?_)
          ·skip
           have q5 : laterB x y = false := (laterI_pos x y).1 (by omega)
           refine rT (lA (k:=?_))
           refine L_nil (qT (R_ret (Q_block_ret (Q_then_ret (Q_block_ret (Q_then_ret (Q_then_ret (Q_block_ret (Q_then_ret ?_)))))))))
           exact R_endV rfl rfl (.tmp rfl .nil) (by rw [show lsoundE ⟨l, r, bu, su⟩ = 42 from lsoundE_rel hA hB he (firstE_hit h0 (show relBad l r i = 42 by unfold relBad; rw [← ex]; rw [if_neg (by rw [hpt]; decide), if_neg (by omega), if_pos ⟨q4, by rw [← ey]; exact q5⟩]) (by decide) (show i < r.length by omega)) (by decide)]; rfl)
          ·skip
           have hno : ¬ (0 < i ∧ laterB x (relAt r (i - 1)) = false) := fun h9 => q5 (by have := (laterI_pos x (relAt r (i - 1))).2 h9.2; rw [← ey] at this; omega)
           refine rT (lP (pF ty_fl_175_3) (k:=lV (vB ty_sc_23 .h0) (k:=lP pEq (k:=?_))))
           refine E_bool (t := 73) rfl (fun q6 => ?_) (fun q6 => ?_)
           ·skip
            have q6 := of_decide_eq_true q6
            refine lM (k:=lN (k:=lN (k:=lN (k:=lP pK (k:=lA (k:=?_))))))
            refine L_nil (qT (kT (k:=rT (lA (k:=?_)))))
            refine L_nil (qT (R_ret (Q_block_ret (Q_then_ret (Q_block_ret (Q_then_ret (Q_then_ret (Q_block_ret (Q_then_ret ?_)))))))))
            exact R_endV rfl rfl (.tmp rfl .nil) (by rw [show lsoundE ⟨l, r, bu, su⟩ = 87 from lsoundE_rel hA hB he (firstE_hit h0 (show relBad l r i = 87 by unfold relBad; rw [← ex]; rw [if_neg (by rw [hpt]; decide), if_neg (by omega), if_neg hno, if_pos (by omega)]) (by decide) (show i < r.length by omega)) (by decide)]; rfl)
           ·skip
            have q6 := of_decide_eq_false q6
            refine lM (k:=lP (pF ty_fl_175_3) (k:=lV (vB ty_sc_23 .h0) (k:=lP pGt (k:=lP pK (k:=lA (k:=?_))))))
            refine L_nil (qT ?_)
            refine R_condP rfl (fun q7 => ?_) (fun q7 => ?_)
            ·skip
             refine rT (lA (k:=?_))
             refine L_nil (qT (R_ret (Q_block_ret (Q_then_ret (Q_block_ret (Q_then_ret (Q_then_ret (Q_block_ret (Q_then_ret ?_)))))))))
             exact R_endV rfl rfl (.tmp rfl .nil) (by rw [show lsoundE ⟨l, r, bu, su⟩ = 87 from lsoundE_rel hA hB he (firstE_hit h0 (show relBad l r i = 87 by unfold relBad; rw [← ex]; rw [if_neg (by rw [hpt]; decide), if_neg (by omega), if_neg hno, if_pos (by omega)]) (by decide) (show i < r.length by omega)) (by decide)]; rfl)
            ·skip
             refine R_skip (Q_block (qT (rR (lV (vG ty_ag_169 .h1) (k:=lP (pF ty_fl_175_3) (k:=lV (vB ty_sc_23 .h0) (k:=?_)))))))
             refine lO (W_callV rfl rfl rfl rfl fn_ca_157 (plus_ok (sumA l + sumR (r.take i)) x.amt (by omega) (by omega) hx4) (fun _ _ => trivial) ?_)
             refine lO (W_storeAll rfl rfl rfl rfl ty_ag_169 (rfl) (sumC_one _) .h1 (rfl) ?_)
             refine L_nil (Q_block (qT (rR ?_)))
             first | (refine L_val rfl rfl rfl (OpP.v (P_addN rfl rfl rfl (by simp only [fits]; omega))) ?_) | (refine L_val rfl rfl rfl (OpP.v (P_add rfl rfl rfl)) ?_)
             refine lM (k:=?_)
             refine L_nil ?_
             exact Q_round (i + 1) (by show (i + 1) ≤ r.length ∧ firstE (relBad l r) (i + 1) = 0; exact ⟨by omega, firstE_next h0 (by unfold relBad; rw [← ex, if_neg (by rw [hpt]; decide), if_neg (by omega), if_neg hno, if_neg (by omega)])⟩) (by show r.length - (i + 1) < r.length - i; omega) (by repeat (first | exact .nil | refine .cons rfl ?_ | refine .consE rfl (by first | rfl | (congr 1; omega) | (congr 1; push_cast; omega)) ?_)) (by rw [sumR_snoc hx, ← Int.add_assoc]; exact Weak.drop (Weak.refl _))
         ·skip
          have q4 : ¬ 0 < i := by have := of_decide_eq_false q4; omega
          have hno : ¬ (0 < i ∧ laterB x (relAt r (i - 1)) = false) := fun h9 => q4 h9.1
          refine oP rfl pM (k:=?_)
          refine O_noX rfl rfl rfl rfl ?_
          refine O_no rfl rfl rfl rfl ?_
          refine O_noX rfl rfl rfl rfl ?_
          refine O_no rfl rfl rfl rfl ?_
          refine O_no rfl rfl rfl rfl ?_
          refine O_no rfl rfl rfl rfl ?_
          refine O_noX rfl rfl rfl rfl ?_
          refine O_no2 rfl rfl rfl rfl ?_
          refine O_no rfl rfl rfl rfl (oP rfl pK (k:=oP rfl pA (k:=O_nil (qT (kF (k:=rT (lP (pF ty_fl_175_3) (k:=lV (vB ty_sc_23 .h0) (k:=lP pEq (k:=?_))))))))))
          refine E_bool (t := 73) rfl (fun q6 => ?_) (fun q6 => ?_)
          ·skip
           have q6 := of_decide_eq_true q6
           refine lM (k:=lN (k:=lN (k:=lN (k:=lP pK (k:=lA (k:=?_))))))
           refine L_nil (qT (kT (k:=rT (lA (k:=?_)))))
           refine L_nil (qT (R_ret (Q_block_ret (Q_then_ret (Q_block_ret (Q_then_ret (Q_then_ret (Q_block_ret (Q_then_ret ?_)))))))))
           exact R_endV rfl rfl (.tmp rfl .nil) (by rw [show lsoundE ⟨l, r, bu, su⟩ = 87 from lsoundE_rel hA hB he (firstE_hit h0 (show relBad l r i = 87 by unfold relBad; rw [← ex]; rw [if_neg (by rw [hpt]; decide), if_neg (by omega), if_neg hno, if_pos (by omega)]) (by decide) (show i < r.length by omega)) (by decide)]; rfl)
          ·skip
           have q6 := of_decide_eq_false q6
           refine lM (k:=lP (pF ty_fl_175_3) (k:=lV (vB ty_sc_23 .h0) (k:=lP pGt (k:=lP pK (k:=lA (k:=?_))))))
           refine L_nil (qT ?_)
           refine R_condP rfl (fun q7 => ?_) (fun q7 => ?_)
           ·skip
            refine rT (lA (k:=?_))
            refine L_nil (qT (R_ret (Q_block_ret (Q_then_ret (Q_block_ret (Q_then_ret (Q_then_ret (Q_block_ret (Q_then_ret ?_)))))))))
            exact R_endV rfl rfl (.tmp rfl .nil) (by rw [show lsoundE ⟨l, r, bu, su⟩ = 87 from lsoundE_rel hA hB he (firstE_hit h0 (show relBad l r i = 87 by unfold relBad; rw [← ex]; rw [if_neg (by rw [hpt]; decide), if_neg (by omega), if_neg hno, if_pos (by omega)]) (by decide) (show i < r.length by omega)) (by decide)]; rfl)
           ·skip
            refine R_skip (Q_block (qT (rR (lV (vG ty_ag_169 .h1) (k:=lP (pF ty_fl_175_3) (k:=lV (vB ty_sc_23 .h0) (k:=?_)))))))
            refine lO (W_callV rfl rfl rfl rfl fn_ca_157 (plus_ok (sumA l + sumR (r.take i)) x.amt (by omega) (by omega) hx4) (fun _ _ => trivial) ?_)
            refine lO (W_storeAll rfl rfl rfl rfl ty_ag_169 (rfl) (sumC_one _) .h1 (rfl) ?_)
            refine L_nil (Q_block (qT (rR ?_)))
            first | (refine L_val rfl rfl rfl (OpP.v (P_addN rfl rfl rfl (by simp only [fits]; omega))) ?_) | (refine L_val rfl rfl rfl (OpP.v (P_add rfl rfl rfl)) ?_)
            refine lM (k:=?_)
            refine L_nil ?_
            exact Q_round (i + 1) (by show (i + 1) ≤ r.length ∧ firstE (relBad l r) (i + 1) = 0; exact ⟨by omega, firstE_next h0 (by unfold relBad; rw [← ex, if_neg (by rw [hpt]; decide), if_neg (by omega), if_neg hno, if_neg (by omega)])⟩) (by show r.length - (i + 1) < r.length - i; omega) (by repeat (first | exact .nil | refine .cons rfl ?_ | refine .consE rfl (by first | rfl | (congr 1; omega) | (congr 1; push_cast; omega)) ?_)) (by rw [sumR_snoc hx, ← Int.add_assoc]; exact Weak.drop (Weak.refl _))
    ·skip
     have hin : i = r.length := by omega
     subst hin
     rw [List.take_length]
     have hR := sumR_le r.length (Nat.le_refl _) h0
     rw [hms, List.take_length] at hR
     have hRn : 0 ≤ sumR r := sumR_nn hok'
     refine R_exit (Q_then_exit (Q_then_exit (Q_block_eq ?_)))
     refine St.env (cE 1 rfl (cE 2 rfl (cE 3 rfl .nil))) (qT (rS (rT (lV (vG ty_ag_169 .h0) (k:=lP (pF ty_fl_30_2) (k:=lV (vB ty_sc_23 .h1) (k:=?_)))))))
     refine lO (W_callV rfl rfl rfl rfl fn_ca_157 (plus_ok (sumA l + sumR r) bu (by omega) (by omega) hbu) (fun _ _ => trivial) ?_)
     refine lO (W_storeAll rfl rfl rfl rfl ty_ag_169 (rfl) (sumC_one _) .h0 (rfl) ?_)
     refine lQ (cE 1 rfl (cE 2 rfl (cE 3 rfl .nil))) (rT (lP (pF ty_fl_30_3) (k:=lV (vB ty_sc_23 .h1) (k:=lP pGt (k:=?_)))))
     refine E_bool (t := 90) rfl (fun q8 => ?_) (fun q8 => ?_)
     ·skip
      have q8 := of_decide_eq_true q8
      refine lM (k:=lN (k:=lN (k:=lN (k:=lN (k:=lN (k:=lP pK (k:=?_)))))))
      refine lQ (cE 2 rfl (cE 97 rfl .nil)) (kT (k:=rT (lA (k:=?_))))
      refine lQ (cE 2 rfl .nil) (R_ret (Q_then_ret ?_))
      exact R_endV rfl rfl (.tmp rfl .nil) (by rw [show lsoundE ⟨l, r, bu, su⟩ = 87 from lsoundE_sum hA hB he h0 (by show MS < su ∨ bu + sumA l + sumR r ≠ su; rw [hms]; omega)]; rfl)
     ·skip
      have q8 := of_decide_eq_false q8
      refine lM (k:=lV (vG ty_ag_169 .h0) (k:=lP (pF ty_fl_30_3) (k:=lV (vB ty_sc_23 .h1) (k:=?_))))
      refine lP (P_buildStruct rfl ty_pl_169 ty_ze_169 rfl rfl (rfl)) (k:=?_)
      refine lP (P_neq_struct (b := decide (sumA l + sumR r + bu ≠ su)) rfl se_sum rfl rfl rfl rfl (sumC_kind _ _) (sumC_eq (by have := hbu.1; omega) hsu)) (k:=lP pK (k:=?_))
      refine lQ (cE 2 rfl (cE 97 rfl .nil)) ?_
      refine R_condP rfl (fun q9 => ?_) (fun q9 => ?_)
      ·skip
       refine rT (lA (k:=?_))
       refine lQ (cE 2 rfl .nil) (R_ret (Q_then_ret ?_))
       exact R_endV rfl rfl (.tmp rfl .nil) (by rw [show lsoundE ⟨l, r, bu, su⟩ = 87 from lsoundE_sum hA hB he h0 (by show MS < su ∨ bu + sumA l + sumR r ≠ su; rw [hms]; omega)]; rfl)
      ·skip
       refine R_skip (qT (rT (lA (k:=?_))))
       refine lQ (cE 2 rfl .nil) (R_ret ?_)
       exact R_endV rfl rfl (.tmp rfl .nil) (by rw [show lsoundE ⟨l, r, bu, su⟩ = 0 from lsoundE_fine hA hB he h0 (by show ¬ MS < su; rw [hms]; omega) (by show bu + sumA l + sumR r = su; have := Classical.not_not.1 q9; omega)]; rfl)
end Go.Proofs.YtcngmkjdpoiiaaaGreatDoor

/- Seats. Printed by gen.py. -/
set_option maxRecDepth 100000
namespace Go.Proofs.YtcngmkjdpoiiaaaGreatDoor
open Go Go.RowKit Go.Proofs Go.Sort
/-- The settings. -/
structure Par where
 mb : Int
 seats : Int
 p2 : Int
 p3 : Int
 p4 : Int
 p5 : Int
 p6 : Int
 p7 : Int
 p8 : Int
 p9 : Int
 p10 : Int
 p11 : Int
def Par.cells (p : Par) : List Value := [.int .u64 p.mb, .int .i64 p.seats, .int .u64 p.p2, .int .u64 p.p3, .int .u64 p.p4, .int .i64 p.p5, .int .u64 p.p6, .int .u64 p.p7, .int .u64 p.p8, .int .u64 p.p9, .int .u64 p.p10, .int .u64 p.p11]
theorem Par.one (p : Par) : ∀ v ∈ p.cells, v.oneCell' = true := by
 intro v hv; simp only [Par.cells, List.mem_cons, List.not_mem_nil, or_false] at hv
 rcases hv with rfl | rfl | rfl | rfl | rfl | rfl | rfl | rfl | rfl | rfl | rfl | rfl <;> rfl
theorem perm_all {d d' : Array Mem} (h : PermIn 0 d.size d d') : d'.toList.Perm d.toList := by
 have h2 := h.2.2
 rw [Array.extract_size, ← h.1, Array.extract_size] at h2
 exact h2
theorem sorted_list {lt : Mem → Mem → Bool} {d : Array Mem} {n : Nat} (h : SortedIn lt 0 n d) (hn : n = d.size) : ∀ (i j : Nat) (hij : i < j) (hj : j < d.toList.length), lt d.toList[j] (d.toList[i]'(by omega)) = false := fun i j hij hj => by
 have hj' : j < d.size := hj
 have h2 := h i j (Nat.zero_le _) hij (by omega)
 rw [getElem!_pos d j hj', getElem!_pos d i (by omega)] at h2
 exact h2
theorem ownS_cut {T sz n cap n' : Nat} {b : Option Addr} {cs : List Value} {rs : List HP} (h : n' ≤ n) : Weak (ownS T sz (.slice b n cap) n cs :: rs) (ownS T sz (.slice b n' n') n' (cs.take (n' * sz)) :: rs) := Weak.turn .h0 fun a ⟨hl, hx⟩ => by
 have hm : n' * sz ≤ n * sz := Nat.mul_le_mul_right _ h
 refine ⟨by rw [List.length_take, hl]; omega, ?_⟩
 rcases hx with ⟨⟨b0, e⟩, h0, ha⟩ | ⟨b', cap', junk, e, h1, h2, h3, h4⟩
 ·obtain rfl : n' = 0 := by omega
  exact .inl ⟨⟨b, rfl⟩, rfl, ha⟩
 ·simp only [Value.slice.injEq, true_and] at e
  obtain ⟨rfl, rfl⟩ := e
  refine .inr ⟨b', n', cs.drop (n' * sz) ++ junk, rfl, Nat.le_refl _, by omega, ?_, ?_⟩
  ·rw [← List.append_assoc, List.take_append_drop, List.length_append, hl]; omega
  ·rw [← List.append_assoc, List.take_append_drop]; exact h4
theorem sliced_0 (b : Option Addr) (q : Nat) (sz : Nat) : sliced b 0 q q sz = .slice b q q := by
 unfold sliced
 rw [Nat.zero_mul, Nat.sub_zero]
 split
 ·rfl
 ·cases b with
  | none => rfl
  | some a => simp [Addr.add]
theorem mostN_eq (s : Int) (n : Nat) : (if (n : Int) < (if (64 : Int) < (if 0 > s then 0 else s) then 64 else (if 0 > s then 0 else s)) then (n : Int) else (if (64 : Int) < (if 0 > s then 0 else s) then 64 else (if 0 > s then 0 else s))) = ((mostN s n : Nat) : Int) := by
 unfold mostN
 split <;> split <;> split <;> omega
theorem cand_snoc {mb : Int} {l : List Acc} {i : Nat} {x : Acc} (h : l[i]? = some x) : candM mb (l.take (i + 1)) = candM mb (l.take i) ++ (if sits mb x = true then [memA x] else []) := by
 unfold candM
 rw [List.take_add_one, h, List.filter_append, List.map_append]
 congr 1
 show List.map memA (List.filter (sits mb) [x]) = _
 rw [List.filter_cons, List.filter_nil]
 split <;> rfl
theorem cand_yes {mb : Int} {l : List Acc} {i : Nat} {x : Acc} (h : l[i]? = some x) (hs : sits mb x = true) : candM mb (l.take (i + 1)) = candM mb (l.take i) ++ [memA x] := by rw [cand_snoc h, if_pos hs]
theorem cand_no {mb : Int} {l : List Acc} {i : Nat} {x : Acc} (h : l[i]? = some x) (hs : sits mb x = false) : candM mb (l.take (i + 1)) = candM mb (l.take i) := by rw [cand_snoc h, if_neg (by rw [hs]; decide), List.append_nil]
theorem cand_len (mb : Int) (l : List Acc) : (candM mb l).length ≤ l.length := by unfold candM; rw [List.length_map]; exact List.length_filter_le _ _
theorem seats_done {mb seats : Int} {l : List Acc} {d1 e d2 : Array Mem} (hf : AccFine l) (hp1 : PermIn 0 (candM mb l).length (candM mb l).toArray d1) (hs1 : SortedIn bt 0 (candM mb l).length d1) (he : e.toList = d1.toList.take (mostN seats (candM mb l).length)) (hp2 : PermIn 0 e.size e d2) (hs2 : SortedIn ltA 0 e.size d2) : SeatsOf mb seats l d2.toList := by
 have hlen : d1.toList.length = (candM mb l).length := hp1.1
 refine seats_of hf (perm_all (d := (candM mb l).toArray) hp1) (sorted_list hs1 hlen.symm) ?_ (sorted_list hs2 hp2.1.symm)
 rw [hlen, ← he]
 exact perm_all hp2
theorem seats_ok {gl : Nat → Obj} (base : Option Addr) (c : Nat) (l : List Acc) (hc : l.length ≤ c) (hm : l.length ≤ 65536) (hf : AccFine l) (r : Value) (hr : r.oneCell' = true) (bu su : Int) (p : Par) : Spec (cx gl) 23 [.agg (ledV (.slice base l.length c) r bu su).toArray, .agg p.cells.toArray] (fun w _ => Row w base (rc l)) [] (fun v rs => ∃ (R : List Mem) (b : Option Addr) (c : Nat), v = .slice b R.length c ∧ SeatsOf p.mb p.seats l R ∧ rs = [ownS 55 3 (.slice b R.length c) (R.length) (rc R)]) := by
 refine Spec.enter (C := cx gl) Tryz.func23 rfl 55 rfl rfl fun w0 h0 hsep hsub hpre => ?_
 obtain rfl : h0 = Heap.none := hsep
 show St (cx gl) _ [(0, .agg (ledV (.slice base l.length c) r bu su).toArray), (1, .agg p.cells.toArray)] _ _
 refine rT ?_
 refine lO (W_box (ledV (.slice base l.length c) r bu su) rfl rfl rfl rfl rfl fun b2 => ?_)
 refine lO (W_box (p.cells) rfl rfl rfl rfl rfl fun b3 => lA (k:=?_))
 refine lQ (cE 2 rfl (cE 3 rfl (cE 4 rfl .nil))) (rT (lA (k:=?_)))
 refine L_nil (qT (rS (rT (lP (pF ty_fl_30_0) (k:=lV (vB ty_sc_22 .h1) (k:=lP (pL ty_sl_22) (k:=lM (k:=?_))))))))
 refine lQ (cE 3 rfl (cE 4 rfl (cE 5 rfl (cE 10 rfl (cE 11 rfl (cE 12 rfl .nil)))))) (R_block ?_)
 refine R_loopE (G := Nat × Value) (cE 3 rfl (cE 4 rfl (cE 10 rfl (cE 11 rfl .nil)))) (fun g => [(5, g.2), (12, .int .i64 (g.1 : Int))]) (fun g => [ownS 55 3 (g.2) ((candM p.mb (l.take g.1)).length) (rc (candM p.mb (l.take g.1))), blk b3 p.cells 25, blk b2 (ledV (.slice base l.length c) r bu su) 30]) (fun g => g.1 ≤ l.length) (fun g => l.length - g.1) (0, .slice none 0 0) (Nat.zero_le _) (by repeat (first | exact .nil | refine .cons rfl ?_ | refine .consE rfl (by first | rfl | (congr 1; omega) | (congr 1; push_cast; omega)) ?_)) (Weak.newNil) ?_
 rintro ⟨i, v⟩ hinv
 replace hinv : i ≤ l.length := hinv
 show St (cx gl) _ ((5, v) :: (12, .int .i64 (i : Int)) :: _) [ownS 55 3 (v) ((candM p.mb (l.take i)).length) (rc (candM p.mb (l.take i))), blk b3 p.cells 25, blk b2 (ledV (.slice base l.length c) r bu su) 30] _
 refine rT (lP pLt (k:=?_))
 refine L_nil (qT (rS ?_))
 refine R_condP rfl (fun hlt => ?_) (fun hlt => ?_)
 ·skip
  have hi : i ≤ l.length := hinv
  have hx0 := accAt_get (l := l) (i := i) (by omega)
  obtain ⟨x, ex⟩ : ∃ x, x = accAt l i := ⟨_, rfl⟩
  have hx : l[i]? = some x := by rw [ex]; exact hx0
  obtain ⟨pb, pj, rfl, hrow⟩ := hpre.some_ (by rw [rc_length]; show 0 < _ * 5; omega)
  have hcl := cand_len p.mb (l.take i)
  rw [List.length_take] at hcl
  refine R_skip (qT (rS (R_block (rT ?_))))
  refine lP (P_ixs (i) rfl ty_sl_22 rfl rfl (by first | rfl | omega) (by omega)) (k:=?_)
  refine lV (V_loadAgg rfl rfl ty_ag_50 (rds_rc (Rds.row hrow rfl) hx) (rfl)) (k:=?_)
  refine lO (W_alloc rfl rfl rfl ty_ze_50 fun b7 => ?_)
  refine lO (W_storeAll rfl rfl rfl rfl ty_ag_50 (rfl) (Rec.one x) .h0 (rfl) ?_)
  refine L_nil (qT (rT (lP (pF ty_fl_50_4) (k:=lV (vB ty_sc_4 .h0) (k:=lP pO (k:=lM (k:=?_)))))))
  refine E_bool (t := 19) rfl (fun hj => ?_) (fun hj => ?_)
  ·skip
   refine lP (pF ty_fl_50_2) (k:=lV (vB ty_sc_23 .h0) (k:=lP (pF ty_fl_25_0) (k:=lV (vB ty_sc_23 .h2) (k:=lP pGe (k:=?_)))))
   refine E_bool (t := 24) rfl (fun hb => ?_) (fun hb => ?_)
   ·skip
    have hb := of_decide_eq_true hb
    refine lP pK (k:=lM (k:=lP (pF ty_fl_50_2) (k:=lV (vB ty_sc_23 .h0) (k:=lP pGe (k:=lP pK (k:=?_))))))
    refine L_nil (qT ?_)
    refine R_condP rfl (fun hs => ?_) (fun hs => ?_)
    ·skip
     refine rR (lM (k:=lP (pF ty_fl_50_0) (k:=lV (vB ty_sc_26 .h0) (k:=lP (pF ty_fl_50_2) (k:=lV (vB ty_sc_23 .h0) (k:=?_))))))
     refine lP (P_buildStruct rfl ty_pl_55 ty_ze_55 rfl rfl (rfl)) (k:=?_)
     refine lO (W_lit (z := .nilIface) ((memA x).cells) rfl rfl rfl ty_sl_37 ty_lz_37 rfl rfl rfl (by decide) (by decide) (by intro v hv; simp only [List.mem_singleton] at hv; subst hv; rfl) (rfl) fun b37 => ?_)
     refine lO (W_append (p := [_, _]) rfl rfl rfl ty_sl_37 ty_ap_37 ty_src_37 rfl rfl rfl (Src.slice (sz := 3) (m := 1) (news := (memA x).cells) (Rds.blk .h0) rfl (Mem.cells_one _)) (by omega) (by simp only [maxLen]; omega) fun v38 => lA (k:=?_))
     refine L_nil (Q_block (qT (rR ?_)))
     first | (refine L_val rfl rfl rfl (OpP.v (P_addN rfl rfl rfl (by simp only [fits]; omega))) ?_) | (refine L_val rfl rfl rfl (OpP.v (P_add rfl rfl rfl)) ?_)
     refine lM (k:=?_)
     refine L_nil ?_
     exact Q_round (i + 1, v38) (by show i + 1 ≤ l.length; omega) (by show l.length - (i + 1) < l.length - i; omega) (by repeat (first | exact .nil | refine .cons rfl ?_ | refine .consE rfl (by first | rfl | (congr 1; omega) | (congr 1; push_cast; omega)) ?_)) (Weak.drop (Weak.drop (by rw [cand_yes hx (by unfold sits; rw [hj, decide_eq_true hb, decide_eq_true (by omega)]; rfl), List.length_append, rc_append]; exact Weak.refl _)))
    ·skip
     refine R_skip (Q_block (qT (rR ?_)))
     first | (refine L_val rfl rfl rfl (OpP.v (P_addN rfl rfl rfl (by simp only [fits]; omega))) ?_) | (refine L_val rfl rfl rfl (OpP.v (P_add rfl rfl rfl)) ?_)
     refine lM (k:=?_)
     refine L_nil ?_
     exact Q_round (i + 1, v) (by show i + 1 ≤ l.length; omega) (by show l.length - (i + 1) < l.length - i; omega) (by repeat (first | exact .nil | refine .cons rfl ?_ | refine .consE rfl (by first | rfl | (congr 1; omega) | (congr 1; push_cast; omega)) ?_)) (Weak.drop (by rw [cand_no hx (by unfold sits; rw [decide_eq_false (p := 1 ≤ x.bond) (by omega), Bool.and_false, Bool.and_false])]; exact Weak.refl _))
   ·skip
    have hb := of_decide_eq_false hb
    refine lP pK (k:=lM (k:=lN (k:=lN (k:=lN (k:=lP pK (k:=?_))))))
    refine L_nil (qT (kF (k:=R_skip (Q_block (qT (rR ?_))))))
    first | (refine L_val rfl rfl rfl (OpP.v (P_addN rfl rfl rfl (by simp only [fits]; omega))) ?_) | (refine L_val rfl rfl rfl (OpP.v (P_add rfl rfl rfl)) ?_)
    refine lM (k:=?_)
    refine L_nil ?_
    exact Q_round (i + 1, v) (by show i + 1 ≤ l.length; omega) (by show l.length - (i + 1) < l.length - i; omega) (by repeat (first | exact .nil | refine .cons rfl ?_ | refine .consE rfl (by first | rfl | (congr 1; omega) | (congr 1; push_cast; omega)) ?_)) (Weak.drop (by rw [cand_no hx (by unfold sits; rw [decide_eq_false (p := p.mb ≤ x.bond) (by omega), Bool.false_and, Bool.and_false])]; exact Weak.refl _))
  ·skip
   refine lN (k:=lN (k:=lN (k:=lN (k:=lN (k:=lP pK (k:=lM (k:=lN (k:=lN (k:=lN (k:=lP pK (k:=?_)))))))))))
   refine L_nil (qT (kF (k:=R_skip (Q_block (qT (rR ?_))))))
   first | (refine L_val rfl rfl rfl (OpP.v (P_addN rfl rfl rfl (by simp only [fits]; omega))) ?_) | (refine L_val rfl rfl rfl (OpP.v (P_add rfl rfl rfl)) ?_)
   refine lM (k:=?_)
   refine L_nil ?_
   exact Q_round (i + 1, v) (by show i + 1 ≤ l.length; omega) (by show l.length - (i + 1) < l.length - i; omega) (by repeat (first | exact .nil | refine .cons rfl ?_ | refine .consE rfl (by first | rfl | (congr 1; omega) | (congr 1; push_cast; omega)) ?_)) (Weak.drop (by rw [cand_no hx (by unfold sits; rw [hj, Bool.false_and])]; exact Weak.refl _))
 ·skip
  have hi : i ≤ l.length := hinv
  have hin : i = l.length := by omega
  rw [hin, List.take_length]
  have hcl := cand_len p.mb l
  refine St.ownForm (p := []) fun ub uc huv huc => ?_
  subst huv
  refine St.res (rs' := [ownS 55 3 (.slice ub (candM p.mb l).toArray.size uc) ((candM p.mb l).toArray.size) (rc (candM p.mb l).toArray.toList), blk b3 p.cells 25, blk b2 (ledV (.slice base l.length c) r bu su) 30]) (Weak.refl _) (R_exit (Q_then_exit (Q_then_exit (Q_block_eq ?_))))
  refine St.env (cE 3 rfl (cE 4 rfl (cE 5 rfl .nil))) (qT (rT (lM (k:=?_))))
  refine lO (W_call rfl rfl rfl rfl fn_ca_91 (ssM_ok ub uc (candM p.mb l).toArray (by show (candM p.mb l).length ≤ _; omega)) (Split.one (p := [])) (fun _ _ _ _ _ _ _ => trivial) fun vv rs1 ⟨z1, d1, ⟨hp1, hs1⟩, z2⟩ => ?_)
  subst z1; subst z2
  refine St.res (rs' := [ownS 55 3 (.slice ub (candM p.mb l).length uc) ((candM p.mb l).length) (rc d1.toList), blk b3 p.cells 25, blk b2 (ledV (.slice base l.length c) r bu su) 30]) (Weak.refl _) ?_
  refine lQ (cE 3 rfl (cE 4 rfl (cE 5 rfl .nil))) (rT (lP (pF ty_fl_25_1) (k:=lV (vB ty_sc_3 .h1) (k:=?_))))
  refine lP (P_max2 rfl rfl rfl) (k:=lM (k:=lP (pL ty_sl_37) (k:=?_)))
  refine lP (P_min3 rfl rfl rfl rfl) (k:=?_)
  refine E_as (t := 47) (v' := .int .i64 ((mostN p.seats (candM p.mb l).length : Nat) : Int)) rfl (congrArg (Value.int .i64) (mostN_eq _ _)) (lA (k:=?_))
  refine lQ (cE 4 rfl (cE 5 rfl (cE 8 rfl .nil))) (rT (lM (k:=lM (k:=lM (k:=?_)))))
  refine lP (P_slice3 0 (mostN p.seats (candM p.mb l).length) (mostN p.seats (candM p.mb l).length) rfl ty_sl_37 rfl rfl rfl rfl (Nat.zero_le _) (Nat.le_refl _) (by unfold mostN; omega)) (k:=?_)
  have hmo : mostN p.seats (candM p.mb l).length ≤ (candM p.mb l).length := by unfold mostN; omega
  obtain ⟨e, he⟩ : ∃ e : Array Mem, e.toList = d1.toList.take (mostN p.seats (candM p.mb l).length) := ⟨(d1.toList.take (mostN p.seats (candM p.mb l).length)).toArray, rfl⟩
  have hes : mostN p.seats (candM p.mb l).length = e.size := by rw [← Array.length_toList, he, List.length_take]; have : d1.toList.length = (candM p.mb l).length := hp1.1; omega
  refine E_as (t := 51) (v' := .slice ub e.size e.size) rfl (by rw [sliced_0, hes]) ?_
  refine St.res (rs' := [ownS 55 3 (.slice ub e.size e.size) (e.size) (rc e.toList), blk b3 p.cells 25, blk b2 (ledV (.slice base l.length c) r bu su) 30]) (Weak.trans (ownS_cut hmo) (by rw [show (3 : Nat) = Rec.n Mem from rfl, rc_take, ← he, hes]; exact Weak.refl _)) (lA (k:=?_))
  refine lQ (cE 4 rfl (cE 5 rfl .nil)) (rT (lM (k:=?_)))
  refine lO (W_call rfl rfl rfl rfl fn_ca_96 (sortM_ok ub e.size e (by omega)) (Split.one (p := [])) (fun _ _ _ _ _ _ _ => trivial) fun vv rs1 ⟨z1, d2, hp2, hs2, z2⟩ => ?_)
  subst z1; subst z2
  refine St.res (rs' := [ownS 55 3 (.slice ub e.size e.size) (e.size) (rc d2.toList), blk b3 p.cells 25, blk b2 (ledV (.slice base l.length c) r bu su) 30]) (Weak.refl _) ?_
  refine lQ (cE 4 rfl (cE 5 rfl .nil)) (rT (lM (k:=lA (k:=?_))))
  refine lQ (cE 4 rfl .nil) (R_ret ?_)
  exact R_end (rs2 := [ownS 55 3 (.slice ub d2.toList.length e.size) (d2.toList.length) (rc d2.toList)]) rfl rfl (.tmp rfl .nil) (⟨d2.toList, ub, e.size, by rw [show d2.toList.length = e.size from hp2.1]; rfl, seats_done hf hp1 hs1 he hp2 hs2, rfl⟩) (by rw [show d2.toList.length = e.size from hp2.1]; exact Weak.keep (Weak.nil _))
end Go.Proofs.YtcngmkjdpoiiaaaGreatDoor

/- The twenty-first part of the program logic: structs of numbers and truth values are compared. -/
namespace Go.Proofs.YtcngmkjdpoiiaaaGreatDoor
open Go Go.RowKit
theorem Has.h10 {a b c d e f g i j k r s : HP} {t : List HP} : Has (a :: b :: c :: d :: e :: f :: g :: i :: j :: k :: r :: t) r s (a :: b :: c :: d :: e :: f :: g :: i :: j :: k :: s :: t) := Has.h9.cons
/-- Two cells of one make: truth values (true), numbers (false). -/
def sk : Bool → Value → Value → Prop
 | false, x, y => ∃ k a b, x = .int k a ∧ y = .int k b
 | true, x, y => ∃ a b, x = .bool a ∧ y = .bool b
def fkB (P : Program) (b : Bool) (t : TypeId) : Bool := match b, P.underlying t with
 | false, some (.int _) => true
 | true, some .bool => true
 | _, _ => false
/-- The type's cells are numbers or truth values, as the list tells. -/
def seK (P : Program) (t : Nat) (ks : List Bool) : Bool := match P.underlying t with
 | some (.struct fs) => !P.stoodInHeld t && !P.eqGuardType P.depth t && (fs.toList.length == ks.length) && ((List.range ks.length).all fun i => match fs.toList[i]?, ks[i]? with | some f, some b => f.offset == i && (f.name != "_") && scB P f.type && fkB P b f.type | _, _ => false)
 | _ => false
theorem run_eqFields_k {P : Program} {w : World} (dp : Nat) : ∀ (fs : List Field) (ks : List Bool) (o : Nat) (xs ys : List Value), xs.length = fs.length → ys.length = fs.length → ks.length = fs.length → (∀ (i : Nat) (b : Bool) (x y : Value), ks[i]? = some b → xs[i]? = some x → ys[i]? = some y → sk b x y) →
  (∀ (i : Nat) (f : Field) (b : Bool), fs[i]? = some f → ks[i]? = some b → f.offset = o + i ∧ (f.name != "_") = true ∧ scB P f.type = true ∧ fkB P b f.type = true) →
  ∀ (px py : List Value), px.length = o → py.length = o → (Op.eqFields (dp + 1) (px ++ xs).toArray (py ++ ys).toArray fs).run P w = .ok (@decide (xs = ys) (Classical.propDecidable _)) w
 | [], ks, o, xs, ys, hx, hy, _, _, _, px, py, _, _ => by
  have : xs = [] := List.eq_nil_of_length_eq_zero hx
  have : ys = [] := List.eq_nil_of_length_eq_zero hy
  subst xs; subst ys
  simp [Op.eqFields]
 | f :: fs, kb :: ks, o, x :: xs, y :: ys, hx, hy, hkl, hk, hf, px, py, hpx, hpy => by
  obtain ⟨h1, h2, h3, h4⟩ := hf 0 f kb rfl rfl
  have hkk := hk 0 kb x y rfl rfl rfl
  have hname : f.name ≠ "_" := by simpa using h2
  have hone : x.oneCell' = true ∧ y.oneCell' = true := by
   cases kb with
   | false => obtain ⟨k, a, b, rfl, rfl⟩ := hkk; exact ⟨rfl, rfl⟩
   | true => obtain ⟨a, b, rfl, rfl⟩ := hkk; exact ⟨rfl, rfl⟩
  have e1 : (part f.type (px ++ x :: xs).toArray f.offset).run P w = .ok x w := by
   simp [part, run_isAgg_sc h3, h1, ← hpx]
  have e2 : (part f.type (py ++ y :: ys).toArray f.offset).run P w = .ok y w := by
   simp [part, run_isAgg_sc h3, h1, ← hpy]
  have e3 : (Op.equalIn (dp + 1) f.type x y).run P w = .ok (@decide (x = y) (Classical.propDecidable _)) w := by
   cases kb with
   | false =>
    obtain ⟨k', a, b, rfl, rfl⟩ := hkk
    obtain ⟨k, hk4⟩ : ∃ k, P.underlying f.type = some (.int k) := by
     unfold fkB at h4
     split at h4
     ·exact ⟨_, by assumption⟩
     ·contradiction
     ·cases h4
    rw [run_equalIn_int (P := P) w dp f.type k' k a b hk4]
    congr 1
    by_cases hab : a = b
    ·simp [hab]
    ·simp [hab]
   | true =>
    obtain ⟨a, b, rfl, rfl⟩ := hkk
    have hk4 : P.underlying f.type = some .bool := by
     unfold fkB at h4
     split at h4
     ·contradiction
     ·assumption
     ·cases h4
    rw [run_equalIn_bool' dp hk4]
    congr 1
    cases a <;> cases b <;> simp
  unfold Op.eqFields
  rw [if_pos hname]
  simp only [Sem.run_bind, e1, e2, e3, Result.andThen_ok]
  by_cases hab : x = y
  ·subst hab
   have ih := run_eqFields_k (P := P) (w := w) dp fs ks (o + 1) xs ys (by simpa using hx) (by simpa using hy) (by simpa using hkl) (fun i b x y hb hx hy => hk (i + 1) b x y hb hx hy) (fun i f b hf' hb => by
    obtain ⟨g1, g2⟩ := hf (i + 1) f b hf' hb
    exact ⟨by omega, g2⟩) (px ++ [x]) (py ++ [x]) (by simp [hpx]) (by simp [hpy])
   simp only [List.append_assoc, List.singleton_append] at ih
   simp only [decide_true, Bool.not_true, Bool.false_eq_true, if_false, ih]
   congr 1
   by_cases hxy : xs = ys
   ·subst hxy; simp
   ·have : ¬ (x :: xs = x :: ys) := by simpa using hxy
    simp [hxy, this]
  ·have : ¬ (x :: xs = y :: ys) := by simp [hab]
   simp [hab, this]
section
variable {C : Cx} {F : Fx} {l : Env} {rs rs' : List HP} {K : Act → World → Prop} {o : Oper} {Q : Exit → Act → World → Prop} {d : Nat}
theorem run_eqStructK {P : Program} {w : World} {t : Nat} {ks : List Bool} {xs ys : List Value} (ht : seK P t ks = true) (hx : xs.length = ks.length) (hy : ys.length = ks.length) (hk : ∀ (i : Nat) (b : Bool) (x y : Value), ks[i]? = some b → xs[i]? = some x → ys[i]? = some y → sk b x y) :
  (Op.equalIn 10000 t (.agg xs.toArray) (.agg ys.toArray)).run P w = .ok (@decide (xs = ys) (Classical.propDecidable _)) w ∧ P.eqGuardType P.depth t = false := by
 unfold seK at ht
 split at ht
 ·rename_i fs hfs
  simp only [Bool.and_eq_true, Bool.not_eq_true'] at ht
  obtain ⟨⟨⟨hp, hg⟩, hl⟩, hm⟩ := ht
  refine ⟨?_, hg⟩
  have hff : P.fieldsOf t = fs := by unfold Program.fieldsOf; rw [hfs]
  refine (run_equalIn_struct (P := P) w 9999 t xs.toArray ys.toArray (by rw [hff]; exact hfs) hp).trans ?_
  rw [hff]
  have hlen : fs.toList.length = ks.length := eq_of_beq hl
  refine run_eqFields_k (P := P) (w := w) 9998 fs.toList ks 0 xs ys (by omega) (by omega) (by omega) hk (fun i f b hf hb => ?_) [] [] rfl rfl
  have h2 := List.all_eq_true.1 hm i (by rw [List.mem_range]; exact (List.getElem?_eq_some_iff.1 hb).1)
  rw [hf, hb] at h2
  simp only [Bool.and_eq_true] at h2
  obtain ⟨⟨⟨h3, h4⟩, h5⟩, h6⟩ := h2
  exact ⟨by rw [eq_of_beq h3, Nat.zero_add], h4, h5, h6⟩
 ·cases ht
theorem P_neq_structK {t t' : Nat} (ks : List Bool) {x y : Operand} {xs ys : List Value} {b : Bool} (ho : o.op = .binOp .neq t x y t') (ht : seK C.P t ks = true) (hx : ev l x = some (.agg xs.toArray)) (hy : ev l y = some (.agg ys.toArray)) (h1 : xs.length = ks.length) (h2 : ys.length = ks.length)
  (hk : ∀ (i : Nat) (b : Bool) (x y : Value), ks[i]? = some b → xs[i]? = some x → ys[i]? = some y → sk b x y) (hb : b = false ↔ xs = ys) : OpP C F l o (.bool b) := fun a w r => by
 obtain ⟨h3, hg⟩ := run_eqStructK (P := C.P) (w := w) ht h1 h2 hk
 have e : @decide (xs = ys) (Classical.propDecidable _) = !b := by
  by_cases h : xs = ys
  ·have := hb.2 h; rw [this]; simp [h]
  ·cases b with
   | false => exact absurd (hb.1 rfl) h
   | true => simp [h]
 rw [e] at h3
 simp only [execOp, ho, r.ev hx, r.ev hy, Sem.run_bind, run_eqGuard_agg w .neq t x y _ _ hg, Result.andThen_ok, run_neq_struct, h3, Sem.run_pure, Bool.not_not]
end
end Go.Proofs.YtcngmkjdpoiiaaaGreatDoor

/- sameLedger, sameMembers. Printed by gen.py. -/
set_option maxRecDepth 100000
namespace Go.Proofs.YtcngmkjdpoiiaaaGreatDoor
open Go Go.RowKit Go.Proofs
theorem acc_kind (x y : Acc) : ∀ (i : Nat) (b : Bool) (u v : Value), ([false, false, false, false, true] : List Bool)[i]? = some b → x.cells[i]? = some u → y.cells[i]? = some v → sk b u v
 | 0, _, _, _, hb, h, h' => by cases hb; cases h; cases h'; exact ⟨_, _, _, rfl, rfl⟩
 | 1, _, _, _, hb, h, h' => by cases hb; cases h; cases h'; exact ⟨_, _, _, rfl, rfl⟩
 | 2, _, _, _, hb, h, h' => by cases hb; cases h; cases h'; exact ⟨_, _, _, rfl, rfl⟩
 | 3, _, _, _, hb, h, h' => by cases hb; cases h; cases h'; exact ⟨_, _, _, rfl, rfl⟩
 | 4, _, _, _, hb, h, h' => by cases hb; cases h; cases h'; exact ⟨_, _, rfl, rfl⟩
 | _ + 5, _, _, _, hb, _, _ => by cases hb
theorem se_acc : seK Tryz.prog 50 [false, false, false, false, true] = true := by kernel_rfl
end Go.Proofs.YtcngmkjdpoiiaaaGreatDoor

/- Walks: rotations and splits. Printed by gen.py. -/
set_option maxRecDepth 100000
namespace Go.Proofs.YtcngmkjdpoiiaaaGreatDoor
open Go Go.RowKit Go.Proofs
theorem bitI_nn {op : BinOp} {k : IntKind} (hk : k.signed = false) (a b : Int) : 0 ≤ bitI op k a b := by
 unfold bitI
 cases k <;> simp [IntKind.signed] at hk <;> cases op <;> simp [IntKind.wrap, IntKind.signed, IntKind.bits] <;> omega
theorem wrap_nn {k : IntKind} (hk : k.signed = false) (a : Int) : 0 ≤ k.wrap a := by
 cases k <;> simp [IntKind.signed] at hk <;> simp [IntKind.wrap, IntKind.signed, IntKind.bits] <;> omega
def rotS (k : Int) : Int := bitI .and .u64 (IntKind.u64.wrap k) 31
/-- math/bits.RotateLeft32 -/
def rotlI (x k : Int) : Int := bitI .or .u32 (shlI .u32 x (rotS k)) (shrI .u32 x (IntKind.u64.wrap (32 - rotS k)))
/-- the reference's turn -/
def turnI (x n : Int) : Int := bitI .or .u32 (shrI .u32 x n) (shlI .u32 x (IntKind.u64.wrap (32 - n)))
theorem rotl_ok (gl : Nat → Obj) (x k : Int) : SpecV (cx gl) 317 [.int .u32 x, .int .i64 k] noPre (.int .u32 (rotlI x k)) := by
 refine Spec.enter (C := cx gl) Tryz.func317 rfl 17 rfl rfl fun w0 h0 hsep hsub hpre => ?_
 obtain rfl : h0 = Heap.none := hsep
 show St (cx gl) _ [(0, .int .u32 x), (1, .int .i64 k)] _ _
 refine rT (lA (k:=?_))
 refine L_nil (qT (rT (lM (k:=?_))))
 refine lP (P_conv rfl ty_int_3 ty_int_271 rfl) (k:=?_)
 refine lP (P_bit (op := .and) rfl rfl rfl rfl) (k:=lA (k:=?_))
 refine lQ (cE 0 rfl (cE 4 rfl (cE 5 rfl .nil))) (rT (lM (k:=lM (k:=?_))))
 refine lP (P_shl rfl rfl rfl (bitI_nn rfl _ _)) (k:=lM (k:=lM (k:=?_)))
 refine lP (P_sub rfl rfl rfl) (k:=?_)
 refine lP (P_shr rfl rfl rfl (wrap_nn rfl _)) (k:=?_)
 refine lP (P_bit (op := .or) rfl rfl rfl rfl) (k:=lA (k:=?_))
 refine lQ (cE 4 rfl .nil) (R_ret ?_)
 exact R_endV rfl rfl (.tmp rfl .nil) (rfl)
theorem turn_ok (gl : Nat → Obj) (x n : Int) (hn : 0 ≤ n) : SpecV (cx gl) 241 [.int .u32 x, .int .u64 n] noPre (.int .u32 (turnI x n)) := by
 refine Spec.enter (C := cx gl) Tryz.func241 rfl 13 rfl rfl fun w0 h0 hsep hsub hpre => ?_
 obtain rfl : h0 = Heap.none := hsep
 show St (cx gl) _ [(0, .int .u32 x), (1, .int .u64 n)] _ _
 refine rT (lA (k:=?_))
 refine L_nil (qT (rT (lM (k:=lM (k:=?_)))))
 refine lP (P_shr rfl rfl rfl (hn)) (k:=lM (k:=lM (k:=?_)))
 refine lP (P_sub rfl rfl rfl) (k:=?_)
 refine lP (P_shl rfl rfl rfl (wrap_nn rfl _)) (k:=?_)
 refine lP (P_bit (op := .or) rfl rfl rfl rfl) (k:=lA (k:=?_))
 refine lQ (cE 4 rfl .nil) (R_ret ?_)
 exact R_endV rfl rfl (.tmp rfl .nil) (rfl)
end Go.Proofs.YtcngmkjdpoiiaaaGreatDoor

/- Walks: one chunk is worked in, by the program and by the reference. Printed by gen.py. -/
set_option maxRecDepth 100000
namespace Go.Proofs.YtcngmkjdpoiiaaaGreatDoor
open Go Go.RowKit Go.Proofs
def addsK : List Int := [1116352408, 1899447441, 3049323471, 3921009573, 961987163, 1508970993, 2453635748, 2870763221, 3624381080, 310598401, 607225278, 1426881987, 1925078388, 2162078206, 2614888103, 3248222580, 3835390401, 4022224774, 264347078, 604807628, 770255983, 1249150122, 1555081692, 1996064986, 2554220882, 2821834349, 2952996808, 3210313671, 3336571891, 3584528711, 113926993, 338241895, 666307205, 773529912, 1294757372, 1396182291, 1695183700, 1986661051, 2177026350, 2456956037, 2730485921, 2820302411, 3259730800, 3345764771, 3516065817, 3600352804, 4094571909, 275423344, 430227734, 506948616, 659060556, 883997877, 958139571, 1322822218, 1537002063, 1747873779, 1955562222, 2024104815, 2227730452, 2361852424, 2428436474, 2756734187, 3204031479, 3329325298]
def beginK : List Int := [1779033703, 3144134277, 1013904242, 2773480762, 1359893119, 2600822924, 528734635, 1541459225]
theorem addsK_length : addsK.length = 64 := rfl
def addW (a b : Int) : Int := IntKind.u32.wrap (a + b)
theorem addW_assoc (a b c : Int) : addW (addW a b) c = addW a (addW b c) := by
 simp only [addW, IntKind.wrap, IntKind.signed, IntKind.bits, Bool.false_and, Bool.false_eq_true, if_false]
 omega
def be32 (p : List Int) (i : Nat) : Int :=
 bitI .or .u32 (bitI .or .u32 (bitI .or .u32 (shlI .u32 (IntKind.u32.wrap (p.getD (4 * i) 0)) 24) (shlI .u32 (IntKind.u32.wrap (p.getD (4 * i + 1) 0)) 16)) (shlI .u32 (IntKind.u32.wrap (p.getD (4 * i + 2) 0)) 8)) (IntKind.u32.wrap (p.getD (4 * i + 3) 0))
def sch1 (p : List Int) : Nat → List Int
 | 0 => List.replicate 64 0
 | k + 1 => (sch1 p k).set k (be32 p k)
def sg0 (x : Int) : Int := bitI .xor .u32 (bitI .xor .u32 (turnI x 7) (turnI x 18)) (shrI .u32 x 3)
def sg1 (x : Int) : Int := bitI .xor .u32 (bitI .xor .u32 (turnI x 17) (turnI x 19)) (shrI .u32 x 10)
def sch2 (w : List Int) : Nat → List Int
 | 0 => w
 | k + 1 => (sch2 w k).set (16 + k) (addW (addW (addW ((sch2 w k).getD k 0) (sg0 ((sch2 w k).getD (k + 1) 0))) ((sch2 w k).getD (k + 9) 0)) (sg1 ((sch2 w k).getD (k + 14) 0)))
def bs0 (x : Int) : Int := bitI .xor .u32 (bitI .xor .u32 (turnI x 2) (turnI x 13)) (turnI x 22)
def bs1 (x : Int) : Int := bitI .xor .u32 (bitI .xor .u32 (turnI x 6) (turnI x 11)) (turnI x 25)
def chI (e f g : Int) : Int := bitI .xor .u32 (bitI .and .u32 e f) (bitI .and .u32 (bitI .xor .u32 (if IntKind.u32.signed then -1 else IntKind.u32.max) e) g)
def majI (a b c : Int) : Int := bitI .xor .u32 (bitI .xor .u32 (bitI .and .u32 a b) (bitI .and .u32 a c)) (bitI .and .u32 b c)
def rnd1 (K w : List Int) (i : Nat) : List Int → List Int
 | [a, b, c, d, e, f, g, h] =>
  [addW (addW (addW (addW (addW h (bs1 e)) (chI e f g)) (K.getD i 0)) (w.getD i 0)) (addW (bs0 a) (majI a b c)), a, b, c, addW d (addW (addW (addW (addW h (bs1 e)) (chI e f g)) (K.getD i 0)) (w.getD i 0)), e, f, g]
 | v => v
def rnds (K w s : List Int) : Nat → List Int
 | 0 => s
 | k + 1 => rnd1 K w k (rnds K w s k)
def fin8 (s v : List Int) : Nat → List Int
 | 0 => s
 | k + 1 => (fin8 s v k).set k (addW ((fin8 s v k).getD k 0) (v.getD k 0))
/-- One chunk of 64 bytes is worked into the eight words. -/
def mixF (K s p : List Int) : List Int := fin8 s (rnds K (sch2 (sch1 p 16) 48) s 64) 8
theorem sch1_length (p : List Int) (k : Nat) : (sch1 p k).length = 64 := by induction k <;> simp_all [sch1]
theorem sch2_length (w : List Int) (k : Nat) : (sch2 w k).length = w.length := by induction k <;> simp_all [sch2]
theorem rnd1_length (K w : List Int) (i : Nat) (v : List Int) : (rnd1 K w i v).length = v.length := by unfold rnd1; split <;> rfl
theorem rnds_length (K w s : List Int) (k : Nat) : (rnds K w s k).length = s.length := by induction k <;> simp_all [rnds, rnd1_length]
theorem fin8_length (s v : List Int) (k : Nat) : (fin8 s v k).length = s.length := by induction k <;> simp_all [fin8]
theorem mixF_length (K s p : List Int) : (mixF K s p).length = s.length := by simp [mixF, fin8_length]
theorem list8 {v : List Int} (h : v.length = 8) : ∃ a b c d e f g i, v = [a, b, c, d, e, f, g, i] := by
 match v, h with
 | [a, b, c, d, e, f, g, i], _ => exact ⟨a, b, c, d, e, f, g, i, rfl⟩
theorem bitI_or_comm (k : IntKind) (a b : Int) : bitI .or k a b = bitI .or k b a := by simp [bitI, BitVec.or_comm]
theorem rot2 (x : Int) : rotlI x (-2) = turnI x 2 := by unfold rotlI turnI; rw [bitI_or_comm]; rfl
theorem rot6 (x : Int) : rotlI x (-6) = turnI x 6 := by unfold rotlI turnI; rw [bitI_or_comm]; rfl
theorem rot7 (x : Int) : rotlI x (-7) = turnI x 7 := by unfold rotlI turnI; rw [bitI_or_comm]; rfl
theorem rot11 (x : Int) : rotlI x (-11) = turnI x 11 := by unfold rotlI turnI; rw [bitI_or_comm]; rfl
theorem rot13 (x : Int) : rotlI x (-13) = turnI x 13 := by unfold rotlI turnI; rw [bitI_or_comm]; rfl
theorem rot17 (x : Int) : rotlI x (-17) = turnI x 17 := by unfold rotlI turnI; rw [bitI_or_comm]; rfl
theorem rot18 (x : Int) : rotlI x (-18) = turnI x 18 := by unfold rotlI turnI; rw [bitI_or_comm]; rfl
theorem rot19 (x : Int) : rotlI x (-19) = turnI x 19 := by unfold rotlI turnI; rw [bitI_or_comm]; rfl
theorem rot22 (x : Int) : rotlI x (-22) = turnI x 22 := by unfold rotlI turnI; rw [bitI_or_comm]; rfl
theorem rot25 (x : Int) : rotlI x (-25) = turnI x 25 := by unfold rotlI turnI; rw [bitI_or_comm]; rfl
/-- Where the rounds' numbers lie. -/
structure Globs (gl : Nat → Obj) : Prop where
 begin_ : ∃ T fr, gl 3 = .cells (ints .u32 beginK).toArray T fr
 adds : ∃ T fr, gl 4 = .cells (ints .u32 addsK).toArray T fr
/-- The reference's too. -/
structure GlobsR (gl : Nat → Obj) : Prop extends Globs gl where
 refAdds : ∃ T fr, gl 2 = .cells (ints .u32 addsK).toArray T fr
set_option maxHeartbeats 4000000 in
theorem mix_ok {gl : Nat → Obj} (hG : ∃ T fr, gl 4 = .cells (ints .u32 addsK).toArray T fr) (s p : List Int) (hs : s.length = 8) (hp : p.length = 64) : SpecV (cx gl) 306 [.agg (ints .u32 s).toArray, .agg (ints .u8 p).toArray] noPre (.agg (ints .u32 (mixF addsK s p)).toArray) := by
 refine Spec.enter (C := cx gl) Tryz.func306 rfl 191 rfl rfl fun w0 h0 hsep hsub hpre => ?_
 obtain rfl : h0 = Heap.none := hsep
 show St (cx gl) _ [(0, .agg (ints .u32 s).toArray), (1, .agg (ints .u8 p).toArray)] _ _
 refine rT ?_
 refine lO (W_box (_) rfl rfl rfl rfl rfl fun b2 => ?_)
 refine lO (W_box (_) rfl rfl rfl rfl rfl fun b3 => ?_)
 refine lO (W_alloc rfl rfl rfl ty_ze_403 fun b4 => ?_)
 refine lQ (cE 2 rfl (cE 3 rfl (cE 4 rfl .nil))) (rT ?_)
 refine lO (W_alloc rfl rfl rfl ty_ze_352 fun b5 => ?_)
 rw [rep_ints]
 refine L_nil (qT (rS (rT (lM (k:=?_)))))
 refine L_nil (qT (R_block ?_))
 refine R_loop (G := Nat) (fun k => [(2, .pointer (some ⟨b2, 0, none⟩)), (3, .pointer (some ⟨b3, 0, none⟩)), (4, .pointer (some ⟨b4, 0, none⟩)), (5, .pointer (some ⟨b5, 0, none⟩)), (19, .int .i64 (k : Int))]) (fun k => [blk b5 (ints .u32 (sch1 p k)) 352, blk b4 (List.replicate 8 (.int .u32 0)) 403, blk b3 (ints .u8 p) 404, blk b2 (ints .u32 s) 403]) (fun k => k ≤ 16) (fun k => 16 - k) (0) (by omega) (by repeat (first | exact .nil | refine .cons rfl ?_)) (Weak.refl _) ?_
 intro k hk
 have hl := sch1_length p k
 refine rT (lP pLt (k:=?_))
 refine L_nil (qT (rS ?_))
 refine R_condP rfl (fun hlt => ?_) (fun hlt => ?_)
 ·skip
  refine R_skip (qT (rS (R_block (rT (lM (k:=lA (k:=?_)))))))
  refine L_nil (qT ?_)
  refine R_open [(0, 0), (1, 0), (2, 0), (3, 0), (4, 1), (5, 0), (6, 0), (7, 0), (8, 0), (9, 0), (10, 0), (11, 1), (12, 0), (13, 0), (14, 0), (15, 0), (16, 0), (17, 0), (18, 0), (19, 1), (20, 0), (21, 0), (22, 0), (23, 0), (24, 0), (25, 0), (26, 0), (27, 1), (28, 0), (29, 0), (30, 0), (31, 3)] mixed (by kernel_rfl) (QOk.block (QOk.then (QOk.then (QOk.block (QOk.then QOk.body))))) (oP rfl pM (k:=oP rfl pM (k:=?_)))
  first | (refine O_pure rfl rfl rfl rfl (P_mulN rfl rfl rfl (by simp only [fits]; omega)) ?_) | (refine O_pure rfl rfl rfl rfl (P_mul rfl rfl rfl) ?_)
  first | (refine O_pure rfl rfl rfl rfl (P_ixa0 (4 * k) rfl ty_ar_404 rfl rfl (by first | rfl | omega) (by omega)) ?_) | (refine O_pure rfl rfl rfl rfl (P_ixa (4 * k) rfl ty_ar_404 rfl rfl (by first | rfl | omega) (by omega)) ?_)
  refine oV rfl (V_load rfl rfl ty_sc_5 (Rd.blk .h2 (ints_at (by omega)))) (k:=?_)
  refine oP rfl (P_conv rfl ty_int_5 ty_int_82 rfl) (k:=?_)
  refine oP rfl (P_shl rfl rfl rfl (by decide)) (k:=oP rfl pM (k:=?_))
  first | (refine O_pure rfl rfl rfl rfl (P_mulN rfl rfl rfl (by simp only [fits]; omega)) ?_) | (refine O_pure rfl rfl rfl rfl (P_mul rfl rfl rfl) ?_)
  first | (refine O_pure rfl rfl rfl rfl (P_addN rfl rfl rfl (by simp only [fits]; omega)) ?_) | (refine O_pure rfl rfl rfl rfl (P_add rfl rfl rfl) ?_)
  first | (refine O_pure rfl rfl rfl rfl (P_ixa0 (4 * k + 1) rfl ty_ar_404 rfl rfl (by first | rfl | omega) (by omega)) ?_) | (refine O_pure rfl rfl rfl rfl (P_ixa (4 * k + 1) rfl ty_ar_404 rfl rfl (by first | rfl | omega) (by omega)) ?_)
  refine oV rfl (V_load rfl rfl ty_sc_5 (Rd.blk .h2 (ints_at (by omega)))) (k:=?_)
  refine oP rfl (P_conv rfl ty_int_5 ty_int_82 rfl) (k:=?_)
  refine oP rfl (P_shl rfl rfl rfl (by decide)) (k:=?_)
  refine oP rfl (P_bit (op := .or) rfl rfl rfl rfl) (k:=oP rfl pM (k:=?_))
  first | (refine O_pure rfl rfl rfl rfl (P_mulN rfl rfl rfl (by simp only [fits]; omega)) ?_) | (refine O_pure rfl rfl rfl rfl (P_mul rfl rfl rfl) ?_)
  first | (refine O_pure rfl rfl rfl rfl (P_addN rfl rfl rfl (by simp only [fits]; omega)) ?_) | (refine O_pure rfl rfl rfl rfl (P_add rfl rfl rfl) ?_)
  first | (refine O_pure rfl rfl rfl rfl (P_ixa0 (4 * k + 2) rfl ty_ar_404 rfl rfl (by first | rfl | omega) (by omega)) ?_) | (refine O_pure rfl rfl rfl rfl (P_ixa (4 * k + 2) rfl ty_ar_404 rfl rfl (by first | rfl | omega) (by omega)) ?_)
  refine oV rfl (V_load rfl rfl ty_sc_5 (Rd.blk .h2 (ints_at (by omega)))) (k:=?_)
  refine oP rfl (P_conv rfl ty_int_5 ty_int_82 rfl) (k:=?_)
  refine oP rfl (P_shl rfl rfl rfl (by decide)) (k:=?_)
  refine oP rfl (P_bit (op := .or) rfl rfl rfl rfl) (k:=oP rfl pM (k:=?_))
  first | (refine O_pure rfl rfl rfl rfl (P_mulN rfl rfl rfl (by simp only [fits]; omega)) ?_) | (refine O_pure rfl rfl rfl rfl (P_mul rfl rfl rfl) ?_)
  first | (refine O_pure rfl rfl rfl rfl (P_addN rfl rfl rfl (by simp only [fits]; omega)) ?_) | (refine O_pure rfl rfl rfl rfl (P_add rfl rfl rfl) ?_)
  first | (refine O_pure rfl rfl rfl rfl (P_ixa0 (4 * k + 3) rfl ty_ar_404 rfl rfl (by first | rfl | omega) (by omega)) ?_) | (refine O_pure rfl rfl rfl rfl (P_ixa (4 * k + 3) rfl ty_ar_404 rfl rfl (by first | rfl | omega) (by omega)) ?_)
  refine oV rfl (V_load rfl rfl ty_sc_5 (Rd.blk .h2 (ints_at (by omega)))) (k:=?_)
  refine oP rfl (P_conv rfl ty_int_5 ty_int_82 rfl) (k:=?_)
  refine oP rfl (P_bit (op := .or) rfl rfl rfl rfl) (k:=?_)
  first | (refine O_pure rfl rfl rfl rfl (P_ixa0 (k) rfl ty_ar_352 rfl rfl (by first | rfl | omega) (by omega)) ?_) | (refine O_pure rfl rfl rfl rfl (P_ixa (k) rfl ty_ar_352 rfl rfl (by first | rfl | omega) (by omega)) ?_)
  refine O_new rfl rfl (W_store rfl rfl rfl rfl ty_sc_82 rfl .h0 (by rw [ints_length, hl]; omega) (K_new ?_))
  rw [ints_set]
  refine O_nil (Q_block (qT (rR ?_)))
  first | (refine L_val rfl rfl rfl (OpP.v (P_addN rfl rfl rfl (by simp only [fits]; omega))) ?_) | (refine L_val rfl rfl rfl (OpP.v (P_add rfl rfl rfl)) ?_)
  refine lM (k:=?_)
  refine L_nil ?_
  refine E_nat (t := 19) (n := k + 1) rfl (by omega) ?_
  exact Q_round (k + 1) (by omega) (by omega) (by repeat (first | exact .nil | refine .cons rfl ?_)) (Weak.refl _)
 ·skip
  refine R_exit (Q_then_exit (Q_then_exit (Q_block_eq ?_)))
  refine St.env (cE 2 rfl (cE 4 rfl (cE 5 rfl .nil))) (qT (rS (rT (lA (k:=?_)))))
  refine L_nil (qT (R_block ?_))
  obtain rfl : k = 16 := by omega
  refine R_loop (G := Nat) (fun k => [(2, .pointer (some ⟨b2, 0, none⟩)), (4, .pointer (some ⟨b4, 0, none⟩)), (5, .pointer (some ⟨b5, 0, none⟩)), (7, .int .i64 ((16 + k : Nat) : Int))]) (fun k => [blk b5 (ints .u32 (sch2 (sch1 p 16) k)) 352, blk b4 (List.replicate 8 (.int .u32 0)) 403, blk b3 (ints .u8 p) 404, blk b2 (ints .u32 s) 403]) (fun k => k ≤ 48) (fun k => 48 - k) (0) (by omega) (by repeat (first | exact .nil | refine .cons rfl ?_)) (Weak.refl _) ?_
  intro k hk
  have hl : (sch2 (sch1 p 16) k).length = 64 := by rw [sch2_length, sch1_length]
  refine rS (rT (lM (k:=lP pLt (k:=?_))))
  refine L_nil (qT ?_)
  refine R_condP rfl (fun hlt2 => ?_) (fun hlt2 => ?_)
  ·skip
   refine R_skip (qT (rS (R_block (rS ?_))))
   refine R_open [(0, 0), (1, 0), (2, 0), (3, 1), (4, 0), (5, 0), (6, 0), (7, 1), (8, 0), (9, 0)] mixed (by kernel_rfl) (QOk.then (QOk.block (QOk.then (QOk.then (QOk.block (QOk.then QOk.body)))))) (oP rfl pM (k:=?_))
   first | (refine O_pure rfl rfl rfl rfl (P_subN rfl rfl rfl (by simp only [fits]; omega)) ?_) | (refine O_pure rfl rfl rfl rfl (P_sub rfl rfl rfl) ?_)
   first | (refine O_pure rfl rfl rfl rfl (P_ixa0 (k + 1) rfl ty_ar_352 rfl rfl (by first | rfl | omega) (by omega)) ?_) | (refine O_pure rfl rfl rfl rfl (P_ixa (k + 1) rfl ty_ar_352 rfl rfl (by first | rfl | omega) (by omega)) ?_)
   refine oV rfl (V_load rfl rfl ty_sc_82 (Rd.blk .h0 (ints_at (by omega)))) (k:=oP rfl pM (k:=?_))
   first | (refine O_pure rfl rfl rfl rfl (P_subN rfl rfl rfl (by simp only [fits]; omega)) ?_) | (refine O_pure rfl rfl rfl rfl (P_sub rfl rfl rfl) ?_)
   first | (refine O_pure rfl rfl rfl rfl (P_ixa0 (k + 14) rfl ty_ar_352 rfl rfl (by first | rfl | omega) (by omega)) ?_) | (refine O_pure rfl rfl rfl rfl (P_ixa (k + 14) rfl ty_ar_352 rfl rfl (by first | rfl | omega) (by omega)) ?_)
   refine oV rfl (V_load rfl rfl ty_sc_82 (Rd.blk .h0 (ints_at (by omega)))) (k:=oP rfl pA (k:=oP rfl pA (k:=O_nil (qT (rT (lM (k:=?_)))))))
   refine lO (W_callV rfl rfl rfl rfl fn_ca_317 (SpecV.mono (rotl_ok gl _ (-7)) (fun _ h => h) (by rw [rot7])) (fun _ _ => trivial) (lM (k:=?_)))
   refine lO (W_callV rfl rfl rfl rfl fn_ca_317 (SpecV.mono (rotl_ok gl _ (-18)) (fun _ h => h) (by rw [rot18])) (fun _ _ => trivial) ?_)
   refine lP (P_bit (op := .xor) rfl rfl rfl rfl) (k:=lM (k:=?_))
   refine lP (P_shr rfl rfl rfl (by decide)) (k:=?_)
   refine lP (P_bit (op := .xor) rfl rfl rfl rfl) (k:=lA (k:=?_))
   refine L_nil (qT (rT (lM (k:=?_))))
   refine lO (W_callV rfl rfl rfl rfl fn_ca_317 (SpecV.mono (rotl_ok gl _ (-17)) (fun _ h => h) (by rw [rot17])) (fun _ _ => trivial) (lM (k:=?_)))
   refine lO (W_callV rfl rfl rfl rfl fn_ca_317 (SpecV.mono (rotl_ok gl _ (-19)) (fun _ h => h) (by rw [rot19])) (fun _ _ => trivial) ?_)
   refine lP (P_bit (op := .xor) rfl rfl rfl rfl) (k:=lM (k:=?_))
   refine lP (P_shr rfl rfl rfl (by decide)) (k:=?_)
   refine lP (P_bit (op := .xor) rfl rfl rfl rfl) (k:=lA (k:=?_))
   refine L_nil (qT ?_)
   refine R_open [(0, 0), (1, 0), (2, 0), (3, 0), (4, 1), (5, 0), (6, 0), (7, 0), (8, 0), (9, 0), (10, 1), (11, 0), (12, 0), (13, 0), (14, 0), (15, 3)] mixed (by kernel_rfl) (QOk.block (QOk.then (QOk.then (QOk.block (QOk.then QOk.body))))) (oP rfl pM (k:=oP rfl pM (k:=?_)))
   first | (refine O_pure rfl rfl rfl rfl (P_subN rfl rfl rfl (by simp only [fits]; omega)) ?_) | (refine O_pure rfl rfl rfl rfl (P_sub rfl rfl rfl) ?_)
   first | (refine O_pure rfl rfl rfl rfl (P_ixa0 (k) rfl ty_ar_352 rfl rfl (by first | rfl | omega) (by omega)) ?_) | (refine O_pure rfl rfl rfl rfl (P_ixa (k) rfl ty_ar_352 rfl rfl (by first | rfl | omega) (by omega)) ?_)
   refine oV rfl (V_load rfl rfl ty_sc_82 (Rd.blk .h0 (ints_at (by omega)))) (k:=oP rfl pM (k:=?_))
   refine oP rfl (P_add rfl rfl rfl) (k:=oP rfl pM (k:=?_))
   first | (refine O_pure rfl rfl rfl rfl (P_subN rfl rfl rfl (by simp only [fits]; omega)) ?_) | (refine O_pure rfl rfl rfl rfl (P_sub rfl rfl rfl) ?_)
   first | (refine O_pure rfl rfl rfl rfl (P_ixa0 (k + 9) rfl ty_ar_352 rfl rfl (by first | rfl | omega) (by omega)) ?_) | (refine O_pure rfl rfl rfl rfl (P_ixa (k + 9) rfl ty_ar_352 rfl rfl (by first | rfl | omega) (by omega)) ?_)
   refine oV rfl (V_load rfl rfl ty_sc_82 (Rd.blk .h0 (ints_at (by omega)))) (k:=?_)
   refine oP rfl (P_add rfl rfl rfl) (k:=oP rfl pM (k:=?_))
   refine oP rfl (P_add rfl rfl rfl) (k:=?_)
   first | (refine O_pure rfl rfl rfl rfl (P_ixa0 (16 + k) rfl ty_ar_352 rfl rfl (by first | rfl | omega) (by omega)) ?_) | (refine O_pure rfl rfl rfl rfl (P_ixa (16 + k) rfl ty_ar_352 rfl rfl (by first | rfl | omega) (by omega)) ?_)
   refine O_new rfl rfl (W_store rfl rfl rfl rfl ty_sc_82 rfl .h0 (by rw [ints_length, hl]; omega) (K_new ?_))
   rw [ints_set]
   refine O_nil (Q_block (qT (rR (lM (k:=?_)))))
   first | (refine L_val rfl rfl rfl (OpP.v (P_addN rfl rfl rfl (by simp only [fits]; omega))) ?_) | (refine L_val rfl rfl rfl (OpP.v (P_add rfl rfl rfl)) ?_)
   refine lA (k:=?_)
   refine L_nil ?_
   refine E_nat (t := 7) (n := 16 + (k + 1)) rfl (by omega) ?_
   exact Q_round (k + 1) (by omega) (by omega) (by repeat (first | exact .nil | refine .cons rfl ?_)) (Weak.refl _)
  ·skip
   refine R_exit (Q_then_exit (Q_then_exit (Q_block_eq ?_)))
   refine St.env (cE 2 rfl (cE 4 rfl (cE 5 rfl .nil))) (qT (rT ?_))
   refine lV (V_loadAgg rfl rfl ty_ag_403 (Rds.blk .h3) (by rw [ints_length, hs])) (k:=?_)
   refine lO (W_alloc rfl rfl rfl ty_ze_403 fun b12 => ?_)
   refine lO (W_storeAll rfl rfl rfl rfl ty_ag_403 (by rw [ints_length, hs]) (ints_one) .h0 (by rw [ints_length, List.length_replicate]; exact hs) ?_)
   refine lQ (cE 2 rfl (cE 4 rfl (cE 5 rfl (cE 12 rfl .nil)))) (rS (rT (lM (k:=?_))))
   refine L_nil (qT (R_block ?_))
   obtain rfl : k = 48 := by omega
   refine R_loop (G := Nat) (fun k => [(2, .pointer (some ⟨b2, 0, none⟩)), (4, .pointer (some ⟨b4, 0, none⟩)), (5, .pointer (some ⟨b5, 0, none⟩)), (12, .pointer (some ⟨b12, 0, none⟩)), (98, .int .i64 (k : Int))]) (fun k => [blk b12 (ints .u32 (rnds addsK (sch2 (sch1 p 16) 48) s k)) 403, blk b5 (ints .u32 (sch2 (sch1 p 16) 48)) 352, blk b4 (List.replicate 8 (.int .u32 0)) 403, blk b3 (ints .u8 p) 404, blk b2 (ints .u32 s) 403]) (fun k => k ≤ 64) (fun k => 64 - k) (0) (by omega) (by repeat (first | exact .nil | refine .cons rfl ?_)) (Weak.refl _) ?_
   intro k hk
   have hl : (sch2 (sch1 p 16) 48).length = 64 := by rw [sch2_length, sch1_length]
   have hr : (rnds addsK (sch2 (sch1 p 16) 48) s k).length = 8 := by rw [rnds_length, hs]
   obtain ⟨va, vb, vc, vd, ve, vf, vg, vh, e8⟩ := list8 hr
   rw [e8]
   refine rT (lP pLt (k:=?_))
   refine L_nil (qT (rS ?_))
   refine R_condP rfl (fun hlt3 => ?_) (fun hlt3 => ?_)
   ·skip
    refine R_skip (qT (rS (R_block (rT (lM (k:=lA (k:=?_)))))))
    refine L_nil (qT (rS ?_))
    refine R_open [(0, 0), (1, 1), (2, 0), (3, 1), (4, 0), (5, 0)] mixed (by kernel_rfl) (QOk.then (QOk.block (QOk.then (QOk.then (QOk.block (QOk.then QOk.body)))))) ?_
    first | (refine O_pure rfl rfl rfl rfl (P_ixa0 (4) rfl ty_ar_403 rfl rfl (by first | rfl | omega) (by omega)) ?_) | (refine O_pure rfl rfl rfl rfl (P_ixa (4) rfl ty_ar_403 rfl rfl (by first | rfl | omega) (by omega)) ?_)
    refine oV rfl (V_load rfl rfl ty_sc_82 (by first | exact Rd.blk .h0 rfl | exact Rd.blk .h1 rfl | exact Rd.blk .h2 rfl | exact Rd.blk .h3 rfl | exact Rd.blk .h4 rfl | exact Rd.blk .h5 rfl | exact Rd.blk .h6 rfl | exact Rd.blk .h7 rfl)) (k:=?_)
    first | (refine O_pure rfl rfl rfl rfl (P_ixa0 (0) rfl ty_ar_403 rfl rfl (by first | rfl | omega) (by omega)) ?_) | (refine O_pure rfl rfl rfl rfl (P_ixa (0) rfl ty_ar_403 rfl rfl (by first | rfl | omega) (by omega)) ?_)
    refine oV rfl (V_load rfl rfl ty_sc_82 (by first | exact Rd.blk .h0 rfl | exact Rd.blk .h1 rfl | exact Rd.blk .h2 rfl | exact Rd.blk .h3 rfl | exact Rd.blk .h4 rfl | exact Rd.blk .h5 rfl | exact Rd.blk .h6 rfl | exact Rd.blk .h7 rfl)) (k:=oP rfl pA (k:=oP rfl pA (k:=O_nil (qT (rS ?_)))))
    refine R_open [(0, 0), (1, 1), (2, 0), (4, 0), (7, 0), (11, 0), (12, 0), (13, 1), (14, 0), (15, 0), (16, 0), (17, 0), (18, 1), (19, 0), (20, 0), (22, 0), (23, 0), (24, 1), (26, 0), (27, 0), (28, 1), (3, 2), (5, 2), (6, 0), (8, 2), (9, 0), (10, 0), (21, 0), (25, 0), (29, 0), (30, 0)] mixed (by kernel_rfl) (QOk.then (QOk.block (QOk.then (QOk.then (QOk.block (QOk.then QOk.body)))))) ?_
    first | (refine O_pure rfl rfl rfl rfl (P_ixa0 (7) rfl ty_ar_403 rfl rfl (by first | rfl | omega) (by omega)) ?_) | (refine O_pure rfl rfl rfl rfl (P_ixa (7) rfl ty_ar_403 rfl rfl (by first | rfl | omega) (by omega)) ?_)
    refine oV rfl (V_load rfl rfl ty_sc_82 (by first | exact Rd.blk .h0 rfl | exact Rd.blk .h1 rfl | exact Rd.blk .h2 rfl | exact Rd.blk .h3 rfl | exact Rd.blk .h4 rfl | exact Rd.blk .h5 rfl | exact Rd.blk .h6 rfl | exact Rd.blk .h7 rfl)) (k:=oP rfl pM (k:=oP rfl pM (k:=oP rfl pM (k:=oP rfl pM (k:=?_)))))
    first | (refine O_pure rfl rfl rfl rfl (P_ixa0 (5) rfl ty_ar_403 rfl rfl (by first | rfl | omega) (by omega)) ?_) | (refine O_pure rfl rfl rfl rfl (P_ixa (5) rfl ty_ar_403 rfl rfl (by first | rfl | omega) (by omega)) ?_)
    refine oV rfl (V_load rfl rfl ty_sc_82 (by first | exact Rd.blk .h0 rfl | exact Rd.blk .h1 rfl | exact Rd.blk .h2 rfl | exact Rd.blk .h3 rfl | exact Rd.blk .h4 rfl | exact Rd.blk .h5 rfl | exact Rd.blk .h6 rfl | exact Rd.blk .h7 rfl)) (k:=?_)
    refine oP rfl (P_bit (op := .and) rfl rfl rfl rfl) (k:=oP rfl pM (k:=?_))
    refine oP rfl (P_compl rfl rfl) (k:=?_)
    first | (refine O_pure rfl rfl rfl rfl (P_ixa0 (6) rfl ty_ar_403 rfl rfl (by first | rfl | omega) (by omega)) ?_) | (refine O_pure rfl rfl rfl rfl (P_ixa (6) rfl ty_ar_403 rfl rfl (by first | rfl | omega) (by omega)) ?_)
    refine oV rfl (V_load rfl rfl ty_sc_82 (by first | exact Rd.blk .h0 rfl | exact Rd.blk .h1 rfl | exact Rd.blk .h2 rfl | exact Rd.blk .h3 rfl | exact Rd.blk .h4 rfl | exact Rd.blk .h5 rfl | exact Rd.blk .h6 rfl | exact Rd.blk .h7 rfl)) (k:=?_)
    refine oP rfl (P_bit (op := .and) rfl rfl rfl rfl) (k:=?_)
    refine oP rfl (P_bit (op := .xor) rfl rfl rfl rfl) (k:=oP rfl pM (k:=?_))
    first | (refine O_pure rfl rfl rfl rfl (P_ixa0 (k) rfl ty_ar_352 rfl rfl (by first | rfl | omega) (by omega)) ?_) | (refine O_pure rfl rfl rfl rfl (P_ixa (k) rfl ty_ar_352 rfl rfl (by first | rfl | omega) (by omega)) ?_)
    refine oV rfl (V_load rfl rfl ty_sc_82 (hG.elim fun T h => h.elim fun fr h => Rd.glob rfl h (ints_at (by rw [addsK_length]; omega)))) (k:=oP rfl pM (k:=?_))
    first | (refine O_pure rfl rfl rfl rfl (P_ixa0 (k) rfl ty_ar_352 rfl rfl (by first | rfl | omega) (by omega)) ?_) | (refine O_pure rfl rfl rfl rfl (P_ixa (k) rfl ty_ar_352 rfl rfl (by first | rfl | omega) (by omega)) ?_)
    refine oV rfl (V_load rfl rfl ty_sc_82 (Rd.blk .h1 (ints_at (by omega)))) (k:=?_)
    refine O_keep rfl rfl (W_callV rfl rfl rfl rfl fn_ca_317 (SpecV.mono (rotl_ok gl _ (-6)) (fun _ h => h) (by rw [rot6])) (fun _ _ => trivial) (K_keep (Weak.refl _) ?_))
    refine O_keep rfl rfl (W_callV rfl rfl rfl rfl fn_ca_317 (SpecV.mono (rotl_ok gl _ (-11)) (fun _ h => h) (by rw [rot11])) (fun _ _ => trivial) (K_keep (Weak.refl _) ?_))
    refine oP rfl (P_bit (op := .xor) rfl rfl rfl rfl) (k:=?_)
    refine O_keep rfl rfl (W_callV rfl rfl rfl rfl fn_ca_317 (SpecV.mono (rotl_ok gl _ (-25)) (fun _ h => h) (by rw [rot25])) (fun _ _ => trivial) (K_keep (Weak.refl _) ?_))
    refine oP rfl (P_bit (op := .xor) rfl rfl rfl rfl) (k:=?_)
    refine oP rfl (P_add rfl rfl rfl) (k:=?_)
    refine oP rfl (P_add rfl rfl rfl) (k:=?_)
    refine oP rfl (P_add rfl rfl rfl) (k:=?_)
    refine oP rfl (P_add rfl rfl rfl) (k:=oP rfl pA (k:=O_nil (qT (rS ?_))))
    refine R_open [(0, 0), (2, 0), (5, 0), (8, 0), (9, 0), (10, 1), (11, 0), (12, 0), (13, 0), (14, 1), (15, 0), (16, 0), (17, 0), (18, 1), (19, 0), (20, 1), (21, 0), (22, 0), (1, 2), (3, 2), (4, 0), (6, 2), (7, 0), (23, 0), (24, 0)] mixed (by kernel_rfl) (QOk.then (QOk.block (QOk.then (QOk.then (QOk.block (QOk.then QOk.body)))))) (oP rfl pM (k:=oP rfl pM (k:=oP rfl pM (k:=oP rfl pM (k:=?_)))))
    first | (refine O_pure rfl rfl rfl rfl (P_ixa0 (1) rfl ty_ar_403 rfl rfl (by first | rfl | omega) (by omega)) ?_) | (refine O_pure rfl rfl rfl rfl (P_ixa (1) rfl ty_ar_403 rfl rfl (by first | rfl | omega) (by omega)) ?_)
    refine oV rfl (V_load rfl rfl ty_sc_82 (by first | exact Rd.blk .h0 rfl | exact Rd.blk .h1 rfl | exact Rd.blk .h2 rfl | exact Rd.blk .h3 rfl | exact Rd.blk .h4 rfl | exact Rd.blk .h5 rfl | exact Rd.blk .h6 rfl | exact Rd.blk .h7 rfl)) (k:=?_)
    refine oP rfl (P_bit (op := .and) rfl rfl rfl rfl) (k:=oP rfl pM (k:=?_))
    first | (refine O_pure rfl rfl rfl rfl (P_ixa0 (2) rfl ty_ar_403 rfl rfl (by first | rfl | omega) (by omega)) ?_) | (refine O_pure rfl rfl rfl rfl (P_ixa (2) rfl ty_ar_403 rfl rfl (by first | rfl | omega) (by omega)) ?_)
    refine oV rfl (V_load rfl rfl ty_sc_82 (by first | exact Rd.blk .h0 rfl | exact Rd.blk .h1 rfl | exact Rd.blk .h2 rfl | exact Rd.blk .h3 rfl | exact Rd.blk .h4 rfl | exact Rd.blk .h5 rfl | exact Rd.blk .h6 rfl | exact Rd.blk .h7 rfl)) (k:=?_)
    refine oP rfl (P_bit (op := .and) rfl rfl rfl rfl) (k:=?_)
    refine oP rfl (P_bit (op := .xor) rfl rfl rfl rfl) (k:=?_)
    first | (refine O_pure rfl rfl rfl rfl (P_ixa0 (1) rfl ty_ar_403 rfl rfl (by first | rfl | omega) (by omega)) ?_) | (refine O_pure rfl rfl rfl rfl (P_ixa (1) rfl ty_ar_403 rfl rfl (by first | rfl | omega) (by omega)) ?_)
    refine oV rfl (V_load rfl rfl ty_sc_82 (by first | exact Rd.blk .h0 rfl | exact Rd.blk .h1 rfl | exact Rd.blk .h2 rfl | exact Rd.blk .h3 rfl | exact Rd.blk .h4 rfl | exact Rd.blk .h5 rfl | exact Rd.blk .h6 rfl | exact Rd.blk .h7 rfl)) (k:=?_)
    first | (refine O_pure rfl rfl rfl rfl (P_ixa0 (2) rfl ty_ar_403 rfl rfl (by first | rfl | omega) (by omega)) ?_) | (refine O_pure rfl rfl rfl rfl (P_ixa (2) rfl ty_ar_403 rfl rfl (by first | rfl | omega) (by omega)) ?_)
    refine oV rfl (V_load rfl rfl ty_sc_82 (by first | exact Rd.blk .h0 rfl | exact Rd.blk .h1 rfl | exact Rd.blk .h2 rfl | exact Rd.blk .h3 rfl | exact Rd.blk .h4 rfl | exact Rd.blk .h5 rfl | exact Rd.blk .h6 rfl | exact Rd.blk .h7 rfl)) (k:=?_)
    refine oP rfl (P_bit (op := .and) rfl rfl rfl rfl) (k:=?_)
    refine oP rfl (P_bit (op := .xor) rfl rfl rfl rfl) (k:=?_)
    refine O_keep rfl rfl (W_callV rfl rfl rfl rfl fn_ca_317 (SpecV.mono (rotl_ok gl _ (-2)) (fun _ h => h) (by rw [rot2])) (fun _ _ => trivial) (K_keep (Weak.refl _) ?_))
    refine O_keep rfl rfl (W_callV rfl rfl rfl rfl fn_ca_317 (SpecV.mono (rotl_ok gl _ (-13)) (fun _ h => h) (by rw [rot13])) (fun _ _ => trivial) (K_keep (Weak.refl _) ?_))
    refine oP rfl (P_bit (op := .xor) rfl rfl rfl rfl) (k:=?_)
    refine O_keep rfl rfl (W_callV rfl rfl rfl rfl fn_ca_317 (SpecV.mono (rotl_ok gl _ (-22)) (fun _ h => h) (by rw [rot22])) (fun _ _ => trivial) (K_keep (Weak.refl _) ?_))
    refine oP rfl (P_bit (op := .xor) rfl rfl rfl rfl) (k:=?_)
    refine oP rfl (P_add rfl rfl rfl) (k:=oP rfl pA (k:=O_nil (qT (rR (lM (k:=lM (k:=?_)))))))
    refine lP (P_add rfl rfl rfl) (k:=lM (k:=?_))
    first | (refine L_val rfl rfl rfl (OpP.v (P_ixa0 (1) rfl ty_ar_403 rfl rfl (by first | rfl | omega) (by omega))) ?_) | (refine L_val rfl rfl rfl (OpP.v (P_ixa (1) rfl ty_ar_403 rfl rfl (by first | rfl | omega) (by omega))) ?_)
    refine lV (V_load rfl rfl ty_sc_82 (by first | exact Rd.blk .h0 rfl | exact Rd.blk .h1 rfl | exact Rd.blk .h2 rfl | exact Rd.blk .h3 rfl | exact Rd.blk .h4 rfl | exact Rd.blk .h5 rfl | exact Rd.blk .h6 rfl | exact Rd.blk .h7 rfl)) (k:=?_)
    first | (refine L_val rfl rfl rfl (OpP.v (P_ixa0 (2) rfl ty_ar_403 rfl rfl (by first | rfl | omega) (by omega))) ?_) | (refine L_val rfl rfl rfl (OpP.v (P_ixa (2) rfl ty_ar_403 rfl rfl (by first | rfl | omega) (by omega))) ?_)
    refine lV (V_load rfl rfl ty_sc_82 (by first | exact Rd.blk .h0 rfl | exact Rd.blk .h1 rfl | exact Rd.blk .h2 rfl | exact Rd.blk .h3 rfl | exact Rd.blk .h4 rfl | exact Rd.blk .h5 rfl | exact Rd.blk .h6 rfl | exact Rd.blk .h7 rfl)) (k:=?_)
    first | (refine L_val rfl rfl rfl (OpP.v (P_ixa0 (3) rfl ty_ar_403 rfl rfl (by first | rfl | omega) (by omega))) ?_) | (refine L_val rfl rfl rfl (OpP.v (P_ixa (3) rfl ty_ar_403 rfl rfl (by first | rfl | omega) (by omega))) ?_)
    refine lV (V_load rfl rfl ty_sc_82 (by first | exact Rd.blk .h0 rfl | exact Rd.blk .h1 rfl | exact Rd.blk .h2 rfl | exact Rd.blk .h3 rfl | exact Rd.blk .h4 rfl | exact Rd.blk .h5 rfl | exact Rd.blk .h6 rfl | exact Rd.blk .h7 rfl)) (k:=lM (k:=?_))
    refine lP (P_add rfl rfl rfl) (k:=lM (k:=?_))
    first | (refine L_val rfl rfl rfl (OpP.v (P_ixa0 (5) rfl ty_ar_403 rfl rfl (by first | rfl | omega) (by omega))) ?_) | (refine L_val rfl rfl rfl (OpP.v (P_ixa (5) rfl ty_ar_403 rfl rfl (by first | rfl | omega) (by omega))) ?_)
    refine lV (V_load rfl rfl ty_sc_82 (by first | exact Rd.blk .h0 rfl | exact Rd.blk .h1 rfl | exact Rd.blk .h2 rfl | exact Rd.blk .h3 rfl | exact Rd.blk .h4 rfl | exact Rd.blk .h5 rfl | exact Rd.blk .h6 rfl | exact Rd.blk .h7 rfl)) (k:=?_)
    first | (refine L_val rfl rfl rfl (OpP.v (P_ixa0 (6) rfl ty_ar_403 rfl rfl (by first | rfl | omega) (by omega))) ?_) | (refine L_val rfl rfl rfl (OpP.v (P_ixa (6) rfl ty_ar_403 rfl rfl (by first | rfl | omega) (by omega))) ?_)
    refine lV (V_load rfl rfl ty_sc_82 (by first | exact Rd.blk .h0 rfl | exact Rd.blk .h1 rfl | exact Rd.blk .h2 rfl | exact Rd.blk .h3 rfl | exact Rd.blk .h4 rfl | exact Rd.blk .h5 rfl | exact Rd.blk .h6 rfl | exact Rd.blk .h7 rfl)) (k:=?_)
    refine lP (P_buildArr rfl ty_ar_403 ty_ze_403 rfl rfl rfl rfl (by simp [Value.oneCell'])) (k:=?_)
    refine lO (W_storeAll rfl rfl rfl rfl ty_ag_403 (by first | rfl | simp [ints]) (by intro v hv; simp at hv; rcases hv with rfl | rfl | rfl | rfl | rfl | rfl | rfl | rfl <;> rfl) .h0 (by first | rfl | simp [ints]) ?_)
    refine L_nil (Q_block (qT (rR ?_)))
    first | (refine L_val rfl rfl rfl (OpP.v (P_addN rfl rfl rfl (by simp only [fits]; omega))) ?_) | (refine L_val rfl rfl rfl (OpP.v (P_add rfl rfl rfl)) ?_)
    refine lM (k:=?_)
    refine L_nil ?_
    refine E_nat (t := 98) (n := k + 1) rfl (by omega) ?_
    exact Q_round (k + 1) (by omega) (by omega) (by repeat (first | exact .nil | refine .cons rfl ?_)) (by rw [rnds, e8]; exact Weak.refl _)
   ·skip
    refine R_exit (Q_then_exit (Q_then_exit (Q_block_eq ?_)))
    refine St.env (cE 2 rfl (cE 4 rfl (cE 12 rfl .nil))) (qT (rS (rT (lM (k:=?_)))))
    refine L_nil (qT (R_block ?_))
    obtain rfl : k = 64 := by omega
    rw [← e8]
    refine R_loop (G := Nat) (fun k => [(2, .pointer (some ⟨b2, 0, none⟩)), (4, .pointer (some ⟨b4, 0, none⟩)), (12, .pointer (some ⟨b12, 0, none⟩)), (178, .int .i64 (k : Int))]) (fun k => [blk b12 (ints .u32 (rnds addsK (sch2 (sch1 p 16) 48) s 64)) 403, blk b5 (ints .u32 (sch2 (sch1 p 16) 48)) 352, blk b4 (List.replicate 8 (.int .u32 0)) 403, blk b3 (ints .u8 p) 404, blk b2 (ints .u32 (fin8 s (rnds addsK (sch2 (sch1 p 16) 48) s 64) k)) 403]) (fun k => k ≤ 8) (fun k => 8 - k) (0) (by omega) (by repeat (first | exact .nil | refine .cons rfl ?_)) (Weak.refl _) ?_
    intro k hk
    have hf : (fin8 s (rnds addsK (sch2 (sch1 p 16) 48) s 64) k).length = 8 := by rw [fin8_length, hs]
    have hr : (rnds addsK (sch2 (sch1 p 16) 48) s 64).length = 8 := by rw [rnds_length, hs]
    refine rT (lP pLt (k:=?_))
    refine L_nil (qT (rS ?_))
    refine R_condP rfl (fun hlt4 => ?_) (fun hlt4 => ?_)
    ·skip
     refine R_skip (qT (rS (R_block (rT (lM (k:=lA (k:=?_)))))))
     refine L_nil (qT ?_)
     refine R_open [(0, 0), (1, 0), (2, 1), (3, 0), (4, 0), (5, 1), (6, 0), (7, 0), (8, 3)] mixed (by kernel_rfl) (QOk.block (QOk.then (QOk.then (QOk.block (QOk.then QOk.body))))) (oP rfl pM (k:=?_))
     first | (refine O_pure rfl rfl rfl rfl (P_ixa0 (k) rfl ty_ar_403 rfl rfl (by first | rfl | omega) (by omega)) ?_) | (refine O_pure rfl rfl rfl rfl (P_ixa (k) rfl ty_ar_403 rfl rfl (by first | rfl | omega) (by omega)) ?_)
     refine oV rfl (V_load rfl rfl ty_sc_82 (Rd.blk .h4 (ints_at (by omega)))) (k:=oP rfl pM (k:=?_))
     first | (refine O_pure rfl rfl rfl rfl (P_ixa0 (k) rfl ty_ar_403 rfl rfl (by first | rfl | omega) (by omega)) ?_) | (refine O_pure rfl rfl rfl rfl (P_ixa (k) rfl ty_ar_403 rfl rfl (by first | rfl | omega) (by omega)) ?_)
     refine oV rfl (V_load rfl rfl ty_sc_82 (Rd.blk .h0 (ints_at (by omega)))) (k:=?_)
     refine oP rfl (P_add rfl rfl rfl) (k:=?_)
     first | (refine O_pure rfl rfl rfl rfl (P_ixa0 (k) rfl ty_ar_403 rfl rfl (by first | rfl | omega) (by omega)) ?_) | (refine O_pure rfl rfl rfl rfl (P_ixa (k) rfl ty_ar_403 rfl rfl (by first | rfl | omega) (by omega)) ?_)
     refine O_new rfl rfl (W_store rfl rfl rfl rfl ty_sc_82 rfl .h4 (by rw [ints_length, hf]; omega) (K_new ?_))
     rw [ints_set]
     refine O_nil (Q_block (qT (rR ?_)))
     first | (refine L_val rfl rfl rfl (OpP.v (P_addN rfl rfl rfl (by simp only [fits]; omega))) ?_) | (refine L_val rfl rfl rfl (OpP.v (P_add rfl rfl rfl)) ?_)
     refine lM (k:=?_)
     refine L_nil ?_
     refine E_nat (t := 178) (n := k + 1) rfl (by omega) ?_
     exact Q_round (k + 1) (by omega) (by omega) (by repeat (first | exact .nil | refine .cons rfl ?_)) (Weak.refl _)
    ·skip
     refine R_exit (Q_then_exit (Q_then_exit (Q_block_eq ?_)))
     refine St.env (cE 2 rfl (cE 4 rfl .nil)) (qT (rT ?_))
     obtain rfl : k = 8 := by omega
     refine lV (V_loadAgg rfl rfl ty_ag_403 (Rds.blk .h4) (by rw [ints_length, hf])) (k:=?_)
     refine lO (W_storeAll rfl rfl rfl rfl ty_ag_403 (by rw [ints_length, hf]) (ints_one) .h2 (by rw [ints_length, hf]; rfl) ?_)
     refine lQ (cE 4 rfl .nil) (R_ret ?_)
     exact R_endV rfl rfl (.cell rfl (Rds.loadVar ty_ag_403 (Rds.blk .h2) (by rw [ints_length, hf])) .nil) (rfl)
end Go.Proofs.YtcngmkjdpoiiaaaGreatDoor

/- Plain: how the digest is made of all bytes, piece by piece and at once. -/
namespace Go.Proofs.YtcngmkjdpoiiaaaGreatDoor
open Go Go.RowKit

/-- k chunks worked in. -/
def cmpN : Nat → List Int → List Int → List Int
 | 0, s, _ => s
 | k + 1, s, xs => cmpN k (mixF addsK s (xs.take 64)) (xs.drop 64)
/-- all whole chunks -/
def cmp (xs : List Int) : List Int := cmpN (xs.length / 64) beginK xs
theorem cmpN_length (k : Nat) (s xs : List Int) : (cmpN k s xs).length = s.length := by
 induction k generalizing s xs with
 | zero => rfl
 | succ k ih => rw [cmpN, ih, mixF_length]
theorem cmp_length (xs : List Int) : (cmp xs).length = 8 := by rw [cmp, cmpN_length]; rfl
theorem cmpN_add (k m : Nat) (s xs : List Int) : cmpN (k + m) s xs = cmpN m (cmpN k s xs) (xs.drop (64 * k)) := by
 induction k generalizing s xs with
 | zero => simp [cmpN]
 | succ k ih =>
  rw [show k + 1 + m = (k + m) + 1 by omega, cmpN, ih, cmpN, List.drop_drop]
  congr 2
  omega
theorem cmpN_succ (k : Nat) (s xs : List Int) : cmpN (k + 1) s xs = mixF addsK (cmpN k s xs) ((xs.drop (64 * k)).take 64) := by
 rw [cmpN_add k 1]; rfl
theorem cmpN_append (k : Nat) (s xs ys : List Int) (h : 64 * k ≤ xs.length) : cmpN k s (xs ++ ys) = cmpN k s xs := by
 induction k generalizing s xs with
 | zero => rfl
 | succ k ih =>
  rw [cmpN, cmpN, List.take_append_of_le_length (by omega), List.drop_append_of_le_length (by omega), ih _ _ (by rw [List.length_drop]; omega)]
/-- What has not been worked in yet. -/
def rem64 (xs : List Int) : List Int := xs.drop (64 * (xs.length / 64))
theorem rem64_length (xs : List Int) : (rem64 xs).length = xs.length % 64 := by rw [rem64, List.length_drop]; omega
theorem cmp_small (xs zs : List Int) (h : xs.length % 64 + zs.length < 64) : cmp (xs ++ zs) = cmp xs ∧ rem64 (xs ++ zs) = rem64 xs ++ zs ∧ (xs ++ zs).length % 64 = xs.length % 64 + zs.length := by
 have e : (xs ++ zs).length / 64 = xs.length / 64 := by rw [List.length_append]; omega
 refine ⟨?_, ?_, by rw [List.length_append]; omega⟩
 ·rw [cmp, e, cmpN_append _ _ _ _ (by omega)]; rfl
 ·rw [rem64, e, List.drop_append_of_le_length (by omega)]; rfl
theorem cmp_full (xs zs : List Int) (h : xs.length % 64 + zs.length = 64) : cmp (xs ++ zs) = mixF addsK (cmp xs) (rem64 xs ++ zs) ∧ rem64 (xs ++ zs) = [] ∧ (xs ++ zs).length % 64 = 0 := by
 have e : (xs ++ zs).length / 64 = xs.length / 64 + 1 := by rw [List.length_append]; omega
 refine ⟨?_, ?_, by rw [List.length_append]; omega⟩
 ·rw [cmp, e, cmpN_succ, cmpN_append _ _ _ _ (by omega), List.drop_append_of_le_length (by omega), List.take_of_length_le (by rw [List.length_append, List.length_drop]; omega)]; rfl
 ·rw [rem64, e]
  apply List.drop_eq_nil_of_le
  rw [List.length_append]; omega
/-- How many zero bytes. -/
def padZ (n : Nat) : Nat := (119 - n % 64) % 64
/-- The eight bytes of the length in bits. -/
def lenB (n : Nat) : List Int := (List.range 8).map fun (j : Nat) => IntKind.u8.wrap (shrI .u64 (IntKind.u64.wrap (IntKind.u64.wrap (n : Int) * 8)) (56 - 8 * (j : Int)))
def padded (xs : List Int) : List Int := xs ++ [128] ++ List.replicate (padZ xs.length) 0 ++ lenB xs.length
theorem lenB_length (n : Nat) : (lenB n).length = 8 := by simp [lenB]
/-- The words as bytes. -/
def outB (ws : List Int) : List Int := (List.range 32).map fun (i : Nat) => IntKind.u8.wrap (shrI .u32 (ws.getD (i / 4) 0) (24 - 8 * ((i % 4 : Nat) : Int)))
theorem outB_length (ws : List Int) : (outB ws).length = 32 := by simp [outB]
/-- The digest of bytes. -/
def sha (xs : List Int) : List Int := outB (cmp (padded xs))
theorem sha_length (xs : List Int) : (sha xs).length = 32 := outB_length _
theorem wrap64_add (a b : Int) : IntKind.u64.wrap (IntKind.u64.wrap a + IntKind.u64.wrap b) = IntKind.u64.wrap (a + b) := by
 simp [IntKind.wrap, IntKind.signed, IntKind.bits]

/-- A Hasher's cells. -/
def hcells (made : Bool) (ws part : List Int) (held taken : Int) : List Value := [.bool made] ++ ints .u32 ws ++ ints .u8 part ++ [.int .i64 held, .int .u64 taken]
section
variable {made : Bool} {ws part : List Int} {held taken : Int} (hw : ws.length = 8) (hp : part.length = 64)
include hw hp
theorem hcells_length : (hcells made ws part held taken).length = 75 := by simp [hcells, ints, hw, hp]
theorem hcells_73 : (hcells made ws part held taken)[73]? = some (.int .i64 held) := by
 simp only [hcells]
 rw [List.getElem?_append_right (by simp [ints, hw, hp])]
 simp [ints, hw, hp]
theorem hcells_74 : (hcells made ws part held taken)[74]? = some (.int .u64 taken) := by
 simp only [hcells]
 rw [List.getElem?_append_right (by simp [ints, hw, hp])]
 simp [ints, hw, hp]
theorem hcells_set73 (n : Int) : (hcells made ws part held taken).set 73 (.int .i64 n) = hcells made ws part n taken := by
 simp only [hcells]
 rw [List.set_append_right _ _ (by simp [ints, hw, hp])]
 simp [ints, hw, hp]
theorem hcells_set74 (n : Int) : (hcells made ws part held taken).set 74 (.int .u64 n) = hcells made ws part held n := by
 simp only [hcells]
 rw [List.set_append_right _ _ (by simp [ints, hw, hp])]
 simp [ints, hw, hp]
theorem hcells_words (i : Nat) (v : Value) (h : (ints .u32 ws)[i]? = some v) : (hcells made ws part held taken)[1 + i]? = some v := by
 have hi : i < 8 := by have := (List.getElem?_eq_some_iff.1 h).1; rwa [ints_length, hw] at this
 simp only [hcells]
 rw [List.append_assoc, List.append_assoc, List.getElem?_append_right (by simp), List.getElem?_append_left (by simp [ints, hw]; omega)]
 simpa using h
theorem hcells_part (i : Nat) (v : Value) (h : (ints .u8 part)[i]? = some v) : (hcells made ws part held taken)[9 + i]? = some v := by
 have hi : i < 64 := by have := (List.getElem?_eq_some_iff.1 h).1; rwa [ints_length, hp] at this
 simp only [hcells]
 rw [List.append_assoc, List.getElem?_append_right (by simp [ints, hw]), List.getElem?_append_left (by simp [ints, hw, hp]; omega)]
 simp [ints, hw] at h ⊢
 exact h
theorem hcells_setWords (us : List Int) (hu : us.length = 8) : splice (hcells made ws part held taken) 1 (ints .u32 us) = hcells made us part held taken := by
 simp [splice, hcells, ints, hw, hu, List.drop_append]
theorem hcells_setPart (o : Nat) (us : List Int) (hu : o + us.length ≤ 64) : splice (hcells made ws part held taken) (9 + o) (ints .u8 us) = hcells made ws (part.take o ++ us ++ part.drop (o + us.length)) held taken := by
 have e : hcells made ws part held taken = ([.bool made] ++ ints .u32 ws) ++ (ints .u8 part ++ [.int .i64 held, .int .u64 taken]) := by simp [hcells]
 have l1 : ([Value.bool made] ++ ints .u32 ws).length = 9 := by simp [ints, hw]
 rw [e, splice, List.take_append, List.drop_append, l1]
 simp only [ints_length, Nat.add_sub_cancel_left, show 9 + o + us.length - 9 = o + us.length by omega]
 rw [List.take_of_length_le (by rw [l1]; omega), List.drop_eq_nil_of_le (by rw [l1]; omega), List.take_append_of_le_length (by rw [ints_length, hp]; omega), List.drop_append_of_le_length (by rw [ints_length, hp]; omega), ints_take, ints_drop]
 simp [hcells, ints]
end
end Go.Proofs.YtcngmkjdpoiiaaaGreatDoor

/- Walks: the Hasher. Printed by gen.py. -/
set_option maxRecDepth 100000
namespace Go.Proofs.YtcngmkjdpoiiaaaGreatDoor
open Go Go.RowKit Go.Proofs
/-- A Hasher that New or Copy made, which was given xs; 'taken' is its count. -/
def hcore (b : Nat) (xs : List Int) (taken : Int) : HP := ExP (fun p : List Int => p.length = 64 ∧ p.take (xs.length % 64) = rem64 xs) fun p => blk b (hcells true (cmp xs) p (xs.length % 64 : Nat) taken) 406
def hasher (b : Nat) (xs : List Int) : HP := hcore b xs (IntKind.u64.wrap xs.length)
theorem hcore_in {b : Nat} {X W P : List Int} {T H : Int} {rs : List HP} (hW : W = cmp X) (hP : P.length = 64) (hT : P.take (X.length % 64) = rem64 X) (hH : H = ((X.length % 64 : Nat) : Int)) :
  Weak (blk b (hcells true W P H T) 406 :: rs) (hcore b X T :: rs) := by
 subst hW; subst hH
 exact Weak.turn .h0 fun a ha => ⟨P, ⟨hP, hT⟩, ha⟩
theorem writeSmall {X zs P : List Int} (hP : P.length = 64) (hT : P.take (X.length % 64) = rem64 X) (h : X.length % 64 + zs.length < 64) :
  cmp X = cmp (X ++ zs) ∧ (P.take (X.length % 64) ++ zs ++ P.drop (X.length % 64 + zs.length)).length = 64 ∧ (P.take (X.length % 64) ++ zs ++ P.drop (X.length % 64 + zs.length)).take ((X ++ zs).length % 64) = rem64 (X ++ zs) ∧ (((X.length % 64 : Nat) : Int) + (zs.length : Nat)) = (((X ++ zs).length % 64 : Nat) : Int) := by
 obtain ⟨h1, h2, h3⟩ := cmp_small X zs h
 refine ⟨h1.symm, by simp [hP]; omega, ?_, by rw [h3]; omega⟩
 rw [h3, h2, hT, List.take_left' (by rw [List.length_append, rem64_length])]
theorem writeFull {X zs P : List Int} (hP : P.length = 64) (hT : P.take (X.length % 64) = rem64 X) (h : X.length % 64 + zs.length = 64) :
  mixF addsK (cmp X) (P.take (X.length % 64) ++ zs ++ P.drop (X.length % 64 + zs.length)) = cmp (X ++ zs) ∧ (P.take (X.length % 64) ++ zs ++ P.drop (X.length % 64 + zs.length)).length = 64 ∧ (P.take (X.length % 64) ++ zs ++ P.drop (X.length % 64 + zs.length)).take ((X ++ zs).length % 64) = rem64 (X ++ zs) ∧ (0 : Int) = (((X ++ zs).length % 64 : Nat) : Int) := by
 obtain ⟨h1, h2, h3⟩ := cmp_full X zs h
 have e : P.drop (X.length % 64 + zs.length) = [] := List.drop_eq_nil_of_le (by omega)
 refine ⟨by rw [h1, e, List.append_nil, hT], by simp [hP]; omega, by rw [h3, h2]; simp, by rw [h3]; rfl⟩
theorem good_ok (gl : Nat → Obj) (b : Nat) (m : Bool) : SpecV (cx gl) 305 [.pointer (some ⟨b, 0, none⟩)] (fun w => w.cell? ⟨b, 0, none⟩ = some (.bool m)) (.bool m) := by
 refine Spec.enter (C := cx gl) Tryz.func305 rfl 11 rfl rfl fun w0 h0 hsep hsub hpre => ?_
 obtain rfl : h0 = Heap.none := hsep
 show St (cx gl) _ [(0, .pointer (some ⟨b, 0, none⟩))] _ _
 refine rT (lA (k:=?_))
 refine L_nil (qT (rT (lM (k:=?_))))
 refine lP (P_neNil rfl ty_ptr_383 rfl rfl) (k:=lM (k:=lM (k:=lP pN (k:=lP (pF ty_fl_406_0) (k:=?_)))))
 refine lV (V_load rfl rfl ty_sc_4 (Rd.old hpre rfl)) (k:=lP pK (k:=lA (k:=?_)))
 refine lQ (cE 2 rfl .nil) (R_ret ?_)
 exact R_endV rfl rfl (.tmp rfl .nil) (rfl)
theorem new_ok {gl : Nat → Obj} (hG : Globs gl) : Spec (cx gl) 281 [] (fun _ _ => True) [] (fun v rs => ∃ b, v = .pointer (some ⟨b, 0, none⟩) ∧ rs = [hasher b []]) := by
 obtain ⟨T, fr, hg⟩ := hG.begin_
 refine Spec.enter (C := cx gl) Tryz.func281 rfl 4 rfl rfl fun w0 h0 hsep hsub hpre => ?_
 show St (cx gl) _ [] _ _
 refine rT (lA (k:=?_))
 refine L_nil (qT (rT ?_))
 refine lV (V_loadAgg rfl rfl ty_ag_285 (Rds.glob rfl hg) (rfl)) (k:=?_)
 refine lP (P_buildStruct rfl ty_pl_406 ty_ze_406 rfl rfl (rfl)) (k:=?_)
 refine lO (W_box (hcells true beginK (List.replicate 64 0) 0 0) rfl rfl rfl rfl rfl fun b3 => lA (k:=?_))
 refine lQ (cE 0 rfl .nil) (R_ret ?_)
 exact R_end (rs2 := _) rfl rfl (.tmp rfl .nil) (⟨_, rfl, rfl⟩) (hcore_in (T := 0) (H := 0) (X := []) rfl rfl rfl rfl)
set_option maxHeartbeats 1000000 in
theorem write_ok {gl : Nat → Obj} (hG : Globs gl) (b : Nat) (xs ys : List Int) (base : Option Addr) (c : Nat) (hcap : ys.length ≤ c) : SpecR (cx gl) 282 [.pointer (some ⟨b, 0, none⟩), .slice base ys.length c] (fun w h => Seen w h base (ints .u8 ys)) [hasher b xs] (.tuple #[]) [hasher b (xs ++ ys)] := by
 refine Spec.enter (C := cx gl) Tryz.func282 rfl 62 rfl rfl fun w0 h0 hsep hsub hpre => ?_
 show St (cx gl) _ [(0, .pointer (some ⟨b, 0, none⟩)), (1, .slice base ys.length c)] _ _
 refine St.openP [] fun part hpart => ?_
 obtain ⟨hpl, hpr⟩ := hpart
 refine rS (rT (lM (k:=?_)))
 refine lO (W_callV rfl rfl rfl rfl fn_ca_305 (good_ok gl b true) (fun w nw => Rd.blk .h0 rfl w nw) (lP pO (k:=?_)))
 refine lQ (cE 0 rfl (cE 1 rfl (cE 7 rfl .nil))) (kF (k:=R_skip (qT (rT (lM (k:=lP pN (k:=lP (pF ty_fl_406_4) (k:=?_))))))))
 refine lV (V_load rfl rfl ty_sc_23 (Rd.blk .h0 (hcells_74 (cmp_length _) hpl))) (k:=lM (k:=lP (pL ty_sl_198) (k:=?_)))
 refine lP (P_conv rfl ty_int_3 ty_int_23 rfl) (k:=?_)
 refine lP (P_add rfl rfl rfl) (k:=?_)
 refine E_as (t := 15) (v' := .int .u64 (IntKind.u64.wrap ((xs.length : Int) + (ys.length : Int)))) rfl (by rw [wrap64_add]) (lP pN (k:=lP (pF ty_fl_406_4) (k:=?_)))
 refine lO (W_store rfl rfl rfl rfl ty_sc_23 rfl .h0 (by rw [hcells_length (cmp_length _) hpl]; decide) ?_)
 rw [hcells_set74 (cmp_length _) hpl]
 refine lQ (cE 0 rfl (cE 1 rfl .nil)) (R_block ?_)
 refine R_loop (G := Nat × Option Addr × Nat) (fun g => [(0, .pointer (some ⟨b, 0, none⟩)), (1, .slice g.2.1 (ys.length - g.1) g.2.2)]) (fun g => [hcore b (xs ++ ys.take g.1) (IntKind.u64.wrap ((xs.length : Int) + (ys.length : Int)))]) (fun g => g.1 ≤ ys.length ∧ ys.length - g.1 ≤ g.2.2 ∧ Seen w0 h0 g.2.1 (ints .u8 (ys.drop g.1))) (fun g => ys.length - g.1) ((0, base, c)) (⟨Nat.zero_le _, hcap, hpre⟩) (by repeat (first | exact .nil | refine .cons rfl ?_)) (by rw [List.take_zero, List.append_nil]; exact hcore_in rfl hpl hpr rfl) ?_
 rintro ⟨j, base', c'⟩ ⟨hj, hc', hs⟩
 simp only at hj hc' hs
 show St (cx gl) _ [(0, .pointer (some ⟨b, 0, none⟩)), (1, .slice base' (ys.length - j) c')] [hcore b (xs ++ ys.take j) (IntKind.u64.wrap ((xs.length : Int) + (ys.length : Int)))] _
 refine rS (rT (lM (k:=lP (pL ty_sl_198) (k:=lP pGt (k:=?_)))))
 refine L_nil (qT ?_)
 refine R_condP rfl (fun hgt => ?_) (fun hgt => ?_)
 ·skip
  refine St.openP [] fun part hpart => ?_
  obtain ⟨hpl, hpr⟩ := hpart
  obtain ⟨k, hk⟩ : ∃ k, k = Nat.min (ys.length - j) (64 - (xs ++ ys.take j).length % 64) := ⟨_, rfl⟩
  have hmin : k = min (ys.length - j) (64 - (xs ++ ys.take j).length % 64) := hk
  have hx64 : (xs ++ ys.take j).length % 64 < 64 := Nat.mod_lt _ (by decide)
  have hzl : ((ys.drop j).take k).length = k := by rw [List.length_take, List.length_drop]; omega
  have hxe : xs ++ ys.take (j + k) = (xs ++ ys.take j) ++ ((ys.drop j).take k) := by rw [List.take_add, List.append_assoc]
  have hs2 := Seen.sliced (sz := 1) (p := k) (q := ys.length - j) hs hc' (.inr (by rw [ints_length, List.length_drop]; omega))
  have hnext : Seen w0 h0 (if c' = k then base' else base'.map (·.add (k * 1))) (ints .u8 (ys.drop (j + k))) := by have h := hs2; simp only [Nat.mul_one, ints_drop, List.drop_drop, ints_take] at h; rw [List.take_of_length_le (by rw [List.length_drop]; omega)] at h; rw [Nat.mul_one]; exact h
  refine R_skip (qT (R_block (rS ?_)))
  refine R_open [(0, 0), (1, 0), (2, 0), (3, 0), (4, 0), (5, 0), (6, 1), (7, 0), (8, 0), (9, 3), (10, 0)] mixed (by kernel_rfl) (QOk.then (QOk.block (QOk.then (QOk.block QOk.body)))) (oP rfl pM (k:=oP rfl pN (k:=oP rfl (pF ty_fl_406_2) (k:=oP rfl pM (k:=oP rfl pN (k:=oP rfl (pF ty_fl_406_3) (k:=?_)))))))
  refine oV rfl (V_load rfl rfl ty_sc_3 (Rd.blk .h0 (hcells_73 (cmp_length _) hpl))) (k:=?_)
  refine oP rfl (P_sliceArr ((xs ++ ys.take j).length % 64) 64 rfl ty_ar_404 rfl ⟨_, rfl⟩ rfl (by omega) (by omega)) (k:=?_)
  refine E_as (t := 28) (v' := .slice (some ⟨b, 9 + (xs ++ ys.take j).length % 64, none⟩) (64 - (xs ++ ys.take j).length % 64) (64 - (xs ++ ys.take j).length % 64)) rfl (by rw [if_neg (by omega), Nat.mul_one]) (oP rfl pM (k:=?_))
  refine O_new rfl rfl (W_copy (k := k) (news := ints .u8 ((ys.drop j).take k)) rfl rfl rfl ty_sl_198 rfl rfl rfl (hk) (fun w nw => by have := Src.part (C := cx gl) (sz := 1) (k := k) (m := ys.length - j) (c := c') (Sn.old hs).rw_ (by rw [ints_length, List.length_drop]; omega) w nw; rwa [Nat.mul_one, ints_take] at this) (ints_one) .h0 (by rw [hcells_length (cmp_length _) hpl, ints_length, hzl]; omega) (K_new ?_))
  rw [hcells_setPart (cmp_length _) hpl _ _ (by rw [hzl]; omega)]
  refine oP rfl pA (k:=O_nil (qT (rT ?_)))
  have hpl2 : (part.take ((xs ++ ys.take j).length % 64) ++ ((ys.drop j).take k) ++ part.drop ((xs ++ ys.take j).length % 64 + ((ys.drop j).take k).length)).length = 64 := by rw [List.length_append, List.length_append, List.length_take, List.length_drop, hzl, hpl]; omega
  refine lM (k:=lP pN (k:=lP (pF ty_fl_406_3) (k:=?_)))
  refine lV (V_load rfl rfl ty_sc_3 (Rd.blk .h0 (hcells_73 (cmp_length _) hpl2))) (k:=lM (k:=?_))
  first | (refine L_val rfl rfl rfl (OpP.v (P_addN rfl rfl rfl (by simp only [fits]; omega))) ?_) | (refine L_val rfl rfl rfl (OpP.v (P_add rfl rfl rfl)) ?_)
  refine lP pN (k:=lP (pF ty_fl_406_3) (k:=?_))
  refine lO (W_store rfl rfl rfl rfl ty_sc_3 rfl .h0 (by rw [hcells_length (cmp_length _) hpl2]; decide) ?_)
  rw [hcells_set73 (cmp_length _) hpl2]
  refine L_nil (qT (rT (lM (k:=lM (k:=?_)))))
  refine lP (P_slice k (ys.length - j) rfl ty_sl_198 rfl ⟨_, rfl⟩ rfl (by omega) (by omega)) (k:=?_)
  refine E_as (t := 41) (v' := .slice (if c' = k then base' else base'.map (·.add (k * 1))) (ys.length - (j + k)) (c' - k)) rfl (by unfold sliced; rw [Nat.sub_sub]) (lA (k:=?_))
  refine L_nil (qT (rT (lM (k:=lP pN (k:=lP (pF ty_fl_406_3) (k:=?_))))))
  refine lV (V_load rfl rfl ty_sc_3 (Rd.blk .h0 (hcells_73 (cmp_length _) hpl2))) (k:=lP pEq (k:=?_))
  refine L_nil (qT ?_)
  refine R_condP rfl (fun hfull => ?_) (fun hfull => ?_)
  ·skip
   refine R_open [(0, 0), (1, 0), (2, 0), (3, 0), (4, 0), (5, 1), (6, 0), (7, 0), (8, 0), (9, 1), (10, 2), (11, 0), (12, 0), (13, 3), (14, 0), (15, 0), (16, 3)] mixed (by kernel_rfl) (QOk.block (QOk.then (QOk.block QOk.body))) (oP rfl pM (k:=oP rfl pM (k:=oP rfl pM (k:=oP rfl pN (k:=oP rfl (pF ty_fl_406_1) (k:=?_))))))
   refine oV rfl (V_loadAgg rfl rfl ty_ag_403 (Rds.part (Rds.blk .h0) 1 fun i v hv => hcells_words (cmp_length _) hpl2 i v hv) (by rw [ints_length, cmp_length])) (k:=oP rfl pM (k:=oP rfl pN (k:=oP rfl (pF ty_fl_406_2) (k:=?_))))
   refine oV rfl (V_loadAgg rfl rfl ty_ag_404 (Rds.part (Rds.blk .h0) 9 fun i v hv => hcells_part (cmp_length _) hpl2 i v hv) (by rw [ints_length, hpl2])) (k:=?_)
   refine O_keep rfl rfl (W_callV rfl rfl rfl rfl fn_ca_306 (mix_ok hG.adds (cmp (xs ++ ys.take j)) (part.take ((xs ++ ys.take j).length % 64) ++ ((ys.drop j).take k) ++ part.drop ((xs ++ ys.take j).length % 64 + ((ys.drop j).take k).length)) (cmp_length _) hpl2) (fun _ _ => trivial) (K_keep (Weak.refl _) (oP rfl pN (k:=oP rfl (pF ty_fl_406_1) (k:=?_)))))
   refine O_new rfl rfl (W_storeAgg rfl rfl rfl rfl ty_ag_403 (by rw [ints_length, mixF_length, cmp_length]) (ints_one) .h0 (by rw [hcells_length (cmp_length _) hpl2, ints_length, mixF_length, cmp_length]; decide) (K_new ?_))
   rw [hcells_setWords (cmp_length _) hpl2 _ (by rw [mixF_length, cmp_length])]
   refine oP rfl pN (k:=oP rfl (pF ty_fl_406_3) (k:=?_))
   refine O_new rfl rfl (W_store rfl rfl rfl rfl ty_sc_3 rfl .h0 (by rw [hcells_length (by rw [mixF_length, cmp_length]) hpl2]; decide) (K_new ?_))
   rw [hcells_set73 (by rw [mixF_length, cmp_length]) hpl2]
   refine O_nil (Q_block ?_)
   show St (cx gl) _ _ _ _
   exact Q_round (j + k, (if c' = k then base' else base'.map (·.add (k * 1))), c' - k) (⟨by simp only; omega, by simp only; omega, hnext⟩) (by simp only; omega) (by repeat (first | exact .nil | refine .cons rfl ?_)) (by simp only; rw [hxe]; first | (obtain ⟨e1, e2, e3, e4⟩ := writeFull (zs := ((ys.drop j).take k)) hpl hpr (by omega); exact hcore_in e1 e2 e3 e4) | (obtain ⟨e1, e2, e3, e4⟩ := writeSmall (zs := ((ys.drop j).take k)) hpl hpr (by omega); exact hcore_in e1 e2 e3 (by rw [← e4, hzl])))
  ·skip
   refine R_skip (Q_block ?_)
   show St (cx gl) _ _ _ _
   exact Q_round (j + k, (if c' = k then base' else base'.map (·.add (k * 1))), c' - k) (⟨by simp only; omega, by simp only; omega, hnext⟩) (by simp only; omega) (by repeat (first | exact .nil | refine .cons rfl ?_)) (by simp only; rw [hxe]; first | (obtain ⟨e1, e2, e3, e4⟩ := writeFull (zs := ((ys.drop j).take k)) hpl hpr (by omega); exact hcore_in e1 e2 e3 e4) | (obtain ⟨e1, e2, e3, e4⟩ := writeSmall (zs := ((ys.drop j).take k)) hpl hpr (by omega); exact hcore_in e1 e2 e3 (by rw [← e4, hzl])))
 ·skip
  refine R_exit (Q_then_exit (Q_then_exit (Q_block_eq ?_)))
  refine St.env (.nil) ?_
  have hje : j = ys.length := by omega
  subst hje
  rw [List.take_length]
  exact R_end0 (rs2 := [hasher b (xs ++ ys)]) rfl rfl (.nil) (⟨rfl, rfl⟩) (by unfold hasher; rw [List.length_append, Int.natCast_add]; exact Weak.refl _)
end Go.Proofs.YtcngmkjdpoiiaaaGreatDoor

/- Walks: the Hasher's Sum and Copy. Printed by gen.py. -/
set_option maxRecDepth 100000
namespace Go.Proofs.YtcngmkjdpoiiaaaGreatDoor
open Go Go.RowKit Go.Proofs
theorem hcells_one {made : Bool} {ws part : List Int} {held taken : Int} : ∀ v ∈ hcells made ws part held taken, v.oneCell' = true := fun v hv => by
 simp only [hcells, List.mem_append, List.mem_singleton, List.mem_cons, List.not_mem_nil, or_false] at hv
 rcases hv with ((rfl | h) | h) | (rfl | rfl)
 ·rfl
 ·exact ints_one v h
 ·exact ints_one v h
 ·rfl
 ·rfl
def lenF (n : Nat) (j : Nat) : Int := IntKind.u8.wrap (shrI .u64 (IntKind.u64.wrap (IntKind.u64.wrap (n : Int) * 8)) (56 - 8 * (j : Int)))
def outF (ws : List Int) (i : Nat) : Int := IntKind.u8.wrap (shrI .u32 (ws.getD (i / 4) 0) (24 - 8 * ((i % 4 : Nat) : Int)))
theorem outF_at (ws : List Int) (i k : Nat) (h : k < 4) : outF ws (4 * i + k) = IntKind.u8.wrap (shrI .u32 (ws.getD i 0) (24 - 8 * (k : Int))) := by
 unfold outF
 rw [show (4 * i + k) / 4 = i by omega, show (4 * i + k) % 4 = k by omega]
set_option maxHeartbeats 1000000 in
theorem hsum_ok {gl : Nat → Obj} (hG : Globs gl) (b : Nat) (xs : List Int) : SpecR (cx gl) 283 [.pointer (some ⟨b, 0, none⟩)] (fun _ _ => True) [hasher b xs] (.agg (ints .u8 (sha xs)).toArray) [hasher b xs] := by
 refine Spec.enter (C := cx gl) Tryz.func283 rfl 65 rfl rfl fun w0 h0 hsep hsub hpre => ?_
 show St (cx gl) _ [(0, .pointer (some ⟨b, 0, none⟩))] _ _
 refine St.openP [] fun part hpart => ?_
 obtain ⟨hpl, hpr⟩ := hpart
 refine rT ?_
 refine lO (W_alloc rfl rfl rfl ty_ze_40 fun b2 => ?_)
 refine L_nil (qT (rS (rT (lM (k:=?_)))))
 refine lO (W_callV rfl rfl rfl rfl fn_ca_305 (good_ok gl b true) (fun w nw => Rd.blk .h1 rfl w nw) (lP pO (k:=?_)))
 refine lQ (cE 0 rfl (cE 2 rfl (cE 13 rfl .nil))) (kF (k:=R_skip (qT (rT (lM (k:=lP pN (k:=?_)))))))
 refine lV (V_loadAgg rfl rfl ty_ag_406 (Rds.blk .h1) (hcells_length (cmp_length _) hpl)) (k:=?_)
 refine lO (W_alloc rfl rfl rfl ty_ze_406 fun b3 => ?_)
 refine lO (W_storeAll rfl rfl rfl rfl ty_ag_406 (hcells_length (cmp_length _) hpl) (hcells_one) .h0 (by rw [hcells_length (cmp_length _) hpl]; rfl) ?_)
 refine lQ (cE 2 rfl (cE 3 rfl .nil)) (rT (lP (pF ty_fl_406_4) (k:=?_)))
 refine lV (V_load rfl rfl ty_sc_23 (Rd.blk .h0 (hcells_74 (cmp_length _) hpl))) (k:=?_)
 refine lP (P_mul rfl rfl rfl) (k:=lA (k:=?_))
 refine lQ (cE 2 rfl (cE 3 rfl (cE 4 rfl .nil))) (rT ?_)
 refine lO (W_lit (z := .nilIface) (ints .u8 [128]) rfl rfl rfl ty_sl_198 ty_lz_198 rfl rfl rfl (by decide) (by decide) (by simp [Value.cells]) (rfl) fun b21 => ?_)
 refine St.res (rs' := [blk b21 (ints .u8 [128]) 5, hasher b3 xs, blk b2 (List.replicate 32 (.int .u8 0)) 40, blk b (hcells true (cmp xs) part (xs.length % 64 : Nat) (IntKind.u64.wrap xs.length)) 406]) (Weak.keep (hcore_in rfl hpl hpr rfl)) ?_
 refine lO (W_callR rfl rfl rfl rfl fn_ca_282 (write_ok hG b3 xs [128] (some ⟨b21, 0, none⟩) 1 (by decide)) (Split.one (p := [_])) (Sn.pre (Sn.ofBlk .h0)) ?_)
 refine St.res (rs' := [hasher b3 (xs ++ [128]), blk b2 (List.replicate 32 (.int .u8 0)) 40, blk b (hcells true (cmp xs) part (xs.length % 64 : Nat) (IntKind.u64.wrap xs.length)) 406]) (Weak.keep (Weak.drop (Weak.refl _))) ?_
 refine lQ (cE 2 rfl (cE 3 rfl (cE 4 rfl .nil))) (rS (R_block ?_))
 refine R_loop (G := Nat) (fun k => [(2, .pointer (some ⟨b2, 0, none⟩)), (3, .pointer (some ⟨b3, 0, none⟩)), (4, .int .u64 (IntKind.u64.wrap (IntKind.u64.wrap xs.length * 8)))]) (fun k => [hasher b3 (xs ++ [128] ++ List.replicate k 0), blk b2 (List.replicate 32 (.int .u8 0)) 40, blk b (hcells true (cmp xs) part (xs.length % 64 : Nat) (IntKind.u64.wrap xs.length)) 406]) (fun k => k ≤ padZ xs.length) (fun k => padZ xs.length - k) (0) (by omega) (by repeat (first | exact .nil | refine .cons rfl ?_)) (by simp only [List.replicate_zero, List.append_nil]; exact Weak.refl _) ?_
 intro k hk
 have hYl : (xs ++ [128] ++ List.replicate k 0).length = xs.length + 1 + k := by simp only [List.length_append, List.length_cons, List.length_nil, List.length_replicate]
 refine St.openP [] fun p2 hp2 => ?_
 obtain ⟨h2l, h2r⟩ := hp2
 refine rS (rT (lP (pF ty_fl_406_3) (k:=?_)))
 refine lV (V_load rfl rfl ty_sc_3 (Rd.blk .h0 (hcells_73 (cmp_length _) h2l))) (k:=lP pNe (k:=?_))
 refine L_nil (qT ?_)
 refine R_condP rfl (fun hne => ?_) (fun hne => ?_)
 ·skip
  refine R_skip (qT (R_block (rR ?_)))
  refine lO (W_lit (z := .nilIface) (ints .u8 [0]) rfl rfl rfl ty_sl_198 ty_lz_198 rfl rfl rfl (by decide) (by decide) (by simp [Value.cells]) (rfl) fun b26 => ?_)
  refine St.res (rs' := [blk b26 (ints .u8 [0]) 5, hasher b3 (xs ++ [128] ++ List.replicate k 0), blk b2 (List.replicate 32 (.int .u8 0)) 40, blk b (hcells true (cmp xs) part (xs.length % 64 : Nat) (IntKind.u64.wrap xs.length)) 406]) (Weak.keep (hcore_in rfl h2l h2r rfl)) ?_
  refine lO (W_callR rfl rfl rfl rfl fn_ca_282 (write_ok hG b3 (xs ++ [128] ++ List.replicate k 0) [0] (some ⟨b26, 0, none⟩) 1 (by decide)) (Split.one (p := [_])) (Sn.pre (Sn.ofBlk .h0)) ?_)
  refine St.res (rs' := [hasher b3 ((xs ++ [128] ++ List.replicate k 0) ++ [0]), blk b2 (List.replicate 32 (.int .u8 0)) 40, blk b (hcells true (cmp xs) part (xs.length % 64 : Nat) (IntKind.u64.wrap xs.length)) 406]) (Weak.keep (Weak.drop (Weak.refl _))) ?_
  refine lE (cE 2 rfl (cE 3 rfl (cE 4 rfl (cE 23 rfl (cE 24 rfl (cE 25 rfl (cE 26 rfl .nil))))))) (Q_block ?_)
  have hYn : (xs ++ [128] ++ List.replicate k 0) ++ [0] = xs ++ [128] ++ List.replicate (k + 1) 0 := by rw [List.replicate_succ', ← List.append_assoc]
  exact Q_round (k + 1) (by unfold padZ at *; omega) (by unfold padZ at *; omega) (by repeat (first | exact .nil | refine .cons rfl ?_)) (by rw [← hYn]; exact Weak.refl _)
 ·skip
  obtain rfl : k = padZ xs.length := by unfold padZ at *; omega
  refine St.res (rs' := [hasher b3 (xs ++ [128] ++ List.replicate (padZ xs.length) 0), blk b2 (List.replicate 32 (.int .u8 0)) 40, blk b (hcells true (cmp xs) part (xs.length % 64 : Nat) (IntKind.u64.wrap xs.length)) 406]) (hcore_in rfl h2l h2r rfl) (R_exit (Q_then_exit (Q_then_exit (Q_block_eq ?_))))
  refine St.env (cE 2 rfl (cE 3 rfl (cE 4 rfl .nil))) (qT (rT ?_))
  refine lO (W_alloc rfl rfl rfl ty_ze_408 fun b5 => ?_)
  refine L_nil (qT (rS (rT (lM (k:=?_)))))
  refine L_nil (qT (R_block ?_))
  refine R_loop (G := Nat) (fun k => [(2, .pointer (some ⟨b2, 0, none⟩)), (3, .pointer (some ⟨b3, 0, none⟩)), (4, .int .u64 (IntKind.u64.wrap (IntKind.u64.wrap xs.length * 8))), (5, .pointer (some ⟨b5, 0, none⟩)), (28, .int .i64 (k : Int))]) (fun k => [blk b5 (ints .u8 (fillN (lenF xs.length) 8 k)) 408, hasher b3 (xs ++ [128] ++ List.replicate (padZ xs.length) 0), blk b2 (List.replicate 32 (.int .u8 0)) 40, blk b (hcells true (cmp xs) part (xs.length % 64 : Nat) (IntKind.u64.wrap xs.length)) 406]) (fun k => k ≤ 8) (fun k => 8 - k) (0) (by omega) (by repeat (first | exact .nil | refine .cons rfl ?_)) (by rw [fillN_zero]; exact Weak.refl _) ?_
  intro k hk
  refine rT (lP pLt (k:=?_))
  refine L_nil (qT (rS ?_))
  refine R_condP rfl (fun hlt => ?_) (fun hlt => ?_)
  ·skip
   refine R_skip (qT (rS (R_block (rT (lM (k:=lA (k:=?_)))))))
   refine L_nil (qT (rR (lM (k:=lM (k:=lM (k:=?_))))))
   first | (refine L_val rfl rfl rfl (OpP.v (P_mulN rfl rfl rfl (by simp only [fits]; omega))) ?_) | (refine L_val rfl rfl rfl (OpP.v (P_mul rfl rfl rfl)) ?_)
   first | (refine L_val rfl rfl rfl (OpP.v (P_subN rfl rfl rfl (by simp only [fits]; omega))) ?_) | (refine L_val rfl rfl rfl (OpP.v (P_sub rfl rfl rfl)) ?_)
   refine lP (P_shr rfl rfl rfl (by omega)) (k:=?_)
   refine lP (P_conv rfl ty_int_23 ty_int_5 rfl) (k:=?_)
   first | (refine L_val rfl rfl rfl (OpP.v (P_ixa0 (k) rfl ty_ar_408 rfl rfl (by first | rfl | omega) (by omega))) ?_) | (refine L_val rfl rfl rfl (OpP.v (P_ixa (k) rfl ty_ar_408 rfl rfl (by first | rfl | omega) (by omega))) ?_)
   refine lO (W_store rfl rfl rfl rfl ty_sc_5 rfl .h0 (by rw [ints_length, fillN_length]; omega) ?_)
   rw [ints_set]
   refine L_nil (Q_block (qT (rR ?_)))
   first | (refine L_val rfl rfl rfl (OpP.v (P_addN rfl rfl rfl (by simp only [fits]; omega))) ?_) | (refine L_val rfl rfl rfl (OpP.v (P_add rfl rfl rfl)) ?_)
   refine lM (k:=?_)
   refine L_nil ?_
   refine E_nat (t := 28) (n := k + 1) rfl (by omega) ?_
   exact Q_round (k + 1) (by omega) (by omega) (by repeat (first | exact .nil | refine .cons rfl ?_)) (by rw [← fillN_set]; exact Weak.refl _)
  ·skip
   obtain rfl : k = 8 := by omega
   rw [fillN_full]
   refine R_exit (Q_then_exit (Q_then_exit (Q_block_eq ?_)))
   refine St.env (cE 2 rfl (cE 3 rfl (cE 5 rfl .nil))) (qT (rT ?_))
   refine lP (P_sliceAll rfl ty_ar_408 rfl) (k:=?_)
   refine lO (W_callR rfl rfl rfl rfl fn_ca_282 (write_ok hG b3 (xs ++ [128] ++ List.replicate (padZ xs.length) 0) (lenB xs.length) (some ⟨b5, 0, none⟩) 8 (by rw [lenB_length]; decide)) (Split.one (p := [_])) (Sn.pre (Sn.ofBlk .h0)) ?_)
   refine St.res (rs' := [hasher b3 (padded xs), blk b2 (List.replicate 32 (.int .u8 0)) 40, blk b (hcells true (cmp xs) part (xs.length % 64 : Nat) (IntKind.u64.wrap xs.length)) 406]) (Weak.keep (Weak.drop (Weak.refl _))) ?_
   refine lQ (cE 2 rfl (cE 3 rfl .nil)) (rT ?_)
   refine lO (W_alloc rfl rfl rfl ty_ze_40 fun b7 => ?_)
   refine St.openP [_] fun p3 hp3 => ?_
   obtain ⟨h3l, h3r⟩ := hp3
   refine L_nil (qT (rS (rT (lP (pF ty_fl_406_1) (k:=?_)))))
   refine lV (V_loadAgg rfl rfl ty_ag_403 (Rds.part (Rds.blk .h1) 1 fun i v hv => hcells_words (cmp_length _) h3l i v hv) (by rw [ints_length, cmp_length])) (k:=lM (k:=?_))
   refine lQ (cE 2 rfl (cE 7 rfl (cE 43 rfl (cE 44 rfl .nil)))) (R_block ?_)
   refine R_loop (G := Nat) (fun i => [(2, .pointer (some ⟨b2, 0, none⟩)), (7, .pointer (some ⟨b7, 0, none⟩)), (43, .agg (ints .u32 (cmp (padded xs))).toArray), (44, .int .i64 (i : Int))]) (fun i => [blk b7 (ints .u8 (fillN (outF (cmp (padded xs))) 32 (4 * i))) 40, blk b3 (hcells true (cmp (padded xs)) p3 ((padded xs).length % 64 : Nat) (IntKind.u64.wrap (padded xs).length)) 406, blk b2 (List.replicate 32 (.int .u8 0)) 40, blk b (hcells true (cmp xs) part (xs.length % 64 : Nat) (IntKind.u64.wrap xs.length)) 406]) (fun i => i ≤ 8) (fun i => 8 - i) (0) (by omega) (by repeat (first | exact .nil | refine .cons rfl ?_)) (by rw [Nat.mul_zero, fillN_zero]; exact Weak.refl _) ?_
   intro i hi
   refine rT (lP pLt (k:=?_))
   refine L_nil (qT (rS ?_))
   refine R_condP rfl (fun hli => ?_) (fun hli => ?_)
   ·skip
    refine R_skip (qT (rS (R_block (rT (lM (k:=?_))))))
    refine lP (P_index (i) rfl ty_ar_403 ty_sc_82 rfl rfl (by first | rfl | omega) (by omega) (ints_at (by rw [cmp_length]; omega))) (k:=lA (k:=lA (k:=?_)))
    refine L_nil (qT (rT (lM (k:=?_))))
    refine L_nil (qT (R_block ?_))
    refine R_loop (G := Nat) (fun k => [(2, .pointer (some ⟨b2, 0, none⟩)), (7, .pointer (some ⟨b7, 0, none⟩)), (8, .int .i64 (i : Int)), (9, .int .u32 ((cmp (padded xs)).getD i 0)), (43, .agg (ints .u32 (cmp (padded xs))).toArray), (44, .int .i64 (i : Int)), (46, .int .i64 (i : Int)), (47, .int .u32 ((cmp (padded xs)).getD i 0)), (48, .int .i64 (k : Int))]) (fun k => [blk b7 (ints .u8 (fillN (outF (cmp (padded xs))) 32 (4 * i + k))) 40, blk b3 (hcells true (cmp (padded xs)) p3 ((padded xs).length % 64 : Nat) (IntKind.u64.wrap (padded xs).length)) 406, blk b2 (List.replicate 32 (.int .u8 0)) 40, blk b (hcells true (cmp xs) part (xs.length % 64 : Nat) (IntKind.u64.wrap xs.length)) 406]) (fun k => k ≤ 4) (fun k => 4 - k) (0) (by omega) (by repeat (first | exact .nil | refine .cons rfl ?_)) (Weak.refl _) ?_
    intro k hk
    refine rT (lP pLt (k:=?_))
    refine L_nil (qT (rS ?_))
    refine R_condP rfl (fun hlk => ?_) (fun hlk => ?_)
    ·skip
     refine R_skip (qT (rS (R_block (rT (lM (k:=lA (k:=?_)))))))
     refine L_nil (qT (rR (lM (k:=?_))))
     first | (refine L_val rfl rfl rfl (OpP.v (P_mulN rfl rfl rfl (by simp only [fits]; omega))) ?_) | (refine L_val rfl rfl rfl (OpP.v (P_mul rfl rfl rfl)) ?_)
     refine lM (k:=?_)
     first | (refine L_val rfl rfl rfl (OpP.v (P_addN rfl rfl rfl (by simp only [fits]; omega))) ?_) | (refine L_val rfl rfl rfl (OpP.v (P_add rfl rfl rfl)) ?_)
     refine lM (k:=lM (k:=?_))
     first | (refine L_val rfl rfl rfl (OpP.v (P_mulN rfl rfl rfl (by simp only [fits]; omega))) ?_) | (refine L_val rfl rfl rfl (OpP.v (P_mul rfl rfl rfl)) ?_)
     first | (refine L_val rfl rfl rfl (OpP.v (P_subN rfl rfl rfl (by simp only [fits]; omega))) ?_) | (refine L_val rfl rfl rfl (OpP.v (P_sub rfl rfl rfl)) ?_)
     refine lP (P_shr rfl rfl rfl (by omega)) (k:=?_)
     refine lP (P_conv rfl ty_int_82 ty_int_5 rfl) (k:=?_)
     first | (refine L_val rfl rfl rfl (OpP.v (P_ixa0 (4 * i + k) rfl ty_ar_40 rfl rfl (by first | rfl | omega) (by omega))) ?_) | (refine L_val rfl rfl rfl (OpP.v (P_ixa (4 * i + k) rfl ty_ar_40 rfl rfl (by first | rfl | omega) (by omega))) ?_)
     refine lO (W_store rfl rfl rfl rfl ty_sc_5 rfl .h0 (by rw [ints_length, fillN_length]; omega) ?_)
     rw [ints_set]
     refine L_nil (Q_block (qT (rR ?_)))
     first | (refine L_val rfl rfl rfl (OpP.v (P_addN rfl rfl rfl (by simp only [fits]; omega))) ?_) | (refine L_val rfl rfl rfl (OpP.v (P_add rfl rfl rfl)) ?_)
     refine lM (k:=?_)
     refine L_nil ?_
     refine E_nat (t := 48) (n := k + 1) rfl (by omega) ?_
     exact Q_round (k + 1) (by omega) (by omega) (by repeat (first | exact .nil | refine .cons rfl ?_)) (by rw [← Nat.add_assoc, ← fillN_set, outF_at _ _ _ (by omega)]; exact Weak.refl _)
    ·skip
     obtain rfl : k = 4 := by omega
     refine R_exit (Q_then_exit (Q_then_exit (Q_block_eq (Q_block (qT (rR ?_))))))
     first | (refine L_val rfl rfl rfl (OpP.v (P_addN rfl rfl rfl (by simp only [fits]; omega))) ?_) | (refine L_val rfl rfl rfl (OpP.v (P_add rfl rfl rfl)) ?_)
     refine lM (k:=?_)
     refine L_nil ?_
     refine E_nat (t := 44) (n := i + 1) rfl (by omega) ?_
     exact Q_round (i + 1) (by omega) (by omega) (by repeat (first | exact .nil | refine .cons rfl ?_)) (Weak.refl _)
   ·skip
    obtain rfl : i = 8 := by omega
    rw [show 4 * 8 = 32 from rfl, fillN_full]
    refine St.res (rs' := [blk b7 (ints .u8 (sha xs)) 40, blk b3 (hcells true (cmp (padded xs)) p3 ((padded xs).length % 64 : Nat) (IntKind.u64.wrap (padded xs).length)) 406, blk b2 (List.replicate 32 (.int .u8 0)) 40, blk b (hcells true (cmp xs) part (xs.length % 64 : Nat) (IntKind.u64.wrap xs.length)) 406]) (Weak.refl _) (R_exit (Q_then_exit (Q_then_exit (Q_block_eq ?_))))
    refine St.env (cE 2 rfl (cE 7 rfl .nil)) (qT (rT ?_))
    refine lV (V_loadAgg rfl rfl ty_ag_40 (Rds.blk .h0) (by rw [ints_length, sha_length])) (k:=?_)
    refine lO (W_storeAll rfl rfl rfl rfl ty_ag_40 (by rw [ints_length, sha_length]) (ints_one) .h2 (by rw [ints_length, sha_length]; rfl) ?_)
    refine lQ (cE 2 rfl .nil) (R_ret ?_)
    exact R_end (rs2 := [hasher b xs]) rfl rfl (.cell rfl (Rds.loadVar ty_ag_40 (Rds.blk .h2) (by rw [ints_length, sha_length])) .nil) (⟨rfl, rfl⟩) (Weak.drop (Weak.drop (Weak.drop (hcore_in rfl hpl hpr rfl))))
end Go.Proofs.YtcngmkjdpoiiaaaGreatDoor

/- Walks: digests of bytes, of items and of two digests. Printed by gen.py. -/
set_option maxRecDepth 100000
namespace Go.Proofs.YtcngmkjdpoiiaaaGreatDoor
open Go Go.RowKit Go.Proofs
theorem BytesL.nil {w : World} : BytesL w [] [] := ⟨rfl, fun _ _ _ h => by cases h⟩
theorem BytesL.cons {w : World} {v : Value} {vs : List Value} {xs : List Int} {xss : List (List Int)} (h : Bytes w v xs) (t : BytesL w vs xss) : BytesL w (v :: vs) (xs :: xss) :=
 ⟨by rw [List.length_cons, List.length_cons, t.1], fun i u us h1 h2 => by
  cases i with
  | zero =>
   simp only [List.getElem?_cons_zero, Option.some.injEq] at h1 h2
   subst h1; subst h2; exact h
  | succ i => exact t.2 i u us h1 h2⟩
theorem BytesL.at_ {w : World} {vs : List Value} {xss : List (List Int)} (h : BytesL w vs xss) {k : Nat} (hk : k < xss.length) : ∃ base c ys, vs[k]? = some (.slice base ys.length c) ∧ xss[k]? = some ys ∧ ys.length ≤ c ∧ Row w base (ints .u8 ys) := by
 have hk' : k < vs.length := by rw [h.1]; exact hk
 obtain ⟨base, c, e, h1, h2⟩ := h.2 k vs[k] xss[k] (List.getElem?_eq_getElem hk') (List.getElem?_eq_getElem hk)
 exact ⟨base, c, xss[k], by rw [List.getElem?_eq_getElem hk', e], List.getElem?_eq_getElem hk, h1, h2⟩
theorem flatten_next {xss : List (List Int)} {k : Nat} {ys : List Int} (h : xss[k]? = some ys) : (xss.take (k + 1)).flatten = (xss.take k).flatten ++ ys := by
 rw [List.take_add_one, h]; simp
theorem joined_ok {gl : Nat → Obj} (hG : Globs gl) (base : Option Addr) (c : Nat) (vs : List Value) (xss : List (List Int)) (hvs : vs.length = xss.length) (hc : vs.length ≤ c) (hmax : vs.length ≤ 9223372036854775806) : SpecV (cx gl) 234 [.slice base vs.length c] (fun w => Row w base vs ∧ BytesL w vs xss) (.agg (ints .u8 (sha xss.flatten)).toArray) := by
 refine Spec.enter (C := cx gl) Tryz.func234 rfl 19 rfl rfl fun w0 h0 hsep hsub hpre => ?_
 obtain rfl : h0 = Heap.none := hsep
 show St (cx gl) _ [(0, .slice base vs.length c)] _ _
 refine rT ?_
 refine lO (W_alloc rfl rfl rfl ty_ze_40 fun b2 => ?_)
 refine L_nil (qT (rT ?_))
 refine lO (W_call rfl rfl rfl rfl fn_ca_281 (new_ok hG) (Split.nil _) (fun _ _ _ _ _ _ _ => trivial) fun v rs1 ⟨b3, e1, e2⟩ => ?_)
 subst e1; subst e2
 refine St.res (rs' := [hasher b3 [], blk b2 (List.replicate 32 (.int .u8 0)) 40]) (Weak.refl _) (lA (k:=?_))
 refine lQ (cE 0 rfl (cE 2 rfl (cE 3 rfl .nil))) (rS (rT (lM (k:=lP (pL ty_sl_195) (k:=lM (k:=?_))))))
 refine lQ (cE 2 rfl (cE 3 rfl (cE 7 rfl (cE 8 rfl (cE 9 rfl .nil))))) (R_block ?_)
 refine R_loop (G := Nat) (fun k => [(2, .pointer (some ⟨b2, 0, none⟩)), (3, .pointer (some ⟨b3, 0, none⟩)), (7, .slice base vs.length c), (8, .int .i64 ((vs.length : Nat) : Int)), (9, .int .i64 (k : Int))]) (fun k => [hasher b3 (xss.take k).flatten, blk b2 (List.replicate 32 (.int .u8 0)) 40]) (fun k => k ≤ vs.length) (fun k => vs.length - k) (0) (by omega) (by repeat (first | exact .nil | refine .cons rfl ?_)) (Weak.refl _) ?_
 intro k hk
 refine rT (lP pLt (k:=?_))
 refine L_nil (qT (rS ?_))
 refine R_condP rfl (fun hlt => ?_) (fun hlt => ?_)
 ·skip
  obtain ⟨pb, pj, rfl, hrow⟩ := hpre.1.some_ (by omega)
  obtain ⟨bb, bc, ys, hvk, hxk, hbc, hbr⟩ := hpre.2.at_ (k := k) (by omega)
  refine R_skip (qT (rS (R_block (rT ?_))))
  refine lP (P_ixs (k) rfl ty_sl_195 rfl rfl (by first | rfl | omega) (by omega)) (k:=?_)
  refine lV (V_load rfl rfl ty_sc_198 (Rd.row hrow rfl hvk)) (k:=lA (k:=?_))
  refine L_nil (qT (rR (lM (k:=lM (k:=?_)))))
  refine lO (W_callR rfl rfl rfl rfl fn_ca_282 (write_ok hG b3 (xss.take k).flatten ys bb bc hbc) (Split.one (p := [])) (Sn.pre (Sn.row hbr rfl)) ?_)
  refine St.res (rs' := [hasher b3 ((xss.take k).flatten ++ ys), blk b2 (List.replicate 32 (.int .u8 0)) 40]) (Weak.refl _) ?_
  refine lE (cE 2 rfl (cE 3 rfl (cE 5 rfl (cE 7 rfl (cE 8 rfl (cE 9 rfl (cE 10 rfl (cE 11 rfl (cE 12 rfl (cE 13 rfl (cE 14 rfl .nil))))))))))) (Q_block (qT (rR ?_)))
  first | (refine L_val rfl rfl rfl (OpP.v (P_addN rfl rfl rfl (by simp only [fits]; omega))) ?_) | (refine L_val rfl rfl rfl (OpP.v (P_add rfl rfl rfl)) ?_)
  refine lM (k:=?_)
  refine L_nil ?_
  refine E_nat (t := 9) (n := k + 1) rfl (by omega) ?_
  exact Q_round (k + 1) (by omega) (by omega) (by repeat (first | exact .nil | refine .cons rfl ?_)) (by rw [flatten_next hxk]; exact Weak.refl _)
 ·skip
  obtain rfl : k = vs.length := by omega
  rw [hvs, List.take_length]
  refine R_exit (Q_then_exit (Q_then_exit (Q_block_eq ?_)))
  refine St.env (cE 2 rfl (cE 3 rfl .nil)) (qT (rT (lM (k:=?_))))
  refine lO (W_callR rfl rfl rfl rfl fn_ca_283 (hsum_ok hG b3 xss.flatten) (Split.one (p := [])) (fun _ _ _ _ _ _ _ => trivial) ?_)
  refine St.res (rs' := [blk b2 (List.replicate 32 (.int .u8 0)) 40]) (Weak.drop (Weak.refl _)) ?_
  refine lO (W_storeAll rfl rfl rfl rfl ty_ag_40 (by rw [ints_length, sha_length]) (ints_one) .h0 (by rw [ints_length, sha_length]; rfl) ?_)
  refine lQ (cE 2 rfl .nil) (R_ret ?_)
  exact R_endV rfl rfl (.cell rfl (Rds.loadVar ty_ag_40 (Rds.blk .h0) (by rw [ints_length, sha_length])) .nil) (rfl)
theorem sum_ok {gl : Nat → Obj} (hG : Globs gl) (base : Option Addr) (c : Nat) (xs : List Int) (hc : xs.length ≤ c) : SpecV (cx gl) 175 [.slice base xs.length c] (fun w => Row w base (ints .u8 xs)) (.agg (ints .u8 (sha xs)).toArray) := by
 refine Spec.enter (C := cx gl) Tryz.func175 rfl 6 rfl rfl fun w0 h0 hsep hsub hpre => ?_
 obtain rfl : h0 = Heap.none := hsep
 show St (cx gl) _ [(0, .slice base xs.length c)] _ _
 refine rT ?_
 refine lO (W_alloc rfl rfl rfl ty_ze_40 fun b2 => ?_)
 refine L_nil (qT (rT (lM (k:=?_))))
 refine lO (W_lit (z := .nilIface) ([.slice base xs.length c]) rfl rfl rfl ty_sl_195 ty_lz_195 rfl rfl rfl (by decide) (by decide) (by simp [Value.cells]) (rfl) fun b4 => ?_)
 refine lO (W_callV rfl rfl rfl rfl fn_ca_234 (SpecV.mono (joined_ok hG (some ⟨b4, 0, none⟩) _ [.slice base xs.length c] [xs] rfl (Nat.le_refl _) (by simp)) (fun _ h => h) (v' := .agg (ints .u8 (sha xs)).toArray) (by simp)) (fun w nw => ⟨(Sn.ofBlk .h0).rw_ w nw, BytesL.cons ⟨_, _, rfl, hc, (Sn.row hpre rfl).rw_ w nw⟩ BytesL.nil⟩) ?_)
 refine lO (W_storeAll rfl rfl rfl rfl ty_ag_40 (by rw [ints_length, sha_length]) (ints_one) .h1 (by rw [ints_length, sha_length]; rfl) ?_)
 refine lQ (cE 2 rfl .nil) (R_ret ?_)
 exact R_endV rfl rfl (.cell rfl (Rds.loadVar ty_ag_40 (Rds.blk .h1) (by rw [ints_length, sha_length])) .nil) (rfl)
end Go.Proofs.YtcngmkjdpoiiaaaGreatDoor

/- Walks: one chunk is worked in, by the program and by the reference. Printed by gen.py. -/
set_option maxRecDepth 100000
namespace Go.Proofs.YtcngmkjdpoiiaaaGreatDoor
open Go Go.RowKit Go.Proofs
set_option maxHeartbeats 4000000 in
theorem block_ok {gl : Nat → Obj} (hG : ∃ T fr, gl 2 = .cells (ints .u32 addsK).toArray T fr) (s p : List Int) (hs : s.length = 8) (hp : p.length = 64) (sb so c : Nat) : SpecV (cx gl) 184 [.agg (ints .u32 s).toArray, .slice (some ⟨sb, so, none⟩) 64 c] (fun w => RowAt w ⟨sb, so, none⟩ (ints .u8 p)) (.agg (ints .u32 (mixF addsK s p)).toArray) := by
 refine Spec.enter (C := cx gl) Tryz.func184 rfl 223 rfl rfl fun w0 h0 hsep hsub hpre => ?_
 obtain rfl : h0 = Heap.none := hsep
 show St (cx gl) _ [(0, .agg (ints .u32 s).toArray), (1, .slice (some ⟨sb, so, none⟩) 64 c)] _ _
 refine rT ?_
 refine lO (W_box (_) rfl rfl rfl rfl rfl fun b2 => ?_)
 refine lO (W_alloc rfl rfl rfl ty_ze_285 fun b4 => ?_)
 refine lQ (cE 1 rfl (cE 2 rfl (cE 4 rfl .nil))) (rT ?_)
 refine lO (W_alloc rfl rfl rfl ty_ze_352 fun b5 => ?_)
 rw [rep_ints]
 refine L_nil (qT (rS (rT (lA (k:=?_)))))
 refine L_nil (qT (R_block ?_))
 refine R_loop (G := Nat) (fun k => [(1, .slice (some ⟨sb, so, none⟩) 64 c), (2, .pointer (some ⟨b2, 0, none⟩)), (4, .pointer (some ⟨b4, 0, none⟩)), (5, .pointer (some ⟨b5, 0, none⟩)), (6, .int .i64 (k : Int))]) (fun k => [blk b5 (ints .u32 (sch1 p k)) 352, blk b4 (List.replicate 8 (.int .u32 0)) 285, blk b2 (ints .u32 s) 285]) (fun k => k ≤ 16) (fun k => 16 - k) (0) (by omega) (by repeat (first | exact .nil | refine .cons rfl ?_)) (Weak.refl _) ?_
 intro k hk
 have hl := sch1_length p k
 refine rS (rT (lM (k:=lP pLt (k:=?_))))
 refine L_nil (qT ?_)
 refine R_condP rfl (fun hlt => ?_) (fun hlt => ?_)
 ·skip
  refine R_skip (qT (rS (R_block ?_)))
  refine R_open [(0, 0), (1, 0), (2, 0), (3, 0), (4, 0), (5, 1), (6, 0), (7, 0), (8, 0), (9, 0), (10, 0), (11, 0), (12, 0), (13, 1), (14, 0), (15, 0), (16, 0), (17, 0), (18, 0), (19, 0), (20, 0), (21, 0), (22, 1), (23, 0), (24, 0), (25, 0), (26, 0), (27, 0), (28, 0), (29, 0), (30, 0), (31, 1), (32, 0), (33, 0), (34, 0), (35, 3)] mixed (by kernel_rfl) (QOk.block (QOk.then (QOk.then (QOk.block (QOk.then QOk.body))))) (oP rfl pM (k:=oP rfl pM (k:=oP rfl pM (k:=?_))))
  first | (refine O_pure rfl rfl rfl rfl (P_mulN rfl rfl rfl (by simp only [fits]; omega)) ?_) | (refine O_pure rfl rfl rfl rfl (P_mul rfl rfl rfl) ?_)
  refine oP rfl (P_ixs (4 * k) rfl ty_sl_198 rfl rfl (by first | rfl | omega) (by omega)) (k:=?_)
  refine oV rfl (V_load rfl rfl ty_sc_5 (Rd.row hpre rfl (ints_at (by omega)))) (k:=?_)
  refine oP rfl (P_conv rfl ty_int_5 ty_int_82 rfl) (k:=?_)
  refine oP rfl (P_shl rfl rfl rfl (by decide)) (k:=oP rfl pM (k:=oP rfl pM (k:=?_)))
  first | (refine O_pure rfl rfl rfl rfl (P_mulN rfl rfl rfl (by simp only [fits]; omega)) ?_) | (refine O_pure rfl rfl rfl rfl (P_mul rfl rfl rfl) ?_)
  first | (refine O_pure rfl rfl rfl rfl (P_addN rfl rfl rfl (by simp only [fits]; omega)) ?_) | (refine O_pure rfl rfl rfl rfl (P_add rfl rfl rfl) ?_)
  refine oP rfl (P_ixs (4 * k + 1) rfl ty_sl_198 rfl rfl (by first | rfl | omega) (by omega)) (k:=?_)
  refine oV rfl (V_load rfl rfl ty_sc_5 (Rd.row hpre rfl (ints_at (by omega)))) (k:=?_)
  refine oP rfl (P_conv rfl ty_int_5 ty_int_82 rfl) (k:=?_)
  refine oP rfl (P_shl rfl rfl rfl (by decide)) (k:=?_)
  refine oP rfl (P_bit (op := .or) rfl rfl rfl rfl) (k:=oP rfl pM (k:=oP rfl pM (k:=?_)))
  first | (refine O_pure rfl rfl rfl rfl (P_mulN rfl rfl rfl (by simp only [fits]; omega)) ?_) | (refine O_pure rfl rfl rfl rfl (P_mul rfl rfl rfl) ?_)
  first | (refine O_pure rfl rfl rfl rfl (P_addN rfl rfl rfl (by simp only [fits]; omega)) ?_) | (refine O_pure rfl rfl rfl rfl (P_add rfl rfl rfl) ?_)
  refine oP rfl (P_ixs (4 * k + 2) rfl ty_sl_198 rfl rfl (by first | rfl | omega) (by omega)) (k:=?_)
  refine oV rfl (V_load rfl rfl ty_sc_5 (Rd.row hpre rfl (ints_at (by omega)))) (k:=?_)
  refine oP rfl (P_conv rfl ty_int_5 ty_int_82 rfl) (k:=?_)
  refine oP rfl (P_shl rfl rfl rfl (by decide)) (k:=?_)
  refine oP rfl (P_bit (op := .or) rfl rfl rfl rfl) (k:=oP rfl pM (k:=oP rfl pM (k:=?_)))
  first | (refine O_pure rfl rfl rfl rfl (P_mulN rfl rfl rfl (by simp only [fits]; omega)) ?_) | (refine O_pure rfl rfl rfl rfl (P_mul rfl rfl rfl) ?_)
  first | (refine O_pure rfl rfl rfl rfl (P_addN rfl rfl rfl (by simp only [fits]; omega)) ?_) | (refine O_pure rfl rfl rfl rfl (P_add rfl rfl rfl) ?_)
  refine oP rfl (P_ixs (4 * k + 3) rfl ty_sl_198 rfl rfl (by first | rfl | omega) (by omega)) (k:=?_)
  refine oV rfl (V_load rfl rfl ty_sc_5 (Rd.row hpre rfl (ints_at (by omega)))) (k:=?_)
  refine oP rfl (P_conv rfl ty_int_5 ty_int_82 rfl) (k:=?_)
  refine oP rfl (P_bit (op := .or) rfl rfl rfl rfl) (k:=?_)
  first | (refine O_pure rfl rfl rfl rfl (P_ixa0 (k) rfl ty_ar_352 rfl rfl (by first | rfl | omega) (by omega)) ?_) | (refine O_pure rfl rfl rfl rfl (P_ixa (k) rfl ty_ar_352 rfl rfl (by first | rfl | omega) (by omega)) ?_)
  refine O_new rfl rfl (W_store rfl rfl rfl rfl ty_sc_82 rfl .h0 (by rw [ints_length, hl]; omega) (K_new ?_))
  rw [ints_set]
  refine O_nil (Q_block (qT (rR (lM (k:=?_)))))
  first | (refine L_val rfl rfl rfl (OpP.v (P_addN rfl rfl rfl (by simp only [fits]; omega))) ?_) | (refine L_val rfl rfl rfl (OpP.v (P_add rfl rfl rfl)) ?_)
  refine lA (k:=?_)
  refine L_nil ?_
  refine E_nat (t := 6) (n := k + 1) rfl (by omega) ?_
  exact Q_round (k + 1) (by omega) (by omega) (by repeat (first | exact .nil | refine .cons rfl ?_)) (Weak.refl _)
 ·skip
  refine R_exit (Q_then_exit (Q_then_exit (Q_block_eq ?_)))
  refine St.env (cE 2 rfl (cE 4 rfl (cE 5 rfl .nil))) (qT (rS (rT (lA (k:=?_)))))
  refine L_nil (qT (R_block ?_))
  obtain rfl : k = 16 := by omega
  refine R_loop (G := Nat) (fun k => [(2, .pointer (some ⟨b2, 0, none⟩)), (4, .pointer (some ⟨b4, 0, none⟩)), (5, .pointer (some ⟨b5, 0, none⟩)), (7, .int .i64 ((16 + k : Nat) : Int))]) (fun k => [blk b5 (ints .u32 (sch2 (sch1 p 16) k)) 352, blk b4 (List.replicate 8 (.int .u32 0)) 285, blk b2 (ints .u32 s) 285]) (fun k => k ≤ 48) (fun k => 48 - k) (0) (by omega) (by repeat (first | exact .nil | refine .cons rfl ?_)) (Weak.refl _) ?_
  intro k hk
  have hl : (sch2 (sch1 p 16) k).length = 64 := by rw [sch2_length, sch1_length]
  refine rS (rT (lM (k:=lP pLt (k:=?_))))
  refine L_nil (qT ?_)
  refine R_condP rfl (fun hlt2 => ?_) (fun hlt2 => ?_)
  ·skip
   refine R_skip (qT (rS (R_block (rS ?_))))
   refine R_open [(0, 0), (1, 0), (2, 0), (3, 1), (5, 0), (6, 0), (7, 0), (8, 1), (11, 0), (12, 0), (13, 0), (14, 1), (15, 0), (4, 2), (9, 2), (10, 0), (16, 0), (17, 0)] mixed (by kernel_rfl) (QOk.then (QOk.block (QOk.then (QOk.then (QOk.block (QOk.then QOk.body)))))) (oP rfl pM (k:=?_))
   first | (refine O_pure rfl rfl rfl rfl (P_subN rfl rfl rfl (by simp only [fits]; omega)) ?_) | (refine O_pure rfl rfl rfl rfl (P_sub rfl rfl rfl) ?_)
   first | (refine O_pure rfl rfl rfl rfl (P_ixa0 (k + 1) rfl ty_ar_352 rfl rfl (by first | rfl | omega) (by omega)) ?_) | (refine O_pure rfl rfl rfl rfl (P_ixa (k + 1) rfl ty_ar_352 rfl rfl (by first | rfl | omega) (by omega)) ?_)
   refine oV rfl (V_load rfl rfl ty_sc_82 (Rd.blk .h0 (ints_at (by omega)))) (k:=oP rfl pM (k:=?_))
   first | (refine O_pure rfl rfl rfl rfl (P_subN rfl rfl rfl (by simp only [fits]; omega)) ?_) | (refine O_pure rfl rfl rfl rfl (P_sub rfl rfl rfl) ?_)
   first | (refine O_pure rfl rfl rfl rfl (P_ixa0 (k + 1) rfl ty_ar_352 rfl rfl (by first | rfl | omega) (by omega)) ?_) | (refine O_pure rfl rfl rfl rfl (P_ixa (k + 1) rfl ty_ar_352 rfl rfl (by first | rfl | omega) (by omega)) ?_)
   refine oV rfl (V_load rfl rfl ty_sc_82 (Rd.blk .h0 (ints_at (by omega)))) (k:=oP rfl pM (k:=?_))
   first | (refine O_pure rfl rfl rfl rfl (P_subN rfl rfl rfl (by simp only [fits]; omega)) ?_) | (refine O_pure rfl rfl rfl rfl (P_sub rfl rfl rfl) ?_)
   first | (refine O_pure rfl rfl rfl rfl (P_ixa0 (k + 1) rfl ty_ar_352 rfl rfl (by first | rfl | omega) (by omega)) ?_) | (refine O_pure rfl rfl rfl rfl (P_ixa (k + 1) rfl ty_ar_352 rfl rfl (by first | rfl | omega) (by omega)) ?_)
   refine oV rfl (V_load rfl rfl ty_sc_82 (Rd.blk .h0 (ints_at (by omega)))) (k:=?_)
   refine oP rfl (P_shr rfl rfl rfl (by decide)) (k:=?_)
   refine O_keep rfl rfl (W_callV rfl rfl rfl rfl fn_ca_241 (turn_ok gl _ 7 (by decide)) (fun _ _ => trivial) (K_keep (Weak.refl _) ?_))
   refine O_keep rfl rfl (W_callV rfl rfl rfl rfl fn_ca_241 (turn_ok gl _ 18 (by decide)) (fun _ _ => trivial) (K_keep (Weak.refl _) ?_))
   refine oP rfl (P_bit (op := .xor) rfl rfl rfl rfl) (k:=?_)
   refine oP rfl (P_bit (op := .xor) rfl rfl rfl rfl) (k:=oP rfl pA (k:=O_nil (qT (rS ?_))))
   refine R_open [(0, 0), (1, 0), (2, 0), (3, 1), (5, 0), (6, 0), (7, 0), (8, 1), (11, 0), (12, 0), (13, 0), (14, 1), (15, 0), (4, 2), (9, 2), (10, 0), (16, 0), (17, 0)] mixed (by kernel_rfl) (QOk.then (QOk.block (QOk.then (QOk.then (QOk.block (QOk.then QOk.body)))))) (oP rfl pM (k:=?_))
   first | (refine O_pure rfl rfl rfl rfl (P_subN rfl rfl rfl (by simp only [fits]; omega)) ?_) | (refine O_pure rfl rfl rfl rfl (P_sub rfl rfl rfl) ?_)
   first | (refine O_pure rfl rfl rfl rfl (P_ixa0 (k + 14) rfl ty_ar_352 rfl rfl (by first | rfl | omega) (by omega)) ?_) | (refine O_pure rfl rfl rfl rfl (P_ixa (k + 14) rfl ty_ar_352 rfl rfl (by first | rfl | omega) (by omega)) ?_)
   refine oV rfl (V_load rfl rfl ty_sc_82 (Rd.blk .h0 (ints_at (by omega)))) (k:=oP rfl pM (k:=?_))
   first | (refine O_pure rfl rfl rfl rfl (P_subN rfl rfl rfl (by simp only [fits]; omega)) ?_) | (refine O_pure rfl rfl rfl rfl (P_sub rfl rfl rfl) ?_)
   first | (refine O_pure rfl rfl rfl rfl (P_ixa0 (k + 14) rfl ty_ar_352 rfl rfl (by first | rfl | omega) (by omega)) ?_) | (refine O_pure rfl rfl rfl rfl (P_ixa (k + 14) rfl ty_ar_352 rfl rfl (by first | rfl | omega) (by omega)) ?_)
   refine oV rfl (V_load rfl rfl ty_sc_82 (Rd.blk .h0 (ints_at (by omega)))) (k:=oP rfl pM (k:=?_))
   first | (refine O_pure rfl rfl rfl rfl (P_subN rfl rfl rfl (by simp only [fits]; omega)) ?_) | (refine O_pure rfl rfl rfl rfl (P_sub rfl rfl rfl) ?_)
   first | (refine O_pure rfl rfl rfl rfl (P_ixa0 (k + 14) rfl ty_ar_352 rfl rfl (by first | rfl | omega) (by omega)) ?_) | (refine O_pure rfl rfl rfl rfl (P_ixa (k + 14) rfl ty_ar_352 rfl rfl (by first | rfl | omega) (by omega)) ?_)
   refine oV rfl (V_load rfl rfl ty_sc_82 (Rd.blk .h0 (ints_at (by omega)))) (k:=?_)
   refine oP rfl (P_shr rfl rfl rfl (by decide)) (k:=?_)
   refine O_keep rfl rfl (W_callV rfl rfl rfl rfl fn_ca_241 (turn_ok gl _ 17 (by decide)) (fun _ _ => trivial) (K_keep (Weak.refl _) ?_))
   refine O_keep rfl rfl (W_callV rfl rfl rfl rfl fn_ca_241 (turn_ok gl _ 19 (by decide)) (fun _ _ => trivial) (K_keep (Weak.refl _) ?_))
   refine oP rfl (P_bit (op := .xor) rfl rfl rfl rfl) (k:=?_)
   refine oP rfl (P_bit (op := .xor) rfl rfl rfl rfl) (k:=oP rfl pA (k:=O_nil (qT ?_)))
   refine R_open [(0, 0), (1, 0), (2, 0), (3, 0), (4, 1), (5, 0), (6, 0), (7, 0), (8, 0), (9, 0), (10, 1), (11, 0), (12, 0), (13, 0), (14, 0), (15, 3)] mixed (by kernel_rfl) (QOk.block (QOk.then (QOk.then (QOk.block (QOk.then QOk.body))))) (oP rfl pM (k:=oP rfl pM (k:=?_)))
   first | (refine O_pure rfl rfl rfl rfl (P_subN rfl rfl rfl (by simp only [fits]; omega)) ?_) | (refine O_pure rfl rfl rfl rfl (P_sub rfl rfl rfl) ?_)
   first | (refine O_pure rfl rfl rfl rfl (P_ixa0 (k) rfl ty_ar_352 rfl rfl (by first | rfl | omega) (by omega)) ?_) | (refine O_pure rfl rfl rfl rfl (P_ixa (k) rfl ty_ar_352 rfl rfl (by first | rfl | omega) (by omega)) ?_)
   refine oV rfl (V_load rfl rfl ty_sc_82 (Rd.blk .h0 (ints_at (by omega)))) (k:=oP rfl pM (k:=?_))
   refine oP rfl (P_add rfl rfl rfl) (k:=oP rfl pM (k:=?_))
   first | (refine O_pure rfl rfl rfl rfl (P_subN rfl rfl rfl (by simp only [fits]; omega)) ?_) | (refine O_pure rfl rfl rfl rfl (P_sub rfl rfl rfl) ?_)
   first | (refine O_pure rfl rfl rfl rfl (P_ixa0 (k + 9) rfl ty_ar_352 rfl rfl (by first | rfl | omega) (by omega)) ?_) | (refine O_pure rfl rfl rfl rfl (P_ixa (k + 9) rfl ty_ar_352 rfl rfl (by first | rfl | omega) (by omega)) ?_)
   refine oV rfl (V_load rfl rfl ty_sc_82 (Rd.blk .h0 (ints_at (by omega)))) (k:=?_)
   refine oP rfl (P_add rfl rfl rfl) (k:=oP rfl pM (k:=?_))
   refine oP rfl (P_add rfl rfl rfl) (k:=?_)
   first | (refine O_pure rfl rfl rfl rfl (P_ixa0 (16 + k) rfl ty_ar_352 rfl rfl (by first | rfl | omega) (by omega)) ?_) | (refine O_pure rfl rfl rfl rfl (P_ixa (16 + k) rfl ty_ar_352 rfl rfl (by first | rfl | omega) (by omega)) ?_)
   refine O_new rfl rfl (W_store rfl rfl rfl rfl ty_sc_82 rfl .h0 (by rw [ints_length, hl]; omega) (K_new ?_))
   rw [ints_set]
   refine O_nil (Q_block (qT (rR (lM (k:=?_)))))
   first | (refine L_val rfl rfl rfl (OpP.v (P_addN rfl rfl rfl (by simp only [fits]; omega))) ?_) | (refine L_val rfl rfl rfl (OpP.v (P_add rfl rfl rfl)) ?_)
   refine lA (k:=?_)
   refine L_nil ?_
   refine E_nat (t := 7) (n := 16 + (k + 1)) rfl (by omega) ?_
   exact Q_round (k + 1) (by omega) (by omega) (by repeat (first | exact .nil | refine .cons rfl ?_)) (Weak.refl _)
  ·skip
   refine R_exit (Q_then_exit (Q_then_exit (Q_block_eq ?_)))
   refine St.env (cE 2 rfl (cE 4 rfl (cE 5 rfl .nil))) (qT (rT ?_))
   refine lV (V_loadAgg rfl rfl ty_ag_285 (Rds.blk .h2) (by rw [ints_length, hs])) (k:=?_)
   refine lO (W_alloc rfl rfl rfl ty_ze_285 fun b10 => ?_)
   refine lO (W_storeAll rfl rfl rfl rfl ty_ag_285 (by rw [ints_length, hs]) (ints_one) .h0 (by rw [ints_length, List.length_replicate]; exact hs) ?_)
   refine lQ (cE 2 rfl (cE 4 rfl (cE 5 rfl (cE 10 rfl .nil)))) (rS (rT (lA (k:=?_))))
   refine L_nil (qT (R_block ?_))
   obtain rfl : k = 48 := by omega
   refine R_loop (G := Nat) (fun k => [(2, .pointer (some ⟨b2, 0, none⟩)), (4, .pointer (some ⟨b4, 0, none⟩)), (5, .pointer (some ⟨b5, 0, none⟩)), (10, .pointer (some ⟨b10, 0, none⟩)), (11, .int .i64 (k : Int))]) (fun k => [blk b10 (ints .u32 (rnds addsK (sch2 (sch1 p 16) 48) s k)) 285, blk b5 (ints .u32 (sch2 (sch1 p 16) 48)) 352, blk b4 (List.replicate 8 (.int .u32 0)) 285, blk b2 (ints .u32 s) 285]) (fun k => k ≤ 64) (fun k => 64 - k) (0) (by omega) (by repeat (first | exact .nil | refine .cons rfl ?_)) (Weak.refl _) ?_
   intro k hk
   have hl : (sch2 (sch1 p 16) 48).length = 64 := by rw [sch2_length, sch1_length]
   have hr : (rnds addsK (sch2 (sch1 p 16) 48) s k).length = 8 := by rw [rnds_length, hs]
   obtain ⟨va, vb, vc, vd, ve, vf, vg, vh, e8⟩ := list8 hr
   rw [e8]
   refine rS (rT (lM (k:=lP pLt (k:=?_))))
   refine L_nil (qT ?_)
   refine R_condP rfl (fun hlt3 => ?_) (fun hlt3 => ?_)
   ·skip
    refine R_skip (qT (rS (R_block (rS ?_))))
    refine R_open [(0, 0), (1, 1), (3, 0), (4, 1), (7, 0), (8, 1), (2, 2), (5, 2), (6, 0), (9, 2), (10, 0), (11, 0)] mixed (by kernel_rfl) (QOk.then (QOk.block (QOk.then (QOk.then (QOk.block (QOk.then QOk.body)))))) ?_
    first | (refine O_pure rfl rfl rfl rfl (P_ixa0 (4) rfl ty_ar_285 rfl rfl (by first | rfl | omega) (by omega)) ?_) | (refine O_pure rfl rfl rfl rfl (P_ixa (4) rfl ty_ar_285 rfl rfl (by first | rfl | omega) (by omega)) ?_)
    refine oV rfl (V_load rfl rfl ty_sc_82 (by first | exact Rd.blk .h0 rfl | exact Rd.blk .h1 rfl | exact Rd.blk .h2 rfl | exact Rd.blk .h3 rfl | exact Rd.blk .h4 rfl | exact Rd.blk .h5 rfl | exact Rd.blk .h6 rfl | exact Rd.blk .h7 rfl)) (k:=?_)
    first | (refine O_pure rfl rfl rfl rfl (P_ixa0 (4) rfl ty_ar_285 rfl rfl (by first | rfl | omega) (by omega)) ?_) | (refine O_pure rfl rfl rfl rfl (P_ixa (4) rfl ty_ar_285 rfl rfl (by first | rfl | omega) (by omega)) ?_)
    refine oV rfl (V_load rfl rfl ty_sc_82 (by first | exact Rd.blk .h0 rfl | exact Rd.blk .h1 rfl | exact Rd.blk .h2 rfl | exact Rd.blk .h3 rfl | exact Rd.blk .h4 rfl | exact Rd.blk .h5 rfl | exact Rd.blk .h6 rfl | exact Rd.blk .h7 rfl)) (k:=?_)
    first | (refine O_pure rfl rfl rfl rfl (P_ixa0 (4) rfl ty_ar_285 rfl rfl (by first | rfl | omega) (by omega)) ?_) | (refine O_pure rfl rfl rfl rfl (P_ixa (4) rfl ty_ar_285 rfl rfl (by first | rfl | omega) (by omega)) ?_)
    refine oV rfl (V_load rfl rfl ty_sc_82 (by first | exact Rd.blk .h0 rfl | exact Rd.blk .h1 rfl | exact Rd.blk .h2 rfl | exact Rd.blk .h3 rfl | exact Rd.blk .h4 rfl | exact Rd.blk .h5 rfl | exact Rd.blk .h6 rfl | exact Rd.blk .h7 rfl)) (k:=?_)
    refine O_keep rfl rfl (W_callV rfl rfl rfl rfl fn_ca_241 (turn_ok gl _ 6 (by decide)) (fun _ _ => trivial) (K_keep (Weak.refl _) ?_))
    refine O_keep rfl rfl (W_callV rfl rfl rfl rfl fn_ca_241 (turn_ok gl _ 11 (by decide)) (fun _ _ => trivial) (K_keep (Weak.refl _) ?_))
    refine oP rfl (P_bit (op := .xor) rfl rfl rfl rfl) (k:=?_)
    refine O_keep rfl rfl (W_callV rfl rfl rfl rfl fn_ca_241 (turn_ok gl _ 25 (by decide)) (fun _ _ => trivial) (K_keep (Weak.refl _) ?_))
    refine oP rfl (P_bit (op := .xor) rfl rfl rfl rfl) (k:=oP rfl pA (k:=O_nil (qT (rT ?_))))
    first | (refine L_val rfl rfl rfl (OpP.v (P_ixa0 (4) rfl ty_ar_285 rfl rfl (by first | rfl | omega) (by omega))) ?_) | (refine L_val rfl rfl rfl (OpP.v (P_ixa (4) rfl ty_ar_285 rfl rfl (by first | rfl | omega) (by omega))) ?_)
    refine lV (V_load rfl rfl ty_sc_82 (by first | exact Rd.blk .h0 rfl | exact Rd.blk .h1 rfl | exact Rd.blk .h2 rfl | exact Rd.blk .h3 rfl | exact Rd.blk .h4 rfl | exact Rd.blk .h5 rfl | exact Rd.blk .h6 rfl | exact Rd.blk .h7 rfl)) (k:=?_)
    first | (refine L_val rfl rfl rfl (OpP.v (P_ixa0 (5) rfl ty_ar_285 rfl rfl (by first | rfl | omega) (by omega))) ?_) | (refine L_val rfl rfl rfl (OpP.v (P_ixa (5) rfl ty_ar_285 rfl rfl (by first | rfl | omega) (by omega))) ?_)
    refine lV (V_load rfl rfl ty_sc_82 (by first | exact Rd.blk .h0 rfl | exact Rd.blk .h1 rfl | exact Rd.blk .h2 rfl | exact Rd.blk .h3 rfl | exact Rd.blk .h4 rfl | exact Rd.blk .h5 rfl | exact Rd.blk .h6 rfl | exact Rd.blk .h7 rfl)) (k:=?_)
    refine lP (P_bit (op := .and) rfl rfl rfl rfl) (k:=?_)
    first | (refine L_val rfl rfl rfl (OpP.v (P_ixa0 (4) rfl ty_ar_285 rfl rfl (by first | rfl | omega) (by omega))) ?_) | (refine L_val rfl rfl rfl (OpP.v (P_ixa (4) rfl ty_ar_285 rfl rfl (by first | rfl | omega) (by omega))) ?_)
    refine lV (V_load rfl rfl ty_sc_82 (by first | exact Rd.blk .h0 rfl | exact Rd.blk .h1 rfl | exact Rd.blk .h2 rfl | exact Rd.blk .h3 rfl | exact Rd.blk .h4 rfl | exact Rd.blk .h5 rfl | exact Rd.blk .h6 rfl | exact Rd.blk .h7 rfl)) (k:=?_)
    refine lP (P_compl rfl rfl) (k:=?_)
    first | (refine L_val rfl rfl rfl (OpP.v (P_ixa0 (6) rfl ty_ar_285 rfl rfl (by first | rfl | omega) (by omega))) ?_) | (refine L_val rfl rfl rfl (OpP.v (P_ixa (6) rfl ty_ar_285 rfl rfl (by first | rfl | omega) (by omega))) ?_)
    refine lV (V_load rfl rfl ty_sc_82 (by first | exact Rd.blk .h0 rfl | exact Rd.blk .h1 rfl | exact Rd.blk .h2 rfl | exact Rd.blk .h3 rfl | exact Rd.blk .h4 rfl | exact Rd.blk .h5 rfl | exact Rd.blk .h6 rfl | exact Rd.blk .h7 rfl)) (k:=?_)
    refine lP (P_bit (op := .and) rfl rfl rfl rfl) (k:=?_)
    refine lP (P_bit (op := .xor) rfl rfl rfl rfl) (k:=lA (k:=?_))
    refine L_nil (qT (rS ?_))
    refine R_open [(0, 0), (1, 1), (2, 0), (3, 0), (4, 0), (5, 0), (6, 0), (7, 0), (8, 1), (9, 0), (10, 0), (11, 0), (12, 1), (13, 0), (14, 0)] mixed (by kernel_rfl) (QOk.then (QOk.block (QOk.then (QOk.then (QOk.block (QOk.then QOk.body)))))) ?_
    first | (refine O_pure rfl rfl rfl rfl (P_ixa0 (7) rfl ty_ar_285 rfl rfl (by first | rfl | omega) (by omega)) ?_) | (refine O_pure rfl rfl rfl rfl (P_ixa (7) rfl ty_ar_285 rfl rfl (by first | rfl | omega) (by omega)) ?_)
    refine oV rfl (V_load rfl rfl ty_sc_82 (by first | exact Rd.blk .h0 rfl | exact Rd.blk .h1 rfl | exact Rd.blk .h2 rfl | exact Rd.blk .h3 rfl | exact Rd.blk .h4 rfl | exact Rd.blk .h5 rfl | exact Rd.blk .h6 rfl | exact Rd.blk .h7 rfl)) (k:=oP rfl pM (k:=?_))
    refine oP rfl (P_add rfl rfl rfl) (k:=oP rfl pM (k:=?_))
    refine oP rfl (P_add rfl rfl rfl) (k:=oP rfl pM (k:=?_))
    first | (refine O_pure rfl rfl rfl rfl (P_ixa0 (k) rfl ty_ar_352 rfl rfl (by first | rfl | omega) (by omega)) ?_) | (refine O_pure rfl rfl rfl rfl (P_ixa (k) rfl ty_ar_352 rfl rfl (by first | rfl | omega) (by omega)) ?_)
    refine oV rfl (V_load rfl rfl ty_sc_82 (hG.elim fun T h => h.elim fun fr h => Rd.glob rfl h (ints_at (by rw [addsK_length]; omega)))) (k:=?_)
    refine oP rfl (P_add rfl rfl rfl) (k:=oP rfl pM (k:=?_))
    first | (refine O_pure rfl rfl rfl rfl (P_ixa0 (k) rfl ty_ar_352 rfl rfl (by first | rfl | omega) (by omega)) ?_) | (refine O_pure rfl rfl rfl rfl (P_ixa (k) rfl ty_ar_352 rfl rfl (by first | rfl | omega) (by omega)) ?_)
    refine oV rfl (V_load rfl rfl ty_sc_82 (Rd.blk .h1 (ints_at (by omega)))) (k:=?_)
    refine oP rfl (P_add rfl rfl rfl) (k:=oP rfl pA (k:=O_nil (qT (rS ?_))))
    refine R_open [(0, 0), (1, 1), (3, 0), (4, 1), (7, 0), (8, 1), (2, 2), (5, 2), (6, 0), (9, 2), (10, 0), (11, 0)] mixed (by kernel_rfl) (QOk.then (QOk.block (QOk.then (QOk.then (QOk.block (QOk.then QOk.body)))))) ?_
    first | (refine O_pure rfl rfl rfl rfl (P_ixa0 (0) rfl ty_ar_285 rfl rfl (by first | rfl | omega) (by omega)) ?_) | (refine O_pure rfl rfl rfl rfl (P_ixa (0) rfl ty_ar_285 rfl rfl (by first | rfl | omega) (by omega)) ?_)
    refine oV rfl (V_load rfl rfl ty_sc_82 (by first | exact Rd.blk .h0 rfl | exact Rd.blk .h1 rfl | exact Rd.blk .h2 rfl | exact Rd.blk .h3 rfl | exact Rd.blk .h4 rfl | exact Rd.blk .h5 rfl | exact Rd.blk .h6 rfl | exact Rd.blk .h7 rfl)) (k:=?_)
    first | (refine O_pure rfl rfl rfl rfl (P_ixa0 (0) rfl ty_ar_285 rfl rfl (by first | rfl | omega) (by omega)) ?_) | (refine O_pure rfl rfl rfl rfl (P_ixa (0) rfl ty_ar_285 rfl rfl (by first | rfl | omega) (by omega)) ?_)
    refine oV rfl (V_load rfl rfl ty_sc_82 (by first | exact Rd.blk .h0 rfl | exact Rd.blk .h1 rfl | exact Rd.blk .h2 rfl | exact Rd.blk .h3 rfl | exact Rd.blk .h4 rfl | exact Rd.blk .h5 rfl | exact Rd.blk .h6 rfl | exact Rd.blk .h7 rfl)) (k:=?_)
    first | (refine O_pure rfl rfl rfl rfl (P_ixa0 (0) rfl ty_ar_285 rfl rfl (by first | rfl | omega) (by omega)) ?_) | (refine O_pure rfl rfl rfl rfl (P_ixa (0) rfl ty_ar_285 rfl rfl (by first | rfl | omega) (by omega)) ?_)
    refine oV rfl (V_load rfl rfl ty_sc_82 (by first | exact Rd.blk .h0 rfl | exact Rd.blk .h1 rfl | exact Rd.blk .h2 rfl | exact Rd.blk .h3 rfl | exact Rd.blk .h4 rfl | exact Rd.blk .h5 rfl | exact Rd.blk .h6 rfl | exact Rd.blk .h7 rfl)) (k:=?_)
    refine O_keep rfl rfl (W_callV rfl rfl rfl rfl fn_ca_241 (turn_ok gl _ 2 (by decide)) (fun _ _ => trivial) (K_keep (Weak.refl _) ?_))
    refine O_keep rfl rfl (W_callV rfl rfl rfl rfl fn_ca_241 (turn_ok gl _ 13 (by decide)) (fun _ _ => trivial) (K_keep (Weak.refl _) ?_))
    refine oP rfl (P_bit (op := .xor) rfl rfl rfl rfl) (k:=?_)
    refine O_keep rfl rfl (W_callV rfl rfl rfl rfl fn_ca_241 (turn_ok gl _ 22 (by decide)) (fun _ _ => trivial) (K_keep (Weak.refl _) ?_))
    refine oP rfl (P_bit (op := .xor) rfl rfl rfl rfl) (k:=oP rfl pA (k:=O_nil (qT (rT ?_))))
    first | (refine L_val rfl rfl rfl (OpP.v (P_ixa0 (0) rfl ty_ar_285 rfl rfl (by first | rfl | omega) (by omega))) ?_) | (refine L_val rfl rfl rfl (OpP.v (P_ixa (0) rfl ty_ar_285 rfl rfl (by first | rfl | omega) (by omega))) ?_)
    refine lV (V_load rfl rfl ty_sc_82 (by first | exact Rd.blk .h0 rfl | exact Rd.blk .h1 rfl | exact Rd.blk .h2 rfl | exact Rd.blk .h3 rfl | exact Rd.blk .h4 rfl | exact Rd.blk .h5 rfl | exact Rd.blk .h6 rfl | exact Rd.blk .h7 rfl)) (k:=?_)
    first | (refine L_val rfl rfl rfl (OpP.v (P_ixa0 (1) rfl ty_ar_285 rfl rfl (by first | rfl | omega) (by omega))) ?_) | (refine L_val rfl rfl rfl (OpP.v (P_ixa (1) rfl ty_ar_285 rfl rfl (by first | rfl | omega) (by omega))) ?_)
    refine lV (V_load rfl rfl ty_sc_82 (by first | exact Rd.blk .h0 rfl | exact Rd.blk .h1 rfl | exact Rd.blk .h2 rfl | exact Rd.blk .h3 rfl | exact Rd.blk .h4 rfl | exact Rd.blk .h5 rfl | exact Rd.blk .h6 rfl | exact Rd.blk .h7 rfl)) (k:=?_)
    refine lP (P_bit (op := .and) rfl rfl rfl rfl) (k:=?_)
    first | (refine L_val rfl rfl rfl (OpP.v (P_ixa0 (0) rfl ty_ar_285 rfl rfl (by first | rfl | omega) (by omega))) ?_) | (refine L_val rfl rfl rfl (OpP.v (P_ixa (0) rfl ty_ar_285 rfl rfl (by first | rfl | omega) (by omega))) ?_)
    refine lV (V_load rfl rfl ty_sc_82 (by first | exact Rd.blk .h0 rfl | exact Rd.blk .h1 rfl | exact Rd.blk .h2 rfl | exact Rd.blk .h3 rfl | exact Rd.blk .h4 rfl | exact Rd.blk .h5 rfl | exact Rd.blk .h6 rfl | exact Rd.blk .h7 rfl)) (k:=?_)
    first | (refine L_val rfl rfl rfl (OpP.v (P_ixa0 (2) rfl ty_ar_285 rfl rfl (by first | rfl | omega) (by omega))) ?_) | (refine L_val rfl rfl rfl (OpP.v (P_ixa (2) rfl ty_ar_285 rfl rfl (by first | rfl | omega) (by omega))) ?_)
    refine lV (V_load rfl rfl ty_sc_82 (by first | exact Rd.blk .h0 rfl | exact Rd.blk .h1 rfl | exact Rd.blk .h2 rfl | exact Rd.blk .h3 rfl | exact Rd.blk .h4 rfl | exact Rd.blk .h5 rfl | exact Rd.blk .h6 rfl | exact Rd.blk .h7 rfl)) (k:=?_)
    refine lP (P_bit (op := .and) rfl rfl rfl rfl) (k:=?_)
    refine lP (P_bit (op := .xor) rfl rfl rfl rfl) (k:=?_)
    first | (refine L_val rfl rfl rfl (OpP.v (P_ixa0 (1) rfl ty_ar_285 rfl rfl (by first | rfl | omega) (by omega))) ?_) | (refine L_val rfl rfl rfl (OpP.v (P_ixa (1) rfl ty_ar_285 rfl rfl (by first | rfl | omega) (by omega))) ?_)
    refine lV (V_load rfl rfl ty_sc_82 (by first | exact Rd.blk .h0 rfl | exact Rd.blk .h1 rfl | exact Rd.blk .h2 rfl | exact Rd.blk .h3 rfl | exact Rd.blk .h4 rfl | exact Rd.blk .h5 rfl | exact Rd.blk .h6 rfl | exact Rd.blk .h7 rfl)) (k:=?_)
    first | (refine L_val rfl rfl rfl (OpP.v (P_ixa0 (2) rfl ty_ar_285 rfl rfl (by first | rfl | omega) (by omega))) ?_) | (refine L_val rfl rfl rfl (OpP.v (P_ixa (2) rfl ty_ar_285 rfl rfl (by first | rfl | omega) (by omega))) ?_)
    refine lV (V_load rfl rfl ty_sc_82 (by first | exact Rd.blk .h0 rfl | exact Rd.blk .h1 rfl | exact Rd.blk .h2 rfl | exact Rd.blk .h3 rfl | exact Rd.blk .h4 rfl | exact Rd.blk .h5 rfl | exact Rd.blk .h6 rfl | exact Rd.blk .h7 rfl)) (k:=?_)
    refine lP (P_bit (op := .and) rfl rfl rfl rfl) (k:=?_)
    refine lP (P_bit (op := .xor) rfl rfl rfl rfl) (k:=lA (k:=?_))
    refine L_nil (qT (rT ?_))
    first | (refine L_val rfl rfl rfl (OpP.v (P_ixa0 (6) rfl ty_ar_285 rfl rfl (by first | rfl | omega) (by omega))) ?_) | (refine L_val rfl rfl rfl (OpP.v (P_ixa (6) rfl ty_ar_285 rfl rfl (by first | rfl | omega) (by omega))) ?_)
    refine lV (V_load rfl rfl ty_sc_82 (by first | exact Rd.blk .h0 rfl | exact Rd.blk .h1 rfl | exact Rd.blk .h2 rfl | exact Rd.blk .h3 rfl | exact Rd.blk .h4 rfl | exact Rd.blk .h5 rfl | exact Rd.blk .h6 rfl | exact Rd.blk .h7 rfl)) (k:=?_)
    first | (refine L_val rfl rfl rfl (OpP.v (P_ixa0 (7) rfl ty_ar_285 rfl rfl (by first | rfl | omega) (by omega))) ?_) | (refine L_val rfl rfl rfl (OpP.v (P_ixa (7) rfl ty_ar_285 rfl rfl (by first | rfl | omega) (by omega))) ?_)
    refine lO (W_store rfl rfl rfl rfl ty_sc_82 rfl .h0 (by simp [ints]) ?_)
    refine L_nil (qT (rT ?_))
    first | (refine L_val rfl rfl rfl (OpP.v (P_ixa0 (5) rfl ty_ar_285 rfl rfl (by first | rfl | omega) (by omega))) ?_) | (refine L_val rfl rfl rfl (OpP.v (P_ixa (5) rfl ty_ar_285 rfl rfl (by first | rfl | omega) (by omega))) ?_)
    refine lV (V_load rfl rfl ty_sc_82 (by first | exact Rd.blk .h0 rfl | exact Rd.blk .h1 rfl | exact Rd.blk .h2 rfl | exact Rd.blk .h3 rfl | exact Rd.blk .h4 rfl | exact Rd.blk .h5 rfl | exact Rd.blk .h6 rfl | exact Rd.blk .h7 rfl)) (k:=?_)
    first | (refine L_val rfl rfl rfl (OpP.v (P_ixa0 (6) rfl ty_ar_285 rfl rfl (by first | rfl | omega) (by omega))) ?_) | (refine L_val rfl rfl rfl (OpP.v (P_ixa (6) rfl ty_ar_285 rfl rfl (by first | rfl | omega) (by omega))) ?_)
    refine lO (W_store rfl rfl rfl rfl ty_sc_82 rfl .h0 (by simp [ints]) ?_)
    refine L_nil (qT (rT ?_))
    first | (refine L_val rfl rfl rfl (OpP.v (P_ixa0 (4) rfl ty_ar_285 rfl rfl (by first | rfl | omega) (by omega))) ?_) | (refine L_val rfl rfl rfl (OpP.v (P_ixa (4) rfl ty_ar_285 rfl rfl (by first | rfl | omega) (by omega))) ?_)
    refine lV (V_load rfl rfl ty_sc_82 (by first | exact Rd.blk .h0 rfl | exact Rd.blk .h1 rfl | exact Rd.blk .h2 rfl | exact Rd.blk .h3 rfl | exact Rd.blk .h4 rfl | exact Rd.blk .h5 rfl | exact Rd.blk .h6 rfl | exact Rd.blk .h7 rfl)) (k:=?_)
    first | (refine L_val rfl rfl rfl (OpP.v (P_ixa0 (5) rfl ty_ar_285 rfl rfl (by first | rfl | omega) (by omega))) ?_) | (refine L_val rfl rfl rfl (OpP.v (P_ixa (5) rfl ty_ar_285 rfl rfl (by first | rfl | omega) (by omega))) ?_)
    refine lO (W_store rfl rfl rfl rfl ty_sc_82 rfl .h0 (by simp [ints]) ?_)
    refine L_nil (qT (rT ?_))
    first | (refine L_val rfl rfl rfl (OpP.v (P_ixa0 (3) rfl ty_ar_285 rfl rfl (by first | rfl | omega) (by omega))) ?_) | (refine L_val rfl rfl rfl (OpP.v (P_ixa (3) rfl ty_ar_285 rfl rfl (by first | rfl | omega) (by omega))) ?_)
    refine lV (V_load rfl rfl ty_sc_82 (by first | exact Rd.blk .h0 rfl | exact Rd.blk .h1 rfl | exact Rd.blk .h2 rfl | exact Rd.blk .h3 rfl | exact Rd.blk .h4 rfl | exact Rd.blk .h5 rfl | exact Rd.blk .h6 rfl | exact Rd.blk .h7 rfl)) (k:=lM (k:=?_))
    refine lP (P_add rfl rfl rfl) (k:=?_)
    first | (refine L_val rfl rfl rfl (OpP.v (P_ixa0 (4) rfl ty_ar_285 rfl rfl (by first | rfl | omega) (by omega))) ?_) | (refine L_val rfl rfl rfl (OpP.v (P_ixa (4) rfl ty_ar_285 rfl rfl (by first | rfl | omega) (by omega))) ?_)
    refine lO (W_store rfl rfl rfl rfl ty_sc_82 rfl .h0 (by simp [ints]) ?_)
    refine L_nil (qT (rT ?_))
    first | (refine L_val rfl rfl rfl (OpP.v (P_ixa0 (2) rfl ty_ar_285 rfl rfl (by first | rfl | omega) (by omega))) ?_) | (refine L_val rfl rfl rfl (OpP.v (P_ixa (2) rfl ty_ar_285 rfl rfl (by first | rfl | omega) (by omega))) ?_)
    refine lV (V_load rfl rfl ty_sc_82 (by first | exact Rd.blk .h0 rfl | exact Rd.blk .h1 rfl | exact Rd.blk .h2 rfl | exact Rd.blk .h3 rfl | exact Rd.blk .h4 rfl | exact Rd.blk .h5 rfl | exact Rd.blk .h6 rfl | exact Rd.blk .h7 rfl)) (k:=?_)
    first | (refine L_val rfl rfl rfl (OpP.v (P_ixa0 (3) rfl ty_ar_285 rfl rfl (by first | rfl | omega) (by omega))) ?_) | (refine L_val rfl rfl rfl (OpP.v (P_ixa (3) rfl ty_ar_285 rfl rfl (by first | rfl | omega) (by omega))) ?_)
    refine lO (W_store rfl rfl rfl rfl ty_sc_82 rfl .h0 (by simp [ints]) ?_)
    refine L_nil (qT (rT ?_))
    first | (refine L_val rfl rfl rfl (OpP.v (P_ixa0 (1) rfl ty_ar_285 rfl rfl (by first | rfl | omega) (by omega))) ?_) | (refine L_val rfl rfl rfl (OpP.v (P_ixa (1) rfl ty_ar_285 rfl rfl (by first | rfl | omega) (by omega))) ?_)
    refine lV (V_load rfl rfl ty_sc_82 (by first | exact Rd.blk .h0 rfl | exact Rd.blk .h1 rfl | exact Rd.blk .h2 rfl | exact Rd.blk .h3 rfl | exact Rd.blk .h4 rfl | exact Rd.blk .h5 rfl | exact Rd.blk .h6 rfl | exact Rd.blk .h7 rfl)) (k:=?_)
    first | (refine L_val rfl rfl rfl (OpP.v (P_ixa0 (2) rfl ty_ar_285 rfl rfl (by first | rfl | omega) (by omega))) ?_) | (refine L_val rfl rfl rfl (OpP.v (P_ixa (2) rfl ty_ar_285 rfl rfl (by first | rfl | omega) (by omega))) ?_)
    refine lO (W_store rfl rfl rfl rfl ty_sc_82 rfl .h0 (by simp [ints]) ?_)
    refine L_nil (qT (rT ?_))
    first | (refine L_val rfl rfl rfl (OpP.v (P_ixa0 (0) rfl ty_ar_285 rfl rfl (by first | rfl | omega) (by omega))) ?_) | (refine L_val rfl rfl rfl (OpP.v (P_ixa (0) rfl ty_ar_285 rfl rfl (by first | rfl | omega) (by omega))) ?_)
    refine lV (V_load rfl rfl ty_sc_82 (by first | exact Rd.blk .h0 rfl | exact Rd.blk .h1 rfl | exact Rd.blk .h2 rfl | exact Rd.blk .h3 rfl | exact Rd.blk .h4 rfl | exact Rd.blk .h5 rfl | exact Rd.blk .h6 rfl | exact Rd.blk .h7 rfl)) (k:=?_)
    first | (refine L_val rfl rfl rfl (OpP.v (P_ixa0 (1) rfl ty_ar_285 rfl rfl (by first | rfl | omega) (by omega))) ?_) | (refine L_val rfl rfl rfl (OpP.v (P_ixa (1) rfl ty_ar_285 rfl rfl (by first | rfl | omega) (by omega))) ?_)
    refine lO (W_store rfl rfl rfl rfl ty_sc_82 rfl .h0 (by simp [ints]) ?_)
    refine L_nil (qT (rR (lM (k:=lM (k:=?_)))))
    refine lP (P_add rfl rfl rfl) (k:=lM (k:=?_))
    refine lP (P_add rfl rfl rfl) (k:=?_)
    refine E_as (t := 207) (v' := .int .u32 (addW _ (addW _ _))) rfl (congrArg (Value.int .u32) (addW_assoc _ _ _)) ?_
    first | (refine L_val rfl rfl rfl (OpP.v (P_ixa0 (0) rfl ty_ar_285 rfl rfl (by first | rfl | omega) (by omega))) ?_) | (refine L_val rfl rfl rfl (OpP.v (P_ixa (0) rfl ty_ar_285 rfl rfl (by first | rfl | omega) (by omega))) ?_)
    refine lO (W_store rfl rfl rfl rfl ty_sc_82 rfl .h0 (by simp [ints]) ?_)
    refine L_nil (Q_block (qT (rR (lM (k:=?_)))))
    first | (refine L_val rfl rfl rfl (OpP.v (P_addN rfl rfl rfl (by simp only [fits]; omega))) ?_) | (refine L_val rfl rfl rfl (OpP.v (P_add rfl rfl rfl)) ?_)
    refine lA (k:=?_)
    refine L_nil ?_
    refine E_nat (t := 11) (n := k + 1) rfl (by omega) ?_
    exact Q_round (k + 1) (by omega) (by omega) (by repeat (first | exact .nil | refine .cons rfl ?_)) (by rw [rnds, e8]; exact Weak.refl _)
   ·skip
    refine R_exit (Q_then_exit (Q_then_exit (Q_block_eq ?_)))
    refine St.env (cE 2 rfl (cE 4 rfl (cE 10 rfl .nil))) (qT (rS (rT (lA (k:=?_)))))
    refine L_nil (qT (R_block ?_))
    obtain rfl : k = 64 := by omega
    rw [← e8]
    refine R_loop (G := Nat) (fun k => [(2, .pointer (some ⟨b2, 0, none⟩)), (4, .pointer (some ⟨b4, 0, none⟩)), (10, .pointer (some ⟨b10, 0, none⟩)), (17, .int .i64 (k : Int))]) (fun k => [blk b10 (ints .u32 (rnds addsK (sch2 (sch1 p 16) 48) s 64)) 285, blk b5 (ints .u32 (sch2 (sch1 p 16) 48)) 352, blk b4 (List.replicate 8 (.int .u32 0)) 285, blk b2 (ints .u32 (fin8 s (rnds addsK (sch2 (sch1 p 16) 48) s 64) k)) 285]) (fun k => k ≤ 8) (fun k => 8 - k) (0) (by omega) (by repeat (first | exact .nil | refine .cons rfl ?_)) (Weak.refl _) ?_
    intro k hk
    have hf : (fin8 s (rnds addsK (sch2 (sch1 p 16) 48) s 64) k).length = 8 := by rw [fin8_length, hs]
    have hr : (rnds addsK (sch2 (sch1 p 16) 48) s 64).length = 8 := by rw [rnds_length, hs]
    refine rS (rT (lM (k:=lP pLt (k:=?_))))
    refine L_nil (qT ?_)
    refine R_condP rfl (fun hlt4 => ?_) (fun hlt4 => ?_)
    ·skip
     refine R_skip (qT (rS (R_block ?_)))
     refine R_open [(0, 0), (1, 0), (2, 0), (3, 1), (4, 0), (5, 0), (6, 1), (7, 0), (8, 0), (9, 3)] mixed (by kernel_rfl) (QOk.block (QOk.then (QOk.then (QOk.block (QOk.then QOk.body))))) (oP rfl pM (k:=oP rfl pM (k:=?_)))
     first | (refine O_pure rfl rfl rfl rfl (P_ixa0 (k) rfl ty_ar_285 rfl rfl (by first | rfl | omega) (by omega)) ?_) | (refine O_pure rfl rfl rfl rfl (P_ixa (k) rfl ty_ar_285 rfl rfl (by first | rfl | omega) (by omega)) ?_)
     refine oV rfl (V_load rfl rfl ty_sc_82 (Rd.blk .h3 (ints_at (by omega)))) (k:=oP rfl pM (k:=?_))
     first | (refine O_pure rfl rfl rfl rfl (P_ixa0 (k) rfl ty_ar_285 rfl rfl (by first | rfl | omega) (by omega)) ?_) | (refine O_pure rfl rfl rfl rfl (P_ixa (k) rfl ty_ar_285 rfl rfl (by first | rfl | omega) (by omega)) ?_)
     refine oV rfl (V_load rfl rfl ty_sc_82 (Rd.blk .h0 (ints_at (by omega)))) (k:=?_)
     refine oP rfl (P_add rfl rfl rfl) (k:=?_)
     first | (refine O_pure rfl rfl rfl rfl (P_ixa0 (k) rfl ty_ar_285 rfl rfl (by first | rfl | omega) (by omega)) ?_) | (refine O_pure rfl rfl rfl rfl (P_ixa (k) rfl ty_ar_285 rfl rfl (by first | rfl | omega) (by omega)) ?_)
     refine O_new rfl rfl (W_store rfl rfl rfl rfl ty_sc_82 rfl .h3 (by rw [ints_length, hf]; omega) (K_new ?_))
     rw [ints_set]
     refine O_nil (Q_block (qT (rR (lM (k:=?_)))))
     first | (refine L_val rfl rfl rfl (OpP.v (P_addN rfl rfl rfl (by simp only [fits]; omega))) ?_) | (refine L_val rfl rfl rfl (OpP.v (P_add rfl rfl rfl)) ?_)
     refine lA (k:=?_)
     refine L_nil ?_
     refine E_nat (t := 17) (n := k + 1) rfl (by omega) ?_
     exact Q_round (k + 1) (by omega) (by omega) (by repeat (first | exact .nil | refine .cons rfl ?_)) (Weak.refl _)
    ·skip
     refine R_exit (Q_then_exit (Q_then_exit (Q_block_eq ?_)))
     refine St.env (cE 2 rfl (cE 4 rfl .nil)) (qT (rT ?_))
     obtain rfl : k = 8 := by omega
     refine lV (V_loadAgg rfl rfl ty_ag_285 (Rds.blk .h3) (by rw [ints_length, hf])) (k:=?_)
     refine lO (W_storeAll rfl rfl rfl rfl ty_ag_285 (by rw [ints_length, hf]) (ints_one) .h2 (by rw [ints_length, hf]; rfl) ?_)
     refine lQ (cE 4 rfl .nil) (R_ret ?_)
     exact R_endV rfl rfl (.cell rfl (Rds.loadVar ty_ag_285 (Rds.blk .h2) (by rw [ints_length, hf])) .nil) (rfl)
end Go.Proofs.YtcngmkjdpoiiaaaGreatDoor

/- Walks: the reference's Sum, the texts under a digest. Printed by gen.py. -/
set_option maxRecDepth 100000
namespace Go.Proofs.YtcngmkjdpoiiaaaGreatDoor
open Go Go.RowKit Go.Proofs
theorem tmodN (a b : Nat) : Int.tmod (a : Int) (b : Int) = ((a % b : Nat) : Int) := rfl
theorem quoN (a b : Nat) (h : a ≤ 9223372036854775807) : IntKind.i64.wrap (Int.tdiv (a : Int) (b : Int)) = ((a / b : Nat) : Int) := by
 have e : Int.tdiv (a : Int) (b : Int) = ((a / b : Nat) : Int) := rfl
 have hle : a / b ≤ a := Nat.div_le_self _ _
 rw [e]
 generalize a / b = q at hle
 rw [wrap_fits (by simp only [fits]; omega)]
theorem ownS.to {T sz n n' : Nat} {v : Value} {cs cs' : List Value} {rs : List HP} (hn : n = n') (hc : cs = cs') : Weak (ownS T sz v n cs :: rs) (ownS T sz v n' cs' :: rs) := by subst hn; subst hc; exact Weak.refl _
theorem Sn.rowAt {C : Cx} {F : Fx} {rs : List HP} {b j : Nat} {cs us : List Value} (s : Sn C F rs (some ⟨b, j, none⟩) cs) (k : Nat) (hu : ∀ (i : Nat) (v : Value), us[i]? = some v → cs[k + i]? = some v) : ∀ w, Now C F rs w → RowAt w ⟨b, j + k, none⟩ us := fun w n i v hv => by
 obtain ⟨ad, e, hc⟩ := s.rw_ w n (k + i) v (hu i v hv)
 rw [Option.some.injEq] at e
 subst e
 rw [add_zero_off] at hc ⊢
 rwa [Nat.add_assoc]
theorem ints_part (k : IntKind) (xs : List Int) (o n i : Nat) (v : Value) (h : (ints k ((xs.drop o).take n))[i]? = some v) : (ints k xs)[o + i]? = some v := by
 rw [← ints_take, ← ints_drop, List.getElem?_take] at h
 split at h
 ·rwa [List.getElem?_drop] at h
 ·cases h
theorem ints_part2 (k : IntKind) (xs : List Int) (junk : List Value) (o n i : Nat) (v : Value) (h : (ints k ((xs.drop o).take n))[i]? = some v) : (ints k xs ++ junk)[o + i]? = some v := by
 have h2 := ints_part k xs o n i v h
 rw [List.getElem?_append_left (List.getElem?_eq_some_iff.1 h2).1]; exact h2
/-- The end of the text: what is left over, a mark, zeros, the length. -/
def tailB (xs : List Int) : List Int := rem64 xs ++ [128] ++ List.replicate (padZ xs.length) 0 ++ lenB xs.length
theorem tailB_length (xs : List Int) : (tailB xs).length = xs.length % 64 + 1 + padZ xs.length + 8 := by
 simp only [tailB, List.length_append, List.length_cons, List.length_nil, List.length_replicate, lenB_length, rem64_length]
theorem tailB_64 (xs : List Int) : (tailB xs).length % 64 = 0 := by rw [tailB_length, padZ]; omega
theorem cmp_padded (xs : List Int) : cmpN ((tailB xs).length / 64) (cmp xs) (tailB xs) = cmp (padded xs) := by
 have e : padded xs = xs.take (64 * (xs.length / 64)) ++ tailB xs := by
  rw [tailB, rem64, padded]
  simp only [← List.append_assoc, List.take_append_drop]
 have hl : (padded xs).length = 64 * (xs.length / 64) + (tailB xs).length := by
  rw [e, List.length_append, List.length_take]; omega
 have h64 := tailB_64 xs
 show cmpN _ _ _ = cmpN ((padded xs).length / 64) beginK (padded xs)
 rw [hl, show (64 * (xs.length / 64) + (tailB xs).length) / 64 = xs.length / 64 + (tailB xs).length / 64 by omega, cmpN_add, e, List.drop_left' (by rw [List.length_take]; omega)]
 congr 1
 rw [cmpN_append _ _ _ _ (by rw [List.length_take]; omega)]
 conv => lhs; rw [cmp, ← List.take_append_drop (64 * (xs.length / 64)) xs]
 rw [List.take_append_drop]
 conv => lhs; arg 3; rw [← List.take_append_drop (64 * (xs.length / 64)) xs]
 rw [cmpN_append _ _ _ _ (by rw [List.length_take]; omega)]
theorem lenB_next (n j : Nat) (h : j < 8) : (lenB n).take (j + 1) = (lenB n).take j ++ [lenF n j] := by
 rw [List.take_add_one]
 congr 1
 rw [List.getElem?_eq_getElem (by rw [lenB_length]; exact h)]
 simp [lenB, lenF]
set_option maxHeartbeats 1000000 in
theorem rsum_ok {gl : Nat → Obj} (hG : GlobsR gl) (base : Option Addr) (c : Nat) (xs : List Int) (hc : xs.length ≤ c) (hmax : xs.length ≤ 9223372036854775000) : SpecV (cx gl) 103 [.slice base xs.length c] (fun w => Row w base (ints .u8 xs)) (.agg (ints .u8 (sha xs)).toArray) := by
 refine Spec.enter (C := cx gl) Tryz.func103 rfl 89 rfl rfl fun w0 h0 hsep hsub hpre => ?_
 obtain rfl : h0 = Heap.none := hsep
 show St (cx gl) _ [(0, .slice base xs.length c)] _ _
 refine rT ?_
 refine lO (W_alloc rfl rfl rfl ty_ze_40 fun b2 => ?_)
 refine L_nil (qT (rT ?_))
 refine lP (P_buildArr rfl ty_ar_285 ty_ze_285 rfl rfl rfl rfl (by simp [Value.oneCell'])) (k:=?_)
 refine E_as (t := 11) (v' := .agg (ints .u32 beginK).toArray) rfl rfl ?_
 refine lO (W_alloc rfl rfl rfl ty_ze_285 fun b3 => ?_)
 refine lO (W_storeAll rfl rfl rfl rfl ty_ag_285 (rfl) (ints_one) .h0 (rfl) ?_)
 refine lQ (cE 0 rfl (cE 2 rfl (cE 3 rfl .nil))) (rT (lA (k:=?_)))
 refine L_nil (qT (rS (R_block ?_)))
 refine R_loop (G := Nat) (fun k => [(0, .slice base xs.length c), (2, .pointer (some ⟨b2, 0, none⟩)), (3, .pointer (some ⟨b3, 0, none⟩)), (4, .int .i64 ((64 * k : Nat) : Int))]) (fun k => [blk b3 (ints .u32 (cmpN k beginK xs)) 285, blk b2 (List.replicate 32 (.int .u8 0)) 40]) (fun k => 64 * k ≤ xs.length) (fun k => xs.length - 64 * k) (0) (by omega) (by repeat (first | exact .nil | refine .cons rfl ?_)) (Weak.refl _) ?_
 intro k hk
 refine rS (rT (lM (k:=?_)))
 first | (refine L_val rfl rfl rfl (OpP.v (P_addN rfl rfl rfl (by simp only [fits]; omega))) ?_) | (refine L_val rfl rfl rfl (OpP.v (P_add rfl rfl rfl)) ?_)
 refine lM (k:=lP (pL ty_sl_198) (k:=lP pLe (k:=?_)))
 refine L_nil (qT ?_)
 refine R_condP rfl (fun hle => ?_) (fun hle => ?_)
 ·skip
  obtain ⟨pb, pj, rfl, hrow⟩ := hpre.some_ (by rw [ints_length]; omega)
  have hpl : ((xs.drop (64 * k)).take 64).length = 64 := by rw [List.length_take, List.length_drop]; omega
  refine R_skip (qT (R_block (rS ?_)))
  refine R_open [(0, 1), (1, 0), (2, 0), (3, 0), (4, 0), (5, 0), (6, 2), (7, 3)] mixed (by kernel_rfl) (QOk.then (QOk.block (QOk.then (QOk.block (QOk.then QOk.body))))) ?_
  refine oV rfl (V_loadAgg rfl rfl ty_ag_285 (Rds.blk .h0) (by rw [ints_length, cmpN_length]; rfl)) (k:=oP rfl pM (k:=oP rfl pM (k:=oP rfl pM (k:=?_))))
  first | (refine O_pure rfl rfl rfl rfl (P_addN rfl rfl rfl (by simp only [fits]; omega)) ?_) | (refine O_pure rfl rfl rfl rfl (P_add rfl rfl rfl) ?_)
  refine oP rfl (P_slice (64 * k) (64 * k + 64) rfl ty_sl_198 rfl ⟨_, rfl⟩ ⟨_, rfl⟩ (by omega) (by omega)) (k:=?_)
  refine E_as (t := 22) (v' := .slice (some ⟨pb, pj + 64 * k, none⟩) 64 (c - 64 * k)) rfl (by unfold sliced; rw [if_neg (by omega), Option.map_some, add_zero_off, Nat.mul_one, Nat.add_sub_cancel_left]) ?_
  refine O_keep rfl rfl (W_callV rfl rfl rfl rfl fn_ca_184 (block_ok hG.refAdds (cmpN k beginK xs) ((xs.drop (64 * k)).take 64) (by rw [cmpN_length]; rfl) hpl pb (pj + 64 * k) (c - 64 * k)) ((Sn.row hpre rfl).rowAt (64 * k) fun i v hv => ints_part _ _ _ _ i v hv) (K_keep (Weak.refl _) ?_))
  refine O_new rfl rfl (W_storeAll rfl rfl rfl rfl ty_ag_285 (by rw [ints_length, mixF_length, cmpN_length]; rfl) (ints_one) .h0 (by rw [ints_length, ints_length, mixF_length]) (K_new (O_nil (qT (rR (lM (k:=?_)))))))
  first | (refine L_val rfl rfl rfl (OpP.v (P_addN rfl rfl rfl (by simp only [fits]; omega))) ?_) | (refine L_val rfl rfl rfl (OpP.v (P_add rfl rfl rfl)) ?_)
  refine lA (k:=?_)
  refine L_nil (Q_block ?_)
  refine E_nat (t := 4) (n := 64 * (k + 1)) rfl (by omega) ?_
  exact Q_round (k + 1) (by omega) (by omega) (by repeat (first | exact .nil | refine .cons rfl ?_)) (by rw [cmpN_succ]; exact Weak.refl _)
 ·skip
  obtain rfl : k = xs.length / 64 := by omega
  refine R_exit (Q_then_exit (Q_then_exit (Q_block_eq ?_)))
  refine St.env (cE 0 rfl (cE 2 rfl (cE 3 rfl (cE 4 rfl .nil)))) (qT (rT (lA (k:=?_))))
  refine St.res (rs' := [ownS 5 1 (.slice none 0 0) 0 [], blk b3 (ints .u32 (cmp xs)) 285, blk b2 (List.replicate 32 (.int .u8 0)) 40]) (Weak.newNil) ?_
  have hsn : ∀ rs, Sn (cx gl) ⟨89, [], w0, Heap.none⟩ rs (if c = 64 * (xs.length / 64) then base else base.map (·.add (64 * (xs.length / 64) * 1))) (ints .u8 (rem64 xs)) := fun rs => by
     have h := (Sn.row (C := cx gl) (F := ⟨89, [], w0, Heap.none⟩) (rs := rs) hpre rfl).sliced (sz := 1) (p := 64 * (xs.length / 64)) (q := xs.length) hc (.inr (by rw [ints_length]; omega))
     simp only [Nat.mul_one, ints_drop, ints_take] at h ⊢
     rwa [List.take_of_length_le (by rw [List.length_drop]; omega)] at h
  refine L_nil (qT (rT (lM (k:=lM (k:=lM (k:=?_))))))
  refine lP (P_slice (64 * (xs.length / 64)) xs.length rfl ty_sl_198 rfl ⟨_, rfl⟩ rfl (by omega) (by omega)) (k:=?_)
  refine lO (W_append (p := []) rfl rfl rfl ty_sl_198 ty_ap_198 ty_src_198 rfl rfl rfl (Src.row (hsn _).rw_ (by rw [ints_length, rem64_length]; omega) ints_one) (by omega) (by simp only [maxLen]; omega) fun v30 => ?_)
  refine St.res (rs' := [ownS 5 1 v30 (xs.length % 64) (ints .u8 (rem64 xs)), blk b3 (ints .u32 (cmp xs)) 285, blk b2 (List.replicate 32 (.int .u8 0)) 40]) (ownS.to (by omega) (by simp)) (lA (k:=?_))
  refine lQ (cE 0 rfl (cE 2 rfl (cE 3 rfl (cE 5 rfl .nil)))) (rT (lM (k:=?_)))
  refine lO (W_lit (z := .nilIface) (ints .u8 [128]) rfl rfl rfl ty_sl_198 ty_lz_198 rfl rfl rfl (by decide) (by decide) (by simp [Value.cells]) (rfl) fun b32 => ?_)
  refine lO (W_append (p := [_]) rfl rfl rfl ty_sl_198 ty_ap_198 ty_src_198 rfl rfl rfl (Src.slice (sz := 1) (news := ints .u8 [128]) (Rds.blk .h0) rfl ints_one) (by omega) (by simp only [maxLen]; omega) fun v33 => ?_)
  refine St.res (rs' := [ownS 5 1 v33 (xs.length % 64 + 1) (ints .u8 (rem64 xs ++ [128])), blk b3 (ints .u32 (cmp xs)) 285, blk b2 (List.replicate 32 (.int .u8 0)) 40]) (Weak.drop (ownS.to rfl (by rw [ints_append]))) (lA (k:=?_))
  refine lQ (cE 0 rfl (cE 2 rfl (cE 3 rfl (cE 5 rfl .nil)))) (rS (R_block ?_))
  refine R_loop (G := Value × Nat) (fun g => [(0, .slice base xs.length c), (2, .pointer (some ⟨b2, 0, none⟩)), (3, .pointer (some ⟨b3, 0, none⟩)), (5, g.1)]) (fun g => [ownS 5 1 g.1 (xs.length % 64 + 1 + g.2) (ints .u8 (rem64 xs ++ [128] ++ List.replicate g.2 0)), blk b3 (ints .u32 (cmp xs)) 285, blk b2 (List.replicate 32 (.int .u8 0)) 40]) (fun g => g.2 ≤ padZ xs.length) (fun g => padZ xs.length - g.2) ((v33, 0)) (Nat.zero_le _) (by repeat (first | exact .nil | refine .cons rfl ?_)) (ownS.to rfl (by simp)) ?_
  rintro ⟨v, k⟩ hk
  simp only at hk
  show St (cx gl) _ [(0, .slice base xs.length c), (2, .pointer (some ⟨b2, 0, none⟩)), (3, .pointer (some ⟨b3, 0, none⟩)), (5, v)] [ownS 5 1 v (xs.length % 64 + 1 + k) (ints .u8 (rem64 xs ++ [128] ++ List.replicate k 0)), blk b3 (ints .u32 (cmp xs)) 285, blk b2 (List.replicate 32 (.int .u8 0)) 40] _
  refine rS (rT (lM (k:=?_)))
  refine lV (V_lenOwn .h0 rfl ty_sl_198 rfl) (k:=?_)
  refine lP (P_rem rfl rfl rfl (by decide)) (k:=?_)
  refine E_as (t := 36) (v' := .int .i64 (((xs.length % 64 + 1 + k) % 64 : Nat) : Int)) rfl (congrArg (Value.int .i64) (tmodN _ 64)) (lP pNe (k:=?_))
  refine L_nil (qT ?_)
  refine R_condP rfl (fun hne => ?_) (fun hne => ?_)
  ·skip
   refine R_skip (qT (R_block (rR (lM (k:=?_)))))
   refine lO (W_lit (z := .nilIface) (ints .u8 [0]) rfl rfl rfl ty_sl_198 ty_lz_198 rfl rfl rfl (by decide) (by decide) (by simp [Value.cells]) (rfl) fun b39 => ?_)
   refine lO (W_append (p := [_]) rfl rfl rfl ty_sl_198 ty_ap_198 ty_src_198 rfl rfl rfl (Src.slice (sz := 1) (news := ints .u8 [0]) (Rds.blk .h0) rfl ints_one) (by unfold padZ at *; omega) (by simp only [maxLen]; unfold padZ at *; omega) fun v40 => lA (k:=?_))
   refine L_nil (Q_block ?_)
   exact Q_round ((v40, k + 1)) (by show k + 1 ≤ padZ xs.length; unfold padZ at *; omega) (by show padZ xs.length - (k + 1) < padZ xs.length - k; unfold padZ at *; omega) (by repeat (first | exact .nil | refine .cons rfl ?_)) (Weak.drop (ownS.to (by omega) (by rw [ints_append, List.replicate_succ', ← List.append_assoc])))
  ·skip
   obtain rfl : k = padZ xs.length := by unfold padZ at *; omega
   refine R_exit (Q_then_exit (Q_then_exit (Q_block_eq ?_)))
   refine St.env (cE 0 rfl (cE 2 rfl (cE 3 rfl (cE 5 rfl .nil)))) (qT (rT (lM (k:=lP (pL ty_sl_198) (k:=?_)))))
   refine lP (P_conv rfl ty_int_3 ty_int_23 rfl) (k:=?_)
   refine lP (P_mul rfl rfl rfl) (k:=lA (k:=?_))
   refine lQ (cE 2 rfl (cE 3 rfl (cE 5 rfl (cE 6 rfl .nil)))) (rS (rT (lA (k:=?_))))
   refine L_nil (qT (R_block ?_))
   refine R_loop (G := Value × Nat) (fun g => [(2, .pointer (some ⟨b2, 0, none⟩)), (3, .pointer (some ⟨b3, 0, none⟩)), (5, g.1), (6, .int .u64 (IntKind.u64.wrap (IntKind.u64.wrap (xs.length : Int) * 8))), (7, .int .i64 (7 - (g.2 : Int)))]) (fun g => [ownS 5 1 g.1 (xs.length % 64 + 1 + padZ xs.length + g.2) (ints .u8 (rem64 xs ++ [128] ++ List.replicate (padZ xs.length) 0 ++ (lenB xs.length).take g.2)), blk b3 (ints .u32 (cmp xs)) 285, blk b2 (List.replicate 32 (.int .u8 0)) 40]) (fun g => g.2 ≤ 8) (fun g => 8 - g.2) ((v, 0)) (Nat.zero_le _) (by repeat (first | exact .nil | refine .cons rfl ?_)) (ownS.to rfl (by simp)) ?_
   rintro ⟨v, j⟩ hj
   simp only at hj
   show St (cx gl) _ [(2, .pointer (some ⟨b2, 0, none⟩)), (3, .pointer (some ⟨b3, 0, none⟩)), (5, v), (6, .int .u64 (IntKind.u64.wrap (IntKind.u64.wrap (xs.length : Int) * 8))), (7, .int .i64 (7 - (j : Int)))] [ownS 5 1 v (xs.length % 64 + 1 + padZ xs.length + j) (ints .u8 (rem64 xs ++ [128] ++ List.replicate (padZ xs.length) 0 ++ (lenB xs.length).take j)), blk b3 (ints .u32 (cmp xs)) 285, blk b2 (List.replicate 32 (.int .u8 0)) 40] _
   refine rS (rT (lM (k:=lP pGe (k:=?_))))
   refine L_nil (qT ?_)
   refine R_condP rfl (fun hge => ?_) (fun hge => ?_)
   ·skip
    refine R_skip (qT (rS (R_block (rR (lM (k:=lM (k:=lM (k:=?_))))))))
    first | (refine L_val rfl rfl rfl (OpP.v (P_mulN rfl rfl rfl (by simp only [fits]; omega))) ?_) | (refine L_val rfl rfl rfl (OpP.v (P_mul rfl rfl rfl)) ?_)
    refine lP (P_convN rfl ty_int_3 ty_int_271 rfl (by simp only [fits]; omega)) (k:=?_)
    refine lP (P_shr rfl rfl rfl (by omega)) (k:=?_)
    refine lP (P_conv rfl ty_int_23 ty_int_5 rfl) (k:=?_)
    refine E_as (t := 55) (v' := .int .u8 (lenF xs.length j)) rfl (by unfold lenF; rw [show (56 : Int) - 8 * (j : Int) = 8 * (7 - (j : Int)) by omega]) ?_
    refine lO (W_lit (z := .nilIface) (ints .u8 [lenF xs.length j]) rfl rfl rfl ty_sl_198 ty_lz_198 rfl rfl rfl (by decide) (by decide) (by simp [Value.cells]) (rfl) fun b56 => ?_)
    refine lO (W_append (p := [_]) rfl rfl rfl ty_sl_198 ty_ap_198 ty_src_198 rfl rfl rfl (Src.slice (sz := 1) (news := ints .u8 [lenF xs.length j]) (Rds.blk .h0) rfl ints_one) (by unfold padZ at *; omega) (by simp only [maxLen]; unfold padZ at *; omega) fun v57 => lA (k:=?_))
    refine L_nil (Q_block (qT (rR (lM (k:=?_)))))
    first | (refine L_val rfl rfl rfl (OpP.v (P_subN rfl rfl rfl (by simp only [fits]; omega))) ?_) | (refine L_val rfl rfl rfl (OpP.v (P_sub rfl rfl rfl)) ?_)
    refine lA (k:=?_)
    refine L_nil ?_
    refine E_as (t := 7) (v' := .int .i64 (7 - ((j + 1 : Nat) : Int))) rfl (by congr 1; omega) ?_
    exact Q_round ((v57, j + 1)) (by show j + 1 ≤ 8; omega) (by show 8 - (j + 1) < 8 - j; omega) (by repeat (first | exact .nil | refine .cons rfl ?_)) (Weak.drop (ownS.to (by omega) (by rw [ints_append, lenB_next _ _ (by omega), ← List.append_assoc])))
   ·skip
    obtain rfl : j = 8 := by omega
    refine St.res (rs' := [ownS 5 1 v ((tailB xs).length) (ints .u8 (tailB xs)), blk b3 (ints .u32 (cmp xs)) 285, blk b2 (List.replicate 32 (.int .u8 0)) 40]) (ownS.to (by rw [tailB_length]) (by rw [List.take_of_length_le (by rw [lenB_length]; omega)]; rfl)) (R_exit (Q_then_exit (Q_then_exit (Q_block_eq ?_))))
    refine St.env (cE 2 rfl (cE 3 rfl (cE 5 rfl .nil))) (qT (rS (rT (lA (k:=?_)))))
    refine L_nil (qT (R_block ?_))
    refine St.openOwn (p := []) (by rw [tailB_length]; omega) fun ob ocap junk hoc hol hov => ?_
    subst hov
    have ht64 := tailB_64 xs
    have htl : (tailB xs).length ≤ 200 := by rw [tailB_length, padZ]; omega
    refine R_loop (G := Nat) (fun k => [(2, .pointer (some ⟨b2, 0, none⟩)), (3, .pointer (some ⟨b3, 0, none⟩)), (5, .slice (some ⟨ob, 0, none⟩) (tailB xs).length ocap), (8, .int .i64 ((64 * k : Nat) : Int))]) (fun k => [blk ob (ints .u8 (tailB xs) ++ junk) 5, blk b3 (ints .u32 (cmpN k (cmp xs) (tailB xs))) 285, blk b2 (List.replicate 32 (.int .u8 0)) 40]) (fun k => 64 * k ≤ (tailB xs).length) (fun k => (tailB xs).length - 64 * k) (0) (by omega) (by repeat (first | exact .nil | refine .cons rfl ?_)) (Weak.refl _) ?_
    intro k hk
    refine rS (rT (lM (k:=lM (k:=lP (pL ty_sl_198) (k:=lP pLt (k:=?_))))))
    refine L_nil (qT ?_)
    refine R_condP rfl (fun hlt => ?_) (fun hlt => ?_)
    ·skip
     have hpl : (((tailB xs).drop (64 * k)).take 64).length = 64 := by rw [List.length_take, List.length_drop]; omega
     refine R_skip (qT (rS (R_block ?_)))
     refine R_open [(0, 1), (1, 0), (2, 0), (3, 0), (4, 0), (5, 0), (6, 2), (7, 3)] mixed (by kernel_rfl) (QOk.block (QOk.then (QOk.then (QOk.block (QOk.then QOk.body))))) ?_
     refine oV rfl (V_loadAgg rfl rfl ty_ag_285 (Rds.blk .h1) (by rw [ints_length, cmpN_length, cmp_length])) (k:=oP rfl pM (k:=oP rfl pM (k:=oP rfl pM (k:=?_))))
     first | (refine O_pure rfl rfl rfl rfl (P_addN rfl rfl rfl (by simp only [fits]; omega)) ?_) | (refine O_pure rfl rfl rfl rfl (P_add rfl rfl rfl) ?_)
     refine oP rfl (P_slice (64 * k) (64 * k + 64) rfl ty_sl_198 rfl ⟨_, rfl⟩ ⟨_, rfl⟩ (by omega) (by omega)) (k:=?_)
     refine E_as (t := 69) (v' := .slice (some ⟨ob, 0 + 64 * k, none⟩) 64 (ocap - 64 * k)) rfl (by unfold sliced; rw [if_neg (by omega), Option.map_some, add_zero_off, Nat.mul_one, Nat.add_sub_cancel_left]) ?_
     refine O_keep rfl rfl (W_callV rfl rfl rfl rfl fn_ca_184 (block_ok hG.refAdds (cmpN k (cmp xs) (tailB xs)) (((tailB xs).drop (64 * k)).take 64) (by rw [cmpN_length, cmp_length]) hpl ob (0 + 64 * k) (ocap - 64 * k)) ((Sn.ofBlk .h0).rowAt (64 * k) fun i v hv => ints_part2 _ _ _ _ _ i v hv) (K_keep (Weak.refl _) ?_))
     refine O_new rfl rfl (W_storeAll rfl rfl rfl rfl ty_ag_285 (by rw [ints_length, mixF_length, cmpN_length, cmp_length]) (ints_one) .h1 (by rw [ints_length, ints_length, mixF_length]) (K_new (O_nil (Q_block (qT (rR (lM (k:=?_))))))))
     first | (refine L_val rfl rfl rfl (OpP.v (P_addN rfl rfl rfl (by simp only [fits]; omega))) ?_) | (refine L_val rfl rfl rfl (OpP.v (P_add rfl rfl rfl)) ?_)
     refine lA (k:=?_)
     refine L_nil ?_
     refine E_nat (t := 8) (n := 64 * (k + 1)) rfl (by omega) ?_
     exact Q_round (k + 1) (by omega) (by omega) (by repeat (first | exact .nil | refine .cons rfl ?_)) (by rw [cmpN_succ]; exact Weak.refl _)
    ·skip
     obtain rfl : k = (tailB xs).length / 64 := by omega
     rw [cmp_padded]
     refine R_exit (Q_then_exit (Q_then_exit (Q_block_eq ?_)))
     refine St.env (cE 2 rfl (cE 3 rfl .nil)) (qT (rT ?_))
     refine lO (W_alloc rfl rfl rfl ty_ze_40 fun b9 => ?_)
     refine L_nil (qT (rS (rT (lA (k:=?_)))))
     refine L_nil (qT (R_block ?_))
     refine R_loop (G := Nat) (fun i => [(2, .pointer (some ⟨b2, 0, none⟩)), (3, .pointer (some ⟨b3, 0, none⟩)), (9, .pointer (some ⟨b9, 0, none⟩)), (10, .int .i64 (i : Int))]) (fun i => [blk b9 (ints .u8 (fillN (outF (cmp (padded xs))) 32 i)) 40, blk ob (ints .u8 (tailB xs) ++ junk) 5, blk b3 (ints .u32 (cmp (padded xs))) 285, blk b2 (List.replicate 32 (.int .u8 0)) 40]) (fun i => i ≤ 32) (fun i => 32 - i) (0) (by omega) (by repeat (first | exact .nil | refine .cons rfl ?_)) (by rw [fillN_zero]; exact Weak.refl _) ?_
     intro i hi
     refine rS (rT (lM (k:=lP pLt (k:=?_))))
     refine L_nil (qT ?_)
     refine R_condP rfl (fun hli => ?_) (fun hli => ?_)
     ·skip
      refine R_skip (qT (rS (R_block (rR (lM (k:=lM (k:=?_)))))))
      refine lP (P_quo rfl rfl rfl (by decide)) (k:=?_)
      refine E_as (t := 77) (v' := .int .i64 ((i / 4 : Nat) : Int)) rfl (congrArg (Value.int .i64) (quoN _ 4 (by omega))) ?_
      first | (refine L_val rfl rfl rfl (OpP.v (P_ixa0 (i / 4) rfl ty_ar_285 rfl rfl (by first | rfl | omega) (by omega))) ?_) | (refine L_val rfl rfl rfl (OpP.v (P_ixa (i / 4) rfl ty_ar_285 rfl rfl (by first | rfl | omega) (by omega))) ?_)
      refine lV (V_load rfl rfl ty_sc_82 (Rd.blk .h2 (ints_at (by rw [cmp_length]; omega)))) (k:=lM (k:=?_))
      refine lP (P_rem rfl rfl rfl (by decide)) (k:=?_)
      refine E_as (t := 81) (v' := .int .i64 ((i % 4 : Nat) : Int)) rfl (congrArg (Value.int .i64) (tmodN _ 4)) ?_
      first | (refine L_val rfl rfl rfl (OpP.v (P_mulN rfl rfl rfl (by simp only [fits]; omega))) ?_) | (refine L_val rfl rfl rfl (OpP.v (P_mul rfl rfl rfl)) ?_)
      first | (refine L_val rfl rfl rfl (OpP.v (P_subN rfl rfl rfl (by simp only [fits]; omega))) ?_) | (refine L_val rfl rfl rfl (OpP.v (P_sub rfl rfl rfl)) ?_)
      refine lP (P_convN rfl ty_int_3 ty_int_271 rfl (by simp only [fits]; omega)) (k:=?_)
      refine lP (P_shr rfl rfl rfl (by omega)) (k:=?_)
      refine lP (P_conv rfl ty_int_82 ty_int_5 rfl) (k:=?_)
      first | (refine L_val rfl rfl rfl (OpP.v (P_ixa0 (i) rfl ty_ar_40 rfl rfl (by first | rfl | omega) (by omega))) ?_) | (refine L_val rfl rfl rfl (OpP.v (P_ixa (i) rfl ty_ar_40 rfl rfl (by first | rfl | omega) (by omega))) ?_)
      refine lO (W_store rfl rfl rfl rfl ty_sc_5 rfl .h0 (by rw [ints_length, fillN_length]; omega) ?_)
      rw [ints_set]
      refine L_nil (Q_block (qT (rR (lM (k:=?_)))))
      first | (refine L_val rfl rfl rfl (OpP.v (P_addN rfl rfl rfl (by simp only [fits]; omega))) ?_) | (refine L_val rfl rfl rfl (OpP.v (P_add rfl rfl rfl)) ?_)
      refine lA (k:=?_)
      refine L_nil ?_
      refine E_nat (t := 10) (n := i + 1) rfl (by omega) ?_
      exact Q_round (i + 1) (by omega) (by omega) (by repeat (first | exact .nil | refine .cons rfl ?_)) (by rw [← fillN_set]; exact Weak.refl _)
     ·skip
      obtain rfl : i = 32 := by omega
      rw [fillN_full]
      refine St.res (rs' := [blk b9 (ints .u8 (sha xs)) 40, blk ob (ints .u8 (tailB xs) ++ junk) 5, blk b3 (ints .u32 (cmp (padded xs))) 285, blk b2 (List.replicate 32 (.int .u8 0)) 40]) (Weak.refl _) (R_exit (Q_then_exit (Q_then_exit (Q_block_eq ?_))))
      refine St.env (cE 2 rfl (cE 9 rfl .nil)) (qT (rT ?_))
      refine lV (V_loadAgg rfl rfl ty_ag_40 (Rds.blk .h0) (by rw [ints_length, sha_length])) (k:=?_)
      refine lO (W_storeAll rfl rfl rfl rfl ty_ag_40 (by rw [ints_length, sha_length]) (ints_one) .h3 (by rw [ints_length, sha_length]; rfl) ?_)
      refine lQ (cE 2 rfl .nil) (R_ret ?_)
      exact R_endV rfl rfl (.cell rfl (Rds.loadVar ty_ag_40 (Rds.blk .h3) (by rw [ints_length, sha_length])) .nil) (rfl)
end Go.Proofs.YtcngmkjdpoiiaaaGreatDoor

/- Plain: the tree over a list: where it is split, its top, its proofs. -/
namespace Go.Proofs.YtcngmkjdpoiiaaaGreatDoor
open Go

theorem isB_u8 (x : Int) : 0 ≤ IntKind.u8.wrap x ∧ IntKind.u8.wrap x ≤ 255 := by
 simp only [IntKind.wrap, IntKind.signed, IntKind.bits, Bool.false_and, Bool.false_eq_true, if_false]; omega
theorem isB_sha (xs : List Int) : IsB (sha xs) := fun x hx => by
 obtain ⟨i, _, rfl⟩ := List.mem_map.1 hx
 exact isB_u8 _
theorem IsB.cons {x : Int} {xs : List Int} (h0 : 0 ≤ x) (h1 : x ≤ 255) (h : IsB xs) : IsB (x :: xs) := fun y hy => by
 rcases List.mem_cons.1 hy with rfl | hy
 ·exact ⟨h0, h1⟩
 ·exact h y hy
theorem IsB.append {xs ys : List Int} (h : IsB xs) (k : IsB ys) : IsB (xs ++ ys) := fun y hy => by
 rcases List.mem_append.1 hy with hy | hy
 ·exact h y hy
 ·exact k y hy
end Go.Proofs.YtcngmkjdpoiiaaaGreatDoor

/- Walks: tops of lists. Printed by gen.py. -/
set_option maxRecDepth 100000
namespace Go.Proofs.YtcngmkjdpoiiaaaGreatDoor
open Go Go.RowKit Go.Proofs
theorem BytesL.take {w : World} {vs : List Value} {xss : List (List Int)} (h : BytesL w vs xss) (n : Nat) : BytesL w (vs.take n) (xss.take n) :=
 ⟨by rw [List.length_take, List.length_take, h.1], fun i v x h1 h2 => by
  rw [List.getElem?_take] at h1 h2
  split at h1
  ·rename_i hi
   rw [if_pos hi] at h2
   exact h.2 i v x h1 h2
  ·cases h1⟩
theorem BytesL.drop {w : World} {vs : List Value} {xss : List (List Int)} (h : BytesL w vs xss) (n : Nat) : BytesL w (vs.drop n) (xss.drop n) :=
 ⟨by rw [List.length_drop, List.length_drop, h.1], fun i v x h1 h2 => by
  rw [List.getElem?_drop] at h1 h2
  exact h.2 _ v x h1 h2⟩
/-- A slice of slices of bytes, as items are. -/
def Items (w : World) (base : Option Addr) (vs : List Value) (xss : List (List Int)) : Prop := Row w base vs ∧ BytesL w vs xss
theorem Items.row {C : Cx} {F : Fx} {rs : List HP} {base : Option Addr} {vs : List Value} {xss : List (List Int)} (h : Items F.w base vs xss) (hf : F.h = Heap.none) : ∀ w, Now C F rs w → Items w base vs xss := fun w n =>
 ⟨(Sn.row h.1 hf).rw_ w n, h.2.1, fun i v x h1 h2 => by
  obtain ⟨b, c, e, hc, hr⟩ := h.2.2 i v x h1 h2
  exact ⟨b, c, e, hc, (Sn.row hr hf).rw_ w n⟩⟩
theorem Items.sliced {w : World} {base : Option Addr} {vs : List Value} {xss : List (List Int)} (h : Items w base vs xss) {p q c : Nat} (hq : q ≤ c) (hqn : q ≤ vs.length) : Items w (if c = p then base else base.map (·.add (p * 1))) ((vs.drop p).take (q - p)) ((xss.drop p).take (q - p)) := by
 refine ⟨?_, (h.2.drop p).take _⟩
 have := Row.sliced (sz := 1) (p := p) (q := q) (c := c) h.1 hq (.inr (by omega))
 simpa using this
end Go.Proofs.YtcngmkjdpoiiaaaGreatDoor

/- Walks: the codec's writer. Printed by gen.py. -/
set_option maxRecDepth 100000
namespace Go.Proofs.YtcngmkjdpoiiaaaGreatDoor
open Go Go.RowKit Go.Proofs
def w8 (x : Int) (i : Nat) : Int := IntKind.u8.wrap (shrI .u64 x (8 * (i : Int)))
def word8 (x : Int) (n : Nat) : List Int := (List.range n).map (w8 x)
/-- Words, one behind the other. -/
def wordsB (ws : List Int) : List Int := ws.flatMap fun x => word8 x 8
def boolB (b : Bool) : Int := if b = true then 1 else 0
def accW (x : Acc) : List Int := [x.a, x.bal, x.bond, x.non]
def formB (x : Acc) : List Int := wordsB (accW x) ++ [boolB x.jail]
/-- Bytes of the call's own. -/
structure Ob where
 b : Option Addr
 c : Nat
 xs : List Int
def Ob.val (u : Ob) : Value := .slice u.b u.xs.length u.c
def Ob.own (u : Ob) : HP := ownS 5 1 u.val u.xs.length (ints .u8 u.xs)
def formsOk (qs : List Ob) (l : List Acc) : Prop := qs.map Ob.xs = l.map formB ∧ ∀ u ∈ qs, u.xs.length ≤ u.c
theorem formsOk.len {qs : List Ob} {l : List Acc} (h : formsOk qs l) : qs.length = l.length := by have := congrArg List.length h.1; simpa using this
theorem formsOk.snoc {qs : List Ob} {l : List Acc} {i : Nat} {m : Acc} {u : Ob} (h : formsOk qs (l.take i)) (hm : l[i]? = some m) (hu : u.xs = formB m) (hc : u.xs.length ≤ u.c) : formsOk (qs ++ [u]) (l.take (i + 1)) := by
 refine ⟨?_, fun x hx => ?_⟩
 ·rw [List.map_append, h.1, List.take_add_one, hm, List.map_append]; simp [hu]
 ·rcases List.mem_append.1 hx with hx | hx
  ·exact h.2 x hx
  ·obtain rfl := List.mem_singleton.1 hx; exact hc
theorem newW_ok {gl : Nat → Obj} : Spec (cx gl) 172 [] (fun _ _ => True) [] (fun v rs => ∃ wb, v = .pointer (some ⟨wb, 0, none⟩) ∧ rs = [blk wb [.bool true, .slice none 0 0, .int .i64 0] 343]) := by
 refine Spec.enter (C := cx gl) Tryz.func172 rfl 3 rfl rfl fun w0 h0 hsep hsub hpre => ?_
 obtain rfl : h0 = Heap.none := hsep
 show St (cx gl) _ [] _ _
 refine rT (lA (k:=?_))
 refine L_nil (qT (rT ?_))
 refine lP (P_buildStruct rfl ty_pl_343 ty_ze_343 rfl rfl (rfl)) (k:=?_)
 refine E_as (t := 1) (v' := .agg [.bool true, .slice none 0 0, .int .i64 0].toArray) rfl rfl ?_
 refine lO (W_box ([.bool true, .slice none 0 0, .int .i64 0]) rfl rfl rfl rfl rfl fun b2 => lA (k:=?_))
 refine lQ (cE 0 rfl .nil) (R_ret ?_)
 exact R_end (rs2 := _) rfl rfl (.tmp rfl .nil) (⟨_, rfl, rfl⟩) (Weak.refl _)
theorem live_ok {gl : Nat → Obj} (wb : Nat) (bv : Value) : SpecR (cx gl) 304 [.pointer (some ⟨wb, 0, none⟩)] (fun _ _ => True) [blk wb [.bool true, bv, .int .i64 0] 343] (.bool true) [blk wb [.bool true, bv, .int .i64 0] 343] := by
 refine Spec.enter (C := cx gl) Tryz.func304 rfl 18 rfl rfl fun w0 h0 hsep hsub hpre => ?_
 show St (cx gl) _ [(0, .pointer (some ⟨wb, 0, none⟩))] _ _
 refine rT (lA (k:=?_))
 refine L_nil (qT (rT (lM (k:=?_))))
 refine lP (P_neNil rfl ty_ptr_272 rfl rfl) (k:=lM (k:=lM (k:=lP pN (k:=lP (pF ty_fl_343_0) (k:=lV (vB ty_sc_4 .h0) (k:=?_))))))
 refine E_true (t := 9) rfl (rfl) (lP pK (k:=lM (k:=lM (k:=lP pN (k:=lP (pF ty_fl_343_2) (k:=lV (vB ty_sc_31 .h0) (k:=lP pEq (k:=?_))))))))
 refine E_true (t := 16) rfl (rfl) (lP pK (k:=lA (k:=?_)))
 refine lQ (cE 2 rfl .nil) (R_ret ?_)
 exact R_end (rs2 := _) rfl rfl (.tmp rfl .nil) (⟨rfl, rfl⟩) (Weak.refl _)
theorem put_ok {gl : Nat → Obj} (wb : Nat) (bv : Value) (n : Nat) (xs : List Int) (hn : n ≤ 100000000) (y : Int) (bb : Option Addr) (bc : Nat) (hbc : 1 ≤ bc) : Spec (cx gl) 280 [.pointer (some ⟨wb, 0, none⟩), .slice bb 1 bc] (fun w h => Seen w h bb (ints .u8 [y])) [blk wb [.bool true, bv, .int .i64 0] 343, ownS 5 1 (bv) (n) (ints .u8 (xs))] (fun v rs => v = .tuple #[] ∧ ∃ bv', rs = [blk wb [.bool true, bv', .int .i64 0] 343, ownS 5 1 (bv') (n + 1) (ints .u8 (xs ++ [y]))]) := by
 refine Spec.enter (C := cx gl) Tryz.func280 rfl 15 rfl rfl fun w0 h0 hsep hsub hpre => ?_
 show St (cx gl) _ [(0, .pointer (some ⟨wb, 0, none⟩)), (1, .slice bb 1 bc)] _ _
 refine rT (lM (k:=?_))
 refine lO (W_callR rfl rfl rfl rfl fn_ca_304 (live_ok wb bv) (Weak.refl _) (fun _ _ _ _ _ _ _ => trivial) ?_)
 refine E_true (t := 5) rfl (rfl) ?_
 refine lQ (cE 0 rfl (cE 1 rfl (cE 5 rfl .nil))) (kT (k:=rR (lM (k:=lM (k:=lP pN (k:=lP (pF ty_fl_343_1) (k:=lV (vB ty_sc_198 .h0) (k:=lM (k:=?_)))))))))
 refine lO (W_append (p := [_]) rfl rfl rfl ty_sl_198 ty_ap_198 ty_src_198 rfl rfl rfl (Src.row (news := ints .u8 [y]) (Sn.old hpre).rw_ (by rw [ints_length]; rfl) ints_one) (by omega) (by simp only [maxLen]; omega) fun v12 => ?_)
 refine St.ownForm (p := [_]) fun nb nc hnv hnc => ?_
 subst hnv
 refine lP pN (k:=lP (pF ty_fl_343_1) (k:=?_))
 refine lO (W_store rfl rfl rfl rfl ty_sc_198 rfl .h0 (by first | decide | (simp [ints]; done) | (simp [ints]; omega)) ?_)
 refine lE (.nil) ?_
 exact R_end0 (rs2 := _) rfl rfl (.nil) (⟨rfl, _, rfl⟩) (Weak.keep (ownS.to2 rfl (by rw [ints_append])))
theorem cloneB_ok {gl : Nat → Obj} (base : Option Addr) (c : Nat) (xs : List Int) (hc : xs.length ≤ c) (hx : 0 < xs.length) (hmax : xs.length ≤ 100000000) : Spec (cx gl) 233 [.slice base xs.length c] (fun w _ => Row w base (ints .u8 xs)) [] (fun v rs => rs = [ownS 5 1 (v) (xs.length) (ints .u8 (xs))]) := by
 refine Spec.enter (C := cx gl) Tryz.func233 rfl 8 rfl rfl fun w0 h0 hsep hsub hpre => ?_
 obtain rfl : h0 = Heap.none := hsep
 show St (cx gl) _ [(0, .slice base xs.length c)] _ _
 obtain ⟨pb, pj, rfl, hrow⟩ := hpre.some_ (by rw [ints_length]; exact hx)
 refine rT (lA (k:=?_))
 refine L_nil (qT (rS (rT (lM (k:=?_)))))
 refine lP (P_eql_slice rfl ty_sl_198 rfl rfl) (k:=?_)
 refine E_false (t := 4) rfl (rfl) ?_
 refine lQ (cE 0 rfl (cE 2 rfl (cE 4 rfl .nil))) (kF (k:=R_skip (qT (rT ?_))))
 refine lO (W_lit0 rfl rfl rfl ty_sl_198 fun b5 => ?_)
 refine St.res (rs' := [ownS 5 1 (.slice (some ⟨b5, 0, none⟩) 0 0) (0) (ints .u8 ([]))]) (Weak.turn .h0 (ownS.of_blk rfl (by decide))) (lM (k:=?_))
 refine lO (W_append (p := []) rfl rfl rfl ty_sl_198 ty_ap_198 ty_src_198 rfl rfl rfl (Src.row (Sn.row hpre rfl).rw_ (by rw [ints_length]; omega) ints_one) (by omega) (by simp only [maxLen]; omega) fun v7 => lA (k:=?_))
 refine lQ (cE 2 rfl .nil) (R_ret ?_)
 exact R_end (rs2 := _) rfl rfl (.tmp rfl .nil) (rfl) (ownS.to2 (by omega) (List.nil_append _))
theorem Out_ok {gl : Nat → Obj} (wb : Nat) (ub : Option Addr) (uc : Nat) (xs : List Int) (hc : xs.length ≤ uc) (hx : 0 < xs.length) (hmax : xs.length ≤ 100000000) : Spec (cx gl) 174 [.pointer (some ⟨wb, 0, none⟩)] (fun _ _ => True) [blk wb [.bool true, .slice ub xs.length uc, .int .i64 0] 343, ownS 5 1 (.slice ub xs.length uc) (xs.length) (ints .u8 (xs))] (fun v rs => ∃ u, v = .tuple #[u, .int .i64 0] ∧ rs = [ownS 5 1 (u) (xs.length) (ints .u8 (xs))]) := by
 refine Spec.enter (C := cx gl) Tryz.func174 rfl 27 rfl rfl fun w0 h0 hsep hsub hpre => ?_
 show St (cx gl) _ [(0, .pointer (some ⟨wb, 0, none⟩))] _ _
 refine rT (lA (k:=lA (k:=?_)))
 refine L_nil (qT (rS (rT (lM (k:=?_)))))
 refine lP (P_eqNil rfl ty_ptr_272 rfl rfl) (k:=lM (k:=lM (k:=lP pN (k:=lP (pF ty_fl_343_0) (k:=lV (vB ty_sc_4 .h0) (k:=lP pO (k:=?_)))))))
 refine E_false (t := 11) rfl (rfl) (lP pK (k:=?_))
 refine lQ (cE 0 rfl (cE 2 rfl (cE 3 rfl (cE 12 rfl .nil)))) (kF (k:=R_skip (qT (rS (rT (lM (k:=lP pN (k:=lP (pF ty_fl_343_2) (k:=lV (vB ty_sc_31 .h0) (k:=lP pNe (k:=?_)))))))))))
 refine E_false (t := 17) rfl (rfl) ?_
 refine lQ (cE 0 rfl (cE 2 rfl (cE 3 rfl (cE 17 rfl .nil)))) (kF (k:=R_skip (qT (rT (lM (k:=lP pN (k:=lP (pF ty_fl_343_1) (k:=lV (vB ty_sc_198 .h0) (k:=?_)))))))))
 refine lO (W_call rfl rfl rfl rfl fn_ca_233 (cloneB_ok ub uc xs hc hx hmax) (Split.nil _) (fun w a b _ hb dj m => (Sn.own .h1 rfl).rw_ w ⟨_, hb, m.le (Heap.le_join_right dj)⟩) fun v1 rs1 (e1 : rs1 = _) => ?_)
 subst e1
 refine lA (k:=lA (k:=?_))
 refine lQ (cE 2 rfl (cE 3 rfl .nil)) (R_ret ?_)
 exact R_end (rs2 := _) rfl rfl (.tmp rfl (.tmp rfl .nil)) (⟨_, rfl, rfl⟩) (Weak.keep (Weak.nil _))
end Go.Proofs.YtcngmkjdpoiiaaaGreatDoor

/- How ledgers, settings, transactions are read. Printed by gen.py. -/
set_option maxRecDepth 100000
namespace Go.Proofs.YtcngmkjdpoiiaaaGreatDoor
open Go Go.RowKit Go.ChangeShapes Go.WideShapes Go.Proofs
/-- A transaction. -/
structure Tx where
 kind : Int
 frm : Int
 to : Int
 amt : Int
 fee : Int
 non : Int
 sg16 : List Int
def Tx.cells (x : Tx) : List Value := [.int .i64 x.kind, .int .u64 x.frm, .int .u64 x.to, .int .u64 x.amt, .int .u64 x.fee, .int .u64 x.non] ++ ints .u8 x.sg16
structure Tx.ok (x : Tx) : Prop where
 kind : -9223372036854775808 ≤ x.kind ∧ x.kind ≤ 9223372036854775807
 frm : u64 x.frm
 to : u64 x.to
 amt : u64 x.amt
 fee : u64 x.fee
 non : u64 x.non
 sg16 : IsB x.sg16
 len : x.sg16.length = 16
theorem Tx.ok.cellsLen {x : Tx} (h : x.ok) : x.cells.length = 22 := by unfold Tx.cells; rw [List.length_append, ints_length, h.len]; rfl
theorem Tx.one (x : Tx) : ∀ v ∈ x.cells, v.oneCell' = true := by
 intro v hv; unfold Tx.cells at hv
 rcases List.mem_append.1 hv with hv | hv
 ·simp only [List.mem_cons, List.not_mem_nil, or_false] at hv
  rcases hv with rfl | rfl | rfl | rfl | rfl | rfl <;> rfl
 ·exact ints_one v hv
structure Par.ok (p : Par) : Prop where
 mb : u64 p.mb
 seats : -9223372036854775808 ≤ p.seats ∧ p.seats ≤ 9223372036854775807
 p2 : u64 p.p2
 p3 : u64 p.p3
 p4 : u64 p.p4
 p5 : -9223372036854775808 ≤ p.p5 ∧ p.p5 ≤ 9223372036854775807
 p6 : u64 p.p6
 p7 : u64 p.p7
 p8 : u64 p.p8
 p9 : u64 p.p9
 p10 : u64 p.p10
 p11 : u64 p.p11
/-- A ledger as it is handed in. -/
structure LedI where
 s : Sl Acc
 r : Sl Rel
 bu : Int
 su : Int
def LedI.cells (x : LedI) : List Value := ledV x.s.val x.r.val x.bu x.su
structure LedI.ok (W : World) (x : LedI) : Prop where
 hc : x.s.xs.length ≤ x.s.c
 hc' : x.r.xs.length ≤ x.r.c
 row : Row W x.s.b (rc x.s.xs)
 row' : Row W x.r.b (rc x.r.xs)
 ok : ∀ y ∈ x.s.xs, y.ok
 ok' : ∀ y ∈ x.r.xs, y.ok
 bu : u64 x.bu
 su : u64 x.su
theorem fits64 {z : Int} (h : fits .u64 z) : u64 z := by simp only [fits] at h; exact ⟨by omega, by omega⟩
theorem cells_acc : Tryz.prog.cellsOf 50 = 5 := by kernel_rfl
theorem bytes_acc : Tryz.prog.bytesOf 50 = 40 := by kernel_rfl
theorem fs_acc : fsB Tryz.prog 50 [(26, 0, 1), (23, 1, 1), (23, 2, 1), (23, 3, 1), (4, 4, 1)] = true := by kernel_rfl
def accOf (a : Int × Int × Int × Int × Bool × Unit) : Acc := ⟨a.1, a.2.1, a.2.2.1, a.2.2.2.1, a.2.2.2.2.1⟩
def rd_acc := PLift.up (Reads.as (cells' := Acc.cells) (Hd' := fun _ x => x.ok) (bulk' := fun _ => 1) (Small' := fun _ => True) accOf (Reads.struct fs_acc cells_acc (ReadsF.cons (Reads.int ty_int_26) (ReadsF.cons (Reads.int ty_int_23) (ReadsF.cons (Reads.int ty_int_23) (ReadsF.cons (Reads.int ty_int_23) (ReadsF.cons (Reads.bool ty_bool_4) ReadsF.nil)))))) (fun _ => rfl) (fun W a h => by
 obtain ⟨⟨⟨h1, _⟩, ⟨h2, _⟩, ⟨h3, _⟩, ⟨h4, _⟩, _⟩, _⟩ := h
 exact ⟨fits64 h1, fits64 h2, fits64 h3, fits64 h4⟩) (fun _ => by omega) (fun _ _ => trivial))
def rd_accs := PLift.up (Reads.slice ty_sl_22 cells_acc bytes_acc (fun _ => .inr trivial) rd_acc.down)
theorem cells_par : Tryz.prog.cellsOf 25 = 12 := by kernel_rfl
theorem fs_par : fsB Tryz.prog 25 [(23, 0, 1), (3, 1, 1), (23, 2, 1), (23, 3, 1), (23, 4, 1), (3, 5, 1), (23, 6, 1), (23, 7, 1), (23, 8, 1), (23, 9, 1), (23, 10, 1), (23, 11, 1)] = true := by kernel_rfl
def parOf (a : Int × Int × Int × Int × Int × Int × Int × Int × Int × Int × Int × Int × Unit) : Par := ⟨a.1, a.2.1, a.2.2.1, a.2.2.2.1, a.2.2.2.2.1, a.2.2.2.2.2.1, a.2.2.2.2.2.2.1, a.2.2.2.2.2.2.2.1, a.2.2.2.2.2.2.2.2.1, a.2.2.2.2.2.2.2.2.2.1, a.2.2.2.2.2.2.2.2.2.2.1, a.2.2.2.2.2.2.2.2.2.2.2.1⟩
def rd_par := PLift.up (Reads.as (cells' := Par.cells) (Hd' := fun _ p => p.ok) (bulk' := fun _ => 1) (Small' := fun _ => True) parOf (Reads.struct fs_par cells_par (ReadsF.cons (Reads.int ty_int_23) (ReadsF.cons (Reads.int ty_int_3) (ReadsF.cons (Reads.int ty_int_23) (ReadsF.cons (Reads.int ty_int_23) (ReadsF.cons (Reads.int ty_int_23) (ReadsF.cons (Reads.int ty_int_3) (ReadsF.cons (Reads.int ty_int_23) (ReadsF.cons (Reads.int ty_int_23) (ReadsF.cons (Reads.int ty_int_23) (ReadsF.cons (Reads.int ty_int_23) (ReadsF.cons (Reads.int ty_int_23) (ReadsF.cons (Reads.int ty_int_23) ReadsF.nil))))))))))))) (fun _ => rfl) (fun W a h => by
 obtain ⟨⟨⟨h0, _⟩, ⟨h1, _⟩, ⟨h2, _⟩, ⟨h3, _⟩, ⟨h4, _⟩, ⟨h5, _⟩, ⟨h6, _⟩, ⟨h7, _⟩, ⟨h8, _⟩, ⟨h9, _⟩, ⟨h10, _⟩, ⟨h11, _⟩, _⟩, _⟩ := h
 exact ⟨fits64 h0, h1, fits64 h2, fits64 h3, fits64 h4, h5, fits64 h6, fits64 h7, fits64 h8, fits64 h9, fits64 h10, fits64 h11⟩) (fun _ => by omega) (fun _ _ => trivial))
section
variable {H : Type} {enc : TypeId × Value → H} {P : Program} {w : World} {base : Nat} {spare : Nat → Bool} {held : Bool}
theorem trodAll_4 {t0 t1 t2 t3 : TypeId} {args : Array Value} {ds : List (DataW H)} {ps : List MemPlace} (h : DataW.TrodAll enc P w base spare held [t0, t1, t2, t3] args.toList ds ps) :
  ∃ v0 v1 v2 v3 d0 d1 d2 d3 p0 p1 p2 p3, args = #[v0, v1, v2, v3] ∧ ds = [d0, d1, d2, d3] ∧ ps = p0 ++ (p1 ++ (p2 ++ (p3 ++ []))) ∧ DataW.Trod enc P w base spare held t0 v0 d0 p0 ∧ DataW.Trod enc P w base spare held t1 v1 d1 p1 ∧ DataW.Trod enc P w base spare held t2 v2 d2 p2 ∧ DataW.Trod enc P w base spare held t3 v3 d3 p3 := by
 obtain ⟨v0, vs0, d0, ds0, p0, q0, hargs, rfl, rfl, hd0, hr0⟩ := trodAll_cons h
 obtain ⟨v1, vs1, d1, ds1, p1, q1, rfl, rfl, rfl, hd1, hr1⟩ := trodAll_cons hr0
 obtain ⟨v2, vs2, d2, ds2, p2, q2, rfl, rfl, rfl, hd2, hr2⟩ := trodAll_cons hr1
 obtain ⟨v3, vs3, d3, ds3, p3, q3, rfl, rfl, rfl, hd3, hr3⟩ := trodAll_cons hr2
 obtain ⟨rfl, rfl, rfl⟩ := trodAll_nil hr3
 exact ⟨v0, v1, v2, v3, d0, d1, d2, d3, p0, p1, p2, p3, by cases args; simp_all, rfl, rfl, hd0, hd1, hd2, hd3⟩
end
theorem cells_u8 : Tryz.prog.cellsOf 5 = 1 := by kernel_rfl
theorem cells_seal : Tryz.prog.cellsOf 65 = 16 := by kernel_rfl
theorem cells_tx : Tryz.prog.cellsOf 67 = 22 := by kernel_rfl
theorem fs_tx : fsB Tryz.prog 67 [(3, 0, 1), (26, 1, 1), (26, 2, 1), (23, 3, 1), (23, 4, 1), (23, 5, 1), (65, 6, 16)] = true := by kernel_rfl
def txOf (a : Int × Int × Int × Int × Int × Int × List Int × Unit) : Tx := ⟨a.1, a.2.1, a.2.2.1, a.2.2.2.1, a.2.2.2.2.1, a.2.2.2.2.2.1, a.2.2.2.2.2.2.1⟩
def rd_tx := PLift.up (Reads.as (cells' := Tx.cells) (Hd' := fun _ x => x.ok) (bulk' := fun _ => 1) (Small' := fun _ => True) txOf (Reads.struct fs_tx cells_tx (ReadsF.cons (Reads.int ty_int_3) (ReadsF.cons (Reads.int ty_int_26) (ReadsF.cons (Reads.int ty_int_26) (ReadsF.cons (Reads.int ty_int_23) (ReadsF.cons (Reads.int ty_int_23) (ReadsF.cons (Reads.int ty_int_23) (ReadsF.cons (Reads.ints (k := .u8) ty_un_65 ty_int_5 cells_u8 cells_seal) ReadsF.nil)))))))) (fun a => by simp [Tx.cells, txOf]) (fun W a h => by
 obtain ⟨⟨⟨h0, _⟩, ⟨h1, _⟩, ⟨h2, _⟩, ⟨h3, _⟩, ⟨h4, _⟩, ⟨h5, _⟩, ⟨⟨h6, h7⟩, _⟩, _⟩, _⟩ := h
 exact ⟨h0, fits64 h1, fits64 h2, fits64 h3, fits64 h4, fits64 h5, fun x hx => by have := h7 x hx; simp only [fits] at this; omega, h6⟩) (fun _ => by omega) (fun _ _ => trivial))
end Go.Proofs.YtcngmkjdpoiiaaaGreatDoor

/- Plain: a transaction's bytes; walks: the writer's numbers and texts. Printed by gen.py. -/
set_option maxRecDepth 100000
namespace Go.Proofs.YtcngmkjdpoiiaaaGreatDoor
open Go Go.RowKit Go.Proofs
/-- A number in groups of seven bits, the lowest first. -/
def varF : Nat → Int → List Int
 | 0, v => [v]
 | f + 1, v => if 128 ≤ v then (v % 128 + 128) :: varF f (v / 128) else [v]
def varB (v : Int) : List Int := varF 9 v
theorem varF_fuel : ∀ (f g : Nat) (v : Int), v < 128 ^ (f + 1) → v < 128 ^ (g + 1) → varF f v = varF g v
 | 0, 0, _, _, _ => rfl
 | 0, g + 1, v, h, _ => by
  have : ¬ 128 ≤ v := by simp at h; omega
  rw [varF, varF, if_neg this]
 | f + 1, 0, v, _, h => by
  have : ¬ 128 ≤ v := by simp at h; omega
  rw [varF, varF, if_neg this]
 | f + 1, g + 1, v, h1, h2 => by
  rw [varF, varF]
  split
  ·rw [varF_fuel f g (v / 128) (by rw [Int.pow_succ] at h1; exact Int.ediv_lt_of_lt_mul (by decide) h1) (by rw [Int.pow_succ] at h2; exact Int.ediv_lt_of_lt_mul (by decide) h2)]
  ·rfl
theorem varB_small {v : Int} (h : ¬ 128 ≤ v) : varB v = [v] := by unfold varB; rw [varF, if_neg h]
theorem varB_big {v : Int} (hv : u64 v) (h : 128 ≤ v) : varB v = (v % 128 + 128) :: varB (v / 128) := by
 unfold varB
 rw [varF, if_pos h, varF_fuel 8 9 (v / 128) (by obtain ⟨_, h2⟩ := hv; simp; omega) (by obtain ⟨_, h2⟩ := hv; simp; omega)]
theorem u64_div {v : Int} (hv : u64 v) : u64 (v / 128) := by obtain ⟨h1, h2⟩ := hv; exact ⟨by omega, by omega⟩
theorem varF_len : ∀ (f : Nat) (v : Int), (varF f v).length ≤ f + 1
 | 0, _ => Nat.le_refl _
 | f + 1, v => by
  rw [varF]; split
  ·rw [List.length_cons]; have := varF_len f (v / 128); omega
  ·simp
theorem varB_len (v : Int) : (varB v).length ≤ 10 := varF_len 9 v
theorem varF_b : ∀ (f : Nat) (v : Int), 0 ≤ v → v < 128 ^ (f + 1) → IsB (varF f v)
 | 0, v, h0, h => by
  intro x hx; rw [varF, List.mem_singleton] at hx; subst hx; simp at h; omega
 | f + 1, v, h0, h => by
  intro x hx; rw [varF] at hx
  split at hx
  ·rcases List.mem_cons.1 hx with rfl | hx
   ·omega
   ·exact varF_b f (v / 128) (by omega) (by rw [Int.pow_succ] at h; exact Int.ediv_lt_of_lt_mul (by decide) h) x hx
  ·rw [List.mem_singleton] at hx; subst hx; omega
theorem varB_b {v : Int} (hv : u64 v) : IsB (varB v) := varF_b 9 v hv.1 (by obtain ⟨_, h⟩ := hv; simp; omega)
theorem or128_fin : ∀ m : Fin 256, (BitVec.ofInt 8 ((m.val : Nat) : Int) ||| BitVec.ofInt 8 128).toNat = m.val % 128 + 128 := by decide +kernel
theorem or128 {v : Int} (hv : 0 ≤ v) : bitI .or .u8 (IntKind.u8.wrap v) 128 = v % 128 + 128 := by
 have hw : IntKind.u8.wrap v = v % 256 := by simp only [IntKind.wrap, IntKind.signed, IntKind.bits, Bool.false_and, Bool.false_eq_true, if_false]; rfl
 obtain ⟨m, hm⟩ : ∃ m : Fin 256, v % 256 = ((m.val : Nat) : Int) := ⟨⟨(v % 256).toNat, by omega⟩, by simp; omega⟩
 unfold bitI
 rw [hw, hm]
 show IntKind.u8.wrap (((BitVec.ofInt 8 ((m.val : Nat) : Int) ||| BitVec.ofInt 8 128).toNat : Nat) : Int) = _
 rw [or128_fin m]
 simp only [IntKind.wrap, IntKind.signed, IntKind.bits, Bool.false_and, Bool.false_eq_true, if_false]
 omega
theorem shr7 {v : Int} (hv : u64 v) : shrI .u64 v 7 = v / 128 := by
 show v.fdiv (2 ^ 7) = _
 rw [Int.fdiv_eq_ediv_of_nonneg _ (by decide)]; rfl
theorem wrap8 {v : Int} (h0 : 0 ≤ v) (h : ¬ 128 ≤ v) : IntKind.u8.wrap v = v := wrap_fits (by simp only [fits]; omega)
def kindB (x : Int) : Int := IntKind.u8.wrap x
theorem kindB_b (x : Int) : 0 ≤ kindB x ∧ kindB x ≤ 255 := isB_u8 x
def txW (x : Tx) : List Int := [x.frm, x.to, x.amt, x.fee, x.non]
def varsB (ws : List Int) : List Int := ws.flatMap varB
theorem varsB_next {ws : List Int} {i : Nat} {x : Int} (h : ws[i]? = some x) : varsB (ws.take (i + 1)) = varsB (ws.take i) ++ varB x := by
 rw [List.take_add_one, h]; simp [varsB]
theorem varsB_len (ws : List Int) : (varsB ws).length ≤ 10 * ws.length := by
 induction ws with
 | nil => exact Nat.le_refl _
 | cons x ws ih =>
  have h := varB_len x
  have e : varsB (x :: ws) = varB x ++ varsB ws := rfl
  rw [e, List.length_append, List.length_cons]; omega
theorem varsB_b {ws : List Int} (h : ∀ x ∈ ws, u64 x) : IsB (varsB ws) := by
 intro y hy
 obtain ⟨x, hx, hy⟩ := List.mem_flatMap.1 hy
 exact varB_b (h x hx) y hy
/-- A transaction's form without its seal. -/
def txB (x : Tx) : List Int := kindB x.kind :: varsB (txW x)
theorem txB_len (x : Tx) : (txB x).length ≤ 51 := by have := varsB_len (txW x); show (varsB (txW x)).length + 1 ≤ 51; have : (txW x).length = 5 := rfl; omega
theorem txW_ok {x : Tx} (h : x.ok) : ∀ y ∈ txW x, u64 y := by
 intro y hy; simp only [txW, List.mem_cons, List.not_mem_nil, or_false] at hy
 rcases hy with rfl | rfl | rfl | rfl | rfl
 ·exact h.frm
 ·exact h.to
 ·exact h.amt
 ·exact h.fee
 ·exact h.non
theorem txB_b {x : Tx} (h : x.ok) : IsB (txB x) := IsB.cons (kindB_b _).1 (kindB_b _).2 (varsB_b (txW_ok h))
/-- What is wrong with a transaction by itself. -/
def plainE (x : Tx) : Int := if x.kind < 1 ∨ 4 < x.kind then 40 else if x.frm = 0 ∨ ((x.kind = 1) ↔ (x.to = 0)) then 41 else if MS < x.amt then 41 else if x.kind = 4 ∧ x.amt ≠ 0 then 41 else if MS < x.fee then 41 else 0
structure TxFine (x : Tx) : Prop where
 k1 : 1 ≤ x.kind
 k2 : x.kind ≤ 4
 frm : x.frm ≠ 0
 to : (x.kind = 1) ↔ ¬ x.to = 0
 amt : x.amt ≤ MS
 free : x.kind = 4 → x.amt = 0
 fee : x.fee ≤ MS
theorem txFine_of {x : Tx} (h : plainE x = 0) : TxFine x := by
 unfold plainE at h
 split at h
 ·omega
 ·split at h
  ·omega
  ·split at h
   ·omega
   ·split at h
    ·omega
    ·split at h
     ·omega
     ·rename_i h1 h2 h3 h4 h5
      have h6 : ¬ ((x.kind = 1) ↔ (x.to = 0)) := fun h => h2 (.inr h)
      exact ⟨by omega, by omega, fun h => h2 (.inl h), ⟨fun h7 h8 => h6 ⟨fun _ => h8, fun _ => h7⟩, fun h7 => Classical.byContradiction fun h8 => h6 ⟨fun h => absurd h h8, fun h => absurd h h7⟩⟩, by omega, fun h => Classical.not_not.1 fun h7 => h4 ⟨h, h7⟩, by omega⟩
def nameE (ch : List Int) : Int := if ch.length < 1 ∨ 16 < ch.length then 41 else 0
/-- What TxBytes refuses with. -/
def txbE (ch : List Int) (x : Tx) : Int := if nameE ch ≠ 0 then nameE ch else plainE x
/-- What is signed. -/
def saidB (ch : List Int) (x : Tx) : List Int := 84 :: (varB (ch.length : Int) ++ ch ++ txB x)
def txbB (ch : List Int) (x : Tx) : List Int := if txbE ch x = 0 then saidB ch x else []
theorem nameE_fine {ch : List Int} (h : nameE ch = 0) : 1 ≤ ch.length ∧ ch.length ≤ 16 := by
 unfold nameE at h; split at h
 ·omega
 ·omega
theorem txbE_fine {ch : List Int} {x : Tx} (h : txbE ch x = 0) : nameE ch = 0 ∧ plainE x = 0 := by
 unfold txbE at h; split at h
 ·rename_i h1; exact absurd h h1
 ·rename_i h1; exact ⟨Classical.not_not.1 h1, h⟩
theorem saidB_len {ch : List Int} (h : ch.length ≤ 16) (x : Tx) : (saidB ch x).length ≤ 78 := by
 have h1 := varB_len (ch.length : Int); have h2 := txB_len x
 show (varB (ch.length : Int) ++ ch ++ txB x).length + 1 ≤ 78
 rw [List.length_append, List.length_append]; omega
theorem saidB_b {ch : List Int} {x : Tx} (hc : IsB ch) (hl : ch.length ≤ 16) (hx : x.ok) : IsB (saidB ch x) := IsB.cons (by decide) (by decide) (IsB.append (IsB.append (varB_b ⟨by omega, by omega⟩) hc) (txB_b hx))
theorem txbB_b {ch : List Int} {x : Tx} (hc : IsB ch) (hx : x.ok) : IsB (txbB ch x) := by
 unfold txbB; split
 ·rename_i h; exact saidB_b hc (nameE_fine (txbE_fine h).1).2 hx
 ·exact fun y hy => by cases hy
theorem txbB_len (ch : List Int) (x : Tx) : (txbB ch x).length ≤ 78 := by
 unfold txbB; split
 ·rename_i h; exact saidB_len (nameE_fine (txbE_fine h).1).2 x
 ·exact Nat.zero_le _
/-- The first that is not nothing. -/
def allE : List Int → Int
 | [] => 0
 | e :: l => if e ≠ 0 then e else allE l
theorem allE_drop {l : List Int} {i : Nat} {e : Int} (h : l[i]? = some e) : allE (l.drop i) = if e ≠ 0 then e else allE (l.drop (i + 1)) := by rw [drop_at h]; rfl
def fieldE (b : Bool) : Int := if b = true then 41 else 0
theorem fieldE_true {p : Prop} [Decidable p] (h : p) : fieldE (decide p) = 41 := by rw [decide_eq_true h]; rfl
theorem fieldE_false {p : Prop} [Decidable p] (h : ¬ p) : fieldE (decide p) = 0 := by rw [decide_eq_false h]; rfl
theorem allE_ne {e : Int} {l : List Int} (h : e ≠ 0) : allE (e :: l) = e := if_pos h
theorem allE_zero {l : List Int} : allE (0 :: l) = allE l := rfl
def kindE4 (n : Int) : Int := if n < 1 ∨ 4 < n then 40 else 0
def amtE (a : Int) : Int := fieldE (decide (MS < a))
def sndB (x : Tx) : Bool := if x.frm = 0 then true else (decide (x.to ≠ 0) != decide (x.kind = 1))
theorem plainE_all (x : Tx) : allE [kindE4 x.kind, fieldE (sndB x), amtE x.amt, fieldE (decide (x.kind = 4) && decide (x.amt ≠ 0)), amtE x.fee] = plainE x := by
 have hs : sndB x = decide (x.frm = 0 ∨ ((x.kind = 1) ↔ (x.to = 0))) := by
  unfold sndB
  by_cases h1 : x.frm = 0
  ·rw [if_pos h1, decide_eq_true (.inl h1)]
  ·rw [if_neg h1]
   by_cases h2 : x.to = 0 <;> by_cases h3 : x.kind = 1 <;> simp [h1, h2, h3]
 rw [hs]
 unfold plainE amtE
 by_cases h1 : x.kind < 1 ∨ 4 < x.kind
 ·rw [show kindE4 x.kind = 40 from if_pos h1, allE_ne (by decide), if_pos h1]
 rw [show kindE4 x.kind = 0 from if_neg h1, allE_zero, if_neg h1]
 by_cases h2 : x.frm = 0 ∨ ((x.kind = 1) ↔ (x.to = 0))
 ·rw [fieldE_true h2, allE_ne (by decide), if_pos h2]
 rw [fieldE_false h2, allE_zero, if_neg h2]
 by_cases h3 : MS < x.amt
 ·rw [fieldE_true h3, allE_ne (by decide), if_pos h3]
 rw [fieldE_false h3, allE_zero, if_neg h3]
 by_cases h4 : x.kind = 4 ∧ x.amt ≠ 0
 ·rw [decide_eq_true h4.1, decide_eq_true h4.2, if_pos h4]; rfl
 rw [if_neg h4, show (decide (x.kind = 4) && decide (x.amt ≠ 0)) = false by
  cases hq : (decide (x.kind = 4) && decide (x.amt ≠ 0)) with
  | false => rfl
  | true => rw [Bool.and_eq_true, decide_eq_true_eq, decide_eq_true_eq] at hq; exact absurd hq h4, show fieldE false = 0 from rfl, allE_zero]
 by_cases h5 : MS < x.fee
 ·rw [fieldE_true h5, allE_ne (by decide), if_pos h5]
 rw [fieldE_false h5, allE_zero, if_neg h5]; rfl
theorem byte_ok {gl : Nat → Obj} (wb : Nat) (bv : Value) (n : Nat) (xs : List Int) (hn : n ≤ 90000000) (y : Int) : Spec (cx gl) 267 [.pointer (some ⟨wb, 0, none⟩), .int .u8 y] (fun _ _ => True) [blk wb [.bool true, bv, .int .i64 0] 343, ownS 5 1 (bv) (n) (ints .u8 (xs))] (fun v rs => v = .tuple #[] ∧ ∃ bv', rs = [blk wb [.bool true, bv', .int .i64 0] 343, ownS 5 1 (bv') (n + 1) (ints .u8 (xs ++ [y]))]) := by
 refine Spec.enter (C := cx gl) Tryz.func267 rfl 8 rfl rfl fun w0 h0 hsep hsub hpre => ?_
 show St (cx gl) _ [(0, .pointer (some ⟨wb, 0, none⟩)), (1, .int .u8 y)] _ _
 refine rR (lM (k:=lM (k:=?_)))
 refine lO (W_lit (z := .nilIface) ([.int .u8 y]) rfl rfl rfl ty_sl_198 ty_lz_198 rfl rfl rfl (by decide) (by decide) (by simp [Value.cells]) (rfl) fun b6 => ?_)
 refine lO (W_call rfl rfl rfl rfl fn_ca_280 (put_ok wb bv (n) (xs) (by omega) (y) (some ⟨b6, 0, none⟩) 1 (by omega)) (Weak.pick (p := [_]) (Weak.pick (p := [_]) (Weak.keep (Weak.nil _)))) (Sn.pre (Sn.ofBlk .h0)) fun v9 rs9 ⟨e9, bv2, e8⟩ => ?_)
 subst e9; subst e8
 refine lE (.nil) ?_
 exact R_end0 (rs2 := _) rfl rfl (.nil) (⟨rfl, _, rfl⟩) (Weak.keep (Weak.keep (Weak.nil _)))
theorem var_ok {gl : Nat → Obj} (wb : Nat) (bv : Value) (n : Nat) (xs : List Int) (hn : n ≤ 90000000) (x : Int) (hx : u64 x) : Spec (cx gl) 269 [.pointer (some ⟨wb, 0, none⟩), .int .u64 x] (fun _ _ => True) [blk wb [.bool true, bv, .int .i64 0] 343, ownS 5 1 (bv) (n) (ints .u8 (xs))] (fun v rs => v = .tuple #[] ∧ ∃ bv', rs = [blk wb [.bool true, bv', .int .i64 0] 343, ownS 5 1 (bv') (n + (varB x).length) (ints .u8 (xs ++ varB x))]) := by
 refine Spec.enter (C := cx gl) Tryz.func269 rfl 19 rfl rfl fun w0 h0 hsep hsub hpre => ?_
 show St (cx gl) _ [(0, .pointer (some ⟨wb, 0, none⟩)), (1, .int .u64 x)] _ _
 have hvl := varB_len x
 refine rS (R_block ?_)
 refine R_loopE (G := Int × Nat × List Int × Value) (cE 0 rfl .nil) (fun g => [(1, .int .u64 g.1)]) (fun g => [blk wb [.bool true, g.2.2.2, .int .i64 0] 343, ownS 5 1 (g.2.2.2) (g.2.1) (ints .u8 (g.2.2.1))]) (fun g => u64 g.1 ∧ g.2.2.1 ++ varB g.1 = xs ++ varB x ∧ g.2.1 + (varB g.1).length = n + (varB x).length) (fun g => g.1.toNat) (x, n, xs, bv) (by show u64 (x) ∧ (xs) ++ varB (x) = xs ++ varB x ∧ (n) + (varB (x)).length = n + (varB x).length; exact ⟨hx, rfl, rfl⟩) (by repeat (first | exact .nil | refine .cons rfl ?_ | refine .consE rfl (by first | rfl | (congr 1; omega) | (congr 1; push_cast; omega)) ?_)) (Weak.refl _) ?_
 rintro ⟨v, m, ys, bv⟩ hinv
 replace hinv : u64 v ∧ ys ++ varB v = xs ++ varB x ∧ m + (varB v).length = n + (varB x).length := hinv
 show St (cx gl) _ ((1, .int .u64 v) :: _) [blk wb [.bool true, bv, .int .i64 0] 343, ownS 5 1 (bv) (m) (ints .u8 (ys))] _
 obtain ⟨hv, hxy, hmn⟩ := hinv
 refine rS (rT (lM (k:=lP pGe (k:=?_))))
 refine L_nil (qT ?_)
 refine R_condP rfl (fun hb => ?_) (fun hb => ?_)
 ·skip
  have hb : 128 ≤ v := hb
  refine R_skip (qT (R_block (rT (lM (k:=lM (k:=?_))))))
  refine lP (P_conv rfl ty_int_23 ty_int_5 rfl) (k:=?_)
  refine lP (P_bit (op := .or) rfl rfl rfl rfl) (k:=?_)
  refine E_as (t := 9) (v' := .int .u8 (v % 128 + 128)) rfl (by rw [or128 hv.1]) ?_
  refine lO (W_lit (z := .nilIface) ([.int .u8 (v % 128 + 128)]) rfl rfl rfl ty_sl_198 ty_lz_198 rfl rfl rfl (by decide) (by decide) (by simp [Value.cells]) (rfl) fun b10 => ?_)
  refine lO (W_call rfl rfl rfl rfl fn_ca_280 (put_ok wb bv (m) (ys) (by omega) (v % 128 + 128) (some ⟨b10, 0, none⟩) 1 (by omega)) (Weak.pick (p := [_]) (Weak.pick (p := [_]) (Weak.keep (Weak.nil _)))) (Sn.pre (Sn.ofBlk .h0)) fun v9 rs9 ⟨e9, bv2, e8⟩ => ?_)
  subst e9; subst e8
  refine lQ (cE 0 rfl (cE 1 rfl (cE 4 rfl (cE 5 rfl (cE 6 rfl (cE 7 rfl (cE 8 rfl (cE 9 rfl (cE 10 rfl .nil))))))))) (rR (lM (k:=?_)))
  refine lP (P_shr rfl rfl rfl (by omega)) (k:=?_)
  refine E_as (t := 13) (v' := .int .u64 (v / 128)) rfl (by rw [shr7 hv]) (lA (k:=?_))
  refine L_nil (Q_block ?_)
  exact Q_round (v / 128, m + 1, ys ++ [v % 128 + 128], bv2) (by show u64 (v / 128) ∧ (ys ++ [v % 128 + 128]) ++ varB (v / 128) = xs ++ varB x ∧ (m + 1) + (varB (v / 128)).length = n + (varB x).length; exact ⟨u64_div hv, by rw [← hxy, varB_big hv hb, List.append_assoc]; rfl, by rw [← hmn, varB_big hv hb, List.length_cons]; omega⟩) (by show (v / 128).toNat < v.toNat; have := hv.1; omega) (by repeat (first | exact .nil | refine .cons rfl ?_ | refine .consE rfl (by first | rfl | (congr 1; omega) | (congr 1; push_cast; omega)) ?_)) (Weak.keep (Weak.keep (Weak.nil _)))
 ·skip
  have hb : ¬ 128 ≤ v := hb
  rw [varB_small hb] at hxy hmn
  have hw := wrap8 hv.1 hb
  refine R_exit (Q_then_exit (Q_then_exit (Q_block_eq ?_)))
  refine St.env (cE 0 rfl (cE 1 rfl .nil)) (qT (rR (lM (k:=lM (k:=?_)))))
  refine lP (P_conv rfl ty_int_23 ty_int_5 rfl) (k:=?_)
  refine E_as (t := 16) (v' := .int .u8 v) rfl (by rw [hw]) ?_
  refine lO (W_lit (z := .nilIface) ([.int .u8 v]) rfl rfl rfl ty_sl_198 ty_lz_198 rfl rfl rfl (by decide) (by decide) (by simp [Value.cells]) (rfl) fun b17 => ?_)
  refine lO (W_call rfl rfl rfl rfl fn_ca_280 (put_ok wb bv (m) (ys) (by omega) (v) (some ⟨b17, 0, none⟩) 1 (by omega)) (Weak.pick (p := [_]) (Weak.pick (p := [_]) (Weak.keep (Weak.nil _)))) (Sn.pre (Sn.ofBlk .h0)) fun v9 rs9 ⟨e9, bv2, e8⟩ => ?_)
  subst e9; subst e8
  refine lE (.nil) ?_
  exact R_end0 (rs2 := _) rfl rfl (.nil) (⟨rfl, _, rfl⟩) (by rw [hxy, show m + 1 = n + (varB x).length from hmn]; exact Weak.keep (Weak.keep (Weak.nil _)))
theorem putText_ok {gl : Nat → Obj} (wb : Nat) (bv : Value) (n : Nat) (xs : List Int) (hn : n ≤ 80000000) (ch : List Int) (hb : IsB ch) (hc : ch.length ≤ 1000) : Spec (cx gl) 298 [.pointer (some ⟨wb, 0, none⟩), .string (strOfNums ch)] (fun _ _ => True) [blk wb [.bool true, bv, .int .i64 0] 343, ownS 5 1 (bv) (n) (ints .u8 (xs))] (fun v rs => v = .tuple #[] ∧ ∃ bv', rs = [blk wb [.bool true, bv', .int .i64 0] 343, ownS 5 1 (bv') (n + (varB (ch.length : Int)).length + ch.length) (ints .u8 (xs ++ (varB (ch.length : Int) ++ ch)))]) := by
 refine Spec.enter (C := cx gl) Tryz.func298 rfl 20 rfl rfl fun w0 h0 hsep hsub hpre => ?_
 show St (cx gl) _ [(0, .pointer (some ⟨wb, 0, none⟩)), (1, .string (strOfNums ch))] _ _
 have hvl := varB_len (ch.length : Int)
 refine rT (lM (k:=lM (k:=?_)))
 refine lP (P_lenStrN rfl ty_str_9 rfl) (k:=?_)
 refine lP (P_convN rfl ty_int_3 ty_int_23 rfl (by simp only [fits]; omega)) (k:=?_)
 refine lO (W_call rfl rfl rfl rfl fn_ca_269 (var_ok wb bv n xs (by omega) (ch.length : Int) ⟨by omega, by omega⟩) (Weak.refl _) (fun _ _ _ _ _ _ _ => trivial) fun v9 rs9 ⟨e9, bv2, e8⟩ => ?_)
 subst e9; subst e8
 refine lQ (cE 0 rfl (cE 1 rfl .nil)) (rT (lM (k:=?_)))
 refine lO (W_callR rfl rfl rfl rfl fn_ca_304 (live_ok wb bv2) (Weak.keep (Weak.keep (Weak.nil _))) (fun _ _ _ _ _ _ _ => trivial) ?_)
 refine E_true (t := 10) rfl (rfl) ?_
 refine lQ (cE 0 rfl (cE 1 rfl (cE 10 rfl .nil))) (kT (k:=rR (lM (k:=lM (k:=lP pN (k:=lP (pF ty_fl_343_1) (k:=lV (vB ty_sc_198 .h0) (k:=lM (k:=?_)))))))))
 refine lO (W_append (p := [_]) rfl rfl rfl ty_sl_198 ty_ap_198 ty_src_9 rfl rfl rfl (Src.str hb) (by omega) (by simp only [maxLen]; omega) fun v17 => ?_)
 refine St.ownForm (p := [_]) fun nb nc hnv hnc => ?_
 subst hnv
 refine lP pN (k:=lP (pF ty_fl_343_1) (k:=?_))
 refine lO (W_store rfl rfl rfl rfl ty_sc_198 rfl .h0 (by first | decide | (simp [ints]; done) | (simp [ints]; omega)) ?_)
 refine lE (.nil) ?_
 exact R_end0 (rs2 := _) rfl rfl (.nil) (⟨rfl, _, rfl⟩) (Weak.keep (ownS.to2 rfl (by rw [ints_append, List.append_assoc])))
theorem text_ok {gl : Nat → Obj} (wb : Nat) (bv : Value) (n : Nat) (xs : List Int) (hn : n ≤ 80000000) (ch : List Int) (hb : IsB ch) (hc : ch.length ≤ 1000) : Spec (cx gl) 268 [.pointer (some ⟨wb, 0, none⟩), .string (strOfNums ch)] (fun _ _ => True) [blk wb [.bool true, bv, .int .i64 0] 343, ownS 5 1 (bv) (n) (ints .u8 (xs))] (fun v rs => v = .tuple #[] ∧ ∃ bv', rs = [blk wb [.bool true, bv', .int .i64 0] 343, ownS 5 1 (bv') (n + (varB (ch.length : Int)).length + ch.length) (ints .u8 (xs ++ (varB (ch.length : Int) ++ ch)))]) := by
 refine Spec.enter (C := cx gl) Tryz.func268 rfl 7 rfl rfl fun w0 h0 hsep hsub hpre => ?_
 show St (cx gl) _ [(0, .pointer (some ⟨wb, 0, none⟩)), (1, .string (strOfNums ch))] _ _
 refine rR (lM (k:=lM (k:=?_)))
 refine lO (W_call rfl rfl rfl rfl fn_ca_298 (putText_ok wb bv n xs hn ch hb hc) (Weak.refl _) (fun _ _ _ _ _ _ _ => trivial) fun v9 rs9 ⟨e9, bv2, e8⟩ => ?_)
 subst e9; subst e8
 refine lE (.nil) ?_
 exact R_end0 (rs2 := _) rfl rfl (.nil) (⟨rfl, _, rfl⟩) (Weak.refl _)
theorem field_ok {gl : Nat → Obj} (b : Bool) : SpecV (cx gl) 248 [.bool b] noPre (.int .i64 (fieldE b)) := by
 refine Spec.enter (C := cx gl) Tryz.func248 rfl 4 rfl rfl fun w0 h0 hsep hsub hpre => ?_
 obtain rfl : h0 = Heap.none := hsep
 show St (cx gl) _ [(0, .bool b)] _ _
 refine rT (lA (k:=?_))
 refine L_nil (qT (rS (rT (lM (k:=?_)))))
 refine lQ (cE 2 rfl (cE 3 rfl .nil)) ?_
 refine R_cond rfl (fun hb => ?_) (fun hb => ?_)
 ·skip
  refine rT (lA (k:=?_))
  refine lQ (cE 2 rfl .nil) (R_ret (Q_then_ret ?_))
  exact R_endV rfl rfl (.tmp rfl .nil) (by unfold fieldE; rw [if_pos hb]; rfl)
 ·skip
  refine R_skip (qT (rT (lA (k:=?_))))
  refine lQ (cE 2 rfl .nil) (R_ret ?_)
  exact R_endV rfl rfl (.tmp rfl .nil) (by unfold fieldE; rw [if_neg (by rw [hb]; decide)]; rfl)
theorem wkind_ok {gl : Nat → Obj} (n : Int) : SpecV (cx gl) 247 [.int .i64 n, .int .i64 1, .int .i64 4] noPre (.int .i64 (kindE4 n)) := by
 refine Spec.enter (C := cx gl) Tryz.func247 rfl 15 rfl rfl fun w0 h0 hsep hsub hpre => ?_
 obtain rfl : h0 = Heap.none := hsep
 show St (cx gl) _ [(0, .int .i64 n), (1, .int .i64 1), (2, .int .i64 4)] _ _
 refine rT (lA (k:=?_))
 refine L_nil (qT (rS (rT (lM (k:=lM (k:=lP pLt (k:=?_)))))))
 refine E_bool (t := 9) rfl (fun h1 => ?_) (fun h1 => ?_)
 ·skip
  have h1 := of_decide_eq_true h1
  refine lM (k:=lN (k:=lN (k:=lN (k:=lP pK (k:=?_)))))
  refine lQ (cE 6 rfl (cE 14 rfl .nil)) (kT (k:=rT (lA (k:=?_))))
  refine lQ (cE 6 rfl .nil) (R_ret (Q_then_ret ?_))
  exact R_endV rfl rfl (.tmp rfl .nil) (by unfold kindE4; rw [if_pos (by omega)]; rfl)
 ·skip
  have h1 := of_decide_eq_false h1
  refine lM (k:=lM (k:=lM (k:=lP pGt (k:=lP pK (k:=?_)))))
  refine lQ (cE 6 rfl (cE 14 rfl .nil)) ?_
  refine R_condP rfl (fun h2 => ?_) (fun h2 => ?_)
  ·skip
   refine rT (lA (k:=?_))
   refine lQ (cE 6 rfl .nil) (R_ret (Q_then_ret ?_))
   exact R_endV rfl rfl (.tmp rfl .nil) (by unfold kindE4; rw [if_pos (by omega)]; rfl)
  ·skip
   refine R_skip (qT (rT (lA (k:=?_))))
   refine lQ (cE 6 rfl .nil) (R_ret ?_)
   exact R_endV rfl rfl (.tmp rfl .nil) (by unfold kindE4; rw [if_neg (by omega)]; rfl)
theorem amount_ok {gl : Nat → Obj} (a : Int) : SpecV (cx gl) 249 [.int .u64 a] noPre (.int .i64 (amtE a)) := by
 refine Spec.enter (C := cx gl) Tryz.func249 rfl 6 rfl rfl fun w0 h0 hsep hsub hpre => ?_
 obtain rfl : h0 = Heap.none := hsep
 show St (cx gl) _ [(0, .int .u64 a)] _ _
 refine rT (lA (k:=?_))
 refine L_nil (qT (rT (lM (k:=lP pGt (k:=?_)))))
 refine lO (W_callV rfl rfl rfl rfl fn_ca_248 (field_ok (decide (MS < a))) (fun _ _ => trivial) (lA (k:=?_)))
 refine lQ (cE 2 rfl .nil) (R_ret ?_)
 exact R_endV rfl rfl (.tmp rfl .nil) (rfl)
theorem named_ok {gl : Nat → Obj} (ch : List Int) : SpecV (cx gl) 266 [.string (strOfNums ch)] noPre (.int .i64 (nameE ch)) := by
 refine Spec.enter (C := cx gl) Tryz.func266 rfl 12 rfl rfl fun w0 h0 hsep hsub hpre => ?_
 obtain rfl : h0 = Heap.none := hsep
 show St (cx gl) _ [(0, .string (strOfNums ch))] _ _
 refine rT (lA (k:=?_))
 refine L_nil (qT (rT (lM (k:=?_))))
 refine lP (P_lenStrN rfl ty_str_9 rfl) (k:=lP pLt (k:=?_))
 refine E_bool (t := 5) rfl (fun h1 => ?_) (fun h1 => ?_)
 ·skip
  have h1 := of_decide_eq_true h1
  have hF : nameE ch = fieldE true := by unfold nameE; rw [if_pos (.inl (by omega))]; rfl
  refine lM (k:=lN (k:=lN (k:=lN (k:=lP pK (k:=?_)))))
  refine lO (W_callV rfl rfl rfl rfl fn_ca_248 (field_ok _) (fun _ _ => trivial) ?_)
  refine E_as (t := 11) (v' := .int .i64 (nameE ch)) rfl (by rw [hF]) (lA (k:=?_))
  refine lQ (cE 2 rfl .nil) (R_ret ?_)
  exact R_endV rfl rfl (.tmp rfl .nil) (rfl)
 ·skip
  have h1 := of_decide_eq_false h1
  refine lM (k:=lM (k:=?_))
  refine lP (P_lenStrN rfl ty_str_9 rfl) (k:=lP pGt (k:=?_))
  refine E_bool (t := 9) rfl (fun h2 => ?_) (fun h2 => ?_)
  ·skip
   have h2 := of_decide_eq_true h2
   have hF : nameE ch = fieldE true := by unfold nameE; rw [if_pos (.inr (by omega))]; rfl
   refine lP pK (k:=?_)
   refine lO (W_callV rfl rfl rfl rfl fn_ca_248 (field_ok _) (fun _ _ => trivial) ?_)
   refine E_as (t := 11) (v' := .int .i64 (nameE ch)) rfl (by rw [hF]) (lA (k:=?_))
   refine lQ (cE 2 rfl .nil) (R_ret ?_)
   exact R_endV rfl rfl (.tmp rfl .nil) (rfl)
  ·skip
   have h2 := of_decide_eq_false h2
   have hF : nameE ch = fieldE false := by unfold nameE; rw [if_neg (by omega)]; rfl
   refine lP pK (k:=?_)
   refine lO (W_callV rfl rfl rfl rfl fn_ca_248 (field_ok _) (fun _ _ => trivial) ?_)
   refine E_as (t := 11) (v' := .int .i64 (nameE ch)) rfl (by rw [hF]) (lA (k:=?_))
   refine lQ (cE 2 rfl .nil) (R_ret ?_)
   exact R_endV rfl rfl (.tmp rfl .nil) (rfl)
theorem all_ok {gl : Nat → Obj} (b c : Nat) (l : List Int) (hl : l.length ≤ c) (hm : l.length ≤ 1000) : SpecV (cx gl) 246 [.slice (some ⟨b, 0, none⟩) l.length c] (fun w => RowAt w ⟨b, 0, none⟩ (ints .i64 l)) (.int .i64 (allE l)) := by
 refine Spec.enter (C := cx gl) Tryz.func246 rfl 15 rfl rfl fun w0 h0 hsep hsub hpre => ?_
 obtain rfl : h0 = Heap.none := hsep
 show St (cx gl) _ [(0, .slice (some ⟨b, 0, none⟩) l.length c)] _ _
 refine rT (lA (k:=?_))
 refine L_nil (qT (rS (rT (lM (k:=lP (pL ty_sl_387) (k:=lM (k:=?_)))))))
 refine lQ (cE 2 rfl (cE 5 rfl (cE 6 rfl (cE 7 rfl .nil)))) (R_block ?_)
 refine R_loopE (G := Nat) (cE 2 rfl (cE 5 rfl (cE 6 rfl .nil))) (fun g => [(7, .int .i64 ((g : Int)))]) (fun _ => _) (fun g => g ≤ l.length ∧ allE l = allE (l.drop g)) (fun g => l.length - g) (0) (by show (0) ≤ l.length ∧ allE l = allE (l.drop (0)); exact ⟨Nat.zero_le _, rfl⟩) (by repeat (first | exact .nil | refine .cons rfl ?_ | refine .consE rfl (by first | rfl | (congr 1; omega) | (congr 1; push_cast; omega)) ?_)) (Weak.refl _) ?_
 intro i hinv
 replace hinv : i ≤ l.length ∧ allE l = allE (l.drop i) := hinv
 show St (cx gl) _ ((7, .int .i64 ((i : Int))) :: _) _ _
 obtain ⟨hi, ho⟩ := hinv
 refine rT (lP pLt (k:=?_))
 refine L_nil (qT (rS ?_))
 refine R_condP rfl (fun hlt => ?_) (fun hlt => ?_)
 ·skip
  obtain ⟨x, hx⟩ : ∃ x, l[i]? = some x := ⟨_, List.getElem?_eq_getElem (by omega)⟩
  refine R_skip (qT (rS (R_block (rT ?_))))
  refine lP (P_ixs (i) rfl ty_sl_387 rfl rfl (by first | rfl | omega) (by omega)) (k:=?_)
  refine lV (V_load rfl rfl ty_sc_31 (Rd.row hpre rfl (show (ints .i64 l)[i]? = some (.int .i64 x) by simp [ints, hx]))) (k:=lA (k:=?_))
  refine L_nil (qT (rT (lM (k:=lP pNe (k:=?_)))))
  refine L_nil (qT ?_)
  refine R_condP rfl (fun hz => ?_) (fun hz => ?_)
  ·skip
   refine rT (lM (k:=lA (k:=?_)))
   refine L_nil (qT (R_ret (Q_block_ret (Q_then_ret (Q_then_ret (Q_block_ret (Q_then_ret ?_)))))))
   exact R_endV rfl rfl (.tmp rfl .nil) (by rw [ho, allE_drop hx, if_pos hz]; rfl)
  ·skip
   refine R_skip (Q_block (qT (rR ?_)))
   first | (refine L_val rfl rfl rfl (OpP.v (P_addN rfl rfl rfl (by simp only [fits]; omega))) ?_) | (refine L_val rfl rfl rfl (OpP.v (P_add rfl rfl rfl)) ?_)
   refine lM (k:=?_)
   refine L_nil ?_
   exact Q_round (i + 1) (by show (i + 1) ≤ l.length ∧ allE l = allE (l.drop (i + 1)); exact ⟨by omega, by rw [ho, allE_drop hx, if_neg hz]⟩) (by show l.length - (i + 1) < l.length - i; omega) (by repeat (first | exact .nil | refine .cons rfl ?_ | refine .consE rfl (by first | rfl | (congr 1; omega) | (congr 1; push_cast; omega)) ?_)) (Weak.refl _)
 ·skip
  refine R_exit (Q_then_exit (Q_then_exit (Q_block_eq ?_)))
  refine St.env (cE 2 rfl .nil) (qT (rT (lA (k:=?_))))
  refine L_nil (qT (R_ret ?_))
  exact R_endV rfl rfl (.tmp rfl .nil) (by rw [ho, List.drop_eq_nil_of_le (by omega)]; rfl)
end Go.Proofs.YtcngmkjdpoiiaaaGreatDoor
