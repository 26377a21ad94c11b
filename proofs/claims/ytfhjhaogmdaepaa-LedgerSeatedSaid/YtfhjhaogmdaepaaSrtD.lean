/- Go's stable sort of members. Printed by gen.py. -/
import Derived.Test.YtfhjhaogmdaepaaSrtC
set_option linter.unusedVariables false
set_option linter.unusedSimpArgs false
set_option maxRecDepth 100000
namespace Go.Proofs.Ytfhjhaogmdaepaa
open Go Go.RowKit Go.Proofs Go.Sort
theorem blk_keep {a b x y : Nat} {d d' : Array Mem} (h : SortedIn bt x y d) (hp : PermIn a b d d') (hd : y ≤ a ∨ b ≤ x) : SortedIn bt x y d' := sortEq h fun k h1 h2 => hp.2.1 k (by omega)
theorem dvd_apart {sz x a : Nat} (h1 : sz ∣ x) (h2 : sz ∣ a) (h : x < a) : x + sz ≤ a := by
  obtain ⟨p, rfl⟩ := h1
  obtain ⟨q, rfl⟩ := h2
  have hpq : p < q := Nat.lt_of_mul_lt_mul_left h
  calc sz * p + sz = sz * (p + 1) := (Nat.mul_succ sz p).symm
    _ ≤ sz * q := Nat.mul_le_mul_left sz hpq
theorem dvd_apart' {sz x a : Nat} (h1 : sz ∣ x) (h2 : sz ∣ a) (h : x ≠ a) : x + sz ≤ a ∨ a + sz ≤ x := by
  rcases Nat.lt_or_gt_of_ne h with h | h
  · exact .inl (dvd_apart h1 h2 h)
  · exact .inr (dvd_apart h2 h1 h)
theorem dvd_two {sz a : Nat} (h : 2 * sz ∣ a) : sz ∣ a := Nat.dvd_trans (Nat.dvd_mul_left sz 2) h
theorem ins_next {a : Nat} {e e1 : Array Mem} (hdv : 20 ∣ a) (hdo : ∀ x, 20 ∣ x → x + 20 ≤ a → SortedIn bt x (x + 20) e) (hp : PermIn a (a + 20) e e1) (hs : SortedIn bt a (a + 20) e1) : ∀ x, 20 ∣ x → x + 20 ≤ a + 20 → SortedIn bt x (x + 20) e1 := fun x hx hx2 => by
  by_cases he : x = a
  · subst he; exact hs
  · rcases dvd_apart' hx hdv he with h | h
    · exact blk_keep (hdo x hx h) hp (.inl h)
    · omega
/-- All blocks of that size are in order. -/
def Blk (sz n : Nat) (d : Array Mem) : Prop := ∀ x, sz ∣ x → SortedIn bt x (min (x + sz) n) d
theorem blk_first {n a : Nat} {d d' : Array Mem} (ha : 20 ∣ a) (han : a ≤ n) (hbn : n < a + 20) (h : ∀ x, 20 ∣ x → x + 20 ≤ a → SortedIn bt x (x + 20) d) (hp : PermIn a n d d') (hs : SortedIn bt a n d') : Blk 20 n d' := fun x hx => by
  by_cases he : x = a
  · subst he; rw [Nat.min_eq_right (by omega)]; exact hs
  · rcases dvd_apart' hx ha he with h1 | h1
    · rw [Nat.min_eq_left (by omega)]; exact blk_keep (h x hx h1) hp (.inl h1)
    · exact sorted_one (by omega)
structure Half (sz n a : Nat) (e : Array Mem) : Prop where
  dv : 2 * sz ∣ a
  le : a ≤ n
  done : ∀ x, 2 * sz ∣ x → x + 2 * sz ≤ a → SortedIn bt x (x + 2 * sz) e
  todo : ∀ x, sz ∣ x → a ≤ x → SortedIn bt x (min (x + sz) n) e
theorem Half.start {sz n : Nat} {d : Array Mem} (h : Blk sz n d) (hp : 0 < sz) : Half sz n 0 d := ⟨⟨0, rfl⟩, Nat.zero_le _, fun x _ hx => by omega, fun x hx _ => h x hx⟩
theorem Half.left {sz n a : Nat} {e : Array Mem} (h : Half sz n a e) (hn : a + sz ≤ n) : SortedIn bt a (a + sz) e := by
  have := h.todo a (dvd_two h.dv) (Nat.le_refl _)
  rwa [Nat.min_eq_left hn] at this
theorem Half.right {sz n a y : Nat} {e : Array Mem} (h : Half sz n a e) (hy : y ≤ n) (h2 : y ≤ a + 2 * sz) : SortedIn bt (a + sz) y e := by
  have := h.todo (a + sz) (Nat.dvd_add (dvd_two h.dv) (Nat.dvd_refl _)) (by omega)
  exact sortSub this (Nat.le_refl _) (by omega)
theorem Half.next {sz n a : Nat} {e e' : Array Mem} (h : Half sz n a e) (hp : 0 < sz) (hn : a + 2 * sz ≤ n) (hpm : PermIn a (a + 2 * sz) e e') (hs : SortedIn bt a (a + 2 * sz) e') : Half sz n (a + 2 * sz) e' := by
  refine ⟨Nat.dvd_add h.dv (Nat.dvd_refl _), hn, fun x hx hx2 => ?_, fun x hx hx2 => ?_⟩
  · by_cases he : x = a
    · subst he; exact hs
    · rcases dvd_apart' hx h.dv he with h1 | h1
      · exact blk_keep (h.done x hx h1) hpm (.inl h1)
      · omega
  · exact blk_keep (h.todo x hx (by omega)) hpm (.inr hx2)
theorem Half.full {sz n a : Nat} {e : Array Mem} (h : Half sz n a e) (hp : 0 < sz) (hn : n < a + 2 * sz) (hs : SortedIn bt a n e) : Blk (2 * sz) n e := fun x hx => by
  by_cases he : x = a
  · subst he; rw [Nat.min_eq_right (by omega)]; exact hs
  · rcases dvd_apart' hx h.dv he with h1 | h1
    · have := h.le; rw [Nat.min_eq_left (by omega)]; exact h.done x hx h1
    · exact sorted_one (by omega)
theorem Half.keep {sz n a : Nat} {e e' : Array Mem} (h : Half sz n a e) (hp : PermIn a n e e') (hs : SortedIn bt a n e') (hz : 0 < sz) (hn : n < a + 2 * sz) : Blk (2 * sz) n e' := fun x hx => by
  by_cases he : x = a
  · subst he; rw [Nat.min_eq_right (by omega)]; exact hs
  · rcases dvd_apart' hx h.dv he with h1 | h1
    · have := h.le; rw [Nat.min_eq_left (by omega)]; exact blk_keep (h.done x hx h1) hp (.inl h1)
    · exact sorted_one (by omega)
set_option maxHeartbeats 1000000 in
theorem st_pos {gl : Nat → Obj} (b0 cap : Nat) (d : Array Mem) (hsz : d.size ≤ 1000000000000) (hcap : d.size ≤ cap) : Spec (cx gl) 39 [.slice (some ⟨b0, 0, none⟩) d.size cap, .int .i64 ((d.size : Nat) : Int), .func (.func 25) #[] #[]] (fun _ _ => True) [ownS 37 3 (.slice (some ⟨b0, 0, none⟩) d.size cap) d.size (rc (d).toList)] (fun u rs => u = .tuple #[] ∧ ∃ d' : Array Mem, (PermIn 0 d.size d d' ∧ SortedIn bt 0 d.size d') ∧ rs = [ownS 37 3 (.slice (some ⟨b0, 0, none⟩) d.size cap) d.size (rc (d').toList)]) := by
  have hin : ∀ (e : Array Mem), e.size = d.size → ∀ a b, a ≤ b → b ≤ d.size → Spec (cx gl) 47 [.slice (some ⟨b0, 0, none⟩) d.size cap, .int .i64 ((a : Nat) : Int), .int .i64 ((b : Nat) : Int), .func (.func 25) #[] #[]] (fun _ _ => True) [ownS 37 3 (.slice (some ⟨b0, 0, none⟩) d.size cap) d.size (rc (e).toList)] (fun u rs => u = .tuple #[] ∧ ∃ d' : Array Mem, PermIn a b e d' ∧ SortedIn bt a b d' ∧ rs = [ownS 37 3 (.slice (some ⟨b0, 0, none⟩) d.size cap) d.size (rc (d').toList)]) := fun e he a b h1 h2 => by have h9 := insM_ok (gl := gl) (some ⟨b0, 0, none⟩) cap e a b h1 (by omega) (by omega); rw [he] at h9; exact h9
  have hsy : ∀ (e : Array Mem), e.size = d.size → ∀ a m b, a < m → m < b → b ≤ d.size → SortedIn bt a m e → SortedIn bt m b e → Spec (cx gl) 48 [.slice (some ⟨b0, 0, none⟩) d.size cap, .int .i64 ((a : Nat) : Int), .int .i64 ((m : Nat) : Int), .int .i64 ((b : Nat) : Int), .func (.func 25) #[] #[]] (fun _ _ => True) [ownS 37 3 (.slice (some ⟨b0, 0, none⟩) d.size cap) d.size (rc (e).toList)] (fun u rs => u = .tuple #[] ∧ ∃ d' : Array Mem, (PermIn a b e d' ∧ SortedIn bt a b d') ∧ rs = [ownS 37 3 (.slice (some ⟨b0, 0, none⟩) d.size cap) d.size (rc (d').toList)]) := fun e he a m b h2 h3 h4 h5 h6 => by have h9 := sym_ok (gl := gl) (b - a) b0 cap e a m b (Nat.le_refl _) h2 h3 (by omega) (by omega) (by omega) h5 h6; rw [he] at h9; exact h9
  refine Spec.enter (C := cx gl) Try.func39 rfl 63 rfl rfl fun w0 h0 hsep hsub hpre => ?_
  show St (cx gl) _ [(0, .slice (some ⟨b0, 0, none⟩) d.size cap), (1, .int .i64 ((d.size : Nat) : Int)), (2, .func (.func 25) #[] #[])] _ _
  refine R_seq ?_
  refine R_region ?_
  refine L_val rfl rfl rfl (OpP.v (P_assign rfl rfl)) ?_
  refine L_nil ?_
  refine Q_then ?_
  refine R_seq ?_
  refine R_region ?_
  refine L_val rfl rfl rfl (OpP.v (P_move rfl rfl)) ?_
  refine L_val rfl rfl rfl (OpP.v (P_assign rfl rfl)) ?_
  refine L_val rfl rfl rfl (OpP.v (P_assign rfl rfl)) ?_
  refine L_nil ?_
  refine St.env (.cons (t := 0) rfl (.cons (t := 1) rfl (.cons (t := 2) rfl (.cons (t := 6) rfl (.cons (t := 7) rfl (.cons (t := 8) rfl .nil)))))) ?_
  refine Q_then ?_
  refine R_seq ?_
  refine R_block ?_
  refine R_loopE (G := Nat × Array Mem) (.cons (t := 0) rfl (.cons (t := 1) rfl (.cons (t := 2) rfl (.cons (t := 6) rfl .nil)))) (fun g => [(7, .int .i64 ((g.1 : Nat) : Int)), (8, .int .i64 ((g.1 + 20 : Nat) : Int))]) (fun g => [ownS 37 3 (.slice (some ⟨b0, 0, none⟩) d.size cap) d.size (rc (g.2).toList)]) (fun g => g.1 ≤ d.size ∧ 20 ∣ g.1 ∧ g.2.size = d.size ∧ PermIn 0 d.size d g.2 ∧ ∀ x, 20 ∣ x → x + 20 ≤ g.1 → SortedIn bt x (x + 20) g.2) (fun g => d.size - g.1) (0, d) (by show (0) ≤ d.size ∧ 20 ∣ (0) ∧ (d).size = d.size ∧ PermIn 0 d.size d (d) ∧ ∀ x, 20 ∣ x → x + 20 ≤ (0) → SortedIn bt x (x + 20) (d); exact ⟨Nat.zero_le _, ⟨0, rfl⟩, rfl, permIn_refl _ _ _, fun x _ h => by omega⟩) (by repeat (first | exact .nil | refine .cons rfl ?_ | refine .consE rfl (by first | rfl | (congr 1; omega) | (congr 1; push_cast; omega)) ?_)) (Weak.refl _) ?_
  rintro ⟨a, e⟩ hinv
  replace hinv : a ≤ d.size ∧ 20 ∣ a ∧ e.size = d.size ∧ PermIn 0 d.size d e ∧ ∀ x, 20 ∣ x → x + 20 ≤ a → SortedIn bt x (x + 20) e := hinv
  show St (cx gl) _ ((7, .int .i64 ((a : Nat) : Int)) :: (8, .int .i64 ((a + 20 : Nat) : Int)) :: _) [ownS 37 3 (.slice (some ⟨b0, 0, none⟩) d.size cap) d.size (rc (e).toList)] _
  obtain ⟨han, hdv, hes, hpe, hdo⟩ := hinv
  refine R_seq ?_
  refine R_seq ?_
  refine R_region ?_
  refine L_val rfl rfl rfl (OpP.v (P_move rfl rfl)) ?_
  refine L_val rfl rfl rfl (OpP.v (P_move rfl rfl)) ?_
  refine L_val rfl rfl rfl (OpP.v (P_leq rfl rfl rfl)) ?_
  refine L_nil ?_
  refine Q_then ?_
  refine R_condP rfl (fun hle => ?_) (fun hle => ?_)
  · skip
    have hle : a + 20 ≤ d.size := by omega
    refine R_skip ?_
    refine Q_then ?_
    refine R_block ?_
    refine R_seq ?_
    refine R_region ?_
    refine L_val rfl rfl rfl (OpP.v (P_move rfl rfl)) ?_
    refine L_val rfl rfl rfl (OpP.v (P_move rfl rfl)) ?_
    refine L_val rfl rfl rfl (OpP.v (P_move rfl rfl)) ?_
    refine L_val rfl rfl rfl (OpP.v (P_move rfl rfl)) ?_
    refine L_op rfl (W_call rfl rfl rfl rfl fn_ca_47 (hin e hes a (a + 20) (by omega) (by omega)) (Split.one (p := [])) (fun _ _ _ _ _ _ _ => trivial) fun vv rs1 ⟨z1, e1, hp_e1, hs_e1, z2⟩ => ?_)
    subst z1; subst z2
    refine St.res (rs' := [ownS 37 3 (.slice (some ⟨b0, 0, none⟩) d.size cap) d.size (rc (e1).toList)]) (Weak.refl _) ?_
    refine L_nil ?_
    refine St.env (.cons (t := 0) rfl (.cons (t := 1) rfl (.cons (t := 2) rfl (.cons (t := 6) rfl (.cons (t := 7) rfl (.cons (t := 8) rfl (.cons (t := 11) rfl (.cons (t := 12) rfl (.cons (t := 13) rfl (.cons (t := 14) rfl (.cons (t := 15) rfl (.cons (t := 16) rfl (.cons (t := 17) rfl .nil))))))))))))) ?_
    refine Q_then ?_
    refine R_seq ?_
    refine R_region ?_
    refine L_val rfl rfl rfl (OpP.v (P_move rfl rfl)) ?_
    refine L_val rfl rfl rfl (OpP.v (P_assign rfl rfl)) ?_
    refine L_nil ?_
    refine Q_then ?_
    refine R_region ?_
    refine L_val rfl rfl rfl (OpP.v (P_move rfl rfl)) ?_
    refine L_val rfl rfl rfl (OpP.v (P_move rfl rfl)) ?_
    first | (refine L_val rfl rfl rfl (OpP.v (P_addN rfl rfl rfl (by simp only [fits]; omega))) ?_) | (refine L_val rfl rfl rfl (OpP.v (P_add rfl rfl rfl)) ?_)
    refine L_val rfl rfl rfl (OpP.v (P_assign rfl rfl)) ?_
    refine L_nil ?_
    refine Q_block ?_
    exact Q_round (a + 20, e1) (by show (a + 20) ≤ d.size ∧ 20 ∣ (a + 20) ∧ (e1).size = d.size ∧ PermIn 0 d.size d (e1) ∧ ∀ x, 20 ∣ x → x + 20 ≤ (a + 20) → SortedIn bt x (x + 20) (e1); exact ⟨by omega, Nat.dvd_add hdv (Nat.dvd_refl _), by rw [hp_e1.1, hes], permTr hpe (permMono hp_e1 (Nat.zero_le _) (by omega) (by omega)), ins_next hdv hdo hp_e1 hs_e1⟩) (by show d.size - (a + 20) < d.size - a; omega) (by repeat (first | exact .nil | refine .cons rfl ?_ | refine .consE rfl (by first | rfl | (congr 1; omega) | (congr 1; push_cast; omega)) ?_)) (Weak.refl _)
  · skip
    have hle : d.size < a + 20 := by omega
    refine R_exit ?_
    refine Q_then_exit ?_
    refine Q_then_exit ?_
    refine Q_block_eq ?_
    refine St.env (.cons (t := 0) rfl (.cons (t := 1) rfl (.cons (t := 2) rfl (.cons (t := 6) rfl (.cons (t := 7) rfl (.cons (t := 8) rfl .nil)))))) ?_
    refine Q_then ?_
    refine R_seq ?_
    refine R_region ?_
    refine L_val rfl rfl rfl (OpP.v (P_move rfl rfl)) ?_
    refine L_val rfl rfl rfl (OpP.v (P_move rfl rfl)) ?_
    refine L_val rfl rfl rfl (OpP.v (P_move rfl rfl)) ?_
    refine L_val rfl rfl rfl (OpP.v (P_move rfl rfl)) ?_
    refine L_op rfl (W_call rfl rfl rfl rfl fn_ca_47 (hin e hes a d.size (by omega) (Nat.le_refl _)) (Split.one (p := [])) (fun _ _ _ _ _ _ _ => trivial) fun vv rs1 ⟨z1, e2, hp_e2, hs_e2, z2⟩ => ?_)
    subst z1; subst z2
    refine St.res (rs' := [ownS 37 3 (.slice (some ⟨b0, 0, none⟩) d.size cap) d.size (rc (e2).toList)]) (Weak.refl _) ?_
    have hB := blk_first hdv han hle hdo hp_e2 hs_e2
    have hP2 := permTr hpe (permMono hp_e2 (Nat.zero_le _) (Nat.le_refl _) (by omega))
    refine L_nil ?_
    refine St.env (.cons (t := 0) rfl (.cons (t := 1) rfl (.cons (t := 2) rfl (.cons (t := 6) rfl (.cons (t := 7) rfl (.cons (t := 8) rfl .nil)))))) ?_
    refine Q_then ?_
    refine R_block ?_
    refine R_loopE (G := Nat × Array Mem) (.cons (t := 0) rfl (.cons (t := 1) rfl (.cons (t := 2) rfl .nil))) (fun g => [(6, .int .i64 ((g.1 : Nat) : Int))]) (fun g => [ownS 37 3 (.slice (some ⟨b0, 0, none⟩) d.size cap) d.size (rc (g.2).toList)]) (fun g => 0 < g.1 ∧ g.1 ≤ 2 * d.size + 20 ∧ g.2.size = d.size ∧ PermIn 0 d.size d g.2 ∧ Blk g.1 d.size g.2) (fun g => d.size - g.1) (20, e2) (by show 0 < (20) ∧ (20) ≤ 2 * d.size + 20 ∧ (e2).size = d.size ∧ PermIn 0 d.size d (e2) ∧ Blk (20) d.size (e2); exact ⟨by omega, by omega, by rw [hp_e2.1, hes], hP2, hB⟩) (by repeat (first | exact .nil | refine .cons rfl ?_ | refine .consE rfl (by first | rfl | (congr 1; omega) | (congr 1; push_cast; omega)) ?_)) (Weak.refl _) ?_
    rintro ⟨z, g⟩ hinv
    replace hinv : 0 < z ∧ z ≤ 2 * d.size + 20 ∧ g.size = d.size ∧ PermIn 0 d.size d g ∧ Blk z d.size g := hinv
    show St (cx gl) _ ((6, .int .i64 ((z : Nat) : Int)) :: _) [ownS 37 3 (.slice (some ⟨b0, 0, none⟩) d.size cap) d.size (rc (g).toList)] _
    obtain ⟨hz, hzm, hgs, hpg, hBg⟩ := hinv
    refine R_seq ?_
    refine R_seq ?_
    refine R_region ?_
    refine L_val rfl rfl rfl (OpP.v (P_move rfl rfl)) ?_
    refine L_val rfl rfl rfl (OpP.v (P_move rfl rfl)) ?_
    refine L_val rfl rfl rfl (OpP.v (P_lss rfl rfl rfl)) ?_
    refine L_nil ?_
    refine Q_then ?_
    refine R_condP rfl (fun hlt => ?_) (fun hlt => ?_)
    · skip
      have hlt : z < d.size := by omega
      refine R_skip ?_
      refine Q_then ?_
      refine R_block ?_
      refine R_seq ?_
      refine R_region ?_
      refine L_val rfl rfl rfl (OpP.v (P_move rfl rfl)) ?_
      first | (refine L_val rfl rfl rfl (OpP.v (P_mulN rfl rfl rfl (by simp only [fits]; omega))) ?_) | (refine L_val rfl rfl rfl (OpP.v (P_mul rfl rfl rfl)) ?_)
      refine L_val rfl rfl rfl (OpP.v (P_assign rfl rfl)) ?_
      refine L_val rfl rfl rfl (OpP.v (P_assign rfl rfl)) ?_
      refine L_nil ?_
      refine Q_then ?_
      refine R_seq ?_
      refine R_block ?_
      refine R_loopE (G := Nat × Array Mem) (.cons (t := 0) rfl (.cons (t := 1) rfl (.cons (t := 2) rfl (.cons (t := 6) rfl (.cons (t := 28) rfl (.cons (t := 29) rfl (.cons (t := 30) rfl (.cons (t := 31) rfl (.cons (t := 32) rfl .nil))))))))) (fun g => [(7, .int .i64 ((g.1 : Nat) : Int)), (8, .int .i64 ((g.1 + 2 * z : Nat) : Int))]) (fun g => [ownS 37 3 (.slice (some ⟨b0, 0, none⟩) d.size cap) d.size (rc (g.2).toList)]) (fun g => g.2.size = d.size ∧ PermIn 0 d.size d g.2 ∧ Half z d.size g.1 g.2) (fun g => d.size - g.1) (0, g) (by show (g).size = d.size ∧ PermIn 0 d.size d (g) ∧ Half z d.size (0) (g); exact ⟨hgs, hpg, Half.start hBg hz⟩) (by repeat (first | exact .nil | refine .cons rfl ?_ | refine .consE rfl (by first | rfl | (congr 1; omega) | (congr 1; push_cast; omega)) ?_)) (Weak.refl _) ?_
      rintro ⟨a, h⟩ hinv
      replace hinv : h.size = d.size ∧ PermIn 0 d.size d h ∧ Half z d.size a h := hinv
      show St (cx gl) _ ((7, .int .i64 ((a : Nat) : Int)) :: (8, .int .i64 ((a + 2 * z : Nat) : Int)) :: _) [ownS 37 3 (.slice (some ⟨b0, 0, none⟩) d.size cap) d.size (rc (h).toList)] _
      obtain ⟨hhs, hph, hH⟩ := hinv
      refine R_seq ?_
      refine R_seq ?_
      refine R_region ?_
      refine L_val rfl rfl rfl (OpP.v (P_move rfl rfl)) ?_
      refine L_val rfl rfl rfl (OpP.v (P_move rfl rfl)) ?_
      refine L_val rfl rfl rfl (OpP.v (P_leq rfl rfl rfl)) ?_
      refine L_nil ?_
      refine Q_then ?_
      refine R_condP rfl (fun hle2 => ?_) (fun hle2 => ?_)
      · skip
        have hle2 : a + 2 * z ≤ d.size := by omega
        refine R_skip ?_
        refine Q_then ?_
        refine R_block ?_
        refine R_seq ?_
        refine R_region ?_
        refine L_val rfl rfl rfl (OpP.v (P_move rfl rfl)) ?_
        refine L_val rfl rfl rfl (OpP.v (P_move rfl rfl)) ?_
        refine L_val rfl rfl rfl (OpP.v (P_move rfl rfl)) ?_
        refine L_val rfl rfl rfl (OpP.v (P_move rfl rfl)) ?_
        first | (refine L_val rfl rfl rfl (OpP.v (P_addN rfl rfl rfl (by simp only [fits]; omega))) ?_) | (refine L_val rfl rfl rfl (OpP.v (P_add rfl rfl rfl)) ?_)
        refine L_val rfl rfl rfl (OpP.v (P_move rfl rfl)) ?_
        refine L_val rfl rfl rfl (OpP.v (P_move rfl rfl)) ?_
        refine L_op rfl (W_call rfl rfl rfl rfl fn_ca_48 (hsy h hhs a (a + z) (a + 2 * z) (by omega) (by omega) (by omega) (hH.left (by omega)) (hH.right (by omega) (Nat.le_refl _))) (Split.one (p := [])) (fun _ _ _ _ _ _ _ => trivial) fun vv rs1 ⟨z1, h1, ⟨hp_h1, hs_h1⟩, z2⟩ => ?_)
        subst z1; subst z2
        refine St.res (rs' := [ownS 37 3 (.slice (some ⟨b0, 0, none⟩) d.size cap) d.size (rc (h1).toList)]) (Weak.refl _) ?_
        refine L_nil ?_
        refine St.env (.cons (t := 0) rfl (.cons (t := 1) rfl (.cons (t := 2) rfl (.cons (t := 6) rfl (.cons (t := 7) rfl (.cons (t := 8) rfl (.cons (t := 28) rfl (.cons (t := 29) rfl (.cons (t := 30) rfl (.cons (t := 31) rfl (.cons (t := 32) rfl (.cons (t := 33) rfl (.cons (t := 34) rfl (.cons (t := 35) rfl (.cons (t := 36) rfl (.cons (t := 37) rfl (.cons (t := 38) rfl (.cons (t := 39) rfl (.cons (t := 40) rfl (.cons (t := 41) rfl (.cons (t := 42) rfl .nil))))))))))))))))))))) ?_
        refine Q_then ?_
        refine R_seq ?_
        refine R_region ?_
        refine L_val rfl rfl rfl (OpP.v (P_move rfl rfl)) ?_
        refine L_val rfl rfl rfl (OpP.v (P_assign rfl rfl)) ?_
        refine L_nil ?_
        refine Q_then ?_
        refine R_region ?_
        refine L_val rfl rfl rfl (OpP.v (P_move rfl rfl)) ?_
        refine L_val rfl rfl rfl (OpP.v (P_move rfl rfl)) ?_
        first | (refine L_val rfl rfl rfl (OpP.v (P_mulN rfl rfl rfl (by simp only [fits]; omega))) ?_) | (refine L_val rfl rfl rfl (OpP.v (P_mul rfl rfl rfl)) ?_)
        first | (refine L_val rfl rfl rfl (OpP.v (P_addN rfl rfl rfl (by simp only [fits]; omega))) ?_) | (refine L_val rfl rfl rfl (OpP.v (P_add rfl rfl rfl)) ?_)
        refine L_val rfl rfl rfl (OpP.v (P_assign rfl rfl)) ?_
        refine L_nil ?_
        refine Q_block ?_
        exact Q_round (a + 2 * z, h1) (by show (h1).size = d.size ∧ PermIn 0 d.size d (h1) ∧ Half z d.size (a + 2 * z) (h1); exact ⟨by rw [hp_h1.1, hhs], permTr hph (permMono hp_h1 (Nat.zero_le _) (by omega) (by omega)), hH.next hz (by omega) hp_h1 hs_h1⟩) (by show d.size - (a + 2 * z) < d.size - a; omega) (by repeat (first | exact .nil | refine .cons rfl ?_ | refine .consE rfl (by first | rfl | (congr 1; omega) | (congr 1; push_cast; omega)) ?_)) (Weak.refl _)
      · skip
        have hle2 : d.size < a + 2 * z := by omega
        have haz := hH.le
        refine R_exit ?_
        refine Q_then_exit ?_
        refine Q_then_exit ?_
        refine Q_block_eq ?_
        refine Q_then ?_
        refine R_seq ?_
        refine R_seq ?_
        refine R_region ?_
        refine L_val rfl rfl rfl (OpP.v (P_move rfl rfl)) ?_
        refine L_val rfl rfl rfl (OpP.v (P_move rfl rfl)) ?_
        first | (refine L_val rfl rfl rfl (OpP.v (P_addN rfl rfl rfl (by simp only [fits]; omega))) ?_) | (refine L_val rfl rfl rfl (OpP.v (P_add rfl rfl rfl)) ?_)
        refine L_val rfl rfl rfl (OpP.v (P_assign rfl rfl)) ?_
        refine L_nil ?_
        refine Q_then ?_
        refine R_seq ?_
        refine R_region ?_
        refine L_val rfl rfl rfl (OpP.v (P_move rfl rfl)) ?_
        refine L_val rfl rfl rfl (OpP.v (P_move rfl rfl)) ?_
        refine L_val rfl rfl rfl (OpP.v (P_lss rfl rfl rfl)) ?_
        refine L_nil ?_
        refine Q_then ?_
        refine R_condP rfl (fun hlt3 => ?_) (fun hlt3 => ?_)
        · skip
          have hlt3 : a + z < d.size := by omega
          refine R_region ?_
          refine L_val rfl rfl rfl (OpP.v (P_move rfl rfl)) ?_
          refine L_val rfl rfl rfl (OpP.v (P_move rfl rfl)) ?_
          refine L_val rfl rfl rfl (OpP.v (P_move rfl rfl)) ?_
          refine L_val rfl rfl rfl (OpP.v (P_move rfl rfl)) ?_
          refine L_val rfl rfl rfl (OpP.v (P_move rfl rfl)) ?_
          refine L_op rfl (W_call rfl rfl rfl rfl fn_ca_48 (hsy h hhs a (a + z) d.size (by omega) (by omega) (by omega) (hH.left (by omega)) (hH.right (by omega) (by omega))) (Split.one (p := [])) (fun _ _ _ _ _ _ _ => trivial) fun vv rs1 ⟨z1, g3, ⟨hp_g3, hs_g3⟩, z2⟩ => ?_)
          subst z1; subst z2
          refine St.res (rs' := [ownS 37 3 (.slice (some ⟨b0, 0, none⟩) d.size cap) d.size (rc (g3).toList)]) (Weak.refl _) ?_
          refine L_nil ?_
          refine St.env (.cons (t := 0) rfl (.cons (t := 1) rfl (.cons (t := 2) rfl (.cons (t := 6) rfl (.cons (t := 7) rfl (.cons (t := 8) rfl (.cons (t := 9) rfl (.cons (t := 28) rfl (.cons (t := 29) rfl (.cons (t := 30) rfl (.cons (t := 31) rfl (.cons (t := 32) rfl (.cons (t := 33) rfl (.cons (t := 34) rfl (.cons (t := 35) rfl (.cons (t := 49) rfl (.cons (t := 50) rfl (.cons (t := 51) rfl (.cons (t := 52) rfl (.cons (t := 53) rfl (.cons (t := 54) rfl (.cons (t := 55) rfl (.cons (t := 56) rfl (.cons (t := 57) rfl (.cons (t := 58) rfl (.cons (t := 59) rfl .nil)))))))))))))))))))))))))) ?_
          refine Q_then ?_
          refine R_region ?_
          refine L_val rfl rfl rfl (OpP.v (P_move rfl rfl)) ?_
          first | (refine L_val rfl rfl rfl (OpP.v (P_mulN rfl rfl rfl (by simp only [fits]; omega))) ?_) | (refine L_val rfl rfl rfl (OpP.v (P_mul rfl rfl rfl)) ?_)
          refine L_val rfl rfl rfl (OpP.v (P_assign rfl rfl)) ?_
          refine L_nil ?_
          refine Q_block ?_
          exact Q_round (z * 2, g3) (by show 0 < (z * 2) ∧ (z * 2) ≤ 2 * d.size + 20 ∧ (g3).size = d.size ∧ PermIn 0 d.size d (g3) ∧ Blk (z * 2) d.size (g3); exact ⟨by omega, by omega, by rw [hp_g3.1, hhs], permTr hph (permMono hp_g3 (Nat.zero_le _) (Nat.le_refl _) (by omega)), by rw [Nat.mul_comm]; exact hH.keep hp_g3 hs_g3 hz (by omega)⟩) (by show d.size - z * 2 < d.size - z; omega) (by repeat (first | exact .nil | refine .cons rfl ?_ | refine .consE rfl (by first | rfl | (congr 1; omega) | (congr 1; push_cast; omega)) ?_)) (Weak.refl _)
        · skip
          have hlt3 : d.size ≤ a + z := by omega
          refine R_skip ?_
          refine Q_then ?_
          refine R_region ?_
          refine L_val rfl rfl rfl (OpP.v (P_move rfl rfl)) ?_
          first | (refine L_val rfl rfl rfl (OpP.v (P_mulN rfl rfl rfl (by simp only [fits]; omega))) ?_) | (refine L_val rfl rfl rfl (OpP.v (P_mul rfl rfl rfl)) ?_)
          refine L_val rfl rfl rfl (OpP.v (P_assign rfl rfl)) ?_
          refine L_nil ?_
          refine Q_block ?_
          exact Q_round (z * 2, h) (by show 0 < (z * 2) ∧ (z * 2) ≤ 2 * d.size + 20 ∧ (h).size = d.size ∧ PermIn 0 d.size d (h) ∧ Blk (z * 2) d.size (h); exact ⟨by omega, by omega, hhs, hph, by rw [Nat.mul_comm]; exact hH.full hz (by omega) (by have := hH.todo a (dvd_two hH.dv) (Nat.le_refl _); rwa [Nat.min_eq_right (by omega)] at this)⟩) (by show d.size - z * 2 < d.size - z; omega) (by repeat (first | exact .nil | refine .cons rfl ?_ | refine .consE rfl (by first | rfl | (congr 1; omega) | (congr 1; push_cast; omega)) ?_)) (Weak.refl _)
    · skip
      have hge : d.size ≤ z := by omega
      have hfin := hBg 0 ⟨0, rfl⟩
      rw [Nat.zero_add, Nat.min_eq_right hge] at hfin
      refine R_exit ?_
      refine Q_then_exit ?_
      refine Q_then_exit ?_
      refine Q_block_eq ?_
      refine St.env (.nil) ?_
      exact R_end0 (rs2 := _) rfl rfl (.nil) (⟨rfl, _, ⟨hpg, hfin⟩, rfl⟩) (Weak.refl _)
theorem st_zero {gl : Nat → Obj} (base : Option Addr) (cap : Nat) : SpecR (cx gl) 39 [.slice base 0 cap, .int .i64 0, .func (.func 25) #[] #[]] (fun _ _ => True) [ownS 37 3 (.slice base 0 cap) 0 (rc ([] : List Mem))] (.tuple #[]) [ownS 37 3 (.slice base 0 cap) 0 (rc ([] : List Mem))] := by
  refine Spec.enter (C := cx gl) Try.func39 rfl 63 rfl rfl fun w0 h0 hsep hsub hpre => ?_
  show St (cx gl) _ [(0, .slice base 0 cap), (1, .int .i64 0), (2, .func (.func 25) #[] #[])] _ _
  refine R_seq ?_
  refine R_region ?_
  refine L_val rfl rfl rfl (OpP.v (P_assign rfl rfl)) ?_
  refine L_nil ?_
  refine Q_then ?_
  refine R_seq ?_
  refine R_region ?_
  refine L_val rfl rfl rfl (OpP.v (P_move rfl rfl)) ?_
  refine L_val rfl rfl rfl (OpP.v (P_assign rfl rfl)) ?_
  refine L_val rfl rfl rfl (OpP.v (P_assign rfl rfl)) ?_
  refine L_nil ?_
  refine St.env (.cons (t := 0) rfl (.cons (t := 1) rfl (.cons (t := 2) rfl (.cons (t := 6) rfl (.cons (t := 7) rfl (.cons (t := 8) rfl .nil)))))) ?_
  refine Q_then ?_
  refine R_seq ?_
  refine R_block ?_
  refine R_loopE (G := Unit) (.cons (t := 0) rfl (.cons (t := 1) rfl (.cons (t := 2) rfl (.cons (t := 6) rfl .nil)))) (fun g => [(7, .int .i64 0), (8, .int .i64 20)]) (fun g => [ownS 37 3 (.slice base 0 cap) 0 (rc ([] : List Mem))]) (fun g => True) (fun g => 0) () (trivial) (by repeat (first | exact .nil | refine .cons rfl ?_ | refine .consE rfl (by first | rfl | (congr 1; omega) | (congr 1; push_cast; omega)) ?_)) (Weak.refl _) ?_
  rintro ⟨⟩ hinv
  replace hinv : True := hinv
  show St (cx gl) _ ((7, .int .i64 0) :: (8, .int .i64 20) :: _) [ownS 37 3 (.slice base 0 cap) 0 (rc ([] : List Mem))] _
  refine R_seq ?_
  refine R_seq ?_
  refine R_region ?_
  refine L_val rfl rfl rfl (OpP.v (P_move rfl rfl)) ?_
  refine L_val rfl rfl rfl (OpP.v (P_move rfl rfl)) ?_
  refine L_val rfl rfl rfl (OpP.v (P_leq rfl rfl rfl)) ?_
  refine L_nil ?_
  refine Q_then ?_
  refine R_condF rfl ?_
  refine R_exit ?_
  refine Q_then_exit ?_
  refine Q_then_exit ?_
  refine Q_block_eq ?_
  refine St.env (.cons (t := 0) rfl (.cons (t := 1) rfl (.cons (t := 2) rfl (.cons (t := 6) rfl (.cons (t := 7) rfl (.cons (t := 8) rfl .nil)))))) ?_
  refine Q_then ?_
  refine R_seq ?_
  refine R_region ?_
  refine L_val rfl rfl rfl (OpP.v (P_move rfl rfl)) ?_
  refine L_val rfl rfl rfl (OpP.v (P_move rfl rfl)) ?_
  refine L_val rfl rfl rfl (OpP.v (P_move rfl rfl)) ?_
  refine L_val rfl rfl rfl (OpP.v (P_move rfl rfl)) ?_
  refine L_op rfl (W_call rfl rfl rfl rfl fn_ca_47 (insM_ok base cap (#[] : Array Mem) 0 0 (Nat.le_refl _) (Nat.le_refl _) (by decide)) (Split.one (p := [])) (fun _ _ _ _ _ _ _ => trivial) fun vv rs1 ⟨z1, e1, hp1, hs1, z2⟩ => ?_)
  subst z1; subst z2
  obtain rfl : e1 = #[] := Array.eq_empty_of_size_eq_zero hp1.1
  refine St.res (rs' := [ownS 37 3 (.slice base 0 cap) 0 (rc ([] : List Mem))]) (Weak.refl _) ?_
  refine L_nil ?_
  refine St.env (.cons (t := 0) rfl (.cons (t := 1) rfl (.cons (t := 2) rfl (.cons (t := 6) rfl (.cons (t := 7) rfl (.cons (t := 8) rfl .nil)))))) ?_
  refine Q_then ?_
  refine R_block ?_
  refine R_loopE (G := Unit) (.cons (t := 0) rfl (.cons (t := 1) rfl (.cons (t := 2) rfl (.cons (t := 7) rfl (.cons (t := 8) rfl .nil))))) (fun g => [(6, .int .i64 20)]) (fun g => [ownS 37 3 (.slice base 0 cap) 0 (rc ([] : List Mem))]) (fun g => True) (fun g => 0) () (trivial) (by repeat (first | exact .nil | refine .cons rfl ?_ | refine .consE rfl (by first | rfl | (congr 1; omega) | (congr 1; push_cast; omega)) ?_)) (Weak.refl _) ?_
  rintro ⟨⟩ hinv
  replace hinv : True := hinv
  show St (cx gl) _ ((6, .int .i64 20) :: _) [ownS 37 3 (.slice base 0 cap) 0 (rc ([] : List Mem))] _
  refine R_seq ?_
  refine R_seq ?_
  refine R_region ?_
  refine L_val rfl rfl rfl (OpP.v (P_move rfl rfl)) ?_
  refine L_val rfl rfl rfl (OpP.v (P_move rfl rfl)) ?_
  refine L_val rfl rfl rfl (OpP.v (P_lss rfl rfl rfl)) ?_
  refine L_nil ?_
  refine Q_then ?_
  refine R_condF rfl ?_
  refine R_exit ?_
  refine Q_then_exit ?_
  refine Q_then_exit ?_
  refine Q_block_eq ?_
  refine St.env (.nil) ?_
  exact R_end0 (rs2 := _) rfl rfl (.nil) (⟨rfl, rfl⟩) (Weak.refl _)
theorem ss_pos {gl : Nat → Obj} (b0 cap : Nat) (d : Array Mem) (hsz : d.size ≤ 1000000000000) (hcap : d.size ≤ cap) : Spec (cx gl) 24 [.slice (some ⟨b0, 0, none⟩) d.size cap, .func (.func 25) #[] #[]] (fun _ _ => True) [ownS 37 3 (.slice (some ⟨b0, 0, none⟩) d.size cap) d.size (rc (d).toList)] (fun u rs => u = .tuple #[] ∧ ∃ d' : Array Mem, (PermIn 0 d.size d d' ∧ SortedIn bt 0 d.size d') ∧ rs = [ownS 37 3 (.slice (some ⟨b0, 0, none⟩) d.size cap) d.size (rc (d').toList)]) := by
  refine Spec.enter (C := cx gl) Try.func24 rfl 9 rfl rfl fun w0 h0 hsep hsub hpre => ?_
  show St (cx gl) _ [(0, .slice (some ⟨b0, 0, none⟩) d.size cap), (1, .func (.func 25) #[] #[])] _ _
  refine R_region ?_
  refine L_val rfl rfl rfl (OpP.v (P_move rfl rfl)) ?_
  refine L_val rfl rfl rfl (OpP.v (P_move rfl rfl)) ?_
  refine L_val rfl rfl rfl (OpP.v (P_len rfl ty_sl_33 rfl)) ?_
  refine L_val rfl rfl rfl (OpP.v (P_move rfl rfl)) ?_
  refine L_op rfl (W_call rfl rfl rfl rfl fn_ca_39 (st_pos b0 cap d hsz hcap) (Split.one (p := [])) (fun _ _ _ _ _ _ _ => trivial) fun vv rs1 ⟨z1, e1, he1, z2⟩ => ?_)
  subst z1; subst z2
  refine St.res (rs' := [ownS 37 3 (.slice (some ⟨b0, 0, none⟩) d.size cap) d.size (rc (e1).toList)]) (Weak.refl _) ?_
  refine L_nil ?_
  refine St.env (.nil) ?_
  exact R_end0 (rs2 := _) rfl rfl (.nil) (⟨rfl, _, he1, rfl⟩) (Weak.refl _)
theorem ss_zero {gl : Nat → Obj} (base : Option Addr) (cap : Nat) : SpecR (cx gl) 24 [.slice base 0 cap, .func (.func 25) #[] #[]] (fun _ _ => True) [ownS 37 3 (.slice base 0 cap) 0 (rc ([] : List Mem))] (.tuple #[]) [ownS 37 3 (.slice base 0 cap) 0 (rc ([] : List Mem))] := by
  refine Spec.enter (C := cx gl) Try.func24 rfl 9 rfl rfl fun w0 h0 hsep hsub hpre => ?_
  show St (cx gl) _ [(0, .slice base 0 cap), (1, .func (.func 25) #[] #[])] _ _
  refine R_region ?_
  refine L_val rfl rfl rfl (OpP.v (P_move rfl rfl)) ?_
  refine L_val rfl rfl rfl (OpP.v (P_move rfl rfl)) ?_
  refine L_val rfl rfl rfl (OpP.v (P_len rfl ty_sl_33 rfl)) ?_
  refine L_val rfl rfl rfl (OpP.v (P_move rfl rfl)) ?_
  refine L_op rfl (W_callR rfl rfl rfl rfl fn_ca_39 (st_zero base cap) (Split.one (p := [])) (fun _ _ _ _ _ _ _ => trivial) ?_)
  refine L_nil ?_
  refine St.env (.nil) ?_
  exact R_end0 (rs2 := _) rfl rfl (.nil) (⟨rfl, rfl⟩) (Weak.refl _)
theorem ssM_ok {gl : Nat → Obj} (base : Option Addr) (cap : Nat) (d : Array Mem) (hsz : d.size ≤ 1000000000000) : Spec (cx gl) 24 [.slice base d.size cap, .func (.func 25) #[] #[]] (fun _ _ => True) [ownS 37 3 (.slice base d.size cap) d.size (rc (d).toList)] (fun u rs => u = .tuple #[] ∧ ∃ d' : Array Mem, (PermIn 0 d.size d d' ∧ SortedIn bt 0 d.size d') ∧ rs = [ownS 37 3 (.slice base d.size cap) d.size (rc (d').toList)]) := by
  intro w h hsep sub hp
  rcases Nat.eq_zero_or_pos d.size with h0 | hpos
  · obtain rfl : d = #[] := Array.eq_empty_of_size_eq_zero h0
    refine (ss_zero base cap w h hsep sub hp).mono ?_
    rintro e w' ⟨v, rs, h', rfl, ⟨rfl, rfl⟩, hs, mv⟩
    exact ⟨_, _, h', rfl, ⟨rfl, #[], ⟨permIn_refl _ _ _, sorted_one (by decide)⟩, rfl⟩, hs, mv⟩
  · obtain hown := Sep.single.1 hsep
    obtain ⟨b, hb, hc⟩ : ∃ b, base = some ⟨b, 0, none⟩ ∧ d.size ≤ cap := by
      rcases hown.2 with ⟨_, h0, _⟩ | ⟨b', cap', junk, e, hc, _⟩
      · omega
      · simp only [Value.slice.injEq] at e; exact ⟨b', e.1, by omega⟩
    subst hb
    exact ss_pos b cap d hsz hc w h hsep sub hp
end Go.Proofs.Ytfhjhaogmdaepaa
