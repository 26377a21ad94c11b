/- Go's stable sort: merging. Printed by gen.py. -/
import Derived.Test.YtfhjhaogmdaepaaSrtB
set_option linter.unusedVariables false
set_option linter.unusedSimpArgs false
set_option maxRecDepth 100000
namespace Go.Proofs.Ytfhjhaogmdaepaa
open Go Go.RowKit Go.Proofs Go.Sort
def SymOk (gl : Nat → Obj) (N : Nat) : Prop := ∀ (b0 cap : Nat) (d : Array Mem) (a m b : Nat), b - a ≤ N → a < m → m < b → b ≤ d.size → d.size ≤ 4611686018427387 → d.size ≤ cap → SortedIn bt a m d → SortedIn bt m b d → Spec (cx gl) 48 [.slice (some ⟨b0, 0, none⟩) d.size cap, .int .i64 ((a : Nat) : Int), .int .i64 ((m : Nat) : Int), .int .i64 ((b : Nat) : Int), .func (.func 25) #[] #[]] (fun _ _ => True) [ownS 37 3 (.slice (some ⟨b0, 0, none⟩) d.size cap) d.size (rc (d).toList)] (fun u rs => u = .tuple #[] ∧ ∃ d' : Array Mem, (PermIn a b d d' ∧ SortedIn bt a b d') ∧ rs = [ownS 37 3 (.slice (some ⟨b0, 0, none⟩) d.size cap) d.size (rc (d').toList)])
theorem up_all {lo i : Nat} {p : Nat → Prop} (_ : ∀ c, lo ≤ c → c < i → p c) (m : Nat) (k : ∀ c, lo ≤ c → c ≤ m → p c) : ∀ c, lo ≤ c → c < m + 1 → p c := fun c h1 h2 => k c h1 (by omega)
theorem down_all {j hi : Nat} {p : Nat → Prop} (_ : ∀ c, j ≤ c → c < hi → p c) (m : Nat) (k : ∀ c, m ≤ c → c < hi → p c) : ∀ c, m ≤ c → c < hi → p c := k
section
variable {d : Array Mem} {a m b h c mid : Nat}
theorem le_sorted {lo hi : Nat} (hs : SortedIn bt lo hi d) {i j : Nat} (h1 : lo ≤ i) (h2 : i ≤ j) (h3 : j < hi) : bt d[j]! d[i]! = false := by
  rcases Nat.lt_or_ge i j with h | h
  · exact hs i j h1 h h3
  · rw [show i = j by omega]; exact swo_bt.irrefl _
theorem up_1 (hs : SortedIn bt m b d) (h1 : m ≤ c) (h2 : c ≤ h) (h3 : h < b) (hb : bt d[h]! d[a]! = true) : bt d[c]! d[a]! = true := lt_down swo_bt (le_sorted hs h1 h2 h3) hb
theorem down_1 (hs : SortedIn bt m b d) (h1 : m ≤ h) (h2 : h ≤ c) (h3 : c < b) (hb : bt d[h]! d[a]! = false) : bt d[c]! d[a]! = false := swo_bt.ntrans _ _ _ (le_sorted hs h1 h2 h3) hb
theorem up_2 (hs : SortedIn bt a m d) (h1 : a ≤ c) (h2 : c ≤ h) (h3 : h < m) (hb : bt d[m]! d[h]! = false) : bt d[m]! d[c]! = false := swo_bt.ntrans _ _ _ hb (le_sorted hs h1 h2 h3)
theorem down_2 (hs : SortedIn bt a m d) (h1 : a ≤ h) (h2 : h ≤ c) (h3 : c < m) (hb : bt d[m]! d[h]! = true) : bt d[m]! d[c]! = true := lt_up swo_bt (le_sorted hs h1 h2 h3) hb
theorem search_mono' (hL : SortedIn bt a m d) (hR : SortedIn bt m b d) (h1 : a ≤ h) (h2 : h ≤ c) (h3 : c < m) (h4 : m ≤ mid + m - 1 - c) (h5 : mid + m - 1 - h < b) (hb : bt d[mid + m - 1 - h]! d[h]! = true) : bt d[mid + m - 1 - c]! d[c]! = true :=
  lt_down swo_bt (le_sorted hR h4 (by omega) h5) (lt_up swo_bt (le_sorted hL h1 h2 h3) hb)
theorem up_3 (hL : SortedIn bt a m d) (hR : SortedIn bt m b d) (h1 : a ≤ c) (h2 : c ≤ h) (h3 : h < m) (h4 : m ≤ mid + m - 1 - h) (h5 : mid + m - 1 - c < b) (hb : bt d[mid + m - 1 - h]! d[h]! = false) : bt d[mid + m - 1 - c]! d[c]! = false := by
  cases hc : bt d[mid + m - 1 - c]! d[c]! with
  | false => rfl
  | true => rw [search_mono' hL hR h1 h2 h3 h4 h5 hc] at hb; cases hb
theorem sort_edge {s : Nat} (h1 : SortedIn bt a s d) (h2 : SortedIn bt s mid d) (h : s ≤ a ∨ mid ≤ s) : SortedIn bt a mid d := by
  rcases h with h | h
  · exact sortSub h2 h (Nat.le_refl _)
  · exact sortSub h1 (Nat.le_refl _) h
end
set_option maxHeartbeats 4000000 in
theorem sym_step {gl : Nat → Obj} (N : Nat) (hih : SymOk gl N) (b0 cap : Nat) (d : Array Mem) (a m b : Nat) (hN : b - a ≤ N + 1) (ham : a < m) (hmb : m < b) (hb : b ≤ d.size) (hsz : d.size ≤ 4611686018427387) (hcap : d.size ≤ cap) (hSL : SortedIn bt a m d) (hSR : SortedIn bt m b d) : Spec (cx gl) 48 [.slice (some ⟨b0, 0, none⟩) d.size cap, .int .i64 ((a : Nat) : Int), .int .i64 ((m : Nat) : Int), .int .i64 ((b : Nat) : Int), .func (.func 25) #[] #[]] (fun _ _ => True) [ownS 37 3 (.slice (some ⟨b0, 0, none⟩) d.size cap) d.size (rc (d).toList)] (fun u rs => u = .tuple #[] ∧ ∃ d' : Array Mem, (PermIn a b d d' ∧ SortedIn bt a b d') ∧ rs = [ownS 37 3 (.slice (some ⟨b0, 0, none⟩) d.size cap) d.size (rc (d').toList)]) := by
  have hrec : ∀ (e : Array Mem), e.size = d.size → ∀ a m b, b - a ≤ N → a < m → m < b → b ≤ d.size → SortedIn bt a m e → SortedIn bt m b e → Spec (cx gl) 48 [.slice (some ⟨b0, 0, none⟩) d.size cap, .int .i64 ((a : Nat) : Int), .int .i64 ((m : Nat) : Int), .int .i64 ((b : Nat) : Int), .func (.func 25) #[] #[]] (fun _ _ => True) [ownS 37 3 (.slice (some ⟨b0, 0, none⟩) d.size cap) d.size (rc (e).toList)] (fun u rs => u = .tuple #[] ∧ ∃ d' : Array Mem, (PermIn a b e d' ∧ SortedIn bt a b d') ∧ rs = [ownS 37 3 (.slice (some ⟨b0, 0, none⟩) d.size cap) d.size (rc (d').toList)]) := fun e he a m b h1 h2 h3 h4 h5 h6 => by have h9 := hih b0 cap e a m b h1 h2 h3 (by omega) (by omega) (by omega) h5 h6; rw [he] at h9; exact h9
  refine Spec.enter (C := cx gl) Try.func48 rfl 220 rfl rfl fun w0 h0 hsep hsub hpre => ?_
  show St (cx gl) _ [(0, .slice (some ⟨b0, 0, none⟩) d.size cap), (1, .int .i64 ((a : Nat) : Int)), (2, .int .i64 ((m : Nat) : Int)), (3, .int .i64 ((b : Nat) : Int)), (4, .func (.func 25) #[] #[])] _ _
  refine R_seq ?_
  refine R_seq ?_
  refine R_region ?_
  refine L_val rfl rfl rfl (OpP.v (P_move rfl rfl)) ?_
  refine L_val rfl rfl rfl (OpP.v (P_move rfl rfl)) ?_
  first | (refine L_val rfl rfl rfl (OpP.v (P_subN rfl rfl rfl (by simp only [fits]; omega))) ?_) | (refine L_val rfl rfl rfl (OpP.v (P_sub rfl rfl rfl)) ?_)
  refine E_as (t := 27) (v' := .int .i64 ((m - a : Nat) : Int)) rfl (by congr 1; omega) ?_
  refine L_val rfl rfl rfl (OpP.v (P_eql rfl rfl rfl)) ?_
  refine L_nil ?_
  refine St.env (.cons (t := 0) rfl (.cons (t := 1) rfl (.cons (t := 2) rfl (.cons (t := 3) rfl (.cons (t := 4) rfl (.cons (t := 28) rfl .nil)))))) ?_
  refine Q_then ?_
  refine R_condP rfl (fun h1 => ?_) (fun h1 => ?_)
  · skip
    have hm1 : m = a + 1 := by omega
    have hga := arr_get (d := d) (i := a) (by omega)
    refine R_seq ?_
    refine R_region ?_
    refine L_val rfl rfl rfl (OpP.v (P_move rfl rfl)) ?_
    refine L_val rfl rfl rfl (OpP.v (P_assign rfl rfl)) ?_
    refine L_nil ?_
    refine St.env (.cons (t := 0) rfl (.cons (t := 1) rfl (.cons (t := 2) rfl (.cons (t := 3) rfl (.cons (t := 4) rfl (.cons (t := 10) rfl .nil)))))) ?_
    refine Q_then ?_
    refine R_seq ?_
    refine R_region ?_
    refine L_val rfl rfl rfl (OpP.v (P_move rfl rfl)) ?_
    refine L_val rfl rfl rfl (OpP.v (P_assign rfl rfl)) ?_
    refine L_nil ?_
    refine St.env (.cons (t := 0) rfl (.cons (t := 1) rfl (.cons (t := 2) rfl (.cons (t := 3) rfl (.cons (t := 4) rfl (.cons (t := 10) rfl (.cons (t := 11) rfl .nil))))))) ?_
    refine Q_then ?_
    refine R_seq ?_
    refine R_block ?_
    refine R_loopE (G := Nat × Nat) (.cons (t := 0) rfl (.cons (t := 1) rfl (.cons (t := 2) rfl (.cons (t := 3) rfl (.cons (t := 4) rfl .nil))))) (fun g => [(10, .int .i64 ((g.1 : Nat) : Int)), (11, .int .i64 ((g.2 : Nat) : Int))]) (fun _ => _) (fun g => m ≤ g.1 ∧ g.1 ≤ g.2 ∧ g.2 ≤ b ∧ (∀ c, m ≤ c → c < g.1 → bt d[c]! d[a]! = true) ∧ (∀ c, g.2 ≤ c → c < b → bt d[c]! d[a]! = false)) (fun g => g.2 - g.1) (m, b) (by show m ≤ (m) ∧ (m) ≤ (b) ∧ (b) ≤ b ∧ (∀ c, m ≤ c → c < (m) → bt d[c]! d[a]! = true) ∧ (∀ c, (b) ≤ c → c < b → bt d[c]! d[a]! = false); exact ⟨Nat.le_refl _, by omega, Nat.le_refl _, fun c _ _ => by omega, fun c _ _ => by omega⟩) (by repeat (first | exact .nil | refine .cons rfl ?_ | refine .consE rfl (by first | rfl | (congr 1; omega) | (congr 1; push_cast; omega)) ?_)) (Weak.refl _) ?_
    rintro ⟨i, j⟩ hinv
    replace hinv : m ≤ i ∧ i ≤ j ∧ j ≤ b ∧ (∀ c, m ≤ c → c < i → bt d[c]! d[a]! = true) ∧ (∀ c, j ≤ c → c < b → bt d[c]! d[a]! = false) := hinv
    show St (cx gl) _ ((10, .int .i64 ((i : Nat) : Int)) :: (11, .int .i64 ((j : Nat) : Int)) :: _) _ _
    obtain ⟨hmi, hij, hjb, hl, hr⟩ := hinv
    refine R_seq ?_
    refine R_seq ?_
    refine R_region ?_
    refine L_val rfl rfl rfl (OpP.v (P_move rfl rfl)) ?_
    refine L_val rfl rfl rfl (OpP.v (P_move rfl rfl)) ?_
    refine L_val rfl rfl rfl (OpP.v (P_lss rfl rfl rfl)) ?_
    refine L_nil ?_
    refine Q_then ?_
    refine R_condP rfl (fun hlt => ?_) (fun hlt => ?_)
    · skip
      have hgh := arr_get (d := d) (i := (i + j) / 2) (by omega)
      refine R_skip ?_
      refine Q_then ?_
      refine R_block ?_
      refine R_seq ?_
      refine R_region ?_
      refine L_val rfl rfl rfl (OpP.v (P_move rfl rfl)) ?_
      refine L_val rfl rfl rfl (OpP.v (P_move rfl rfl)) ?_
      first | (refine L_val rfl rfl rfl (OpP.v (P_addN rfl rfl rfl (by simp only [fits]; omega))) ?_) | (refine L_val rfl rfl rfl (OpP.v (P_add rfl rfl rfl)) ?_)
      first | (refine L_val rfl rfl rfl (OpP.v (P_convN rfl ty_int_3 ty_int_76 rfl (by simp only [fits]; omega))) ?_) | (refine L_val rfl rfl rfl (OpP.v (P_conv rfl ty_int_3 ty_int_76 rfl)) ?_)
      refine L_val rfl rfl rfl (OpP.v (P_shr rfl rfl rfl (by omega))) ?_
      refine E_as (t := 38) (v' := .int .u64 (((i + j) / 2 : Nat) : Int)) rfl (by have h9 := half_nat (i + j); push_cast at h9 ⊢; rw [h9]) ?_
      first | (refine L_val rfl rfl rfl (OpP.v (P_convN rfl ty_int_76 ty_int_3 rfl (by simp only [fits]; omega))) ?_) | (refine L_val rfl rfl rfl (OpP.v (P_conv rfl ty_int_76 ty_int_3 rfl)) ?_)
      refine L_val rfl rfl rfl (OpP.v (P_assign rfl rfl)) ?_
      refine L_nil ?_
      refine Q_then ?_
      refine R_seq ?_
      refine R_open [(0, 0), (1, 0), (2, 0), (3, 0), (4, 1), (5, 0), (6, 0), (7, 0), (8, 1), (9, 2), (10, 0)] mixed (by kernel_rfl) (QOk.then (QOk.block (QOk.then (QOk.block (QOk.then (QOk.then QOk.body)))))) ?_
      refine O_pure rfl rfl rfl rfl (P_move rfl rfl) ?_
      refine O_pure rfl rfl rfl rfl (P_move rfl rfl) ?_
      refine O_pure rfl rfl rfl rfl (P_move rfl rfl) ?_
      refine O_pure rfl rfl rfl rfl (P_ixs ((i + j) / 2) rfl ty_sl_33 rfl rfl (by first | rfl | omega) (by omega)) ?_
      refine O_val rfl rfl rfl rfl (V_loadAgg rfl rfl ty_ag_37 (rds_rc (rds_own .h0) hgh) (rfl)) ?_
      refine O_pure rfl rfl rfl rfl (P_move rfl rfl) ?_
      refine O_pure rfl rfl rfl rfl (P_move rfl rfl) ?_
      refine O_pure rfl rfl rfl rfl (P_ixs (a) rfl ty_sl_33 rfl rfl (by first | rfl | omega) (by omega)) ?_
      refine O_val rfl rfl rfl rfl (V_loadAgg rfl rfl ty_ag_37 (rds_rc (rds_own .h0) hga) (rfl)) ?_
      refine O_keep rfl rfl (W_callFV (fi := []) (ca := []) rfl rfl rfl rfl rfl rfl fn_ca_25 (seats1_ok (d[(i + j) / 2]!) (d[a]!)) (fun _ _ => trivial) (K_keep (Weak.refl _) ?_))
      refine O_pure rfl rfl rfl rfl (P_lss rfl rfl rfl) ?_
      refine E_as (t := 50) (v' := .bool (bt (d[(i + j) / 2]!) (d[a]!))) rfl (by rw [← ltOf_bt]; rfl) ?_
      refine O_nil ?_
      refine Q_then ?_
      refine R_cond rfl (fun hb => ?_) (fun hb => ?_)
      · skip
        refine R_region ?_
        refine L_val rfl rfl rfl (OpP.v (P_move rfl rfl)) ?_
        first | (refine L_val rfl rfl rfl (OpP.v (P_addN rfl rfl rfl (by simp only [fits]; omega))) ?_) | (refine L_val rfl rfl rfl (OpP.v (P_add rfl rfl rfl)) ?_)
        refine L_val rfl rfl rfl (OpP.v (P_assign rfl rfl)) ?_
        refine L_nil ?_
        refine Q_block ?_
        exact Q_round ((i + j) / 2 + 1, j) (by show m ≤ ((i + j) / 2 + 1) ∧ ((i + j) / 2 + 1) ≤ (j) ∧ (j) ≤ b ∧ (∀ c, m ≤ c → c < ((i + j) / 2 + 1) → bt d[c]! d[a]! = true) ∧ (∀ c, (j) ≤ c → c < b → bt d[c]! d[a]! = false); exact ⟨by omega, by omega, hjb, up_all hl ((i + j) / 2) fun c hc1 hc2 => up_1 hSR (by omega) hc2 (by omega) hb, hr⟩) (by show j - ((i + j) / 2 + 1) < j - i; omega) (by repeat (first | exact .nil | refine .cons rfl ?_ | refine .consE rfl (by first | rfl | (congr 1; omega) | (congr 1; push_cast; omega)) ?_)) (Weak.refl _)
      · skip
        refine R_region ?_
        refine L_val rfl rfl rfl (OpP.v (P_move rfl rfl)) ?_
        refine L_val rfl rfl rfl (OpP.v (P_assign rfl rfl)) ?_
        refine L_nil ?_
        refine Q_block ?_
        exact Q_round (i, (i + j) / 2) (by show m ≤ (i) ∧ (i) ≤ ((i + j) / 2) ∧ ((i + j) / 2) ≤ b ∧ (∀ c, m ≤ c → c < (i) → bt d[c]! d[a]! = true) ∧ (∀ c, ((i + j) / 2) ≤ c → c < b → bt d[c]! d[a]! = false); exact ⟨hmi, by omega, by omega, hl, down_all hr ((i + j) / 2) fun c hc1 hc2 => down_1 hSR (by omega) hc1 (by omega) hb⟩) (by show (i + j) / 2 - i < j - i; omega) (by repeat (first | exact .nil | refine .cons rfl ?_ | refine .consE rfl (by first | rfl | (congr 1; omega) | (congr 1; push_cast; omega)) ?_)) (Weak.refl _)
    · skip
      have hin : i = j := by omega
      rw [← hin] at hr
      refine R_exit ?_
      refine Q_then_exit ?_
      refine Q_then_exit ?_
      refine Q_block_eq ?_
      refine St.env (.cons (t := 0) rfl (.cons (t := 1) rfl (.cons (t := 2) rfl (.cons (t := 3) rfl (.cons (t := 4) rfl (.cons (t := 10) rfl .nil)))))) ?_
      refine Q_then ?_
      refine R_seq ?_
      refine R_seq ?_
      refine R_region ?_
      refine L_val rfl rfl rfl (OpP.v (P_move rfl rfl)) ?_
      refine L_val rfl rfl rfl (OpP.v (P_assign rfl rfl)) ?_
      refine L_nil ?_
      refine St.env (.cons (t := 0) rfl (.cons (t := 1) rfl (.cons (t := 2) rfl (.cons (t := 3) rfl (.cons (t := 4) rfl (.cons (t := 10) rfl (.cons (t := 13) rfl .nil))))))) ?_
      refine Q_then ?_
      refine R_block ?_
      refine R_loopE (G := Nat) (.cons (t := 0) rfl (.cons (t := 1) rfl (.cons (t := 2) rfl (.cons (t := 3) rfl (.cons (t := 4) rfl (.cons (t := 10) rfl .nil)))))) (fun g => [(13, .int .i64 ((a + g : Nat) : Int))]) (fun g => [ownS 37 3 (.slice (some ⟨b0, 0, none⟩) d.size cap) d.size (rc (shR d a g).toList)]) (fun g => g ≤ i - 1 - a) (fun g => i - 1 - a - g) (0) (Nat.zero_le _) (by repeat (first | exact .nil | refine .cons rfl ?_ | refine .consE rfl (by first | rfl | (congr 1; omega) | (congr 1; push_cast; omega)) ?_)) (Weak.refl _) ?_
      intro n hinv
      replace hinv : n ≤ i - 1 - a := hinv
      show St (cx gl) _ ((13, .int .i64 ((a + n : Nat) : Int)) :: _) [ownS 37 3 (.slice (some ⟨b0, 0, none⟩) d.size cap) d.size (rc (shR d a n).toList)] _
      refine R_seq ?_
      refine R_seq ?_
      refine R_region ?_
      refine L_val rfl rfl rfl (OpP.v (P_move rfl rfl)) ?_
      refine L_val rfl rfl rfl (OpP.v (P_move rfl rfl)) ?_
      first | (refine L_val rfl rfl rfl (OpP.v (P_subN rfl rfl rfl (by simp only [fits]; omega))) ?_) | (refine L_val rfl rfl rfl (OpP.v (P_sub rfl rfl rfl)) ?_)
      refine E_as (t := 57) (v' := .int .i64 ((i - 1 : Nat) : Int)) rfl (by congr 1; omega) ?_
      refine L_val rfl rfl rfl (OpP.v (P_lss rfl rfl rfl)) ?_
      refine L_nil ?_
      refine Q_then ?_
      refine R_condP rfl (fun hlt2 => ?_) (fun hlt2 => ?_)
      · skip
        have hes := shR_size d a n
        have hgj := arr_get (d := shR d a n) (i := a + n + 1) (by omega)
        have hgi := arr_get (d := shR d a n) (i := a + n) (by omega)
        refine R_skip ?_
        refine Q_then ?_
        refine R_seq ?_
        refine R_block ?_
        refine R_open [(0, 0), (1, 0), (2, 0), (3, 0), (4, 0), (5, 0), (6, 0), (7, 0), (8, 0), (9, 1), (10, 0), (11, 0), (12, 0), (13, 1), (14, 0), (15, 3), (16, 0), (17, 3)] mixed (by kernel_rfl) (QOk.block (QOk.then (QOk.then (QOk.block (QOk.then (QOk.then QOk.body)))))) ?_
        refine O_pure rfl rfl rfl rfl (P_move rfl rfl) ?_
        refine O_pure rfl rfl rfl rfl (P_move rfl rfl) ?_
        refine O_pure rfl rfl rfl rfl (P_move rfl rfl) ?_
        refine O_pure rfl rfl rfl rfl (P_move rfl rfl) ?_
        first | (refine O_pure rfl rfl rfl rfl (P_addN rfl rfl rfl (by simp only [fits]; omega)) ?_) | (refine O_pure rfl rfl rfl rfl (P_add rfl rfl rfl) ?_)
        refine O_pure rfl rfl rfl rfl (P_move rfl rfl) ?_
        refine O_pure rfl rfl rfl rfl (P_move rfl rfl) ?_
        first | (refine O_pure rfl rfl rfl rfl (P_addN rfl rfl rfl (by simp only [fits]; omega)) ?_) | (refine O_pure rfl rfl rfl rfl (P_add rfl rfl rfl) ?_)
        refine O_pure rfl rfl rfl rfl (P_ixs (a + n + 1) rfl ty_sl_33 rfl rfl (by first | rfl | omega) (by omega)) ?_
        refine O_val rfl rfl rfl rfl (V_loadAgg rfl rfl ty_ag_37 (rds_rc (rds_own .h0) hgj) (rfl)) ?_
        refine O_pure rfl rfl rfl rfl (P_move rfl rfl) ?_
        refine O_pure rfl rfl rfl rfl (P_move rfl rfl) ?_
        refine O_pure rfl rfl rfl rfl (P_ixs (a + n) rfl ty_sl_33 rfl rfl (by first | rfl | omega) (by omega)) ?_
        refine O_val rfl rfl rfl rfl (V_loadAgg rfl rfl ty_ag_37 (rds_rc (rds_own .h0) hgi) (rfl)) ?_
        refine O_pure rfl rfl rfl rfl (P_ixs (a + n) rfl ty_sl_33 rfl rfl (by first | rfl | omega) (by omega)) ?_
        refine O_new rfl rfl (W_storeOwn (T := 37) (sz := 3) (n := d.size) (c := cap) (cs := rc (shR d a n).toList) rfl rfl rfl rfl ty_ag_37 rfl (Mem.cells_one _) .h0 (by rw [rc_length]; simp only [Array.length_toList]; show 0 + (a + n) * 3 + 3 ≤ _ * 3; omega) ?_)
        refine St.res (rs' := [ownS 37 3 (.slice (some ⟨b0, 0, none⟩) d.size cap) d.size (rc ((shR d a n).toList.set (a + n) (shR d a n)[a + n + 1]!))]) ((by have h9 := rc_splice (l := (shR d a n).toList) (i := a + n) (shR d a n)[a + n + 1]! (by simp only [Array.length_toList]; omega); rw [show Rec.n Mem = 3 from rfl] at h9; rw [Nat.zero_add, h9]; exact Weak.refl _)) ?_
        refine K_new ?_
        refine O_pure rfl rfl rfl rfl (P_ixs (a + n + 1) rfl ty_sl_33 rfl rfl (by first | rfl | omega) (by omega)) ?_
        refine O_new rfl rfl (W_storeOwn (T := 37) (sz := 3) (n := d.size) (c := cap) (cs := rc ((shR d a n).toList.set (a + n) (shR d a n)[a + n + 1]!)) rfl rfl rfl rfl ty_ag_37 rfl (Mem.cells_one _) .h0 (by rw [rc_length]; rw [List.length_set]; simp only [Array.length_toList]; show 0 + (a + n + 1) * 3 + 3 ≤ _ * 3; omega) ?_)
        refine St.res (rs' := [ownS 37 3 (.slice (some ⟨b0, 0, none⟩) d.size cap) d.size (rc (swp (shR d a n) (a + n) (a + n + 1)).toList)]) ((by have h9 := rc_splice (l := (shR d a n).toList.set (a + n) (shR d a n)[a + n + 1]!) (i := a + n + 1) (shR d a n)[a + n]! (by rw [List.length_set]; simp only [Array.length_toList]; omega); rw [show Rec.n Mem = 3 from rfl] at h9; rw [Nat.zero_add, h9, ← swp_toList]; exact Weak.refl _)) ?_
        refine K_new ?_
        refine O_nil ?_
        refine Q_block ?_
        refine Q_then ?_
        refine R_region ?_
        refine L_val rfl rfl rfl (OpP.v (P_move rfl rfl)) ?_
        first | (refine L_val rfl rfl rfl (OpP.v (P_addN rfl rfl rfl (by simp only [fits]; omega))) ?_) | (refine L_val rfl rfl rfl (OpP.v (P_add rfl rfl rfl)) ?_)
        refine L_val rfl rfl rfl (OpP.v (P_assign rfl rfl)) ?_
        refine L_nil ?_
        exact Q_round (n + 1) (by omega) (by show i - 1 - a - (n + 1) < i - 1 - a - n; omega) (by repeat (first | exact .nil | refine .cons rfl ?_ | refine .consE rfl (by first | rfl | (congr 1; omega) | (congr 1; push_cast; omega)) ?_)) (Weak.refl _)
      · skip
        have hn : n = i - 1 - a := by omega
        have hsg := fun k => shR_get d a n k (by omega)
        refine R_exit ?_
        refine Q_then_exit ?_
        refine Q_then_exit ?_
        refine Q_block_eq ?_
        refine St.env (.cons (t := 0) rfl (.cons (t := 1) rfl (.cons (t := 2) rfl (.cons (t := 3) rfl (.cons (t := 4) rfl .nil))))) ?_
        refine Q_then ?_
        refine R_ret ?_
        refine Q_then_ret ?_
        exact R_end (rs2 := _) rfl rfl (.nil) (⟨rfl, _, ⟨shR_perm d a a b (Nat.le_refl _) (by omega) n (by omega), merge_one swo_bt (i := i) (by omega) (by omega) (by rw [← hm1]; exact hSR) (fun c h5 h6 => hl c (by omega) h6) hr (fun k h5 h6 => by rw [hsg, if_pos ⟨h5, by omega⟩]) (by rw [hsg, if_neg (by omega), if_pos (by omega)]) (fun k h5 h6 => by rw [hsg, if_neg (by omega), if_neg (by omega)])⟩, rfl⟩) (Weak.refl _)
  · skip
    have h1 : a + 1 < m := by omega
    refine R_skip ?_
    refine Q_then ?_
    refine R_seq ?_
    refine R_seq ?_
    refine R_region ?_
    refine L_val rfl rfl rfl (OpP.v (P_move rfl rfl)) ?_
    refine L_val rfl rfl rfl (OpP.v (P_move rfl rfl)) ?_
    first | (refine L_val rfl rfl rfl (OpP.v (P_subN rfl rfl rfl (by simp only [fits]; omega))) ?_) | (refine L_val rfl rfl rfl (OpP.v (P_sub rfl rfl rfl)) ?_)
    refine E_as (t := 79) (v' := .int .i64 ((b - m : Nat) : Int)) rfl (by congr 1; omega) ?_
    refine L_val rfl rfl rfl (OpP.v (P_eql rfl rfl rfl)) ?_
    refine L_nil ?_
    refine St.env (.cons (t := 0) rfl (.cons (t := 1) rfl (.cons (t := 2) rfl (.cons (t := 3) rfl (.cons (t := 4) rfl (.cons (t := 80) rfl .nil)))))) ?_
    refine Q_then ?_
    refine R_condP rfl (fun h2 => ?_) (fun h2 => ?_)
    · skip
      have hb1 : b = m + 1 := by omega
      have hga := arr_get (d := d) (i := m) (by omega)
      refine R_seq ?_
      refine R_region ?_
      refine L_val rfl rfl rfl (OpP.v (P_move rfl rfl)) ?_
      refine L_val rfl rfl rfl (OpP.v (P_assign rfl rfl)) ?_
      refine L_nil ?_
      refine St.env (.cons (t := 0) rfl (.cons (t := 1) rfl (.cons (t := 2) rfl (.cons (t := 3) rfl (.cons (t := 4) rfl (.cons (t := 14) rfl .nil)))))) ?_
      refine Q_then ?_
      refine R_seq ?_
      refine R_region ?_
      refine L_val rfl rfl rfl (OpP.v (P_move rfl rfl)) ?_
      refine L_val rfl rfl rfl (OpP.v (P_assign rfl rfl)) ?_
      refine L_nil ?_
      refine St.env (.cons (t := 0) rfl (.cons (t := 1) rfl (.cons (t := 2) rfl (.cons (t := 3) rfl (.cons (t := 4) rfl (.cons (t := 14) rfl (.cons (t := 15) rfl .nil))))))) ?_
      refine Q_then ?_
      refine R_seq ?_
      refine R_block ?_
      refine R_loopE (G := Nat × Nat) (.cons (t := 0) rfl (.cons (t := 1) rfl (.cons (t := 2) rfl (.cons (t := 3) rfl (.cons (t := 4) rfl .nil))))) (fun g => [(14, .int .i64 ((g.1 : Nat) : Int)), (15, .int .i64 ((g.2 : Nat) : Int))]) (fun _ => _) (fun g => a ≤ g.1 ∧ g.1 ≤ g.2 ∧ g.2 ≤ m ∧ (∀ c, a ≤ c → c < g.1 → bt d[m]! d[c]! = false) ∧ (∀ c, g.2 ≤ c → c < m → bt d[m]! d[c]! = true)) (fun g => g.2 - g.1) (a, m) (by show a ≤ (a) ∧ (a) ≤ (m) ∧ (m) ≤ m ∧ (∀ c, a ≤ c → c < (a) → bt d[m]! d[c]! = false) ∧ (∀ c, (m) ≤ c → c < m → bt d[m]! d[c]! = true); exact ⟨Nat.le_refl _, by omega, Nat.le_refl _, fun c _ _ => by omega, fun c _ _ => by omega⟩) (by repeat (first | exact .nil | refine .cons rfl ?_ | refine .consE rfl (by first | rfl | (congr 1; omega) | (congr 1; push_cast; omega)) ?_)) (Weak.refl _) ?_
      rintro ⟨i, j⟩ hinv
      replace hinv : a ≤ i ∧ i ≤ j ∧ j ≤ m ∧ (∀ c, a ≤ c → c < i → bt d[m]! d[c]! = false) ∧ (∀ c, j ≤ c → c < m → bt d[m]! d[c]! = true) := hinv
      show St (cx gl) _ ((14, .int .i64 ((i : Nat) : Int)) :: (15, .int .i64 ((j : Nat) : Int)) :: _) _ _
      obtain ⟨hmi, hij, hjb, hl, hr⟩ := hinv
      refine R_seq ?_
      refine R_seq ?_
      refine R_region ?_
      refine L_val rfl rfl rfl (OpP.v (P_move rfl rfl)) ?_
      refine L_val rfl rfl rfl (OpP.v (P_move rfl rfl)) ?_
      refine L_val rfl rfl rfl (OpP.v (P_lss rfl rfl rfl)) ?_
      refine L_nil ?_
      refine Q_then ?_
      refine R_condP rfl (fun hlt => ?_) (fun hlt => ?_)
      · skip
        have hgh := arr_get (d := d) (i := (i + j) / 2) (by omega)
        refine R_skip ?_
        refine Q_then ?_
        refine R_block ?_
        refine R_seq ?_
        refine R_region ?_
        refine L_val rfl rfl rfl (OpP.v (P_move rfl rfl)) ?_
        refine L_val rfl rfl rfl (OpP.v (P_move rfl rfl)) ?_
        first | (refine L_val rfl rfl rfl (OpP.v (P_addN rfl rfl rfl (by simp only [fits]; omega))) ?_) | (refine L_val rfl rfl rfl (OpP.v (P_add rfl rfl rfl)) ?_)
        first | (refine L_val rfl rfl rfl (OpP.v (P_convN rfl ty_int_3 ty_int_76 rfl (by simp only [fits]; omega))) ?_) | (refine L_val rfl rfl rfl (OpP.v (P_conv rfl ty_int_3 ty_int_76 rfl)) ?_)
        refine L_val rfl rfl rfl (OpP.v (P_shr rfl rfl rfl (by omega))) ?_
        refine E_as (t := 90) (v' := .int .u64 (((i + j) / 2 : Nat) : Int)) rfl (by have h9 := half_nat (i + j); push_cast at h9 ⊢; rw [h9]) ?_
        first | (refine L_val rfl rfl rfl (OpP.v (P_convN rfl ty_int_76 ty_int_3 rfl (by simp only [fits]; omega))) ?_) | (refine L_val rfl rfl rfl (OpP.v (P_conv rfl ty_int_76 ty_int_3 rfl)) ?_)
        refine L_val rfl rfl rfl (OpP.v (P_assign rfl rfl)) ?_
        refine L_nil ?_
        refine Q_then ?_
        refine R_seq ?_
        refine R_open [(0, 0), (1, 0), (2, 0), (3, 0), (4, 1), (5, 0), (6, 0), (7, 0), (8, 1), (9, 2), (10, 0), (11, 0)] mixed (by kernel_rfl) (QOk.then (QOk.block (QOk.then (QOk.block (QOk.then (QOk.then QOk.body)))))) ?_
        refine O_pure rfl rfl rfl rfl (P_move rfl rfl) ?_
        refine O_pure rfl rfl rfl rfl (P_move rfl rfl) ?_
        refine O_pure rfl rfl rfl rfl (P_move rfl rfl) ?_
        refine O_pure rfl rfl rfl rfl (P_ixs (m) rfl ty_sl_33 rfl rfl (by first | rfl | omega) (by omega)) ?_
        refine O_val rfl rfl rfl rfl (V_loadAgg rfl rfl ty_ag_37 (rds_rc (rds_own .h0) hga) (rfl)) ?_
        refine O_pure rfl rfl rfl rfl (P_move rfl rfl) ?_
        refine O_pure rfl rfl rfl rfl (P_move rfl rfl) ?_
        refine O_pure rfl rfl rfl rfl (P_ixs ((i + j) / 2) rfl ty_sl_33 rfl rfl (by first | rfl | omega) (by omega)) ?_
        refine O_val rfl rfl rfl rfl (V_loadAgg rfl rfl ty_ag_37 (rds_rc (rds_own .h0) hgh) (rfl)) ?_
        refine O_keep rfl rfl (W_callFV (fi := []) (ca := []) rfl rfl rfl rfl rfl rfl fn_ca_25 (seats1_ok (d[m]!) (d[(i + j) / 2]!)) (fun _ _ => trivial) (K_keep (Weak.refl _) ?_))
        refine O_pure rfl rfl rfl rfl (P_lss rfl rfl rfl) ?_
        refine E_as (t := 102) (v' := .bool (bt (d[m]!) (d[(i + j) / 2]!))) rfl (by rw [← ltOf_bt]; rfl) ?_
        refine O_pure rfl rfl rfl rfl (P_not rfl rfl) ?_
        refine O_nil ?_
        refine Q_then ?_
        refine R_cond rfl (fun hb => ?_) (fun hb => ?_)
        · skip
          have hb : bt d[m]! d[(i + j) / 2]! = false := by simpa using hb
          refine R_region ?_
          refine L_val rfl rfl rfl (OpP.v (P_move rfl rfl)) ?_
          first | (refine L_val rfl rfl rfl (OpP.v (P_addN rfl rfl rfl (by simp only [fits]; omega))) ?_) | (refine L_val rfl rfl rfl (OpP.v (P_add rfl rfl rfl)) ?_)
          refine L_val rfl rfl rfl (OpP.v (P_assign rfl rfl)) ?_
          refine L_nil ?_
          refine Q_block ?_
          exact Q_round ((i + j) / 2 + 1, j) (by show a ≤ ((i + j) / 2 + 1) ∧ ((i + j) / 2 + 1) ≤ (j) ∧ (j) ≤ m ∧ (∀ c, a ≤ c → c < ((i + j) / 2 + 1) → bt d[m]! d[c]! = false) ∧ (∀ c, (j) ≤ c → c < m → bt d[m]! d[c]! = true); exact ⟨by omega, by omega, hjb, up_all hl ((i + j) / 2) fun c hc1 hc2 => up_2 hSL hc1 hc2 (by omega) hb, hr⟩) (by show j - ((i + j) / 2 + 1) < j - i; omega) (by repeat (first | exact .nil | refine .cons rfl ?_ | refine .consE rfl (by first | rfl | (congr 1; omega) | (congr 1; push_cast; omega)) ?_)) (Weak.refl _)
        · skip
          have hb : bt d[m]! d[(i + j) / 2]! = true := by simpa using hb
          refine R_region ?_
          refine L_val rfl rfl rfl (OpP.v (P_move rfl rfl)) ?_
          refine L_val rfl rfl rfl (OpP.v (P_assign rfl rfl)) ?_
          refine L_nil ?_
          refine Q_block ?_
          exact Q_round (i, (i + j) / 2) (by show a ≤ (i) ∧ (i) ≤ ((i + j) / 2) ∧ ((i + j) / 2) ≤ m ∧ (∀ c, a ≤ c → c < (i) → bt d[m]! d[c]! = false) ∧ (∀ c, ((i + j) / 2) ≤ c → c < m → bt d[m]! d[c]! = true); exact ⟨hmi, by omega, by omega, hl, down_all hr ((i + j) / 2) fun c hc1 hc2 => down_2 hSL (by omega) hc1 (by omega) hb⟩) (by show (i + j) / 2 - i < j - i; omega) (by repeat (first | exact .nil | refine .cons rfl ?_ | refine .consE rfl (by first | rfl | (congr 1; omega) | (congr 1; push_cast; omega)) ?_)) (Weak.refl _)
      · skip
        have hin : i = j := by omega
        rw [← hin] at hr
        refine R_exit ?_
        refine Q_then_exit ?_
        refine Q_then_exit ?_
        refine Q_block_eq ?_
        refine St.env (.cons (t := 0) rfl (.cons (t := 1) rfl (.cons (t := 2) rfl (.cons (t := 3) rfl (.cons (t := 4) rfl (.cons (t := 14) rfl .nil)))))) ?_
        refine Q_then ?_
        refine R_seq ?_
        refine R_seq ?_
        refine R_region ?_
        refine L_val rfl rfl rfl (OpP.v (P_move rfl rfl)) ?_
        refine L_val rfl rfl rfl (OpP.v (P_assign rfl rfl)) ?_
        refine L_nil ?_
        refine St.env (.cons (t := 0) rfl (.cons (t := 1) rfl (.cons (t := 2) rfl (.cons (t := 3) rfl (.cons (t := 4) rfl (.cons (t := 14) rfl (.cons (t := 17) rfl .nil))))))) ?_
        refine Q_then ?_
        refine R_block ?_
        refine R_loopE (G := Nat) (.cons (t := 0) rfl (.cons (t := 1) rfl (.cons (t := 2) rfl (.cons (t := 3) rfl (.cons (t := 4) rfl (.cons (t := 14) rfl .nil)))))) (fun g => [(17, .int .i64 ((m - g : Nat) : Int))]) (fun g => [ownS 37 3 (.slice (some ⟨b0, 0, none⟩) d.size cap) d.size (rc (shL d m g).toList)]) (fun g => g ≤ m - i) (fun g => m - i - g) (0) (Nat.zero_le _) (by repeat (first | exact .nil | refine .cons rfl ?_ | refine .consE rfl (by first | rfl | (congr 1; omega) | (congr 1; push_cast; omega)) ?_)) (Weak.refl _) ?_
        intro n hinv
        replace hinv : n ≤ m - i := hinv
        show St (cx gl) _ ((17, .int .i64 ((m - n : Nat) : Int)) :: _) [ownS 37 3 (.slice (some ⟨b0, 0, none⟩) d.size cap) d.size (rc (shL d m n).toList)] _
        refine R_seq ?_
        refine R_seq ?_
        refine R_region ?_
        refine L_val rfl rfl rfl (OpP.v (P_move rfl rfl)) ?_
        refine L_val rfl rfl rfl (OpP.v (P_move rfl rfl)) ?_
        refine L_val rfl rfl rfl (OpP.v (P_gtr rfl rfl rfl)) ?_
        refine L_nil ?_
        refine Q_then ?_
        refine R_condP rfl (fun hlt2 => ?_) (fun hlt2 => ?_)
        · skip
          have hes := shL_size d m n
          have hgj := arr_get (d := shL d m n) (i := m - n - 1) (by omega)
          have hgi := arr_get (d := shL d m n) (i := m - n) (by omega)
          refine R_skip ?_
          refine Q_then ?_
          refine R_seq ?_
          refine R_block ?_
          refine R_open [(0, 0), (1, 0), (2, 0), (3, 0), (4, 0), (5, 0), (6, 0), (7, 0), (8, 0), (9, 1), (10, 0), (11, 0), (12, 0), (13, 1), (14, 0), (15, 3), (16, 0), (17, 3)] mixed (by kernel_rfl) (QOk.block (QOk.then (QOk.then (QOk.block (QOk.then (QOk.then QOk.body)))))) ?_
          refine O_pure rfl rfl rfl rfl (P_move rfl rfl) ?_
          refine O_pure rfl rfl rfl rfl (P_move rfl rfl) ?_
          refine O_pure rfl rfl rfl rfl (P_move rfl rfl) ?_
          refine O_pure rfl rfl rfl rfl (P_move rfl rfl) ?_
          first | (refine O_pure rfl rfl rfl rfl (P_subN rfl rfl rfl (by simp only [fits]; omega)) ?_) | (refine O_pure rfl rfl rfl rfl (P_sub rfl rfl rfl) ?_)
          refine E_as (t := 117) (v' := .int .i64 ((m - n - 1 : Nat) : Int)) rfl (by congr 1; omega) ?_
          refine O_pure rfl rfl rfl rfl (P_move rfl rfl) ?_
          refine O_pure rfl rfl rfl rfl (P_move rfl rfl) ?_
          first | (refine O_pure rfl rfl rfl rfl (P_subN rfl rfl rfl (by simp only [fits]; omega)) ?_) | (refine O_pure rfl rfl rfl rfl (P_sub rfl rfl rfl) ?_)
          refine E_as (t := 120) (v' := .int .i64 ((m - n - 1 : Nat) : Int)) rfl (by congr 1; omega) ?_
          refine O_pure rfl rfl rfl rfl (P_ixs (m - n - 1) rfl ty_sl_33 rfl rfl (by first | rfl | omega) (by omega)) ?_
          refine O_val rfl rfl rfl rfl (V_loadAgg rfl rfl ty_ag_37 (rds_rc (rds_own .h0) hgj) (rfl)) ?_
          refine O_pure rfl rfl rfl rfl (P_move rfl rfl) ?_
          refine O_pure rfl rfl rfl rfl (P_move rfl rfl) ?_
          refine O_pure rfl rfl rfl rfl (P_ixs (m - n) rfl ty_sl_33 rfl rfl (by first | rfl | omega) (by omega)) ?_
          refine O_val rfl rfl rfl rfl (V_loadAgg rfl rfl ty_ag_37 (rds_rc (rds_own .h0) hgi) (rfl)) ?_
          refine O_pure rfl rfl rfl rfl (P_ixs (m - n) rfl ty_sl_33 rfl rfl (by first | rfl | omega) (by omega)) ?_
          refine O_new rfl rfl (W_storeOwn (T := 37) (sz := 3) (n := d.size) (c := cap) (cs := rc (shL d m n).toList) rfl rfl rfl rfl ty_ag_37 rfl (Mem.cells_one _) .h0 (by rw [rc_length]; simp only [Array.length_toList]; show 0 + (m - n) * 3 + 3 ≤ _ * 3; omega) ?_)
          refine St.res (rs' := [ownS 37 3 (.slice (some ⟨b0, 0, none⟩) d.size cap) d.size (rc ((shL d m n).toList.set (m - n) (shL d m n)[m - n - 1]!))]) ((by have h9 := rc_splice (l := (shL d m n).toList) (i := m - n) (shL d m n)[m - n - 1]! (by simp only [Array.length_toList]; omega); rw [show Rec.n Mem = 3 from rfl] at h9; rw [Nat.zero_add, h9]; exact Weak.refl _)) ?_
          refine K_new ?_
          refine O_pure rfl rfl rfl rfl (P_ixs (m - n - 1) rfl ty_sl_33 rfl rfl (by first | rfl | omega) (by omega)) ?_
          refine O_new rfl rfl (W_storeOwn (T := 37) (sz := 3) (n := d.size) (c := cap) (cs := rc ((shL d m n).toList.set (m - n) (shL d m n)[m - n - 1]!)) rfl rfl rfl rfl ty_ag_37 rfl (Mem.cells_one _) .h0 (by rw [rc_length]; rw [List.length_set]; simp only [Array.length_toList]; show 0 + (m - n - 1) * 3 + 3 ≤ _ * 3; omega) ?_)
          refine St.res (rs' := [ownS 37 3 (.slice (some ⟨b0, 0, none⟩) d.size cap) d.size (rc (swp (shL d m n) (m - n) (m - n - 1)).toList)]) ((by have h9 := rc_splice (l := (shL d m n).toList.set (m - n) (shL d m n)[m - n - 1]!) (i := m - n - 1) (shL d m n)[m - n]! (by rw [List.length_set]; simp only [Array.length_toList]; omega); rw [show Rec.n Mem = 3 from rfl] at h9; rw [Nat.zero_add, h9, ← swp_toList]; exact Weak.refl _)) ?_
          refine K_new ?_
          refine O_nil ?_
          refine Q_block ?_
          refine Q_then ?_
          refine R_region ?_
          refine L_val rfl rfl rfl (OpP.v (P_move rfl rfl)) ?_
          first | (refine L_val rfl rfl rfl (OpP.v (P_subN rfl rfl rfl (by simp only [fits]; omega))) ?_) | (refine L_val rfl rfl rfl (OpP.v (P_sub rfl rfl rfl)) ?_)
          refine E_as (t := 112) (v' := .int .i64 ((m - (n + 1) : Nat) : Int)) rfl (by congr 1; omega) ?_
          refine L_val rfl rfl rfl (OpP.v (P_assign rfl rfl)) ?_
          refine L_nil ?_
          exact Q_round (n + 1) (by omega) (by show m - i - (n + 1) < m - i - n; omega) (by repeat (first | exact .nil | refine .cons rfl ?_ | refine .consE rfl (by first | rfl | (congr 1; omega) | (congr 1; push_cast; omega)) ?_)) (Weak.refl _)
        · skip
          have hn : n = m - i := by omega
          have hsg := fun k => shL_get d m n k (by omega) (by omega)
          refine R_exit ?_
          refine Q_then_exit ?_
          refine Q_then_exit ?_
          refine Q_block_eq ?_
          refine St.env (.cons (t := 0) rfl (.cons (t := 1) rfl (.cons (t := 2) rfl (.cons (t := 3) rfl (.cons (t := 4) rfl .nil))))) ?_
          refine Q_then ?_
          refine R_ret ?_
          refine Q_then_ret ?_
          exact R_end (rs2 := _) rfl rfl (.nil) (⟨rfl, _, ⟨shL_perm d m a b (by omega) (by omega) n (by omega), by rw [hb1]; exact merge_last swo_bt (i := i) (by omega) (by omega) hSL hl hr (fun k h5 h6 => by rw [hsg, if_pos ⟨by omega, h6⟩]) (by rw [hsg, if_neg (by omega), if_pos (by omega)]) (fun k h5 h6 => by rw [hsg, if_neg (by omega), if_neg (by omega)])⟩, rfl⟩) (Weak.refl _)
    · skip
      have h2 : m + 1 < b := by omega
      refine R_skip ?_
      refine Q_then ?_
      refine R_seq ?_
      obtain ⟨mid, hmid⟩ : ∃ x, x = (a + b) / 2 := ⟨_, rfl⟩
      obtain ⟨s0, hs0⟩ : ∃ x, x = (if m > mid then mid + m - b else a) := ⟨_, rfl⟩
      obtain ⟨r0, hr0⟩ : ∃ x, x = (if m > mid then mid else m) := ⟨_, rfl⟩
      refine R_region ?_
      refine L_val rfl rfl rfl (OpP.v (P_move rfl rfl)) ?_
      refine L_val rfl rfl rfl (OpP.v (P_move rfl rfl)) ?_
      first | (refine L_val rfl rfl rfl (OpP.v (P_addN rfl rfl rfl (by simp only [fits]; omega))) ?_) | (refine L_val rfl rfl rfl (OpP.v (P_add rfl rfl rfl)) ?_)
      first | (refine L_val rfl rfl rfl (OpP.v (P_convN rfl ty_int_3 ty_int_76 rfl (by simp only [fits]; omega))) ?_) | (refine L_val rfl rfl rfl (OpP.v (P_conv rfl ty_int_3 ty_int_76 rfl)) ?_)
      refine L_val rfl rfl rfl (OpP.v (P_shr rfl rfl rfl (by omega))) ?_
      refine E_as (t := 133) (v' := .int .u64 (((a + b) / 2 : Nat) : Int)) rfl (by have h9 := half_nat (a + b); push_cast at h9 ⊢; rw [h9]) ?_
      first | (refine L_val rfl rfl rfl (OpP.v (P_convN rfl ty_int_76 ty_int_3 rfl (by simp only [fits]; omega))) ?_) | (refine L_val rfl rfl rfl (OpP.v (P_conv rfl ty_int_76 ty_int_3 rfl)) ?_)
      refine E_as (t := 134) (v' := .int .i64 ((mid : Nat) : Int)) rfl (by rw [hmid]) ?_
      refine L_val rfl rfl rfl (OpP.v (P_assign rfl rfl)) ?_
      refine L_nil ?_
      refine St.env (.cons (t := 0) rfl (.cons (t := 1) rfl (.cons (t := 2) rfl (.cons (t := 3) rfl (.cons (t := 4) rfl (.cons (t := 18) rfl .nil)))))) ?_
      refine Q_then ?_
      refine R_seq ?_
      refine R_region ?_
      refine L_val rfl rfl rfl (OpP.v (P_move rfl rfl)) ?_
      refine L_val rfl rfl rfl (OpP.v (P_move rfl rfl)) ?_
      first | (refine L_val rfl rfl rfl (OpP.v (P_addN rfl rfl rfl (by simp only [fits]; omega))) ?_) | (refine L_val rfl rfl rfl (OpP.v (P_add rfl rfl rfl)) ?_)
      refine L_val rfl rfl rfl (OpP.v (P_assign rfl rfl)) ?_
      refine L_nil ?_
      refine St.env (.cons (t := 0) rfl (.cons (t := 1) rfl (.cons (t := 2) rfl (.cons (t := 3) rfl (.cons (t := 4) rfl (.cons (t := 18) rfl (.cons (t := 19) rfl .nil))))))) ?_
      refine Q_then ?_
      refine R_seq ?_
      refine R_region ?_
      refine L_val rfl rfl rfl (OpP.v (P_assign rfl rfl)) ?_
      refine L_val rfl rfl rfl (OpP.v (P_assign rfl rfl)) ?_
      refine L_nil ?_
      refine Q_then ?_
      refine R_joinE0 (G := Unit) (.cons (t := 0) rfl (.cons (t := 1) rfl (.cons (t := 2) rfl (.cons (t := 3) rfl (.cons (t := 4) rfl (.cons (t := 18) rfl (.cons (t := 19) rfl .nil))))))) (fun g => [(20, .int .i64 ((s0 : Nat) : Int)), (21, .int .i64 ((r0 : Nat) : Int))]) (fun g => True) ?_ ?_
      · skip
        refine R_seq ?_
        refine R_region ?_
        refine L_val rfl rfl rfl (OpP.v (P_move rfl rfl)) ?_
        refine L_val rfl rfl rfl (OpP.v (P_move rfl rfl)) ?_
        refine L_val rfl rfl rfl (OpP.v (P_gtr rfl rfl rfl)) ?_
        refine L_nil ?_
        refine St.env (.cons (t := 0) rfl (.cons (t := 1) rfl (.cons (t := 2) rfl (.cons (t := 3) rfl (.cons (t := 4) rfl (.cons (t := 18) rfl (.cons (t := 19) rfl (.cons (t := 20) rfl (.cons (t := 21) rfl (.cons (t := 140) rfl .nil)))))))))) ?_
        refine Q_then ?_
        refine R_condP rfl (fun hgt => ?_) (fun hgt => ?_)
        · skip
          refine R_seq ?_
          refine R_region ?_
          refine L_val rfl rfl rfl (OpP.v (P_move rfl rfl)) ?_
          refine L_val rfl rfl rfl (OpP.v (P_move rfl rfl)) ?_
          first | (refine L_val rfl rfl rfl (OpP.v (P_subN rfl rfl rfl (by simp only [fits]; omega))) ?_) | (refine L_val rfl rfl rfl (OpP.v (P_sub rfl rfl rfl)) ?_)
          refine E_as (t := 143) (v' := .int .i64 ((s0 : Nat) : Int)) rfl (by congr 1; rw [hs0, if_pos (by omega)]; omega) ?_
          refine L_val rfl rfl rfl (OpP.v (P_assign rfl rfl)) ?_
          refine L_nil ?_
          refine St.env (.cons (t := 0) rfl (.cons (t := 1) rfl (.cons (t := 2) rfl (.cons (t := 3) rfl (.cons (t := 4) rfl (.cons (t := 18) rfl (.cons (t := 19) rfl (.cons (t := 20) rfl (.cons (t := 21) rfl .nil))))))))) ?_
          refine Q_then ?_
          refine R_region ?_
          refine L_val rfl rfl rfl (OpP.v (P_move rfl rfl)) ?_
          refine L_val rfl rfl rfl (OpP.v (P_assign rfl rfl)) ?_
          refine L_nil ?_
          refine St.env (.cons (t := 0) rfl (.cons (t := 1) rfl (.cons (t := 2) rfl (.cons (t := 3) rfl (.cons (t := 4) rfl (.cons (t := 18) rfl (.cons (t := 19) rfl (.cons (t := 20) rfl (.cons (t := 21) rfl .nil))))))))) ?_
          refine E_as (t := 20) (v' := .int .i64 ((s0 : Nat) : Int)) rfl (rfl) ?_
          refine E_as (t := 21) (v' := .int .i64 ((r0 : Nat) : Int)) rfl (by congr 1; rw [hr0, if_pos (by omega)]) ?_
          exact Q_meet () (trivial) (by repeat (first | exact .nil | refine .cons rfl ?_ | refine .consE rfl (by first | rfl | (congr 1; omega) | (congr 1; push_cast; omega)) ?_)) (Weak.refl _)
        · skip
          refine R_seq ?_
          refine R_region ?_
          refine L_val rfl rfl rfl (OpP.v (P_move rfl rfl)) ?_
          refine L_val rfl rfl rfl (OpP.v (P_assign rfl rfl)) ?_
          refine L_nil ?_
          refine St.env (.cons (t := 0) rfl (.cons (t := 1) rfl (.cons (t := 2) rfl (.cons (t := 3) rfl (.cons (t := 4) rfl (.cons (t := 18) rfl (.cons (t := 19) rfl (.cons (t := 20) rfl (.cons (t := 21) rfl .nil))))))))) ?_
          refine Q_then ?_
          refine R_region ?_
          refine L_val rfl rfl rfl (OpP.v (P_move rfl rfl)) ?_
          refine L_val rfl rfl rfl (OpP.v (P_assign rfl rfl)) ?_
          refine L_nil ?_
          refine St.env (.cons (t := 0) rfl (.cons (t := 1) rfl (.cons (t := 2) rfl (.cons (t := 3) rfl (.cons (t := 4) rfl (.cons (t := 18) rfl (.cons (t := 19) rfl (.cons (t := 20) rfl (.cons (t := 21) rfl .nil))))))))) ?_
          refine E_as (t := 20) (v' := .int .i64 ((s0 : Nat) : Int)) rfl (by congr 1; rw [hs0, if_neg (by omega)]) ?_
          refine E_as (t := 21) (v' := .int .i64 ((r0 : Nat) : Int)) rfl (by congr 1; rw [hr0, if_neg (by omega)]) ?_
          exact Q_meet () (trivial) (by repeat (first | exact .nil | refine .cons rfl ?_ | refine .consE rfl (by first | rfl | (congr 1; omega) | (congr 1; push_cast; omega)) ?_)) (Weak.refl _)
      · rintro ⟨⟩ hinv
        replace hinv : True := hinv
        show St (cx gl) _ ((20, .int .i64 ((s0 : Nat) : Int)) :: (21, .int .i64 ((r0 : Nat) : Int)) :: _) _ _
        have hb0 : s0 ≤ r0 ∧ a ≤ s0 ∧ r0 ≤ m ∧ r0 ≤ mid := by rw [hs0, hr0]; (repeat' split) <;> omega
        have hb9 : mid + m ≤ s0 + b ∧ m ≤ mid + m - r0 := by rw [hs0, hr0]; (repeat' split) <;> omega
        refine R_seq ?_
        refine R_region ?_
        refine L_val rfl rfl rfl (OpP.v (P_move rfl rfl)) ?_
        first | (refine L_val rfl rfl rfl (OpP.v (P_subN rfl rfl rfl (by simp only [fits]; omega))) ?_) | (refine L_val rfl rfl rfl (OpP.v (P_sub rfl rfl rfl)) ?_)
        refine E_as (t := 148) (v' := .int .i64 ((mid + m - 1 : Nat) : Int)) rfl (by congr 1; omega) ?_
        refine L_val rfl rfl rfl (OpP.v (P_assign rfl rfl)) ?_
        refine L_nil ?_
        refine St.env (.cons (t := 0) rfl (.cons (t := 1) rfl (.cons (t := 2) rfl (.cons (t := 3) rfl (.cons (t := 4) rfl (.cons (t := 18) rfl (.cons (t := 19) rfl (.cons (t := 20) rfl (.cons (t := 21) rfl (.cons (t := 22) rfl .nil)))))))))) ?_
        refine Q_then ?_
        refine R_seq ?_
        refine R_block ?_
        refine R_loopE (G := Nat × Nat) (.cons (t := 0) rfl (.cons (t := 1) rfl (.cons (t := 2) rfl (.cons (t := 3) rfl (.cons (t := 4) rfl (.cons (t := 18) rfl (.cons (t := 19) rfl (.cons (t := 22) rfl .nil)))))))) (fun g => [(20, .int .i64 ((g.1 : Nat) : Int)), (21, .int .i64 ((g.2 : Nat) : Int))]) (fun _ => _) (fun g => s0 ≤ g.1 ∧ g.1 ≤ g.2 ∧ g.2 ≤ r0 ∧ (∀ c, s0 ≤ c → c < g.1 → bt d[mid + m - 1 - c]! d[c]! = false) ∧ (∀ c, g.2 ≤ c → c < r0 → bt d[mid + m - 1 - c]! d[c]! = true)) (fun g => g.2 - g.1) (s0, r0) (by show s0 ≤ (s0) ∧ (s0) ≤ (r0) ∧ (r0) ≤ r0 ∧ (∀ c, s0 ≤ c → c < (s0) → bt d[mid + m - 1 - c]! d[c]! = false) ∧ (∀ c, (r0) ≤ c → c < r0 → bt d[mid + m - 1 - c]! d[c]! = true); exact ⟨Nat.le_refl _, by omega, Nat.le_refl _, fun c _ _ => by omega, fun c _ _ => by omega⟩) (by repeat (first | exact .nil | refine .cons rfl ?_ | refine .consE rfl (by first | rfl | (congr 1; omega) | (congr 1; push_cast; omega)) ?_)) (Weak.refl _) ?_
        rintro ⟨s, r⟩ hinv
        replace hinv : s0 ≤ s ∧ s ≤ r ∧ r ≤ r0 ∧ (∀ c, s0 ≤ c → c < s → bt d[mid + m - 1 - c]! d[c]! = false) ∧ (∀ c, r ≤ c → c < r0 → bt d[mid + m - 1 - c]! d[c]! = true) := hinv
        show St (cx gl) _ ((20, .int .i64 ((s : Nat) : Int)) :: (21, .int .i64 ((r : Nat) : Int)) :: _) _ _
        obtain ⟨hsi, hsr, hrr, hl, hr⟩ := hinv
        refine R_seq ?_
        refine R_seq ?_
        refine R_region ?_
        refine L_val rfl rfl rfl (OpP.v (P_move rfl rfl)) ?_
        refine L_val rfl rfl rfl (OpP.v (P_move rfl rfl)) ?_
        refine L_val rfl rfl rfl (OpP.v (P_lss rfl rfl rfl)) ?_
        refine L_nil ?_
        refine Q_then ?_
        refine R_condP rfl (fun hlt => ?_) (fun hlt => ?_)
        · skip
          have hgh := arr_get (d := d) (i := (s + r) / 2) (by omega)
          have hga := arr_get (d := d) (i := mid + m - 1 - (s + r) / 2) (by omega)
          refine R_skip ?_
          refine Q_then ?_
          refine R_block ?_
          refine R_seq ?_
          refine R_region ?_
          refine L_val rfl rfl rfl (OpP.v (P_move rfl rfl)) ?_
          refine L_val rfl rfl rfl (OpP.v (P_move rfl rfl)) ?_
          first | (refine L_val rfl rfl rfl (OpP.v (P_addN rfl rfl rfl (by simp only [fits]; omega))) ?_) | (refine L_val rfl rfl rfl (OpP.v (P_add rfl rfl rfl)) ?_)
          first | (refine L_val rfl rfl rfl (OpP.v (P_convN rfl ty_int_3 ty_int_76 rfl (by simp only [fits]; omega))) ?_) | (refine L_val rfl rfl rfl (OpP.v (P_conv rfl ty_int_3 ty_int_76 rfl)) ?_)
          refine L_val rfl rfl rfl (OpP.v (P_shr rfl rfl rfl (by omega))) ?_
          refine E_as (t := 156) (v' := .int .u64 (((s + r) / 2 : Nat) : Int)) rfl (by have h9 := half_nat (s + r); push_cast at h9 ⊢; rw [h9]) ?_
          first | (refine L_val rfl rfl rfl (OpP.v (P_convN rfl ty_int_76 ty_int_3 rfl (by simp only [fits]; omega))) ?_) | (refine L_val rfl rfl rfl (OpP.v (P_conv rfl ty_int_76 ty_int_3 rfl)) ?_)
          refine L_val rfl rfl rfl (OpP.v (P_assign rfl rfl)) ?_
          refine L_nil ?_
          refine Q_then ?_
          refine R_seq ?_
          refine R_open [(0, 0), (1, 0), (2, 0), (3, 0), (4, 0), (5, 0), (6, 1), (7, 0), (8, 0), (9, 0), (10, 1), (11, 2), (12, 0), (13, 0)] mixed (by kernel_rfl) (QOk.then (QOk.block (QOk.then (QOk.block (QOk.then QOk.body))))) ?_
          refine O_pure rfl rfl rfl rfl (P_move rfl rfl) ?_
          refine O_pure rfl rfl rfl rfl (P_move rfl rfl) ?_
          refine O_pure rfl rfl rfl rfl (P_move rfl rfl) ?_
          refine O_pure rfl rfl rfl rfl (P_move rfl rfl) ?_
          first | (refine O_pure rfl rfl rfl rfl (P_subN rfl rfl rfl (by simp only [fits]; omega)) ?_) | (refine O_pure rfl rfl rfl rfl (P_sub rfl rfl rfl) ?_)
          refine E_as (t := 162) (v' := .int .i64 ((mid + m - 1 - (s + r) / 2 : Nat) : Int)) rfl (by congr 1; omega) ?_
          refine O_pure rfl rfl rfl rfl (P_ixs (mid + m - 1 - (s + r) / 2) rfl ty_sl_33 rfl rfl (by first | rfl | omega) (by omega)) ?_
          refine O_val rfl rfl rfl rfl (V_loadAgg rfl rfl ty_ag_37 (rds_rc (rds_own .h0) hga) (rfl)) ?_
          refine O_pure rfl rfl rfl rfl (P_move rfl rfl) ?_
          refine O_pure rfl rfl rfl rfl (P_move rfl rfl) ?_
          refine O_pure rfl rfl rfl rfl (P_ixs ((s + r) / 2) rfl ty_sl_33 rfl rfl (by first | rfl | omega) (by omega)) ?_
          refine O_val rfl rfl rfl rfl (V_loadAgg rfl rfl ty_ag_37 (rds_rc (rds_own .h0) hgh) (rfl)) ?_
          refine O_keep rfl rfl (W_callFV (fi := []) (ca := []) rfl rfl rfl rfl rfl rfl fn_ca_25 (seats1_ok (d[mid + m - 1 - (s + r) / 2]!) (d[(s + r) / 2]!)) (fun _ _ => trivial) (K_keep (Weak.refl _) ?_))
          refine O_pure rfl rfl rfl rfl (P_lss rfl rfl rfl) ?_
          refine E_as (t := 170) (v' := .bool (bt (d[mid + m - 1 - (s + r) / 2]!) (d[(s + r) / 2]!))) rfl (by rw [← ltOf_bt]; rfl) ?_
          refine O_pure rfl rfl rfl rfl (P_not rfl rfl) ?_
          refine O_nil ?_
          refine Q_then ?_
          refine R_cond rfl (fun hb => ?_) (fun hb => ?_)
          · skip
            have hb : bt d[mid + m - 1 - (s + r) / 2]! d[(s + r) / 2]! = false := by simpa using hb
            refine R_region ?_
            refine L_val rfl rfl rfl (OpP.v (P_move rfl rfl)) ?_
            first | (refine L_val rfl rfl rfl (OpP.v (P_addN rfl rfl rfl (by simp only [fits]; omega))) ?_) | (refine L_val rfl rfl rfl (OpP.v (P_add rfl rfl rfl)) ?_)
            refine L_val rfl rfl rfl (OpP.v (P_assign rfl rfl)) ?_
            refine L_nil ?_
            refine Q_block ?_
            exact Q_round ((s + r) / 2 + 1, r) (by show s0 ≤ ((s + r) / 2 + 1) ∧ ((s + r) / 2 + 1) ≤ (r) ∧ (r) ≤ r0 ∧ (∀ c, s0 ≤ c → c < ((s + r) / 2 + 1) → bt d[mid + m - 1 - c]! d[c]! = false) ∧ (∀ c, (r) ≤ c → c < r0 → bt d[mid + m - 1 - c]! d[c]! = true); exact ⟨by omega, by omega, hrr, up_all hl ((s + r) / 2) fun c hc1 hc2 => up_3 (mid := mid) hSL hSR (by omega) hc2 (by omega) (by omega) (by omega) hb, hr⟩) (by show r - ((s + r) / 2 + 1) < r - s; omega) (by repeat (first | exact .nil | refine .cons rfl ?_ | refine .consE rfl (by first | rfl | (congr 1; omega) | (congr 1; push_cast; omega)) ?_)) (Weak.refl _)
          · skip
            have hb : bt d[mid + m - 1 - (s + r) / 2]! d[(s + r) / 2]! = true := by simpa using hb
            refine R_region ?_
            refine L_val rfl rfl rfl (OpP.v (P_move rfl rfl)) ?_
            refine L_val rfl rfl rfl (OpP.v (P_assign rfl rfl)) ?_
            refine L_nil ?_
            refine Q_block ?_
            exact Q_round (s, (s + r) / 2) (by show s0 ≤ (s) ∧ (s) ≤ ((s + r) / 2) ∧ ((s + r) / 2) ≤ r0 ∧ (∀ c, s0 ≤ c → c < (s) → bt d[mid + m - 1 - c]! d[c]! = false) ∧ (∀ c, ((s + r) / 2) ≤ c → c < r0 → bt d[mid + m - 1 - c]! d[c]! = true); exact ⟨hsi, by omega, by omega, hl, down_all hr ((s + r) / 2) fun c hc1 hc2 => search_mono' (mid := mid) hSL hSR (by omega) hc1 (by omega) (by omega) (by omega) hb⟩) (by show (s + r) / 2 - s < r - s; omega) (by repeat (first | exact .nil | refine .cons rfl ?_ | refine .consE rfl (by first | rfl | (congr 1; omega) | (congr 1; push_cast; omega)) ?_)) (Weak.refl _)
        · skip
          have hin : s = r := by omega
          subst hin
          refine R_exit ?_
          refine Q_then_exit ?_
          refine Q_then_exit ?_
          refine Q_block_eq ?_
          refine St.env (.cons (t := 0) rfl (.cons (t := 1) rfl (.cons (t := 2) rfl (.cons (t := 3) rfl (.cons (t := 4) rfl (.cons (t := 18) rfl (.cons (t := 19) rfl (.cons (t := 20) rfl .nil)))))))) ?_
          refine Q_then ?_
          refine R_seq ?_
          refine R_region ?_
          refine L_val rfl rfl rfl (OpP.v (P_move rfl rfl)) ?_
          refine L_val rfl rfl rfl (OpP.v (P_move rfl rfl)) ?_
          first | (refine L_val rfl rfl rfl (OpP.v (P_subN rfl rfl rfl (by simp only [fits]; omega))) ?_) | (refine L_val rfl rfl rfl (OpP.v (P_sub rfl rfl rfl)) ?_)
          refine E_as (t := 177) (v' := .int .i64 ((mid + m - s : Nat) : Int)) rfl (by congr 1; omega) ?_
          refine L_val rfl rfl rfl (OpP.v (P_assign rfl rfl)) ?_
          refine L_nil ?_
          refine St.env (.cons (t := 0) rfl (.cons (t := 1) rfl (.cons (t := 2) rfl (.cons (t := 3) rfl (.cons (t := 4) rfl (.cons (t := 18) rfl (.cons (t := 20) rfl (.cons (t := 24) rfl .nil)))))))) ?_
          refine Q_then ?_
          refine R_joinE (G := Array Mem) (.cons (t := 0) rfl (.cons (t := 1) rfl (.cons (t := 3) rfl (.cons (t := 4) rfl (.cons (t := 18) rfl (.cons (t := 20) rfl (.cons (t := 24) rfl .nil))))))) (fun g => []) (fun g => [ownS 37 3 (.slice (some ⟨b0, 0, none⟩) d.size cap) d.size (rc (g).toList)]) (fun g => g.size = d.size ∧ PermIn a b d g ∧ Rot s m (mid + m - s) d g) ?_ ?_
          · skip
            refine R_seq ?_
            refine R_region ?_
            refine L_val rfl rfl rfl (OpP.v (P_move rfl rfl)) ?_
            refine L_val rfl rfl rfl (OpP.v (P_move rfl rfl)) ?_
            refine L_val rfl rfl rfl (OpP.v (P_lss rfl rfl rfl)) ?_
            refine E_bool (t := 180) rfl (fun hp => ?_) (fun hp => ?_)
            · skip
              have hp := of_decide_eq_true hp
              refine L_val rfl rfl rfl (OpP.v (P_move rfl rfl)) ?_
              refine L_val rfl rfl rfl (OpP.v (P_move rfl rfl)) ?_
              refine L_val rfl rfl rfl (OpP.v (P_move rfl rfl)) ?_
              refine L_val rfl rfl rfl (OpP.v (P_lss rfl rfl rfl)) ?_
              refine L_val rfl rfl rfl (OpP.v (P_pick rfl rfl rfl)) ?_
              refine L_nil ?_
              refine St.env (.cons (t := 0) rfl (.cons (t := 1) rfl (.cons (t := 2) rfl (.cons (t := 3) rfl (.cons (t := 4) rfl (.cons (t := 18) rfl (.cons (t := 20) rfl (.cons (t := 24) rfl (.cons (t := 185) rfl .nil))))))))) ?_
              refine Q_then ?_
              refine R_condP rfl (fun hq => ?_) (fun hq => ?_)
              · skip
                refine R_region ?_
                refine L_val rfl rfl rfl (OpP.v (P_move rfl rfl)) ?_
                refine L_val rfl rfl rfl (OpP.v (P_move rfl rfl)) ?_
                refine L_val rfl rfl rfl (OpP.v (P_move rfl rfl)) ?_
                refine L_val rfl rfl rfl (OpP.v (P_move rfl rfl)) ?_
                refine L_val rfl rfl rfl (OpP.v (P_move rfl rfl)) ?_
                refine L_op rfl (W_call rfl rfl rfl rfl fn_ca_60 (rot_ok b0 cap d s m (mid + m - s) (by omega) (by omega) (by omega) hsz hcap (.func (.func 25) #[] #[])) (Split.one (p := [])) (fun _ _ _ _ _ _ _ => trivial) fun vv rs1 ⟨z1, e1, ⟨hr1, hp1⟩, z2⟩ => ?_)
                subst z1; subst z2
                refine St.res (rs' := [ownS 37 3 (.slice (some ⟨b0, 0, none⟩) d.size cap) d.size (rc (e1).toList)]) (Weak.refl _) ?_
                refine L_nil ?_
                refine St.env (.cons (t := 0) rfl (.cons (t := 1) rfl (.cons (t := 3) rfl (.cons (t := 4) rfl (.cons (t := 18) rfl (.cons (t := 20) rfl (.cons (t := 24) rfl .nil))))))) ?_
                exact Q_meet (e1) (by show (e1).size = d.size ∧ PermIn a b d (e1) ∧ Rot s m (mid + m - s) d (e1); exact ⟨hr1.1, permMono hp1 (by omega) (by omega) (by omega), hr1⟩) (by repeat (first | exact .nil | refine .cons rfl ?_ | refine .consE rfl (by first | rfl | (congr 1; omega) | (congr 1; push_cast; omega)) ?_)) (Weak.refl _)
              · skip
                refine R_skip ?_
                exact Q_meet (d) (by show (d).size = d.size ∧ PermIn a b d (d) ∧ Rot s m (mid + m - s) d (d); exact ⟨rfl, permIn_refl _ _ _, Rot.triv (by omega) (by omega) (by omega)⟩) (by repeat (first | exact .nil | refine .cons rfl ?_ | refine .consE rfl (by first | rfl | (congr 1; omega) | (congr 1; push_cast; omega)) ?_)) (Weak.refl _)
            · skip
              have hp := of_decide_eq_false hp
              refine L_val rfl rfl rfl (OpP.v (P_move rfl rfl)) ?_
              refine L_no rfl rfl rfl ?_
              refine L_no rfl rfl rfl ?_
              refine L_no rfl rfl rfl ?_
              refine L_val rfl rfl rfl (OpP.v (P_pick rfl rfl rfl)) ?_
              refine L_nil ?_
              refine St.env (.cons (t := 0) rfl (.cons (t := 1) rfl (.cons (t := 2) rfl (.cons (t := 3) rfl (.cons (t := 4) rfl (.cons (t := 18) rfl (.cons (t := 20) rfl (.cons (t := 24) rfl (.cons (t := 185) rfl .nil))))))))) ?_
              refine Q_then ?_
              refine R_condF rfl ?_
              refine R_skip ?_
              exact Q_meet (d) (by show (d).size = d.size ∧ PermIn a b d (d) ∧ Rot s m (mid + m - s) d (d); exact ⟨rfl, permIn_refl _ _ _, Rot.triv (by omega) (by omega) (by omega)⟩) (by repeat (first | exact .nil | refine .cons rfl ?_ | refine .consE rfl (by first | rfl | (congr 1; omega) | (congr 1; push_cast; omega)) ?_)) (Weak.refl _)
          · intro e hinv
            replace hinv : e.size = d.size ∧ PermIn a b d e ∧ Rot s m (mid + m - s) d e := hinv
            show St (cx gl) _ _ [ownS 37 3 (.slice (some ⟨b0, 0, none⟩) d.size cap) d.size (rc (e).toList)] _
            obtain ⟨hes, hpe, hrot⟩ := hinv
            obtain ⟨q1, q2, q3, q4, q5⟩ := merge_parts swo_bt ham hmb hb hmid hSL hSR (by rw [← hs0]; exact hsi) (by rw [← hr0]; exact hrr) (fun c h5 h6 => hl c (by rw [hs0]; exact h5) h6) (fun c h5 h6 => hr c h5 (by rw [hr0]; exact h6)) hrot
            refine R_joinE (G := Array Mem) (.cons (t := 0) rfl (.cons (t := 3) rfl (.cons (t := 4) rfl (.cons (t := 18) rfl (.cons (t := 24) rfl .nil))))) (fun g => []) (fun g => [ownS 37 3 (.slice (some ⟨b0, 0, none⟩) d.size cap) d.size (rc (g).toList)]) (fun g => g.size = d.size ∧ PermIn a mid e g ∧ SortedIn bt a mid g) ?_ ?_
            · skip
              refine R_seq ?_
              refine R_region ?_
              refine L_val rfl rfl rfl (OpP.v (P_move rfl rfl)) ?_
              refine L_val rfl rfl rfl (OpP.v (P_move rfl rfl)) ?_
              refine L_val rfl rfl rfl (OpP.v (P_lss rfl rfl rfl)) ?_
              refine E_bool (t := 194) rfl (fun hp2 => ?_) (fun hp2 => ?_)
              · skip
                have hp2 := of_decide_eq_true hp2
                refine L_val rfl rfl rfl (OpP.v (P_move rfl rfl)) ?_
                refine L_val rfl rfl rfl (OpP.v (P_move rfl rfl)) ?_
                refine L_val rfl rfl rfl (OpP.v (P_move rfl rfl)) ?_
                refine L_val rfl rfl rfl (OpP.v (P_lss rfl rfl rfl)) ?_
                refine L_val rfl rfl rfl (OpP.v (P_pick rfl rfl rfl)) ?_
                refine L_nil ?_
                refine St.env (.cons (t := 0) rfl (.cons (t := 1) rfl (.cons (t := 3) rfl (.cons (t := 4) rfl (.cons (t := 18) rfl (.cons (t := 20) rfl (.cons (t := 24) rfl (.cons (t := 199) rfl .nil)))))))) ?_
                refine Q_then ?_
                refine R_condP rfl (fun hq2 => ?_) (fun hq2 => ?_)
                · skip
                  refine R_region ?_
                  refine L_val rfl rfl rfl (OpP.v (P_move rfl rfl)) ?_
                  refine L_val rfl rfl rfl (OpP.v (P_move rfl rfl)) ?_
                  refine L_val rfl rfl rfl (OpP.v (P_move rfl rfl)) ?_
                  refine L_val rfl rfl rfl (OpP.v (P_move rfl rfl)) ?_
                  refine L_val rfl rfl rfl (OpP.v (P_move rfl rfl)) ?_
                  refine L_op rfl (W_call rfl rfl rfl rfl fn_ca_48 (hrec e hes a s mid (by omega) (by omega) (by omega) (by omega) q1 q2) (Split.one (p := [])) (fun _ _ _ _ _ _ _ => trivial) fun vv rs1 ⟨z1, e3, ⟨hp3, hs3⟩, z2⟩ => ?_)
                  subst z1; subst z2
                  refine St.res (rs' := [ownS 37 3 (.slice (some ⟨b0, 0, none⟩) d.size cap) d.size (rc (e3).toList)]) (Weak.refl _) ?_
                  refine L_nil ?_
                  refine St.env (.cons (t := 0) rfl (.cons (t := 3) rfl (.cons (t := 4) rfl (.cons (t := 18) rfl (.cons (t := 24) rfl .nil))))) ?_
                  exact Q_meet (e3) (by show (e3).size = d.size ∧ PermIn a mid e (e3) ∧ SortedIn bt a mid (e3); exact ⟨by rw [hp3.1, hes], hp3, hs3⟩) (by repeat (first | exact .nil | refine .cons rfl ?_ | refine .consE rfl (by first | rfl | (congr 1; omega) | (congr 1; push_cast; omega)) ?_)) (Weak.refl _)
                · skip
                  refine R_skip ?_
                  exact Q_meet (e) (by show (e).size = d.size ∧ PermIn a mid e (e) ∧ SortedIn bt a mid (e); exact ⟨hes, permIn_refl _ _ _, sort_edge q1 q2 (by omega)⟩) (by repeat (first | exact .nil | refine .cons rfl ?_ | refine .consE rfl (by first | rfl | (congr 1; omega) | (congr 1; push_cast; omega)) ?_)) (Weak.refl _)
              · skip
                have hp2 := of_decide_eq_false hp2
                refine L_val rfl rfl rfl (OpP.v (P_move rfl rfl)) ?_
                refine L_no rfl rfl rfl ?_
                refine L_no rfl rfl rfl ?_
                refine L_no rfl rfl rfl ?_
                refine L_val rfl rfl rfl (OpP.v (P_pick rfl rfl rfl)) ?_
                refine L_nil ?_
                refine St.env (.cons (t := 0) rfl (.cons (t := 1) rfl (.cons (t := 3) rfl (.cons (t := 4) rfl (.cons (t := 18) rfl (.cons (t := 20) rfl (.cons (t := 24) rfl (.cons (t := 199) rfl .nil)))))))) ?_
                refine Q_then ?_
                refine R_condF rfl ?_
                refine R_skip ?_
                exact Q_meet (e) (by show (e).size = d.size ∧ PermIn a mid e (e) ∧ SortedIn bt a mid (e); exact ⟨hes, permIn_refl _ _ _, sort_edge q1 q2 (by omega)⟩) (by repeat (first | exact .nil | refine .cons rfl ?_ | refine .consE rfl (by first | rfl | (congr 1; omega) | (congr 1; push_cast; omega)) ?_)) (Weak.refl _)
            · intro e2 hinv
              replace hinv : e2.size = d.size ∧ PermIn a mid e e2 ∧ SortedIn bt a mid e2 := hinv
              show St (cx gl) _ _ [ownS 37 3 (.slice (some ⟨b0, 0, none⟩) d.size cap) d.size (rc (e2).toList)] _
              obtain ⟨he2, hpe2, hso2⟩ := hinv
              have q3' := sortEq q3 fun k h5 h6 => hpe2.2.1 k (.inr h5)
              have q4' := sortEq q4 fun k h5 h6 => hpe2.2.1 k (.inr (by omega))
              have q5' := between_perm (by omega) (by omega) q5 hpe2
              refine R_seq ?_
              refine R_region ?_
              refine L_val rfl rfl rfl (OpP.v (P_move rfl rfl)) ?_
              refine L_val rfl rfl rfl (OpP.v (P_move rfl rfl)) ?_
              refine L_val rfl rfl rfl (OpP.v (P_lss rfl rfl rfl)) ?_
              refine E_bool (t := 208) rfl (fun hp4 => ?_) (fun hp4 => ?_)
              · skip
                have hp4 := of_decide_eq_true hp4
                refine L_val rfl rfl rfl (OpP.v (P_move rfl rfl)) ?_
                refine L_val rfl rfl rfl (OpP.v (P_move rfl rfl)) ?_
                refine L_val rfl rfl rfl (OpP.v (P_move rfl rfl)) ?_
                refine L_val rfl rfl rfl (OpP.v (P_lss rfl rfl rfl)) ?_
                refine L_val rfl rfl rfl (OpP.v (P_pick rfl rfl rfl)) ?_
                refine L_nil ?_
                refine St.env (.cons (t := 0) rfl (.cons (t := 3) rfl (.cons (t := 4) rfl (.cons (t := 18) rfl (.cons (t := 24) rfl (.cons (t := 213) rfl .nil)))))) ?_
                refine Q_then ?_
                refine R_condP rfl (fun hq4 => ?_) (fun hq4 => ?_)
                · skip
                  refine R_region ?_
                  refine L_val rfl rfl rfl (OpP.v (P_move rfl rfl)) ?_
                  refine L_val rfl rfl rfl (OpP.v (P_move rfl rfl)) ?_
                  refine L_val rfl rfl rfl (OpP.v (P_move rfl rfl)) ?_
                  refine L_val rfl rfl rfl (OpP.v (P_move rfl rfl)) ?_
                  refine L_val rfl rfl rfl (OpP.v (P_move rfl rfl)) ?_
                  refine L_op rfl (W_call rfl rfl rfl rfl fn_ca_48 (hrec e2 he2 mid (mid + m - s) b (by omega) (by omega) (by omega) (by omega) q3' q4') (Split.one (p := [])) (fun _ _ _ _ _ _ _ => trivial) fun vv rs1 ⟨z1, e5, ⟨hp5, hs5⟩, z2⟩ => ?_)
                  subst z1; subst z2
                  refine St.res (rs' := [ownS 37 3 (.slice (some ⟨b0, 0, none⟩) d.size cap) d.size (rc (e5).toList)]) (Weak.refl _) ?_
                  refine L_nil ?_
                  refine St.env (.nil) ?_
                  exact R_end0 (rs2 := _) rfl rfl (.nil) (⟨rfl, e5, ⟨permTr hpe (permTr (permMono hpe2 (by omega) (by omega) (by omega)) (permMono hp5 (by omega) (by omega) (by omega))), merge_join (sortEq hso2 fun k h5 h6 => hp5.2.1 k (.inl h6)) hs5 (between_perm' (by omega) q5' hp5)⟩, rfl⟩) (Weak.refl _)
                · skip
                  refine R_skip ?_
                  exact R_end0 (rs2 := _) rfl rfl (.nil) (⟨rfl, e2, ⟨permTr hpe (permTr (permMono hpe2 (by omega) (by omega) (by omega)) (permIn_refl _ _ _)), merge_join hso2 (sort_edge q3' q4' (by omega)) q5'⟩, rfl⟩) (Weak.refl _)
              · skip
                have hp4 := of_decide_eq_false hp4
                refine L_val rfl rfl rfl (OpP.v (P_move rfl rfl)) ?_
                refine L_no rfl rfl rfl ?_
                refine L_no rfl rfl rfl ?_
                refine L_no rfl rfl rfl ?_
                refine L_val rfl rfl rfl (OpP.v (P_pick rfl rfl rfl)) ?_
                refine L_nil ?_
                refine St.env (.cons (t := 0) rfl (.cons (t := 3) rfl (.cons (t := 4) rfl (.cons (t := 18) rfl (.cons (t := 24) rfl (.cons (t := 213) rfl .nil)))))) ?_
                refine Q_then ?_
                refine R_condF rfl ?_
                refine R_skip ?_
                exact R_end0 (rs2 := _) rfl rfl (.nil) (⟨rfl, e2, ⟨permTr hpe (permTr (permMono hpe2 (by omega) (by omega) (by omega)) (permIn_refl _ _ _)), merge_join hso2 (sort_edge q3' q4' (by omega)) q5'⟩, rfl⟩) (Weak.refl _)
theorem sym_ok {gl : Nat → Obj} : ∀ N, SymOk gl N
  | 0 => fun b0 cap d a m b h1 h2 h3 _ _ _ _ _ => by omega
  | N + 1 => fun b0 cap d a m b h1 h2 h3 h4 h5 h6 h7 h8 => sym_step N (sym_ok N) b0 cap d a m b h1 h2 h3 h4 h5 h6 h7 h8
end Go.Proofs.Ytfhjhaogmdaepaa
